import PyProof.Rows.All
import Wide.All
import OpenK.AllK
import Wide.FinOn
import HandS.ForMost
import HandS.ForExc
import HandS.Walk
import HandS.Star
import HandS.IsInst
import HandS.Property
import HandS.ClsMeth
import HandS.Flow
import HandS.Deep
import HandS.Style
import HandS.TupAny
import HandS.Text
import KE.SortData
import HandS.StrMore
import HandS.SetFor
import HandS.Sort
import HandS.Conv
import PyProof.Rows.CountFlat
import HandS.Codes
import PyProof.ReprRoads
import PyProof.StrBlock2
import HandS.More
import HandS.Strs
import OpenK.KMeth
import KE.KOpsOwn
import HandS.TupMul
import HandS.Ends
import PyProof.ExcBaseAll.ValueError
import PySem.Challenge.RW_quotaboard_k03_rows_of_boards_by_their_s
set_option Elab.async false
set_option linter.all false
set_option maxRecDepth 100000
set_option maxHeartbeats 4000000
section
set_option maxRecDepth 100000
set_option maxHeartbeats 4000000
/-! QA: data as trees, slots, what stands for what in the abstract heap, the readings over them. -/
namespace Dt
open PySem PySem.Spec L2
open PyProof.Rows hiding St

def mkS (l : List Nat) : Str := ⟨l.toArray⟩
theorem mkS_cps (l : List Nat) : (mkS l).cps.toList = l := by simp [mkS]
theorem mkS_len (l : List Nat) : (mkS l).length = l.length := by show l.toArray.size = _; simp
theorem mkS_inj {a b : List Nat} : mkS a = mkS b ↔ a = b := by
  constructor
  · intro h; have := congrArg (fun s : Str => s.cps.toList) h; simpa [mkS] using this
  · intro h; rw [h]
theorem mkS_tl (x : Str) : mkS x.cps.toList = x := by cases x; simp [mkS]

inductive D where
  | non | bl (b : Bool) | int (i : Int) | str (s : List Nat)
  | tup (xs : List D) | lst (xs : List D)
  | dic (ks : List Key) (vs : List D)
  | obj (t : Nat) (fs : List D)
  | raw (v : V)
  | scr (ns : List Int)
inductive OC where
  | lst (xs : List D) | dic (ks : List Key) (vs : List D) | ins (t : Nat) (fs : List D)
inductive Slot where
  | emp | val (d : D) | own (c : OC)
inductive EV where
  | v (d : D) | o (c : OC)
inductive AV where
  | v (d : D) | s (i : Nat)
structure ExD where
  t : Nat
  fs : List D
abbrev Sl := List Slot
inductive Re (α : Type) where
  | ok (a : α) (e : Sl) | exc (x : ExD) (e : Sl)
abbrev M (α : Type) := Sl → Option (Re α)

/-- the names of the fields of the classes of the package, by a number of ours: 0 Board, 1 Rule, 2 Veto, 3 Default, 4 VetoDefault, 5 PremiseRule, 6 Meeting, 7 Absence; errors from 20 on, 32 LimitError -/
def FL : Nat → List Str
  | 0 => ["known"]
  | 1 => ["board", "n", "quotas"]
  | 2 => ["board", "n", "quotas", "voter"]
  | 3 => ["board", "n", "quotas", "row"]
  | 4 => ["board", "n", "quotas", "voter", "row"]
  | 5 => ["board", "n", "quotas", "settling"]
  | 6 => ["board", "n", "own", "feasible", "votes", "past", "away"]
  | 7 => ["meeting", "voters", "kept"]
  | 32 => ["amount", "limit"]
  | _ => []
/-- where the classes stand -/
structure Tab where
  cls : Nat → Addr
abbrev Tab.flds (_ : Tab) : Nat → List Str := FL

/-- the script: a list of ints that is never written -/
def KL (K : PySem.W.Frag) (a : Addr) (xs : List V) : Prop :=
  ∃ (o : Obj) (its : Array Value) (n : Nat), K.lookup a = some o ∧ o.cls = .type "list" ∧ o.dict = none ∧ o.data = .seq its n ∧ its.size ≤ sizeLine ∧ Vals xs its.toList

section
variable (K : PySem.W.Frag) (T : Tab) (ex : Addr → Prop) (H : Hp)
mutual
/-- v stands for d; no object at ex is met -/
def Rep : D → V → Prop
  | .non, v => v = .non
  | .bl b, v => v = .bl b
  | .int i, v => v = .int i
  | .str s, v => v = .str (mkS s)
  | .tup ds, v => ∃ a vs, v = .ref a ∧ ¬ ex a ∧ H a = some (.tup vs) ∧ RepL ds vs
  | .lst ds, v => ∃ a vs, v = .ref a ∧ ¬ ex a ∧ H a = some (.lst vs) ∧ RepL ds vs
  | .dic ks ds, v => ∃ a vs, v = .ref a ∧ ¬ ex a ∧ H a = some (.dK (ks.zip vs)) ∧ ks.length = vs.length ∧ RepL ds vs
  | .obj t ds, v => ∃ a dx vs, v = .ref a ∧ ¬ ex a ∧ H a = some (.ins (T.cls t) dx ((T.flds t).zip vs)) ∧ (T.flds t).length = vs.length ∧ RepL ds vs
  | .raw u, v => v = u
  | .scr ns, v => ∃ a, v = .ref a ∧ ((¬ ex a ∧ ∃ o, H a = some (.frz o (.lst (ns.map V.int)))) ∨ KL K a (ns.map V.int))
def RepL : List D → List V → Prop
  | [], vs => vs = []
  | d :: ds, vs => ∃ v r, vs = v :: r ∧ Rep d v ∧ RepL ds r
end
end

/-- induction over data -/
theorem D.ind {P : D → Prop} {PL : List D → Prop} (non : P .non) (bl : ∀ b, P (.bl b)) (int : ∀ i, P (.int i)) (str : ∀ s, P (.str s)) (tup : ∀ xs, PL xs → P (.tup xs)) (lst : ∀ xs, PL xs → P (.lst xs))
    (dic : ∀ ks vs, PL vs → P (.dic ks vs)) (obj : ∀ t fs, PL fs → P (.obj t fs)) (raw : ∀ v, P (.raw v)) (scr : ∀ ns, P (.scr ns)) (nil : PL []) (cons : ∀ d ds, P d → PL ds → PL (d :: ds)) : (∀ d, P d) ∧ ∀ ds, PL ds :=
  ⟨fun d => D.rec (motive_1 := P) (motive_2 := PL) non bl int str tup lst dic obj raw scr nil cons d, fun ds => D.rec_1 (motive_1 := P) (motive_2 := PL) non bl int str tup lst dic obj raw scr nil cons ds⟩

section
variable {K : PySem.W.Frag} {T : Tab} {ex ex' : Addr → Prop} {H H' : Hp}
theorem rep_mono_both (h : ∀ a o, ¬ ex a → H a = some o → ¬ ex' a ∧ H' a = some o) : (∀ d : D, ∀ v, Rep K T ex H d v → Rep K T ex' H' d v) ∧ ∀ ds : List D, ∀ vs, RepL K T ex H ds vs → RepL K T ex' H' ds vs := by
  refine D.ind ?_ ?_ ?_ ?_ ?_ ?_ ?_ ?_ ?_ ?_ ?_ ?_
  · intro v e; exact e
  · intro b v e; exact e
  · intro b v e; exact e
  · intro b v e; exact e
  · rintro xs ih v ⟨a, vs, e, n, q, r⟩
    exact ⟨a, vs, e, (h a _ n q).1, (h a _ n q).2, ih _ r⟩
  · rintro xs ih v ⟨a, vs, e, n, q, r⟩
    exact ⟨a, vs, e, (h a _ n q).1, (h a _ n q).2, ih _ r⟩
  · rintro ks xs ih v ⟨a, vs, e, n, q, l, r⟩
    exact ⟨a, vs, e, (h a _ n q).1, (h a _ n q).2, l, ih _ r⟩
  · rintro t xs ih v ⟨a, dx, vs, e, n, q, l, r⟩
    exact ⟨a, dx, vs, e, (h a _ n q).1, (h a _ n q).2, l, ih _ r⟩
  · intro u v e; exact e
  · rintro ns v ⟨a, e, q⟩
    refine ⟨a, e, ?_⟩
    rcases q with ⟨n, o, q⟩ | q
    · exact .inl ⟨(h a _ n q).1, o, (h a _ n q).2⟩
    · exact .inr q
  · intro vs e; exact e
  · rintro d ds i1 i2 vs ⟨v, r, e, h1, h2⟩
    exact ⟨v, r, e, i1 _ h1, i2 _ h2⟩
theorem Rep.mono (h : ∀ a o, ¬ ex a → H a = some o → ¬ ex' a ∧ H' a = some o) {d : D} {v : V} (r : Rep K T ex H d v) : Rep K T ex' H' d v := (rep_mono_both h).1 d v r
theorem RepL.mono (h : ∀ a o, ¬ ex a → H a = some o → ¬ ex' a ∧ H' a = some o) {ds : List D} {vs : List V} (r : RepL K T ex H ds vs) : RepL K T ex' H' ds vs := (rep_mono_both h).2 ds vs r
theorem RepL.length : ∀ {ds : List D} {vs : List V}, RepL K T ex H ds vs → ds.length = vs.length
  | [], _, e => by cases (show _ = [] from e); rfl
  | d :: ds, _, ⟨v, r, e, _, h⟩ => by subst e; simp [RepL.length h]
theorem RepL.get : ∀ {ds : List D} {vs : List V}, RepL K T ex H ds vs → ∀ {i : Nat} {d : D}, ds[i]? = some d → ∃ v, vs[i]? = some v ∧ Rep K T ex H d v
  | [], _, _, i, d, q => by simp at q
  | d :: ds, _, ⟨v, r, e, h1, h2⟩, 0, d', q => by subst e; simp at q; subst q; exact ⟨v, by simp, h1⟩
  | d :: ds, _, ⟨v, r, e, h1, h2⟩, i + 1, d', q => by
    subst e
    obtain ⟨w, e1, e2⟩ := RepL.get h2 (i := i) (d := d') (by simpa using q)
    exact ⟨w, by simpa using e1, e2⟩
theorem RepL.nil : RepL K T ex H [] [] := rfl
theorem RepL.cons {d : D} {v : V} {ds : List D} {vs : List V} (h : Rep K T ex H d v) (t : RepL K T ex H ds vs) : RepL K T ex H (d :: ds) (v :: vs) := ⟨v, vs, rfl, h, t⟩
theorem RepL.append : ∀ {ds es : List D} {vs ws : List V}, RepL K T ex H ds vs → RepL K T ex H es ws → RepL K T ex H (ds ++ es) (vs ++ ws)
  | [], _, _, _, e, h => by cases (show _ = [] from e); exact h
  | d :: ds, _, _, _, ⟨v, r, e, h1, h2⟩, h => by subst e; exact ⟨v, _, rfl, h1, RepL.append h2 h⟩
theorem RepL.one {d : D} {v : V} (h : Rep K T ex H d v) : RepL K T ex H [d] [v] := .cons h .nil
theorem RepL.take : ∀ (n : Nat) {ds : List D} {vs : List V}, RepL K T ex H ds vs → RepL K T ex H (ds.take n) (vs.take n)
  | 0, ds, vs, _ => by simp [RepL]
  | n + 1, [], _, e => by cases (show _ = [] from e); simp [RepL]
  | n + 1, d :: ds, _, ⟨v, r, e, h1, h2⟩ => by subst e; exact ⟨v, _, rfl, h1, RepL.take n h2⟩
theorem RepL.drop : ∀ (n : Nat) {ds : List D} {vs : List V}, RepL K T ex H ds vs → RepL K T ex H (ds.drop n) (vs.drop n)
  | 0, ds, vs, h => h
  | n + 1, [], _, e => by cases (show _ = [] from e); simp [RepL]
  | n + 1, d :: ds, _, ⟨v, r, e, h1, h2⟩ => by subst e; exact RepL.drop n h2
theorem RepL.set : ∀ (n : Nat) {ds : List D} {vs : List V} {d : D} {v : V}, RepL K T ex H ds vs → Rep K T ex H d v → RepL K T ex H (ds.set n d) (vs.set n v)
  | n, [], _, _, _, e, _ => by cases (show _ = [] from e); simp [RepL]
  | 0, d :: ds, _, d', v', ⟨v, r, e, h1, h2⟩, h => by subst e; exact ⟨v', _, rfl, h, h2⟩
  | n + 1, d :: ds, _, _, _, ⟨v, r, e, h1, h2⟩, h => by subst e; exact ⟨v, _, rfl, h1, RepL.set n h2 h⟩
theorem RepL.erase : ∀ (n : Nat) {ds : List D} {vs : List V}, RepL K T ex H ds vs → RepL K T ex H (ds.eraseIdx n) (vs.eraseIdx n)
  | n, [], _, e => by cases (show _ = [] from e); simp [RepL]
  | 0, d :: ds, _, ⟨v, r, e, h1, h2⟩ => by subst e; exact h2
  | n + 1, d :: ds, _, ⟨v, r, e, h1, h2⟩ => by subst e; exact ⟨v, _, rfl, h1, RepL.erase n h2⟩
theorem RepL.rep (k : Nat) {ds : List D} {vs : List V} (h : RepL K T ex H ds vs) : RepL K T ex H (List.replicate k ds).flatten (List.replicate k vs).flatten := by
  induction k with
  | zero => simp [RepL]
  | succ k ih => rw [List.replicate_succ, List.replicate_succ, List.flatten_cons, List.flatten_cons]; exact h.append ih

end

/-! ### slots -/
section
variable (K : PySem.W.Frag) (T : Tab)
def Owns (σ : St) (env : Sl) (a : Addr) : Prop := ∃ (i : Nat) (c : OC), env[i]? = some (.own c) ∧ σ[i]? = some (some (V.ref a))
def exO (ex : Addr → Prop) (σ : St) (env : Sl) : Addr → Prop := fun a => ex a ∨ Owns σ env a
def RepO (ex : Addr → Prop) (H : Hp) (a : Addr) : OC → Prop
  | .lst ds => ∃ vs, H a = some (.lst vs) ∧ RepL K T ex H ds vs
  | .dic ks ds => ∃ vs, H a = some (.dK (ks.zip vs)) ∧ ks.length = vs.length ∧ RepL K T ex H ds vs
  | .ins t ds => ∃ dx vs, H a = some (.ins (T.cls t) dx (((FL t).take ds.length).zip vs)) ∧ ds.length ≤ (FL t).length ∧ RepL K T ex H ds vs
structure Good (ex : Addr → Prop) (σ : St) (H : Hp) (env : Sl) : Prop where
  len : env.length = σ.length
  val : ∀ (i : Nat) (d : D), env[i]? = some (.val d) → ∃ v, σ[i]? = some (some v) ∧ Rep K T (exO ex σ env) H d v
  own : ∀ (i : Nat) (c : OC), env[i]? = some (.own c) → ∃ a, σ[i]? = some (some (V.ref a)) ∧ ¬ ex a ∧ RepO K T (exO ex σ env) H a c
  inj : ∀ (i j : Nat) (a : Addr) (c c' : OC), env[i]? = some (.own c) → env[j]? = some (.own c') → σ[i]? = some (some (V.ref a)) → σ[j]? = some (some (V.ref a)) → i = j
  dom : ∀ a, ex a → H a ≠ none
/-- from (H, env) to (H', env') by an expression: the slots' values are as they were -/
structure Step (ex : Addr → Prop) (σ : St) (H : Hp) (env : Sl) (H' : Hp) (env' : Sl) : Prop where
  fr : ∀ b o, H b = some o → ¬ Owns σ env b → H' b = some o
  dm : ∀ b, H b ≠ none → H' b ≠ none
  sb : ∀ (i : Nat) (c : OC), env'[i]? = some (.own c) → ∃ c', env[i]? = some (.own c')
  gd : Good K T ex σ H' env'
/-- by a statement; the slots at pr (the parameters) keep their values -/
structure SStep (pr : Nat → Bool) (ex : Addr → Prop) (σ : St) (H : Hp) (env : Sl) (σ' : St) (H' : Hp) (env' : Sl) : Prop where
  fr : ∀ b o, H b = some o → ¬ Owns σ env b → H' b = some o
  dm : ∀ b, H b ≠ none → H' b ≠ none
  sbp : ∀ (i : Nat) (c : OC), pr i = true → env'[i]? = some (.own c) → ∃ c', env[i]? = some (.own c')
  sbl : ∀ (i : Nat) (c : OC) (a : Addr), pr i = false → env'[i]? = some (.own c) → σ'[i]? = some (some (V.ref a)) → (∃ (j : Nat) (c' : OC), pr j = false ∧ env[j]? = some (.own c') ∧ σ[j]? = some (some (V.ref a))) ∨ H a = none
  par : ∀ i, pr i = true → σ'[i]? = σ[i]?
  ln : σ'.length = σ.length
  gd : Good K T ex σ' H' env'
def RepE (ex : Addr → Prop) (σ : St) (env' : Sl) (H0 H' : Hp) (v : V) : EV → Prop
  | .v d => Rep K T (exO ex σ env') H' d v
  | .o c => ∃ a, v = .ref a ∧ H0 a = none ∧ RepO K T (fun b => exO ex σ env' b ∨ b = a) H' a c ∧ Good K T (fun b => ex b ∨ b = a) σ H' env'
/-- .. behind a return -/
def RepR (pr : Nat → Bool) (ex : Addr → Prop) (σ : St) (env : Sl) (H : Hp) (σ' : St) (env' : Sl) (H' : Hp) (v : V) : EV → Prop
  | .v d => Rep K T (exO ex σ' env') H' d v
  | .o c => ∃ a, v = .ref a ∧ ¬ ex a ∧ ¬ Owns σ' env' a ∧ ((∃ (j : Nat) (c' : OC), pr j = false ∧ env[j]? = some (.own c') ∧ σ[j]? = some (some (V.ref a))) ∨ H a = none) ∧ RepO K T (fun b => exO ex σ' env' b ∨ b = a) H' a c ∧ Good K T (fun b => ex b ∨ b = a) σ' H' env'
def RepX (ex : Addr → Prop) (H' : Hp) (cls : Value) (dd : Option Addr) (x : ExD) : Prop :=
  cls = .ref (T.cls x.t) ∧ ((x.fs = [] ∧ dd = none) ∨ ∃ a vs, dd = some a ∧ H' a = some (.xd ((T.flds x.t).zip vs)) ∧ (T.flds x.t).length = vs.length ∧ RepL K T ex H' x.fs vs)
def RepA (ex : Addr → Prop) (σ : St) (env : Sl) (H : Hp) (v : V) : AV → Prop
  | .v d => Rep K T (exO ex σ env) H d v
  | .s i => σ[i]? = some (some v)
end

section
variable {K : PySem.W.Frag} {T : Tab} {np : Nat → Bool} {ex : Addr → Prop} {σ σ' σ'' : St} {H H' H'' : Hp} {env env' env'' : Sl}
theorem RepO.there {a : Addr} {c : OC} (h : RepO K T ex H a c) : H a ≠ none := by
  intro e
  cases c with
  | lst ds => obtain ⟨vs, q, _⟩ := h; rw [e] at q; cases q
  | dic ks ds => obtain ⟨vs, q, _⟩ := h; rw [e] at q; cases q
  | ins t ds => obtain ⟨dx, vs, q, _⟩ := h; rw [e] at q; cases q
theorem RepO.mono {ex' : Addr → Prop} {a : Addr} {c : OC} (h : RepO K T ex H a c) (ha : H' a = H a) (k : ∀ b o, ¬ ex b → H b = some o → ¬ ex' b ∧ H' b = some o) : RepO K T ex' H' a c := by
  cases c with
  | lst ds => obtain ⟨vs, q, r⟩ := h; exact ⟨vs, ha.trans q, r.mono k⟩
  | dic ks ds => obtain ⟨vs, q, l, r⟩ := h; exact ⟨vs, ha.trans q, l, r.mono k⟩
  | ins t ds => obtain ⟨dx, vs, q, l, r⟩ := h; exact ⟨dx, vs, ha.trans q, l, r.mono k⟩
theorem Good.owned (g : Good K T ex σ H env) {a : Addr} (h : Owns σ env a) : H a ≠ none ∧ ¬ ex a := by
  obtain ⟨i, c, e1, e2⟩ := h
  obtain ⟨b, e3, n, r⟩ := g.own i c e1
  rw [e2] at e3
  cases e3
  exact ⟨r.there, n⟩
theorem Good.fresh (g : Good K T ex σ H env) {a : Addr} (h : H a = none) : ¬ exO ex σ env a := by
  rintro (q | q)
  · exact g.dom a q h
  · exact (g.owned q).1 h
/-- the same slots over a heap that has all that was -/
theorem Good.ext (g : Good K T ex σ H env) (k : ∀ b o, H b = some o → H' b = some o) : Good K T ex σ H' env where
  len := g.len
  val := fun i d e => let ⟨v, e1, r⟩ := g.val i d e; ⟨v, e1, r.mono fun a o n q => ⟨n, k a o q⟩⟩
  own := fun i c e => by
    obtain ⟨a, e1, n, r⟩ := g.own i c e
    refine ⟨a, e1, n, r.mono ?_ fun a o n q => ⟨n, k a o q⟩⟩
    cases q : H a with
    | none => exact absurd q r.there
    | some o => exact k a o q
  inj := g.inj
  dom := fun a h q => by
    cases e : H a with
    | none => exact g.dom a h e
    | some o => rw [k a o e] at q; cases q
/-- what was not there yet is not met -/
theorem Good.more (g : Good K T ex σ H env) {a : Addr} (n : H a = none) (k : ∀ b o, H b = some o → H' b = some o) (ha : H' a ≠ none) : Good K T (fun b => ex b ∨ b = a) σ H' env := by
  have ne : ∀ b, exO ex σ env b → b ≠ a := fun b h z => by subst z; exact g.fresh n h
  have mo : ∀ b o, ¬ exO ex σ env b → H b = some o → ¬ exO (fun b => ex b ∨ b = a) σ env b ∧ H' b = some o := fun b o nb e => by
    refine ⟨?_, k b o e⟩
    rintro ((q | q) | q)
    · exact nb (.inl q)
    · subst q; rw [n] at e; cases e
    · exact nb (.inr q)
  refine ⟨g.len, fun i d e => let ⟨v, e1, r⟩ := g.val i d e; ⟨v, e1, r.mono mo⟩, fun i c e => ?_, g.inj, fun b h => ?_⟩
  · obtain ⟨b, e1, nb, r⟩ := g.own i c e
    refine ⟨b, e1, fun z => z.elim nb fun z => ?_, r.mono ?_ mo⟩
    · subst z; exact r.there n
    · cases q : H b with
      | none => exact absurd q r.there
      | some o => exact k b o q
  · rcases h with h | h
    · intro q
      cases e : H b with
      | none => exact g.dom b h e
      | some o => rw [k b o e] at q; cases q
    · subst h; exact ha
theorem Step.refl (g : Good K T ex σ H env) : Step K T ex σ H env H env := ⟨fun _ _ e _ => e, fun _ e => e, fun i c e => ⟨c, e⟩, g⟩
theorem Step.ext (g : Good K T ex σ H env) (k : ∀ b o, H b = some o → H' b = some o) : Step K T ex σ H env H' env :=
  ⟨fun b o e _ => k b o e, (fun b e q => by
    cases h : H b with
    | none => exact e h
    | some o => rw [k b o h] at q; exact nomatch q), fun i c e => ⟨c, e⟩, g.ext k⟩
theorem Step.owns (s : Step K T ex σ H env H' env') {a : Addr} (h : Owns σ env' a) : Owns σ env a := by
  obtain ⟨i, c, e1, e2⟩ := h
  obtain ⟨c', e3⟩ := s.sb i c e1
  exact ⟨i, c', e3, e2⟩
theorem Step.trans (a : Step K T ex σ H env H' env') (b : Step K T ex σ H' env' H'' env'') : Step K T ex σ H env H'' env'' :=
  ⟨fun x o e n => b.fr x o (a.fr x o e n) fun q => n (a.owns q), fun x e => b.dm x (a.dm x e), fun i c e => let ⟨c', e'⟩ := b.sb i c e; a.sb i c' e', b.gd⟩
theorem Step.exO (s : Step K T ex σ H env H' env') {a : Addr} (h : exO ex σ env' a) : Dt.exO ex σ env a := by
  rcases h with h | h
  · exact .inl h
  · exact .inr (s.owns h)
/-- what was told of a value stays true -/
theorem Rep.step {d : D} {v : V} (r : Rep K T (exO ex σ env) H d v) (s : Step K T ex σ H env H' env') : Rep K T (exO ex σ env') H' d v :=
  r.mono fun a o n e => ⟨fun q => n (s.exO q), s.fr a o e fun q => n (.inr q)⟩
theorem RepL.step {d : List D} {v : List V} (r : RepL K T (exO ex σ env) H d v) (s : Step K T ex σ H env H' env') : RepL K T (exO ex σ env') H' d v :=
  r.mono fun a o n e => ⟨fun q => n (s.exO q), s.fr a o e fun q => n (.inr q)⟩
theorem RepA.step {d : AV} {v : V} (r : RepA K T ex σ env H v d) (s : Step K T ex σ H env H' env') : RepA K T ex σ env' H' v d := by
  cases d with
  | v d => exact Rep.step r s
  | s i => exact r
theorem Step.s (s : Step K T ex σ H env H' env') : SStep K T np ex σ H env σ H' env' :=
  ⟨s.fr, s.dm, fun i c _ e => s.sb i c e, fun i c a h e q => let ⟨c', e'⟩ := s.sb i c e; .inl ⟨i, c', h, e', q⟩, fun _ _ => rfl, rfl, s.gd⟩
theorem SStep.refl (g : Good K T ex σ H env) : SStep K T np ex σ H env σ H env := (Step.refl g).s
theorem SStep.owns (s : SStep K T np ex σ H env σ' H' env') {a : Addr} (h : Owns σ' env' a) : Owns σ env a ∨ H a = none := by
  obtain ⟨i, c, e1, e2⟩ := h
  cases hi : np i with
  | true =>
    obtain ⟨c', e3⟩ := s.sbp i c hi e1
    exact .inl ⟨i, c', e3, by rw [← s.par i hi]; exact e2⟩
  | false =>
    rcases s.sbl i c a hi e1 e2 with ⟨j, c', _, e3, e4⟩ | q
    · exact .inl ⟨j, c', e3, e4⟩
    · exact .inr q
theorem SStep.trans (a : SStep K T np ex σ H env σ' H' env') (b : SStep K T np ex σ' H' env' σ'' H'' env'') : SStep K T np ex σ H env σ'' H'' env'' where
  fr := fun x o e n => b.fr x o (a.fr x o e n) fun q => by
    rcases a.owns q with q | q
    · exact n q
    · rw [q] at e; cases e
  dm := fun x e => b.dm x (a.dm x e)
  sbp := fun i c h e => let ⟨c', e'⟩ := b.sbp i c h e; a.sbp i c' h e'
  sbl := fun i c x h e q => by
    rcases b.sbl i c x h e q with ⟨j, c', hj, e1, e2⟩ | n
    · exact a.sbl j c' x hj e1 e2
    · refine .inr ?_
      cases w : H x with
      | none => rfl
      | some o => exact absurd n (a.dm x (by rw [w]; exact fun z => by cases z))
  par := fun i h => (b.par i h).trans (a.par i h)
  ln := b.ln.trans a.ln
  gd := b.gd
theorem SStep.rep {d : D} {v : V} (s : SStep K T np ex σ H env σ' H' env') (r : Rep K T (exO ex σ env) H d v) : Rep K T (exO ex σ' env') H' d v :=
  r.mono fun a o n e => ⟨(fun q => by
    rcases q with q | q
    · exact n (.inl q)
    · rcases s.owns q with q | q
      · exact n (.inr q)
      · rw [q] at e; exact nomatch e), s.fr a o e fun q => n (.inr q)⟩
theorem RepR.trans {e : EV} {v : V} (a : SStep K T np ex σ H env σ' H' env') (r : RepR K T np ex σ' env' H' σ'' env'' H'' v e) : RepR K T np ex σ env H σ'' env'' H'' v e := by
  cases e with
  | v d => exact r
  | o c =>
    obtain ⟨x, e1, n1, n2, h, q⟩ := r
    refine ⟨x, e1, n1, n2, ?_, q⟩
    rcases h with ⟨j, c', hj, e2, e3⟩ | n
    · exact a.sbl j c' x hj e2 e3
    · refine .inr ?_
      cases w : H x with
      | none => rfl
      | some o => exact absurd n (a.dm x (by rw [w]; exact fun z => by cases z))
end
end Dt
end
section
set_option maxRecDepth 100000
set_option maxHeartbeats 4000000
/-! QB: readings of expressions as functions of the slots. -/
namespace Dt
open PySem PySem.Spec L2
open PyProof.Rows hiding St

def M.ret {α : Type} (a : α) : M α := fun e => some (.ok a e)
def M.bind {α β : Type} (m : M α) (k : α → M β) : M β := fun e => match m e with
  | some (.ok a e') => k a e'
  | some (.exc x e') => some (.exc x e')
  | none => none
def M.stuck {α : Type} : M α := fun _ => none
def lift {α : Type} (o : Option α) : M α := fun e => match o with
  | some a => some (.ok a e)
  | none => none
def frzC : OC → Option D
  | .lst ds => some (.lst ds)
  | .dic ks vs => some (.dic ks vs)
  | .ins _ _ => none
def frz : EV → Option D
  | .v d => some d
  | .o c => frzC c
def rdS : Option Slot → Option D
  | some (.val d) => some d
  | some (.own c) => frzC c
  | _ => none
def deref (env : Sl) : AV → Option D
  | .v d => some d
  | .s i => rdS env[i]?
/-- a value to be read: its own object may be a slot's -/
def Rd1 (K : PySem.W.Frag) (T : Tab) (ex : Addr → Prop) (H : Hp) : D → V → Prop
  | .lst ds, v => ∃ a vs, v = .ref a ∧ H a = some (.lst vs) ∧ RepL K T ex H ds vs
  | .dic ks ds, v => ∃ a vs, v = .ref a ∧ H a = some (.dK (ks.zip vs)) ∧ ks.length = vs.length ∧ RepL K T ex H ds vs
  | d, v => Rep K T ex H d v
def Ext (H H' : Hp) : Prop := ∀ b o, H b = some o → H' b = some o
/-- a new value out of values -/
def RepV (K : PySem.W.Frag) (T : Tab) (ex : Addr → Prop) (H0 H' : Hp) (v : V) : EV → Prop
  | .v d => Rep K T ex H' d v
  | .o c => ∃ a, v = .ref a ∧ H0 a = none ∧ RepO K T (fun b => ex b ∨ b = a) H' a c

section
variable {K : PySem.W.Frag} {T : Tab} {ex : Addr → Prop} {σ : St} {H H' : Hp} {env env' : Sl}
theorem Rep.rd1 {d : D} {v : V} (h : Rep K T ex H d v) : Rd1 K T ex H d v := by
  cases d with
  | lst ds =>
    obtain ⟨a, vs, e, _, q, r⟩ := h
    exact ⟨a, vs, e, q, r⟩
  | dic ks ds =>
    obtain ⟨a, vs, e, _, q, l, r⟩ := h
    exact ⟨a, vs, e, q, l, r⟩
  | _ => exact h
theorem RepO.rd1 {a : Addr} {c : OC} {d : D} (h : RepO K T ex H a c) (e : frzC c = some d) : Rd1 K T ex H d (.ref a) := by
  cases c with
  | lst ds => cases e; obtain ⟨vs, q, r⟩ := h; exact ⟨a, vs, rfl, q, r⟩
  | dic ks ds => cases e; obtain ⟨vs, q, l, r⟩ := h; exact ⟨a, vs, rfl, q, l, r⟩
  | ins t ds => cases e
theorem RepO.rep {a : Addr} {c : OC} {d : D} (h : RepO K T ex H a c) (n : ¬ ex a) (e : frzC c = some d) : Rep K T ex H d (.ref a) := by
  cases c with
  | lst ds => cases e; obtain ⟨vs, q, r⟩ := h; exact ⟨a, vs, rfl, n, q, r⟩
  | dic ks ds => cases e; obtain ⟨vs, q, l, r⟩ := h; exact ⟨a, vs, rfl, n, q, l, r⟩
  | ins t ds => cases e
theorem deref_ok {a : AV} {v : V} {d : D} (g : Good K T ex σ H env) (r : RepA K T ex σ env H v a) (e : deref env a = some d) : Rd1 K T (exO ex σ env) H d v := by
  cases a with
  | v d' => cases e; exact Rep.rd1 r
  | s i =>
    have e : rdS env[i]? = some d := e
    cases q : env[i]? with
    | none => rw [q] at e; cases e
    | some sl =>
      rw [q] at e
      have r' : σ[i]? = some (some v) := r
      cases sl with
      | emp => cases e
      | val d' =>
        cases e
        obtain ⟨w, e1, h⟩ := g.val i _ q
        rw [r'] at e1; cases e1
        exact h.rd1
      | own c =>
        obtain ⟨b, e1, n, h⟩ := g.own i c q
        rw [r'] at e1; cases e1
        exact h.rd1 e
theorem frz_rep {a : Addr} {c : OC} {d : D} (g : Good K T ex σ H env) (s : Step K T ex σ H env H' env') (n : H a = none) (h : RepO K T (fun b => exO ex σ env' b ∨ b = a) H' a c) (e : frzC c = some d) : Rep K T (exO ex σ env') H' d (.ref a) := by
  have na : ¬ exO ex σ env' a := fun q => g.fresh n (s.exO q)
  have h' : RepO K T (exO ex σ env') H' a c := h.mono rfl fun b o nb q => ⟨fun z => nb (.inl z), q⟩
  exact h'.rep na e
theorem RepE.frz {ev : EV} {v : V} {d : D} (g : Good K T ex σ H env) (s : Step K T ex σ H env H' env') (r : RepE K T ex σ env' H H' v ev) (e : frz ev = some d) : Rep K T (exO ex σ env') H' d v := by
  cases ev with
  | v d' => cases e; exact r
  | o c =>
    obtain ⟨a, e1, n, h, _⟩ := r
    subst e1
    exact frz_rep g s n h e
end

/-! ### readings -/
abbrev Rl (γ α : Type) := (Addr → Prop) → St → Sl → Hp → Hp → γ → α → Prop
section
variable (K : PySem.W.Frag) (T : Tab)
def relE : Rl V EV := fun ex σ env' H H' v a => RepE K T ex σ env' H H' v a
def relA : Rl V AV := fun ex σ env' _ H' v a => RepA K T ex σ env' H' v a
def relAs : Rl (List V) (List AV) := fun ex σ env' _ H' vs as => Paired (fun a v => RepA K T ex σ env' H' v a) as vs
def relT : Rl Bool Bool := fun _ _ _ _ _ b c => b = c
def Out {γ α : Type} (rel : Rl γ α) (ex : Addr → Prop) (env : Sl) (W : WX) (σ : St) (H : Hp) (Q : γ → Hp → Prop) : Re α → Prop
  | .ok a env' => ∀ v H', Step K T ex σ H env H' env' → rel ex σ env' H H' v a → Q v H'
  | .exc x env' => ∀ cls dd H', Step K T ex σ H env H' env' → RepX K T (exO ex σ env') H' cls dd x → W cls dd σ H'
def trx {γ α : Type} (rel : Rl γ α) (ex : Addr → Prop) (f : M α) (env : Sl) (W : WX) (σ : St) (H : Hp) (Q : γ → Hp → Prop) : Prop :=
  Good K T ex σ H env ∧ ∃ r, f env = some r ∧ Out K T rel ex env W σ H Q r
def tr {γ α : Type} (rel : Rl γ α) (f : M α) (W : WX) : St → Hp → (γ → Hp → Prop) → Prop := fun σ H Q => ∃ ex env, trx K T rel ex f env W σ H Q
end
/-- the start's heap may be an earlier one -/
def RM {γ α : Type} (rel : Rl γ α) : Prop := ∀ ex σ env' H H1 H' v a, (∀ b, H b ≠ none → H1 b ≠ none) → rel ex σ env' H1 H' v a → rel ex σ env' H H' v a
theorem none_back {H H1 : Hp} (k : ∀ b, H b ≠ none → H1 b ≠ none) {a : Addr} (h : H1 a = none) : H a = none := by
  cases w : H a with
  | none => rfl
  | some o => exact absurd h (k a (by rw [w]; exact fun z => by cases z))
section
variable {K : PySem.W.Frag} {T : Tab}
theorem rmE : RM (relE K T) := fun ex σ env' H H1 H' v a k r => by
  cases a with
  | v d => exact r
  | o c => obtain ⟨x, e, n, h⟩ := r; exact ⟨x, e, none_back k n, h⟩
theorem rmA : RM (relA K T) := fun _ _ _ _ _ _ _ _ _ r => r
theorem rmAs : RM (relAs K T) := fun _ _ _ _ _ _ _ _ _ r => r
theorem rmT : RM relT := fun _ _ _ _ _ _ _ _ _ r => r
variable {γ γ' α β : Type} {rel : Rl γ α} {rel' : Rl γ' β} {ex : Addr → Prop} {env env1 : Sl} {W : WX} {σ : St} {H H1 : Hp} {fa : M α} {k : α → M β} {Q : γ' → Hp → Prop}
theorem trx.mono {R R' : γ → Hp → Prop} (h : trx K T rel ex fa env W σ H R) (hq : ∀ v H', R v H' → R' v H') : trx K T rel ex fa env W σ H R' := by
  obtain ⟨g, r, e, o⟩ := h
  refine ⟨g, r, e, ?_⟩
  cases r with
  | ok a env' => exact fun v H' s q => hq v H' (o v H' s q)
  | exc x env' => exact o
theorem Out.back {r : Re β} (hm : RM rel') (s : Step K T ex σ H env H1 env1) (o : Out K T rel' ex env W σ H Q r) : Out K T rel' ex env1 W σ H1 Q r := by
  cases r with
  | ok a env' => exact fun v H' s' q => o v H' (s.trans s') (hm _ _ _ _ _ _ _ _ s.dm q)
  | exc x env' => exact fun c d H' s' q => o c d H' (s.trans s') q
theorem trx_bind (rel : Rl γ α) (hm : RM rel') (h : trx K T rel' ex (M.bind fa k) env W σ H Q) :
    trx K T rel ex fa env W σ H fun v H1 => ∃ a env1, Step K T ex σ H env H1 env1 ∧ rel ex σ env1 H H1 v a ∧ trx K T rel' ex (k a) env1 W σ H1 Q := by
  obtain ⟨g, r, e, o⟩ := h
  unfold M.bind at e
  cases q : fa env with
  | none => rw [q] at e; cases e
  | some ra =>
    rw [q] at e
    refine ⟨g, ra, q, ?_⟩
    cases ra with
    | exc x env' => cases e; exact o
    | ok a env1 => exact fun v H1 s hr => ⟨a, env1, s, hr, s.gd, r, e, o.back hm s⟩
theorem trx.tr {f : M β} (h : trx K T rel' ex f env W σ H Q) : Dt.tr K T rel' f W σ H Q := ⟨ex, env, h⟩
/-- the end: a value by a slotless step -/
theorem trx_lift {o : Option β} (h : trx K T rel' ex (lift o) env W σ H Q) : ∃ b, o = some b ∧ Good K T ex σ H env ∧ ∀ v H', Step K T ex σ H env H' env → rel' ex σ env H H' v b → Q v H' := by
  obtain ⟨g, r, e, out⟩ := h
  cases o with
  | none => cases e
  | some b => cases e; exact ⟨b, rfl, g, out⟩
theorem trx_ret {b : β} (h : trx K T rel' ex (M.ret b) env W σ H Q) : Good K T ex σ H env ∧ ∀ v H', Step K T ex σ H env H' env → rel' ex σ env H H' v b → Q v H' := by
  obtain ⟨g, r, e, out⟩ := h
  cases e
  exact ⟨g, out⟩
end

/-! ### judgements -/
section
variable (T : Tab) (X : Cx)
def QE (e : Expr) (f : M EV) : Prop := ∀ pn xe W, Takes (X.tr pn xe) W → PassesOwn (model X.prog X.w) X.A X.env xe → PE (X.tr pn xe) e (tr X.K T (relE X.K T) f W)
def QO (e : Expr) (f : M AV) : Prop := ∀ pn xe W, Takes (X.tr pn xe) W → PassesOwn (model X.prog X.w) X.A X.env xe → PE (X.tr pn xe) e (tr X.K T (relA X.K T) f W)
def QAs (es : List Expr) (f : M (List AV)) : Prop := ∀ pn xe W, Takes (X.tr pn xe) W → PassesOwn (model X.prog X.w) X.A X.env xe → PA (X.tr pn xe) es (tr X.K T (relAs X.K T) f W)
def QT (e : Expr) (f : M Bool) : Prop := ∀ pn xe W, Takes (X.tr pn xe) W → PassesOwn (model X.prog X.w) X.A X.env xe → PT (X.tr pn xe) e (tr X.K T relT f W)
def QW (e : Expr) (f : M Bool) : Prop := ∀ pn xe W, Takes (X.tr pn xe) W → PassesOwn (model X.prog X.w) X.A X.env xe → PW (X.tr pn xe) e (tr X.K T relT f W)
end
theorem impE {X : Cx} {e : Expr} {t t' : TE} (h : PE X e t) (k : ∀ σ H Q, t' σ H Q → t σ H Q) : PE X e t' := ⟨fun pins s σ H Q I q => h.run pins s σ H Q I (k σ H Q q)⟩
theorem impT {X : Cx} {e : Expr} {t t' : TT} (h : PT X e t) (k : ∀ σ H Q, t' σ H Q → t σ H Q) : PT X e t' := ⟨fun pins s σ H Q I q => h.run pins s σ H Q I (k σ H Q q)⟩
theorem impW {X : Cx} {e : Expr} {t t' : TT} (h : PW X e t) (k : ∀ σ H Q, t' σ H Q → t σ H Q) : PW X e t' := ⟨fun wh pins s σ H Q I q => h.run wh pins s σ H Q I (k σ H Q q)⟩
theorem impA {X : Cx} {e : List Expr} {t t' : TA} (h : PA X e t) (k : ∀ σ H Q, t' σ H Q → t σ H Q) : PA X e t' := ⟨fun pos pins s σ H Q I q => h.run pos pins s σ H Q I (k σ H Q q)⟩
theorem impS {X : Cx} {e : Stmt} {t t' : TS} (h : PS X e t) (k : ∀ D σ H, t' D σ H → t D σ H) : PS X e t' := ⟨fun pins s σ H D I q => h.run pins s σ H D I (k D σ H q)⟩
theorem impSs {X : Cx} {e : List Stmt} {t t' : TS} (h : PSs X e t) (k : ∀ D σ H, t' D σ H → t D σ H) : PSs X e t' := ⟨fun pins s σ H D I q => h.run pins s σ H D I (k D σ H q)⟩

/-! ### names -/
def oName (i : Nat) : M AV := fun env => match env[i]? with
  | some (.val d) => some (.ok (.v d) env)
  | some (.own _) => some (.ok (.s i) env)
  | _ => none
def eName (i : Nat) : M EV := fun env => match env[i]? with
  | some (.val d) => some (.ok (.v d) env)
  | some (.own c) => match frzC c with
    | some d => some (.ok (.v d) (env.set i (.val d)))
    | none => none
  | _ => none
section
variable {K : PySem.W.Frag} {T : Tab} {ex : Addr → Prop} {σ : St} {H : Hp} {env : Sl}
/-- an owned thing becomes one that never changes -/
theorem Good.freeze (g : Good K T ex σ H env) {i : Nat} {c : OC} {d : D} (e : env[i]? = some (.own c)) (f : frzC c = some d) :
    Step K T ex σ H env H (env.set i (.val d)) ∧ ∃ a, σ[i]? = some (some (V.ref a)) ∧ Rep K T (exO ex σ (env.set i (.val d))) H d (.ref a) := by
  have hi : i < env.length := (List.getElem?_eq_some_iff.mp e).1
  obtain ⟨a, ea, na, ra⟩ := g.own i c e
  have other : ∀ j sl, (env.set i (.val d))[j]? = some sl → (j = i ∧ sl = .val d) ∨ (j ≠ i ∧ env[j]? = some sl) := fun j sl h => by
    by_cases q : j = i
    · subst q
      rw [List.getElem?_set_self hi] at h
      exact .inl ⟨rfl, (Option.some.inj h).symm⟩
    · rw [List.getElem?_set_ne (Ne.symm q)] at h
      exact .inr ⟨q, h⟩
  have ow : ∀ {b}, Owns σ (env.set i (.val d)) b → Owns σ env b ∧ b ≠ a := fun {b} h => by
    obtain ⟨j, c', e1, e2⟩ := h
    rcases other j _ e1 with ⟨_, z⟩ | ⟨hj, e3⟩
    · cases z
    · refine ⟨⟨j, c', e3, e2⟩, fun z => ?_⟩
      subst z
      exact hj (g.inj j i b c' c e3 e e2 ea)
  have ow' : ∀ {b}, exO ex σ (env.set i (.val d)) b → exO ex σ env b ∧ b ≠ a := fun {b} h => by
    rcases h with h | h
    · exact ⟨.inl h, fun z => na (by rw [← z]; exact h)⟩
    · exact ⟨.inr (ow h).1, (ow h).2⟩
  have mo : ∀ b o, ¬ exO ex σ env b → H b = some o → ¬ exO ex σ (env.set i (.val d)) b ∧ H b = some o := fun b o n q => ⟨fun z => n (ow' z).1, q⟩
  have rd : Rep K T (exO ex σ (env.set i (.val d))) H d (.ref a) := (ra.mono rfl mo).rep (fun z => (ow' z).2 rfl) f
  refine ⟨⟨fun _ _ q _ => q, fun _ q => q, fun j c' q => ?_, ?_⟩, a, ea, rd⟩
  · rcases other j _ q with ⟨_, z⟩ | ⟨_, e3⟩
    · cases z
    · exact ⟨c', e3⟩
  · refine ⟨by rw [List.length_set]; exact g.len, fun j d' q => ?_, fun j c' q => ?_, fun j k b c1 c2 q1 q2 => ?_, g.dom⟩
    · rcases other j _ q with ⟨z, z'⟩ | ⟨_, e3⟩
      · cases z'; subst z; exact ⟨.ref a, ea, rd⟩
      · obtain ⟨v, e1, r⟩ := g.val j d' e3
        exact ⟨v, e1, r.mono mo⟩
    · rcases other j _ q with ⟨_, z⟩ | ⟨_, e3⟩
      · cases z
      · obtain ⟨b, e1, n, r⟩ := g.own j c' e3
        exact ⟨b, e1, n, r.mono rfl mo⟩
    · rcases other j _ q1 with ⟨_, z⟩ | ⟨_, e3⟩
      · cases z
      · rcases other k _ q2 with ⟨_, z⟩ | ⟨_, e4⟩
        · cases z
        · exact g.inj j k b c1 c2 e3 e4
end
section
variable {T : Tab} {X : Cx}
theorem qo_name (i : Nat) {x : Str} {pos : Pos} (hN : X.N[i]? = some x := by rfl) (hv : Vis X.env.scope x := by first | exact Or.inl rfl | exact Or.inr (Or.inl rfl) | exact Or.inr (Or.inr rfl))
    (hd : (x == ("__debug__" : Str)) = false := by decide) (hcd : (x == ("__classdict__" : Str)) = false := by decide) : QO T X (.Name x pos) (oName i) := by
  intro pn xe W tk hp
  refine impE (pe_var (X := X.tr pn xe) (i := i) hN hv hd hcd) fun σ H Q h => ?_
  obtain ⟨ex, env, g, r, e, o⟩ := h
  unfold oName at e
  cases q : env[i]? with
  | none => rw [q] at e; cases e
  | some sl =>
    rw [q] at e
    cases sl with
    | emp => cases e
    | val d =>
      cases e
      obtain ⟨v, e1, h1⟩ := g.val i d q
      exact ⟨v, e1, o v H (Step.refl g) h1⟩
    | own c =>
      cases e
      obtain ⟨a, e1, _⟩ := g.own i c q
      exact ⟨.ref a, e1, o (.ref a) H (Step.refl g) e1⟩
theorem qe_name (i : Nat) {x : Str} {pos : Pos} (hN : X.N[i]? = some x := by rfl) (hv : Vis X.env.scope x := by first | exact Or.inl rfl | exact Or.inr (Or.inl rfl) | exact Or.inr (Or.inr rfl))
    (hd : (x == ("__debug__" : Str)) = false := by decide) (hcd : (x == ("__classdict__" : Str)) = false := by decide) : QE T X (.Name x pos) (eName i) := by
  intro pn xe W tk hp
  refine impE (pe_var (X := X.tr pn xe) (i := i) hN hv hd hcd) fun σ H Q h => ?_
  obtain ⟨ex, env, g, r, e, o⟩ := h
  unfold eName at e
  cases q : env[i]? with
  | none => rw [q] at e; cases e
  | some sl =>
    rw [q] at e
    cases sl with
    | emp => cases e
    | val d =>
      cases e
      obtain ⟨v, e1, h1⟩ := g.val i d q
      exact ⟨v, e1, o v H (Step.refl g) h1⟩
    | own c =>
      dsimp only at e
      cases f : frzC c with
      | none => rw [f] at e; cases e
      | some d =>
        rw [f] at e
        cases e
        obtain ⟨s, a, e1, rd⟩ := g.freeze q f
        exact ⟨.ref a, e1, o (.ref a) H s rd⟩
/-- an expression's value, no more than read -/
def toA (f : M EV) : M AV := M.bind f fun ev => match frz ev with
  | some d => M.ret (.v d)
  | none => M.stuck
theorem qo_of {e : Expr} {f : M EV} (h : QE T X e f) : QO T X e (toA f) := by
  intro pn xe W tk hp
  refine impE (h pn xe W tk hp) fun σ H Q q => ?_
  obtain ⟨ex, env, q⟩ := q
  refine ⟨ex, env, (trx_bind (relE X.K T) rmA q).mono fun v H1 ⟨ev, env1, s, r, q⟩ => ?_⟩
  cases f : frz ev with
  | none => rw [f] at q; obtain ⟨_, _, e, _⟩ := q; cases e
  | some d =>
    rw [f] at q
    obtain ⟨g, k⟩ := trx_ret q
    obtain ⟨g0, _⟩ : Good X.K T ex σ H env ∧ True := ⟨by rename_i q0 _; exact q0.1, trivial⟩
    exact k v H1 (Step.refl g) (RepE.frz g0 s r f)
theorem qe_of {e : Expr} {f : M EV} (h : QE T X e f) : QE T X e f := h
end
end Dt
end
section
set_option maxRecDepth 100000
set_option maxHeartbeats 4000000
/-! QC: constants, operators by their data, tests, displays, calls of the text's own defs. -/
namespace Dt
open PySem PySem.Spec L2
open PyProof.Rows hiding St

section
variable {T : Tab} {X : Cx} {pos : Pos}
/-! ### constants -/
def eC (d : D) : M EV := M.ret (.v d)
theorem trC {K : PySem.W.Frag} {W : WX} {σ : St} {H : Hp} {Q : VK} {d : D} {v : V} (hd : ∀ ex H, Rep K T ex H d v) (h : tr K T (relE K T) (eC d) W σ H Q) : Q v H := by
  obtain ⟨ex, env, q⟩ := h
  obtain ⟨g, k⟩ := trx_ret q
  exact k v H (Step.refl g) (hd _ _)
theorem qe_int {i : Int} {j : Nat} : QE T X (.Constant (.int i) j pos) (eC (.int i)) := fun pn xe W _ _ => impE pe_int fun σ H Q h => trC (d := .int i) (v := .int i) (fun _ _ => by exact rfl) h
theorem qe_bl {b : Bool} {j : Nat} : QE T X (.Constant (.bool b) j pos) (eC (.bl b)) := fun pn xe W _ _ => impE pe_bl fun σ H Q h => trC (d := .bl b) (v := .bl b) (fun _ _ => by exact rfl) h
theorem qe_non {j : Nat} : QE T X (.Constant .none j pos) (eC .non) := fun pn xe W _ _ => impE pe_non fun σ H Q h => trC (d := .non) (v := .non) (fun _ _ => by exact rfl) h
theorem qe_str {x : Str} {j : Nat} (l : List Nat) (hl : mkS l = x := by decide +kernel) : QE T X (.Constant (.str x) j pos) (eC (.str l)) := fun pn xe W _ _ => impE pe_str fun σ H Q h => trC (d := .str l) (v := .str x) (fun _ _ => by show V.str x = V.str (mkS l); rw [hl]) h
/-- a module's constant -/
theorem qe_glob {x : Str} {v : V} {u : Value} {d : D} (hg : Gl X x) (hm : X.mg x = some u) (r : RelV v u) (hd : ∀ ex H, Rep X.K T ex H d v) (hdb : (x == ("__debug__" : Str)) = false := by decide) : QE T X (.Name x pos) (eC d) :=
  fun pn xe W _ _ => impE (pe_glob (X := X.tr pn xe) hg hm r hdb) fun σ H Q h => trC hd h
end

/-! ### operators -/
def rQ (K : PySem.W.Frag) (T : Tab) (op : D → D → Option EV) : R2 := fun x y H Q => ∃ ex d1 d2 ev, (∀ a, ex a → H a ≠ none) ∧ Rd1 K T ex H d1 x ∧ Rd1 K T ex H d2 y ∧ op d1 d2 = some ev ∧ ∀ v H', Ext H H' → RepV K T ex H H' v ev → Q v H'
def opM (op : D → D → Option EV) (x y : AV) : M EV := fun env => (deref env x).bind fun d1 => (deref env y).bind fun d2 => lift (op d1 d2) env
def eOp (op : D → D → Option EV) (fa fb : M AV) : M EV := M.bind fa fun x => M.bind fb fun y => opM op x y
def toB (f : M EV) : M Bool := M.bind f fun ev => match ev with
  | .v (.bl b) => M.ret b
  | _ => M.stuck
theorem Good.dm {K : PySem.W.Frag} {T : Tab} {ex : Addr → Prop} {σ : St} {H : Hp} {env : Sl} (g : Good K T ex σ H env) : ∀ a, exO ex σ env a → H a ≠ none := fun a h q => g.fresh q h
section
variable {K : PySem.W.Frag} {T : Tab} {ex : Addr → Prop} {σ : St} {H H' : Hp} {env : Sl} {W : WX} {Q : VK}
theorem RepV.e {v : V} {ev : EV} (g : Good K T ex σ H env) (k : Ext H H') (r : RepV K T (exO ex σ env) H H' v ev) : RepE K T ex σ env H H' v ev := by
  cases ev with
  | v d => exact r
  | o c => obtain ⟨a, e, n, h⟩ := r; exact ⟨a, e, n, h, g.more n k h.there⟩
theorem opt_bind {α β : Type} {o : Option α} {f : α → Option β} {b : β} (h : o.bind f = some b) : ∃ a, o = some a ∧ f a = some b := by
  cases o with
  | none => cases h
  | some a => exact ⟨a, rfl, h⟩
theorem trx_op {op : D → D → Option EV} {x y : AV} {vx vy : V} (h : trx K T (relE K T) ex (opM op x y) env W σ H Q) (rx : RepA K T ex σ env H vx x) (ry : RepA K T ex σ env H vy y) : rQ K T op vx vy H Q := by
  obtain ⟨g, r, e, o⟩ := h
  obtain ⟨d1, e1, e⟩ := opt_bind e
  obtain ⟨d2, e2, e⟩ := opt_bind e
  cases q : op d1 d2 with
  | none => rw [q] at e; cases e
  | some ev =>
    rw [q] at e
    cases e
    exact ⟨_, d1, d2, ev, g.dm, deref_ok g rx e1, deref_ok g ry e2, q, fun v H' k r => o v H' (Step.ext g k) (r.e g k)⟩
theorem tr_op {op : D → D → Option EV} {fa fb : M AV} (h : tr K T (relE K T) (eOp op fa fb) W σ H Q) : tOp (rQ K T op) (tr K T (relA K T) fa W) (tr K T (relA K T) fb W) σ H Q := by
  obtain ⟨ex, env, h⟩ := h
  refine ⟨ex, env, (trx_bind (relA K T) rmE h).mono fun x H1 ⟨a, env1, s1, ra, h1⟩ => ⟨ex, env1, (trx_bind (relA K T) rmE h1).mono fun y H2 ⟨b, env2, s2, rb, h2⟩ => ?_⟩⟩
  exact trx_op h2 (RepA.step ra s2) rb
theorem tr_opB {op : D → D → Option EV} {fa fb : M AV} {Q : Bool → Hp → Prop} (h : tr K T relT (toB (eOp op fa fb)) W σ H Q) : tTest (tOp (rQ K T op) (tr K T (relA K T) fa W) (tr K T (relA K T) fb W)) σ H Q := by
  obtain ⟨ex, env, h⟩ := h
  refine tr_op ⟨ex, env, (trx_bind (relE K T) rmT h).mono fun x H1 ⟨ev, env1, s1, ra, h1⟩ => ?_⟩
  have stuck : ∀ {f : M Bool}, f = M.stuck → trx K T relT ex f env1 W σ H1 Q → False := fun e ⟨_, _, q, _⟩ => by rw [e] at q; cases q
  cases ev with
  | o c => exact (stuck rfl h1).elim
  | v d =>
    cases d with
    | bl b =>
      obtain ⟨g, k⟩ := trx_ret h1
      exact ⟨b, ra, k b H1 (Step.refl g) rfl⟩
    | _ => exact (stuck rfl h1).elim
end
section
variable {T : Tab} {X : Cx} {pos : Pos} {a b c : Expr} {fa fb fc : M AV}
theorem qe_op {o : Operator} {op : D → D → Option EV} (ho : ∀ pn xe, OpR (X.tr pn xe) (binaryOp o) (rQ X.K T op)) (ha : QO T X a fa) (hb : QO T X b fb) : QE T X (.BinOp a o b pos) (eOp op fa fb) :=
  fun pn xe W tk hp => impE (pe_op (ho pn xe) (ha pn xe W tk hp) (hb pn xe W tk hp)) fun σ H Q h => tr_op h
theorem qe_cmp {o : CmpOp} {op : D → D → Option EV} (ho : ∀ pn xe, OpR (X.tr pn xe) (compareOp o) (rQ X.K T op)) (ha : QO T X a fa) (hb : QO T X b fb) (hm : behindInMarks o b = false := by first | exact nomark _ (by decide) (by decide) | rfl | with_unfolding_all rfl) : QE T X (.Compare a [o] [b] pos) (eOp op fa fb) :=
  fun pn xe W tk hp => impE (pe_cmpR (ho pn xe) (ha pn xe W tk hp) (hb pn xe W tk hp) hm) fun σ H Q h => tr_op h
theorem qt_cmp {o : CmpOp} {op : D → D → Option EV} (ho : ∀ pn xe, OpR (X.tr pn xe) (compareOp o) (rQ X.K T op)) (ha : QO T X a fa) (hb : QO T X b fb) (hm : behindInMarks o b = false := by first | exact nomark _ (by decide) (by decide) | rfl | with_unfolding_all rfl) : QT T X (.Compare a [o] [b] pos) (toB (eOp op fa fb)) :=
  fun pn xe W tk hp => impT (pt_cmpR (ho pn xe) (ha pn xe W tk hp) (hb pn xe W tk hp) hm) fun σ H Q h => tr_opB h
end

/-! ### a op b op' c -/
def eChain (op op' : D → D → Option EV) (fa fb fc : M AV) : M EV := M.bind fa fun x => M.bind fb fun y => M.bind (toB (opM op x y)) fun k => if k = true then M.bind fc fun z => opM op' y z else M.ret (.v (.bl false))
section
variable {K : PySem.W.Frag} {T : Tab} {ex : Addr → Prop} {σ : St} {H H' : Hp} {env : Sl} {W : WX} {Q : VK}
theorem trx_opB {op : D → D → Option EV} {x y : AV} {vx vy : V} {R : Bool → Hp → Prop} (h : trx K T relT ex (toB (opM op x y)) env W σ H R) (rx : RepA K T ex σ env H vx x) (ry : RepA K T ex σ env H vy y) : rQ K T op vx vy H fun z H3 => ∃ k, z = .bl k ∧ R k H3 := by
  refine trx_op ((trx_bind (relE K T) rmT h).mono fun z H1 ⟨ev, env1, s1, ra, h1⟩ => ?_) rx ry
  have stuck : ∀ {f : M Bool}, f = M.stuck → trx K T relT ex f env1 W σ H1 R → False := fun e ⟨_, _, q, _⟩ => by rw [e] at q; cases q
  cases ev with
  | o c => exact (stuck rfl h1).elim
  | v d =>
    cases d with
    | bl b =>
      obtain ⟨g, k⟩ := trx_ret h1
      exact ⟨b, ra, k b H1 (Step.refl g) rfl⟩
    | _ => exact (stuck rfl h1).elim
theorem tr_chain {op op' : D → D → Option EV} {fa fb fc : M AV} (h : tr K T (relE K T) (eChain op op' fa fb fc) W σ H Q) : tChain (rQ K T op) (rQ K T op') (tr K T (relA K T) fa W) (tr K T (relA K T) fb W) (tr K T (relA K T) fc W) σ H Q := by
  obtain ⟨ex, env, h⟩ := h
  refine ⟨ex, env, (trx_bind (relA K T) rmE h).mono fun x H1 ⟨a, env1, s1, ra, h1⟩ => ⟨ex, env1, (trx_bind (relA K T) rmE h1).mono fun y H2 ⟨b, env2, s2, rb, h2⟩ => ?_⟩⟩
  have q : rQ K T op x y H2 fun z H3 => ∃ k, z = .bl k ∧ ∃ c env3, Step K T ex σ H2 env2 H3 env3 ∧ relT ex σ env3 H2 H3 k c ∧ trx K T (relE K T) ex (if c = true then M.bind fc fun z => opM op' b z else M.ret (.v (.bl false))) env3 W σ H3 Q :=
    trx_opB (trx_bind relT rmE h2) (RepA.step ra s2) rb
  have mono : ∀ {R R' : VK}, rQ K T op x y H2 R → (∀ v H', R v H' → R' v H') → rQ K T op x y H2 R' := fun ⟨ex, d1, d2, ev, p1, p2, p3, p4, p5⟩ k => ⟨ex, d1, d2, ev, p1, p2, p3, p4, fun v H' a b => k v H' (p5 v H' a b)⟩
  refine mono q fun z H3 ⟨k, ez, c, env3, s3, ec, h3⟩ => ⟨k, ez, ?_⟩
  have ec : k = c := ec
  subst ec
  cases k with
  | true =>
    rw [if_pos rfl] at h3 ⊢
    exact ⟨ex, env3, (trx_bind (relA K T) rmE h3).mono fun w H4 ⟨d, env4, s4, rd, h4⟩ => trx_op h4 (RepA.step (RepA.step rb s3) s4) rd⟩
  | false =>
    rw [if_neg Bool.false_ne_true] at h3 ⊢
    obtain ⟨g, k⟩ := trx_ret h3
    exact k _ H3 (Step.refl g) rfl
theorem tr_chainB {op op' : D → D → Option EV} {fa fb fc : M AV} {Q : Bool → Hp → Prop} (h : tr K T relT (toB (eChain op op' fa fb fc)) W σ H Q) : tTest (tChain (rQ K T op) (rQ K T op') (tr K T (relA K T) fa W) (tr K T (relA K T) fb W) (tr K T (relA K T) fc W)) σ H Q := by
  obtain ⟨ex, env, h⟩ := h
  refine tr_chain ⟨ex, env, (trx_bind (relE K T) rmT h).mono fun x H1 ⟨ev, env1, s1, ra, h1⟩ => ?_⟩
  have stuck : ∀ {f : M Bool}, f = M.stuck → trx K T relT ex f env1 W σ H1 Q → False := fun e ⟨_, _, q, _⟩ => by rw [e] at q; cases q
  cases ev with
  | o c => exact (stuck rfl h1).elim
  | v d =>
    cases d with
    | bl b =>
      obtain ⟨g, k⟩ := trx_ret h1
      exact ⟨b, ra, k b H1 (Step.refl g) rfl⟩
    | _ => exact (stuck rfl h1).elim
end
section
variable {T : Tab} {X : Cx} {pos : Pos} {a b c : Expr} {fa fb fc : M AV} {o o' : CmpOp} {op op' : D → D → Option EV}
theorem qe_chain (ho : ∀ pn xe, OpR (X.tr pn xe) (compareOp o) (rQ X.K T op)) (ho' : ∀ pn xe, OpR (X.tr pn xe) (compareOp o') (rQ X.K T op')) (ha : QO T X a fa) (hb : QO T X b fb) (hc : QO T X c fc)
    (hm : lastMarks [o, o'] [b, c] = false := by with_unfolding_all rfl) : QE T X (.Compare a [o, o'] [b, c] pos) (eChain op op' fa fb fc) :=
  fun pn xe W tk hp => impE (pe_chain (ho pn xe) (ho' pn xe) (ha pn xe W tk hp) (hb pn xe W tk hp) (hc pn xe W tk hp) hm) fun σ H Q h => tr_chain h
theorem qt_chain (ho : ∀ pn xe, OpR (X.tr pn xe) (compareOp o) (rQ X.K T op)) (ho' : ∀ pn xe, OpR (X.tr pn xe) (compareOp o') (rQ X.K T op')) (ha : QO T X a fa) (hb : QO T X b fb) (hc : QO T X c fc)
    (hm : lastMarks [o, o'] [b, c] = false := by with_unfolding_all rfl) : QT T X (.Compare a [o, o'] [b, c] pos) (toB (eChain op op' fa fb fc)) :=
  fun pn xe W tk hp => impT (pt_chain (ho pn xe) (ho' pn xe) (ha pn xe W tk hp) (hb pn xe W tk hp) (hc pn xe W tk hp) hm) fun σ H Q h => tr_chainB h
end

/-! ### truth values -/
def bAnd (f g : M Bool) : M Bool := M.bind f fun c => if c = true then g else M.ret false
def bOr (f g : M Bool) : M Bool := M.bind f fun c => if c = true then M.ret true else g
def bNot (f : M Bool) : M Bool := M.bind f fun c => M.ret (!c)
def ofB (f : M Bool) : M EV := M.bind f fun c => M.ret (.v (.bl c))
def eAnd (f g : M EV) : M EV := M.bind (toB f) fun c => if c = true then g else M.ret (.v (.bl false))
def eOr (f g : M EV) : M EV := M.bind (toB f) fun c => if c = true then M.ret (.v (.bl true)) else g
def eNot (f : M EV) : M EV := M.bind (toB f) fun c => M.ret (.v (.bl (!c)))
def eIf (c : M Bool) (f g : M EV) : M EV := M.bind c fun b => if b = true then f else g
section
variable {K : PySem.W.Frag} {T : Tab} {ex : Addr → Prop} {σ : St} {H H' : Hp} {env : Sl} {W : WX}
theorem tr_toB {f : M EV} {Q : Bool → Hp → Prop} (h : tr K T relT (toB f) W σ H Q) : tr K T (relE K T) f W σ H fun x H1 => ∃ c, x = .bl c ∧ Q c H1 := by
  obtain ⟨ex, env, h⟩ := h
  refine ⟨ex, env, (trx_bind (relE K T) rmT h).mono fun x H1 ⟨ev, env1, s1, ra, h1⟩ => ?_⟩
  have stuck : ∀ {f : M Bool}, f = M.stuck → trx K T relT ex f env1 W σ H1 Q → False := fun e ⟨_, _, q, _⟩ => by rw [e] at q; cases q
  cases ev with
  | o c => exact (stuck rfl h1).elim
  | v d =>
    cases d with
    | bl b =>
      obtain ⟨g, k⟩ := trx_ret h1
      exact ⟨b, ra, k b H1 (Step.refl g) rfl⟩
    | _ => exact (stuck rfl h1).elim
theorem tr_bool {α γ : Type} {rel : Rl γ α} (hm : RM rel) {f : M Bool} {k : Bool → M α} {Q : γ → Hp → Prop} (h : tr K T rel (M.bind f k) W σ H Q) : tr K T relT f W σ H fun c H1 => tr K T rel (k c) W σ H1 Q := by
  obtain ⟨ex, env, h⟩ := h
  refine ⟨ex, env, (trx_bind relT hm h).mono fun c H1 ⟨b, env1, s1, e, h1⟩ => ?_⟩
  have e : c = b := e
  subst e
  exact ⟨ex, env1, h1⟩
theorem tr_ret {α γ : Type} {rel : Rl γ α} {a : α} {v : γ} {Q : γ → Hp → Prop} (h : tr K T rel (M.ret a) W σ H Q) (r : ∀ ex env, rel ex σ env H H v a) : Q v H := by
  obtain ⟨ex, env, h⟩ := h
  obtain ⟨g, k⟩ := trx_ret h
  exact k v H (Step.refl g) (r _ _)
end
section
variable {T : Tab} {X : Cx} {pos : Pos} {a b c : Expr} {rest : List Expr} {f g : M Bool} {fe ge : M EV}
theorem qt_val (h : QE T X a fe) (he : ∀ whole, isTrue a X.env whole = (do let v ← whole; standAt a.pos; holding [v] (truthy v)) := by intro _; rfl) : QT T X a (toB fe) :=
  fun pn xe W tk hp => impT (pt_val (h pn xe W tk hp) he) fun σ H Q q => tr_toB q
theorem qw_and1 (h : QT T X a f) : QW T X (.BoolOp .And [a] pos) f := fun pn xe W tk hp => pw_and1 (h pn xe W tk hp)
theorem qw_or1 (h : QT T X a f) : QW T X (.BoolOp .Or [a] pos) f := fun pn xe W tk hp => pw_or1 (h pn xe W tk hp)
theorem qw_and (h : QT T X a f) (k : QW T X (.BoolOp .And (b :: rest) pos) g) : QW T X (.BoolOp .And (a :: b :: rest) pos) (bAnd f g) := fun pn xe W tk hp => impW (pw_and (h pn xe W tk hp) (k pn xe W tk hp)) fun σ H Q q => by
  obtain ⟨ex, env, z⟩ := tr_bool rmT q
  refine ⟨ex, env, z.mono fun c H1 q1 => ?_⟩
  cases c with
  | true => exact q1
  | false => exact tr_ret q1 fun _ _ => rfl
theorem qw_or (h : QT T X a f) (k : QW T X (.BoolOp .Or (b :: rest) pos) g) : QW T X (.BoolOp .Or (a :: b :: rest) pos) (bOr f g) := fun pn xe W tk hp => impW (pw_or (h pn xe W tk hp) (k pn xe W tk hp)) fun σ H Q q => by
  obtain ⟨ex, env, z⟩ := tr_bool rmT q
  refine ⟨ex, env, z.mono fun c H1 q1 => ?_⟩
  cases c with
  | true => exact tr_ret q1 fun _ _ => rfl
  | false => exact q1
theorem qt_w (h : QW T X a f) : QT T X a f := fun pn xe W tk hp => (h pn xe W tk hp).pt
theorem qt_not (h : QT T X a f) : QT T X (.UnaryOp .Not a pos) (bNot f) := fun pn xe W tk hp => impT (pt_not (h pn xe W tk hp)) fun σ H Q q => by
  obtain ⟨ex, env, z⟩ := tr_bool rmT q
  exact ⟨ex, env, z.mono fun c H1 q1 => tr_ret q1 fun _ _ => rfl⟩
theorem qe_one {o : BoolOp} (h : QE T X a fe) : QE T X (.BoolOp o [a] pos) fe := fun pn xe W tk hp => pe_one (h pn xe W tk hp)
theorem qe_and (h : QE T X a fe) (k : QE T X (.BoolOp .And (b :: rest) pos) ge) : QE T X (.BoolOp .And (a :: b :: rest) pos) (eAnd fe ge) := fun pn xe W tk hp => impE (pe_and (h pn xe W tk hp) (k pn xe W tk hp)) fun σ H Q q => by
  obtain ⟨ex, env, z⟩ := tr_toB (tr_bool rmE q)
  refine ⟨ex, env, z.mono fun x H1 ⟨c, e, q1⟩ => ⟨c, e, ?_⟩⟩
  cases c with
  | true => exact q1
  | false => exact tr_ret q1 fun _ _ => rfl
theorem qe_or (h : QE T X a fe) (k : QE T X (.BoolOp .Or (b :: rest) pos) ge) : QE T X (.BoolOp .Or (a :: b :: rest) pos) (eOr fe ge) := fun pn xe W tk hp => impE (pe_or (h pn xe W tk hp) (k pn xe W tk hp)) fun σ H Q q => by
  obtain ⟨ex, env, z⟩ := tr_toB (tr_bool rmE q)
  refine ⟨ex, env, z.mono fun x H1 ⟨c, e, q1⟩ => ⟨c, e, ?_⟩⟩
  cases c with
  | true => exact tr_ret q1 fun _ _ => rfl
  | false => exact q1
theorem qe_not (h : QE T X a fe) : QE T X (.UnaryOp .Not a pos) (eNot fe) := fun pn xe W tk hp => impE (pe_not (h pn xe W tk hp)) fun σ H Q q => by
  obtain ⟨ex, env, z⟩ := tr_toB (tr_bool rmE q)
  exact ⟨ex, env, z.mono fun x H1 ⟨c, e, q1⟩ => ⟨c, e, tr_ret q1 fun _ _ => rfl⟩⟩
theorem qe_if (h : QT T X c f) (ha : QE T X a fe) (hb : QE T X b ge) : QE T X (.IfExp c a b pos) (eIf f fe ge) := fun pn xe W tk hp => impE (pe_ifExp (h pn xe W tk hp) (ha pn xe W tk hp) (hb pn xe W tk hp)) fun σ H Q q => by
  obtain ⟨ex, env, z⟩ := tr_bool rmE q
  refine ⟨ex, env, z.mono fun c H1 q1 => ?_⟩
  cases c with
  | true => exact q1
  | false => exact q1
end

/-! ### lists of arguments -/
def asNil : M (List AV) := M.ret []
def asCons (f : M AV) (g : M (List AV)) : M (List AV) := M.bind f fun a => M.bind g fun as => M.ret (a :: as)
def vals : List AV → Option (List D)
  | [] => some []
  | .v d :: r => (vals r).map (d :: ·)
  | .s _ :: _ => none
def eTup (g : M (List AV)) : M EV := M.bind g fun as => match vals as with
  | some ds => if ds.length ≤ 4000 then M.ret (.v (.tup ds)) else M.stuck
  | none => M.stuck
def eLst (g : M (List AV)) : M EV := M.bind g fun as => match vals as with
  | some ds => if ds.length ≤ 4000 then M.ret (.o (.lst ds)) else M.stuck
  | none => M.stuck
section
variable {K : PySem.W.Frag} {T : Tab} {ex : Addr → Prop} {σ : St} {H H' : Hp} {env : Sl} {W : WX}
theorem small4000 {n : Nat} (h : n ≤ 4000) : n ≤ sizeLine := by rw [sizeLine_eq]; omega
theorem vals_rep : ∀ {as : List AV} {ds : List D} {vs : List V}, Paired (fun a v => RepA K T ex σ env H v a) as vs → vals as = some ds → RepL K T (exO ex σ env) H ds vs
  | [], _, _, h, e => by cases h; cases e; exact .nil
  | .v d :: r, ds, _, h, e => by
    cases h with
    | cons h1 h2 =>
      unfold vals at e
      cases q : vals r with
      | none => rw [q] at e; cases e
      | some es => rw [q] at e; cases e; exact .cons h1 (vals_rep h2 q)
  | .s i :: r, ds, _, h, e => by cases e
theorem tr_tup {g : M (List AV)} {Q : VK} (h : tr K T (relE K T) (eTup g) W σ H Q) : tTup (tr K T (relAs K T) g W) σ H Q := by
  obtain ⟨ex, env, h⟩ := h
  refine ⟨ex, env, (trx_bind (relAs K T) rmE h).mono fun vs H1 ⟨as, env1, s1, ra, h1⟩ => ?_⟩
  cases q : vals as with
  | none => rw [q] at h1; obtain ⟨_, _, e, _⟩ := h1; cases e
  | some ds =>
    rw [q] at h1
    by_cases hl : ds.length ≤ 4000
    · dsimp only at h1
      rw [if_pos hl] at h1
      obtain ⟨g1, k⟩ := trx_ret h1
      have rl := vals_rep ra q
      refine ⟨by rw [← rl.length]; exact small4000 hl, fun p hp => ?_⟩
      have ext : Ext H1 (upd H1 p (.tup vs)) := fun b o e => by rw [upd_ne (ne_of_none e hp)]; exact e
      refine k _ _ (Step.ext g1 ext) ?_
      exact ⟨p, vs, rfl, g1.fresh hp, upd_same, rl.mono fun b o n e => ⟨n, ext b o e⟩⟩
    · dsimp only at h1
      rw [if_neg hl] at h1
      obtain ⟨_, _, e, _⟩ := h1; cases e
theorem rep_newL {ds : List D} {vs : List V} {ex : Addr → Prop} {p : Addr} (hp : H p = none) (rl : RepL K T ex H ds vs) : RepO K T (fun b => ex b ∨ b = p) (upd H p (.lst vs)) p (.lst ds) :=
  ⟨vs, upd_same, rl.mono fun b o n e => ⟨fun z => z.elim n fun z => ne_of_none e hp z, by rw [upd_ne (ne_of_none e hp)]; exact e⟩⟩
theorem ext_new {o : HO} {p : Addr} (hp : H p = none) : Ext H (upd H p o) := fun b o e => by rw [upd_ne (ne_of_none e hp)]; exact e
theorem tr_lst {g : M (List AV)} {Q : VK} (h : tr K T (relE K T) (eLst g) W σ H Q) : tLst (tr K T (relAs K T) g W) σ H Q := by
  obtain ⟨ex, env, h⟩ := h
  refine ⟨ex, env, (trx_bind (relAs K T) rmE h).mono fun vs H1 ⟨as, env1, s1, ra, h1⟩ => ?_⟩
  cases q : vals as with
  | none => rw [q] at h1; obtain ⟨_, _, e, _⟩ := h1; cases e
  | some ds =>
    rw [q] at h1
    by_cases hl : ds.length ≤ 4000
    · dsimp only at h1
      rw [if_pos hl] at h1
      obtain ⟨g1, k⟩ := trx_ret h1
      have rl := vals_rep ra q
      refine ⟨by rw [← rl.length]; exact small4000 hl, fun p hp => ?_⟩
      exact k _ _ (Step.ext g1 (ext_new hp)) ⟨p, rfl, hp, rep_newL hp rl, g1.more hp (ext_new hp) (by rw [upd_same]; exact fun z => nomatch z)⟩
    · dsimp only at h1
      rw [if_neg hl] at h1
      obtain ⟨_, _, e, _⟩ := h1; cases e
end
section
variable {T : Tab} {X : Cx} {pos : Pos} {e : Expr} {es : List Expr} {f : M AV} {g : M (List AV)}
theorem qas_nil : QAs T X [] asNil := fun pn xe W tk hp => impA pa_nil fun σ H Q q => tr_ret q fun _ _ => .nil
theorem qas_cons (h : QO T X e f) (k : QAs T X es g) (hs : starEach (e :: es) X.env = (false, eval e X.env) :: starEach es X.env := by rfl) : QAs T X (e :: es) (asCons f g) := fun pn xe W tk hp => impA (pa_cons (h pn xe W tk hp) (k pn xe W tk hp) hs) fun σ H Q q => by
  obtain ⟨ex, env, q⟩ := q
  refine ⟨ex, env, (trx_bind (relA X.K T) rmAs q).mono fun v H1 ⟨a, env1, s1, ra, h1⟩ => ⟨ex, env1, (trx_bind (relAs X.K T) rmAs h1).mono fun vs H2 ⟨as, env2, s2, rs, h2⟩ => ?_⟩⟩
  obtain ⟨g2, z⟩ := trx_ret h2
  exact z (v :: vs) H2 (Step.refl g2) (.cons (RepA.step ra s2) rs)
theorem qe_tup {x1} (h : QAs T X es g) : QE T X (.Tuple es x1 pos) (eTup g) := fun pn xe W tk hp => impE (pe_tup (h pn xe W tk hp)) fun σ H Q q => tr_tup q
theorem qe_lst (h : QAs T X es g) : QE T X (.List es pos) (eLst g) := fun pn xe W tk hp => impE (pe_lst (h pn xe W tk hp)) fun σ H Q q => tr_lst q
end
end Dt
end
section
set_option maxRecDepth 100000
set_option maxHeartbeats 4000000
/-! QD: calls of the text's own defs: what a slot owns is lent. -/
namespace Dt
open PySem PySem.Spec L2
open PyProof.Rows hiding St

def argS : Option Slot → Option Slot
  | some (.val d) => some (.val d)
  | some (.own c) => some (.own c)
  | _ => none
def argOf (env : Sl) : AV → Option Slot
  | .v d => some (.val d)
  | .s i => argS env[i]?
def argsOf (env : Sl) : List AV → Option Sl
  | [] => some []
  | a :: r => (argOf env a).bind fun s => (argsOf env r).map (s :: ·)
def sidx : List AV → List Nat
  | [] => []
  | .v _ :: r => sidx r
  | .s i :: r => i :: sidx r
def isOwn : Option Slot → Bool
  | some (.own _) => true
  | _ => false
def put1 (env : Sl) (i : Nat) (o : Slot) : Sl := if isOwn env[i]? = true then env.set i o else env
def back (env : Sl) : List AV → Sl → Sl
  | .s i :: r, o :: os => back (put1 env i o) r os
  | .v _ :: r, _ :: os => back env r os
  | _, _ => env
def callM (g : M EV) (as : List AV) : M EV := fun env =>
  if (sidx as).Nodup then (argsOf env as).bind fun sl => match g sl with
    | some (.ok ev outs) => some (.ok ev (back env as outs))
    | some (.exc x outs) => some (.exc x (back env as outs))
    | none => none
  else none
def eCall (g : M EV) (fs : M (List AV)) : M EV := M.bind fs fun as => callM g as

theorem put1_get (env : Sl) (i k : Nat) (o : Slot) : (put1 env i o)[k]? = if k = i ∧ isOwn env[i]? = true then some o else env[k]? := by
  unfold put1
  by_cases h : isOwn env[i]? = true
  · rw [if_pos h]
    have hi : i < env.length := by
      rcases Nat.lt_or_ge i env.length with q | q
      · exact q
      · rw [List.getElem?_eq_none q] at h; cases h
    by_cases e : k = i
    · subst e; rw [List.getElem?_set_self hi, if_pos ⟨rfl, h⟩]
    · rw [List.getElem?_set_ne (Ne.symm e), if_neg fun z => e z.1]
  · rw [if_neg h, if_neg fun z => h z.2]
theorem mem_sidx : ∀ {as : List AV} {j k : Nat}, as[j]? = some (.s k) → k ∈ sidx as
  | [], j, k, h => by simp at h
  | .v d :: r, 0, k, h => by simp at h
  | .v d :: r, j + 1, k, h => by simp at h; exact mem_sidx (as := r) h
  | .s i :: r, 0, k, h => by simp at h; subst h; simp [sidx]
  | .s i :: r, j + 1, k, h => by simp at h; exact List.mem_cons_of_mem _ (mem_sidx (as := r) h)
theorem back_get : ∀ {as : List AV} {env outs : Sl}, (sidx as).Nodup → outs.length = as.length →
    (∀ k : Nat, k ∉ sidx as → (back env as outs)[k]? = env[k]?) ∧ ∀ j k : Nat, as[j]? = some (AV.s k) → (back env as outs)[k]? = if isOwn env[k]? = true then outs[j]? else env[k]?
  | [], env, outs, _, _ => by
    refine ⟨fun k _ => ?_, fun j k h => by simp at h⟩
    cases outs <;> rfl
  | .v d :: r, env, [], _, hl => by simp at hl
  | .v d :: r, env, o :: os, hn, hl => by
    obtain ⟨h1, h2⟩ := back_get (as := r) (env := env) (outs := os) hn (by simpa using hl)
    refine ⟨fun k hk => h1 k hk, fun j k h => ?_⟩
    cases j with
    | zero => simp at h
    | succ j => simp at h; simpa [back] using h2 j k h
  | .s i :: r, env, [], _, hl => by simp at hl
  | .s i :: r, env, o :: os, hn, hl => by
    have hn' : i ∉ sidx r ∧ (sidx r).Nodup := by simpa [sidx] using hn
    obtain ⟨h1, h2⟩ := back_get (as := r) (env := put1 env i o) (outs := os) hn'.2 (by simpa using hl)
    refine ⟨fun k hk => ?_, fun j k h => ?_⟩
    · have hk' : k ≠ i ∧ k ∉ sidx r := by simpa [sidx] using hk
      show (back (put1 env i o) r os)[k]? = _
      rw [h1 k hk'.2, put1_get, if_neg fun z => hk'.1 z.1]
    · cases j with
      | zero =>
        simp at h; subst h
        show (back (put1 env i o) r os)[i]? = _
        rw [h1 i hn'.1, put1_get]
        by_cases q : isOwn env[i]? = true
        · rw [if_pos ⟨rfl, q⟩, if_pos q] <;> simp
        · rw [if_neg fun z => q z.2, if_neg q]
      | succ j =>
        simp at h
        have hki : k ≠ i := fun z => hn'.1 (z ▸ mem_sidx h)
        show (back (put1 env i o) r os)[k]? = _
        have pk : (put1 env i o)[k]? = env[k]? := by rw [put1_get, if_neg fun z => hki z.1]
        rw [h2 j k h, pk] <;> simp
theorem back_len : ∀ {as : List AV} {env outs : Sl}, (back env as outs).length = env.length
  | [], env, outs => by cases outs <;> rfl
  | .v d :: r, env, [] => rfl
  | .v d :: r, env, o :: os => back_len (as := r) (env := env) (outs := os)
  | .s i :: r, env, [] => rfl
  | .s i :: r, env, o :: os => by
    show (back (put1 env i o) r os).length = _
    rw [back_len (as := r)]
    unfold put1
    split
    · rw [List.length_set]
    · rfl
theorem args_get : ∀ {as : List AV} {env sl : Sl}, argsOf env as = some sl → sl.length = as.length ∧ ∀ (j : Nat) (a : AV), as[j]? = some a → ∃ s, sl[j]? = some s ∧ argOf env a = some s
  | [], env, sl, h => by cases h; exact ⟨rfl, fun j a e => by simp at e⟩
  | a :: r, env, sl, h => by
    obtain ⟨s, e1, h⟩ := opt_bind h
    cases q : argsOf env r with
    | none => rw [q] at h; cases h
    | some sr =>
      rw [q] at h
      cases h
      obtain ⟨hl, h2⟩ := args_get q
      refine ⟨by simp [hl], fun j b e => ?_⟩
      cases j with
      | zero => simp at e; subst e; exact ⟨s, by simp, e1⟩
      | succ j => simp at e; simpa using h2 j b e

section
variable {K : PySem.W.Frag} {T : Tab} {ex : Addr → Prop} {σ : St} {H H' : Hp} {env sl outs : Sl} {as : List AV} {vs : List V}
/-- what of the caller's is not lent -/
def exC (ex : Addr → Prop) (σ : St) (env : Sl) (vs : List V) (sl : Sl) : Addr → Prop := fun a => exO ex σ env a ∧ ¬ Owns (vs.map some) sl a
theorem paired_len {α β : Type} {F : α → β → Prop} : ∀ {l : List α} {m : List β}, Paired F l m → l.length = m.length
  | _, _, .nil => rfl
  | _, _, .cons _ t => by simp [paired_len t]
theorem vmap {v : Option V} {j : Nat} (h : (vs.map some)[j]? = some v) : ∃ u, v = some u ∧ vs[j]? = some u := by
  rw [List.getElem?_map] at h
  cases q : vs[j]? with
  | none => rw [q] at h; cases h
  | some u => rw [q] at h; cases h; exact ⟨u, rfl, rfl⟩
theorem vmap' {u : V} {j : Nat} (h : vs[j]? = some u) : (vs.map some)[j]? = some (some u) := by rw [List.getElem?_map, h]; rfl
/-- an argument that owns comes from a slot that does -/
theorem lent (hp : Paired (fun a v => RepA K T ex σ env H v a) as vs) (ha : argsOf env as = some sl) {j : Nat} {c : OC} (e : sl[j]? = some (.own c)) :
    ∃ i u, as[j]? = some (.s i) ∧ env[i]? = some (.own c) ∧ vs[j]? = some u ∧ σ[i]? = some (some u) := by
  obtain ⟨hl, hg⟩ := args_get ha
  have hj : j < as.length := by rw [← hl]; exact (List.getElem?_eq_some_iff.mp e).1
  obtain ⟨s, e1, e2⟩ := hg j _ (List.getElem?_eq_getElem hj)
  rw [e] at e1; cases e1
  obtain ⟨u, e3, r⟩ := paired_get hp (List.getElem?_eq_getElem hj)
  cases q : as[j] with
  | v d => rw [q] at e2; cases e2
  | s i =>
    rw [q] at e2 r
    refine ⟨i, u, by rw [List.getElem?_eq_getElem hj, q], ?_, e3, r⟩
    have e2 : argS env[i]? = some (.own c) := e2
    cases w : env[i]? with
    | none => rw [w] at e2; cases e2
    | some s => rw [w] at e2; cases s <;> cases e2; rfl
theorem lent_owns (hp : Paired (fun a v => RepA K T ex σ env H v a) as vs) (ha : argsOf env as = some sl) {a : Addr} (h : Owns (vs.map some) sl a) : Owns σ env a := by
  obtain ⟨j, c, e1, e2⟩ := h
  obtain ⟨i, u, _, e4, e5, e6⟩ := lent hp ha e1
  obtain ⟨u', eu, e7⟩ := vmap e2
  cases eu
  rw [e5] at e7; cases e7
  exact ⟨i, c, e4, e6⟩
theorem exC_exO (hp : Paired (fun a v => RepA K T ex σ env H v a) as vs) (ha : argsOf env as = some sl) (a : Addr) : exO (exC ex σ env vs sl) (vs.map some) sl a ↔ exO ex σ env a := by
  constructor
  · rintro (h | h)
    · exact h.1
    · exact .inr (lent_owns hp ha h)
  · intro h
    by_cases q : Owns (vs.map some) sl a
    · exact .inr q
    · exact .inl ⟨h, q⟩
theorem exC_eq (hp : Paired (fun a v => RepA K T ex σ env H v a) as vs) (ha : argsOf env as = some sl) : exO (exC ex σ env vs sl) (vs.map some) sl = exO ex σ env := funext fun a => propext (exC_exO hp ha a)
theorem call_good (g : Good K T ex σ H env) (hn : (sidx as).Nodup) (hp : Paired (fun a v => RepA K T ex σ env H v a) as vs) (ha : argsOf env as = some sl) : Good K T (exC ex σ env vs sl) (vs.map some) H sl := by
  obtain ⟨hl, hg⟩ := args_get ha
  have hlv := paired_len hp
  refine ⟨by rw [List.length_map, hl, hlv], fun j d e => ?_, fun j c e => ?_, fun i j a c c' e1 e2 e3 e4 => ?_, fun a h => g.dm a h.1⟩
  · rw [exC_eq hp ha]
    have hj : j < as.length := by rw [← hl]; exact (List.getElem?_eq_some_iff.mp e).1
    obtain ⟨s, e1, e2⟩ := hg j _ (List.getElem?_eq_getElem hj)
    rw [e] at e1; cases e1
    obtain ⟨u, e3, r⟩ := paired_get hp (List.getElem?_eq_getElem hj)
    refine ⟨u, vmap' e3, ?_⟩
    cases q : as[j] with
    | v d' => rw [q] at e2 r; cases e2; exact r
    | s i =>
      rw [q] at e2 r
      have e2 : argS env[i]? = some (.val d) := e2
      have r : σ[i]? = some (some u) := r
      cases w : env[i]? with
      | none => rw [w] at e2; cases e2
      | some s =>
        rw [w] at e2
        cases s with
        | emp => cases e2
        | own c => cases e2
        | val d' =>
          cases e2
          obtain ⟨u', e5, r'⟩ := g.val i d w
          rw [r] at e5; cases e5
          exact r'
  · rw [exC_eq hp ha]
    obtain ⟨i, u, _, e4, e5, e6⟩ := lent hp ha e
    obtain ⟨a, e7, n, r⟩ := g.own i c e4
    rw [e6] at e7; cases e7
    exact ⟨a, vmap' e5, fun z => z.2 ⟨j, c, e, vmap' e5⟩, r⟩
  · obtain ⟨i1, u1, a1, b1, c1, d1⟩ := lent hp ha e1
    obtain ⟨i2, u2, a2, b2, c2, d2⟩ := lent hp ha e2
    obtain ⟨w1, x1, y1⟩ := vmap e3
    obtain ⟨w2, x2, y2⟩ := vmap e4
    cases x1; cases x2
    rw [c1] at y1; cases y1
    rw [c2] at y2; cases y2
    have := g.inj i1 i2 a c c' b1 b2 d1 d2
    subst this
    -- equal slots stand at one place
    have uniq : ∀ {as : List AV} {i j k : Nat}, (sidx as).Nodup → as[i]? = some (.s k) → as[j]? = some (.s k) → i = j := by
      intro as
      induction as with
      | nil => intro i j k _ h; simp at h
      | cons a r ih =>
        intro i j k hn h1 h2
        cases a with
        | v d =>
          cases i with
          | zero => simp at h1
          | succ i => cases j with
            | zero => simp at h2
            | succ j => simp at h1 h2; rw [ih (i := i) (j := j) hn h1 h2]
        | s m =>
          have hn' : m ∉ sidx r ∧ (sidx r).Nodup := by simpa [sidx] using hn
          cases i with
          | zero => cases j with
            | zero => rfl
            | succ j => simp at h1 h2; subst h1; exact absurd (mem_sidx h2) hn'.1
          | succ i => cases j with
            | zero => simp at h1 h2; subst h2; exact absurd (mem_sidx h1) hn'.1
            | succ j => simp at h1 h2; rw [ih (i := i) (j := j) hn'.2 h1 h2]
    exact uniq hn a1 a2
/-- behind the call -/
theorem call_step (g : Good K T ex σ H env) (hn : (sidx as).Nodup) (hp : Paired (fun a v => RepA K T ex σ env H v a) as vs) (ha : argsOf env as = some sl)
    (s : Step K T (exC ex σ env vs sl) (vs.map some) H sl H' outs) : Step K T ex σ H env H' (back env as outs) ∧ (∀ a, exO ex σ (back env as outs) a → exO (exC ex σ env vs sl) (vs.map some) outs a) ∧
      ∀ x, H x = none → Good K T (fun b => exC ex σ env vs sl b ∨ b = x) (vs.map some) H' outs → Good K T (fun b => ex b ∨ b = x) σ H' (back env as outs) := by
  obtain ⟨hl, hg⟩ := args_get ha
  have hlv := paired_len hp
  have hlo : outs.length = as.length := by rw [s.gd.len, List.length_map, hlv]
  obtain ⟨b1, b2⟩ := back_get (env := env) hn hlo
  have lo : ∀ {a}, Owns (vs.map some) sl a → Owns σ env a := fun h => lent_owns hp ha h
  -- each slot behind: as it was, or one that was lent
  have cs : ∀ k : Nat, ((back env as outs)[k]? = env[k]? ∧ (∀ (j : Nat) (c : OC), as[j]? = some (AV.s k) → env[k]? ≠ some (Slot.own c))) ∨ ∃ (j : Nat) (c : OC), as[j]? = some (AV.s k) ∧ env[k]? = some (Slot.own c) ∧ (back env as outs)[k]? = outs[j]? := fun k => by
    by_cases hk : ∃ j : Nat, as[j]? = some (.s k)
    · obtain ⟨j, hj⟩ := hk
      have q := b2 j k hj
      by_cases o : isOwn env[k]? = true
      · rw [if_pos o] at q
        cases w : env[k]? with
        | none => rw [w] at o; cases o
        | some sl' => rw [w] at o; cases sl' <;> first | exact .inr ⟨j, _, hj, rfl, q⟩ | cases o
      · rw [if_neg o] at q
        exact .inl ⟨q, fun j c _ e => o (by rw [e]; rfl)⟩
    · refine .inl ⟨b1 k fun hm => ?_, fun j c e => absurd ⟨j, e⟩ hk⟩
      refine hk ?_
      clear b1 b2 hlo hlv hl hg lo s ha hp hn
      induction as with
      | nil => simp [sidx] at hm
      | cons a r ih =>
        cases a with
        | v d => obtain ⟨j, e⟩ := ih (fun ⟨j, e⟩ => hk ⟨j + 1, by simpa using e⟩) hm; exact ⟨j + 1, by simpa using e⟩
        | s i =>
          rcases List.mem_cons.mp hm with e | e
          · subst e; exact ⟨0, by simp⟩
          · obtain ⟨j, e⟩ := ih (fun ⟨j, e⟩ => hk ⟨j + 1, by simpa using e⟩) e; exact ⟨j + 1, by simpa using e⟩
  have vj : ∀ {j k : Nat} {u : V}, as[j]? = some (AV.s k) → σ[k]? = some (some u) → vs[j]? = some u := fun {j k u} e1 e2 => by
    obtain ⟨w, e3, r⟩ := paired_get hp e1
    have r : σ[k]? = some (some w) := r
    rw [e2] at r; cases r
    exact e3
  -- what is owned behind was owned ahead
  have own2 : ∀ (k : Nat) (c : OC), (back env as outs)[k]? = some (Slot.own c) → ∃ c', env[k]? = some (Slot.own c') := fun k c e => by
    rcases cs k with ⟨q, _⟩ | ⟨j, c', _, q, _⟩
    · exact ⟨c, by rw [← q]; exact e⟩
    · exact ⟨c', q⟩
  have ow : ∀ {a}, Owns σ (back env as outs) a → Owns σ env a := fun {a} ⟨k, c, e1, e2⟩ => let ⟨c', e3⟩ := own2 k c e1; ⟨k, c', e3, e2⟩
  have exb : ∀ a, exO ex σ (back env as outs) a → exO (exC ex σ env vs sl) (vs.map some) outs a := fun a h => by
    rcases h with h | ⟨k, c, e1, e2⟩
    · refine .inl ⟨.inl h, fun q => ?_⟩
      exact (g.owned (lo q)).2 h
    · rcases cs k with ⟨q, nq⟩ | ⟨j, c', e3, e4, q⟩
      · rw [q] at e1
        refine .inl ⟨.inr ⟨k, c, e1, e2⟩, fun ⟨j, c', e5, e6⟩ => ?_⟩
        obtain ⟨i, u, e7, e8, e9, e10⟩ := lent hp ha e5
        obtain ⟨u', x1, x2⟩ := vmap e6
        cases x1
        rw [e9] at x2; cases x2
        have := g.inj i k a c' c e8 e1 e10 e2
        subst this
        exact nq j c' e7 e8
      · rw [q] at e1
        exact .inr ⟨j, c, e1, vmap' (vj e3 e2)⟩
  -- the slots behind, P: what besides is not to be met
  have gen : ∀ P : Addr → Prop, (∀ x, P x → H x = none) → (∀ x, P x → H' x ≠ none) → Good K T (fun b => exC ex σ env vs sl b ∨ P b) (vs.map some) H' outs → Good K T (fun b => ex b ∨ P b) σ H' (back env as outs) := fun P hP hP' gd => by
    have exP : ∀ a, exO (fun b => ex b ∨ P b) σ (back env as outs) a → exO ex σ env a ∨ P a := fun a h => by
      rcases h with (h | h) | h
      · exact .inl (.inl h)
      · exact .inr h
      · exact .inl (.inr (ow h))
    have mo : ∀ a o, ¬ exO ex σ env a → H a = some o → ¬ exO (fun b => ex b ∨ P b) σ (back env as outs) a ∧ H' a = some o := fun a o n e =>
      ⟨fun z => (exP a z).elim n fun z => (by rw [hP a z] at e; exact nomatch e), s.fr a o e fun z => n (.inr (lo z))⟩
    have mo2 : ∀ a o, ¬ exO (fun b => exC ex σ env vs sl b ∨ P b) (vs.map some) outs a → H' a = some o → ¬ exO (fun b => ex b ∨ P b) σ (back env as outs) a ∧ H' a = some o := fun a o n e => by
      refine ⟨fun z => n ?_, e⟩
      rcases z with (z | z) | z
      · exact (exb a (.inl z)).imp .inl id
      · exact .inl (.inr z)
      · exact (exb a (.inr z)).imp .inl id
    refine ⟨by rw [back_len]; exact g.len, fun k d e => ?_, fun k c e => ?_, fun i j a c c' e1 e2 e3 e4 => ?_, fun a h => ?_⟩
    · rcases cs k with ⟨q, nq⟩ | ⟨j, c', e3, e4, q⟩
      · rw [q] at e
        obtain ⟨v, e1, r⟩ := g.val k d e
        exact ⟨v, e1, r.mono mo⟩
      · rw [q] at e
        obtain ⟨v, e1, r⟩ := gd.val j d e
        obtain ⟨u, x1, x2⟩ := vmap e1
        cases x1
        obtain ⟨a, e5, _, _⟩ := g.own k c' e4
        have := vj e3 e5
        rw [x2] at this; cases this
        exact ⟨_, e5, r.mono mo2⟩
    · rcases cs k with ⟨q, nq⟩ | ⟨j, c', e3, e4, q⟩
      · rw [q] at e
        obtain ⟨a, e1, n, r⟩ := g.own k c e
        refine ⟨a, e1, fun z => z.elim n fun z => r.there (hP a z), r.mono ?_ mo⟩
        cases w : H a with
        | none => exact absurd w r.there
        | some o =>
          refine s.fr a o w fun ⟨j, c', e5, e6⟩ => ?_
          obtain ⟨i, u, e7, e8, e9, e10⟩ := lent hp ha e5
          obtain ⟨u', x1, x2⟩ := vmap e6
          cases x1
          rw [e9] at x2; cases x2
          have := g.inj i k a c' c e8 e e10 e1
          subst this
          exact nq j c' e7 e8
      · rw [q] at e
        obtain ⟨a, e1, n, r⟩ := gd.own j c e
        obtain ⟨u, x1, x2⟩ := vmap e1
        cases x1
        obtain ⟨a', e5, n', r'⟩ := g.own k c' e4
        have := vj e3 e5
        rw [x2] at this; cases this
        exact ⟨a, e5, fun z => z.elim n' fun z => n (.inr z), r.mono rfl mo2⟩
    · obtain ⟨c1, f1⟩ := own2 i c e1
      obtain ⟨c2, f2⟩ := own2 j c' e2
      exact g.inj i j a c1 c2 f1 f2 e3 e4
    · rcases h with h | h
      · exact s.dm a (g.dom a h)
      · exact hP' a h
  have e0 : ∀ ex : Addr → Prop, (fun b => ex b ∨ (fun _ : Addr => False) b) = ex := fun ex => funext fun b => propext ⟨fun h => h.elim id False.elim, .inl⟩
  have g1 : Good K T ex σ H' (back env as outs) := by
    have q := gen (fun _ => False) (fun _ z => z.elim) (fun _ z => z.elim) (by rw [e0]; exact s.gd)
    rw [e0] at q
    exact q
  exact ⟨⟨fun b o e n => s.fr b o e fun z => n (lo z), s.dm, own2, g1⟩, exb, fun x hx gx => gen (fun b => b = x) (fun y e => by subst e; exact hx) (fun y e => by subst e; exact gx.dom y (.inr rfl)) gx⟩
end

/-! ### promises of defs -/
def spD (K : PySem.W.Frag) (T : Tab) (g : M EV) : Sp := fun vs H Q E => tr K T (relE K T) g (fun c d _ H' => E c d H') (vs.map some) H Q
section
variable {K : PySem.W.Frag} {T : Tab} {ex : Addr → Prop} {σ : St} {H H' : Hp} {env : Sl} {W : WX} {Q : VK}
theorem trx_call {g : M EV} {as : List AV} {vs : List V} (h : trx K T (relE K T) ex (callM g as) env W σ H Q) (hp : Paired (fun a v => RepA K T ex σ env H v a) as vs) : spD K T g vs H Q fun c d H' => W c d σ H' := by
  obtain ⟨gd, r, e, o⟩ := h
  unfold callM at e
  by_cases hn : (sidx as).Nodup
  · rw [if_pos hn] at e
    obtain ⟨sl, ha, e⟩ := opt_bind e
    refine ⟨exC ex σ env vs sl, sl, call_good gd hn hp ha, ?_⟩
    cases q : g sl with
    | none => rw [q] at e; cases e
    | some rg =>
      rw [q] at e
      refine ⟨rg, rfl, ?_⟩
      cases rg with
      | ok ev outs =>
        cases e
        intro v H' s rv
        obtain ⟨s', exb, gm⟩ := call_step gd hn hp ha s
        have mo2 : ∀ a o, ¬ exO (exC ex σ env vs sl) (vs.map some) outs a → H' a = some o → ¬ exO ex σ (back env as outs) a ∧ H' a = some o := fun a o n e => ⟨fun z => n (exb a z), e⟩
        refine o v H' s' ?_
        cases ev with
        | v d => exact Rep.mono mo2 rv
        | o c =>
          obtain ⟨a, e1, n, r, gx⟩ := rv
          exact ⟨a, e1, n, r.mono rfl fun b o nb e => ⟨fun z => nb (z.imp (exb b) id), e⟩, gm a n gx⟩
      | exc x outs =>
        cases e
        intro cls dd H' s rx
        obtain ⟨s', exb, gm⟩ := call_step gd hn hp ha s
        refine o cls dd H' s' ⟨rx.1, rx.2.imp id ?_⟩
        rintro ⟨a, ws, e1, e2, l, r⟩
        exact ⟨a, ws, e1, e2, l, r.mono fun a o n e => ⟨fun z => n (exb a z), e⟩⟩
  · rw [if_neg hn] at e; cases e
theorem tr_call {g : M EV} {fs : M (List AV)} (h : tr K T (relE K T) (eCall g fs) W σ H Q) : tr K T (relAs K T) fs W σ H fun vs H1 => spD K T g vs H1 Q fun c d H' => W c d σ H' := by
  obtain ⟨ex, env, h⟩ := h
  exact ⟨ex, env, (trx_bind (relAs K T) rmE h).mono fun vs H1 ⟨as, env1, s1, ra, h1⟩ => trx_call h1 ra⟩
end
/-- room for calls, and no display under way -/
structure RG (k : Nat) (A : Around) : Prop where
  r : Room k A
  g : A.guards = some []
theorem RG.mono {j k : Nat} {A : Around} (h : RG k A) (l : j ≤ k) : RG j A := ⟨h.r.mono l, h.g⟩
theorem RG.deeper {k : Nat} {A : Around} (h : RG (k + 1) A) (env : Env) : RG k (A.deeper env) := ⟨h.r.deeper env, h.g⟩
theorem RG.in1 {k : Nat} {A : Around} (h : RG (k + 1) A) : RG k A.in1 := ⟨h.r.in1, h.g⟩
theorem RG.make {k : Nat} {A : Around} (h : RG (k + 1) A) (C : Addr) (us : List Value) : RG k (A.under (.builtin "type.__call__" ⟨.ref C :: us, []⟩)) := ⟨h.r.make C us [], by
  have e : (Code.builtin "type.__call__" ⟨.ref C :: us, []⟩).isGuard = false := by
    show guardIds.contains "type.__call__" = false
    decide +kernel
  simp [Around.under, Code.guards, e, pushGuards, h.g]⟩
/-- a promise by positional values -/
def FnG (P : Program) (w : World) (K : PySem.W.Frag) (mg : Str → Option Value) (base : Heap) (k : Nat) (f : Addr) (sp : Sp) : Prop :=
  ∀ (A : Around) (outer : List Env) (s : Shared) (H : Hp) (us : List Value) (vs : List V) (Q : VK) (E : XK), RG k A → Env0 P w K mg base A outer s H → Vals vs us → sp vs H Q E →
    codeAny (model P w) A (.call (.ref f) ⟨us, []⟩) (CR (L2.CX P w) outer P w H s Q E) s
theorem FnG.mono {P : Program} {w : World} {K : PySem.W.Frag} {mg : Str → Option Value} {base : Heap} {j k : Nat} {f : Addr} {sp : Sp} (F : FnG P w K mg base j f sp) (h : j ≤ k) : FnG P w K mg base k f sp := fun A outer s H us vs Q E hr => F A outer s H us vs Q E (hr.mono h)
theorem FnG.imp {P : Program} {w : World} {K : PySem.W.Frag} {mg : Str → Option Value} {base : Heap} {k : Nat} {f : Addr} {sp sp' : Sp} (F : FnG P w K mg base k f sp) (h : ∀ vs H Q E, sp' vs H Q E → sp vs H Q E) : FnG P w K mg base k f sp' := fun A outer s H us vs Q E hr e0 r hs => F A outer s H us vs Q E hr e0 r (h _ _ _ _ hs)
/-- a def whose promise is g -/
def FnQ (T : Tab) (X : Cx) (k : Nat) (f : Addr) (g : M EV) : Prop := FnG X.prog X.w X.K X.mg X.base k f (spD X.K T g)
section
variable {X : Cx} {pins : List (Addr × Obj)} {σ : St} {H : Hp} {s : Shared} {W : WX} {k : Nat} {f C : Addr} {sp : Sp} {Q : VK} {us : List Value} {vs : List V} {x : Str} {p pos apos : Pos} {e : Expr} {es : List Expr} {t : TA}
theorem run_at (F : FnG X.prog X.w X.K X.mg X.base k f sp) (hr : RG k X.A) (tk : Takes X W) (I : Inv X pins σ H s) (r : Vals vs us) (h : sp vs H Q fun c d H' => W c d σ H') :
    codeAny (model X.prog X.w) X.A (.call (.ref f) ⟨us, []⟩) (fun r s' => match r with | .ok (.ret v) => EP X pins σ Q v s' | .ok _ => False | .error e => X.xe e s') s := by
  refine codeAny_mono (F X.A X.stack s H us vs Q _ hr I.env0 r h) fun r s' hq => ?_
  cases r with
  | error e => exact tk e s' (XE.of_call I (fun _ _ _ h => h) hq)
  | ok fl =>
    cases fl with
    | ret u => exact I.after hq
    | next => exact False.elim hq
    | brk => exact False.elim hq
    | cont => exact False.elim hq
theorem pe_callQ (F : FnG X.prog X.w X.K X.mg X.base k f sp) (hr : RG k X.A) (tk : Takes X W) (hg : Gl X x) (hm : X.mg x = some (.ref f)) (hk : PySem.W.keepIn X.K (.ref f) = true) (ha : PA X (e :: es) t)
    (hdb : (x == ("__debug__" : Str)) = false := by decide) (he : starEach (e :: es) X.env = (false, eval e X.env) :: starEach es X.env := by rfl) (hpl : (backTo pos (starEach es X.env)).any (·.1) = false := by rfl) :
    PE X (.Call (.Name x p) (e :: es) [] pos) (fun σ H Q => t σ H fun vs H1 => sp vs H1 Q fun c d H' => W c d σ H') := by
  refine ⟨fun pins s σ H Q I h => ?_⟩
  refine wpAny_Call_Name_kw (ld_glob I hg hm ?_ hdb)
  refine PySem.W.callWith_K (h₀ := X.base) I.ok.mod.kin hk (thn (ha.run pos pins s σ H _ I h) fun us s1 ⟨vs, H1, I1, r, q⟩ => ⟨I1.kIn, ?_⟩) he hpl
  exact wpAny_call (run_at F hr tk I1 r q)
theorem pe_callQ0 (F : FnG X.prog X.w X.K X.mg X.base k f sp) (hr : RG k X.A) (tk : Takes X W) (hg : Gl X x) (hm : X.mg x = some (.ref f)) (hk : PySem.W.keepIn X.K (.ref f) = true)
    (hdb : (x == ("__debug__" : Str)) = false := by decide) : PE X (.Call (.Name x p) [] [] pos) (fun σ H Q => sp [] H Q fun c d H' => W c d σ H') := by
  refine ⟨fun pins s σ H Q I h => ?_⟩
  refine wpAny_Call_Name_kw (ld_glob I hg hm ?_ hdb)
  exact PySem.W.callWith_K0 I.kIn hk (wpAny_call (run_at F hr tk I .nil h))
end
section
variable {T : Tab} {X : Cx} {k : Nat} {f : Addr} {g : M EV} {x : Str} {p pos : Pos} {e : Expr} {es : List Expr} {fs : M (List AV)}
theorem qe_call (F : FnQ T X k f g) (hr : RG k X.A) (hg : Gl X x) (hm : X.mg x = some (.ref f)) (hk : PySem.W.keepIn X.K (.ref f) = true) (ha : QAs T X (e :: es) fs) (hdb : (x == ("__debug__" : Str)) = false := by decide)
    (he : starEach (e :: es) X.env = (false, eval e X.env) :: starEach es X.env := by rfl) (hpl : (backTo pos (starEach es X.env)).any (·.1) = false := by rfl) : QE T X (.Call (.Name x p) (e :: es) [] pos) (eCall g fs) :=
  fun pn xe W tk hp => impE (pe_callQ (X := X.tr pn xe) F hr tk hg hm hk (ha pn xe W tk hp) hdb he hpl) fun σ H Q q => tr_call q
theorem qe_call0 (F : FnQ T X k f g) (hr : RG k X.A) (hg : Gl X x) (hm : X.mg x = some (.ref f)) (hk : PySem.W.keepIn X.K (.ref f) = true) (hdb : (x == ("__debug__" : Str)) = false := by decide) : QE T X (.Call (.Name x p) [] [] pos) (eCall g asNil) :=
  fun pn xe W tk hp => impE (pe_callQ0 (X := X.tr pn xe) F hr tk hg hm hk hdb) fun σ H Q q => by
    obtain ⟨ex, env, h⟩ := tr_call q
    obtain ⟨gd, k⟩ := trx_ret h
    exact k [] H (Step.refl gd) .nil
end
end Dt
end
section
set_option maxRecDepth 100000
set_option maxHeartbeats 4000000
/-! QF: statements, loops, try, the promise of a def. -/
namespace Dt
open PySem PySem.Spec L2
open PyProof.Rows hiding St

inductive SR where
  | nx (e : Sl) | bk (e : Sl) | ct (e : Sl) | rt (v : EV) (e : Sl) | exc (x : ExD) (e : Sl)
abbrev S := Sl → Option SR
section
variable (K : PySem.W.Frag) (T : Tab) (np : Nat → Bool)
def OutS (ex : Addr → Prop) (env : Sl) (W : WX) (σ : St) (H : Hp) (D : Ends) : SR → Prop
  | .nx env' => ∀ σ' H', SStep K T np ex σ H env σ' H' env' → D.nx σ' H'
  | .bk env' => ∀ σ' H', SStep K T np ex σ H env σ' H' env' → D.bk σ' H'
  | .ct env' => ∀ σ' H', SStep K T np ex σ H env σ' H' env' → D.ct σ' H'
  | .rt ev env' => ∀ v σ' H', SStep K T np ex σ H env σ' H' env' → RepR K T np ex σ env H σ' env' H' v ev → D.rt v H'
  | .exc x env' => ∀ cls dd σ' H', SStep K T np ex σ H env σ' H' env' → RepX K T (exO ex σ' env') H' cls dd x → W cls dd σ' H'
def tsx (ex : Addr → Prop) (f : S) (env : Sl) (W : WX) (σ : St) (H : Hp) (D : Ends) : Prop := Good K T ex σ H env ∧ ∃ r, f env = some r ∧ OutS K T np ex env W σ H D r
def trS (f : S) (W : WX) : TS := fun D σ H => ∃ ex env, tsx K T np ex f env W σ H D
end
section
variable {K : PySem.W.Frag} {T : Tab} {np : Nat → Bool} {ex : Addr → Prop} {env env1 : Sl} {W : WX} {σ σ1 : St} {H H1 : Hp} {D : Ends}
theorem OutS.back {r : SR} (s : SStep K T np ex σ H env σ1 H1 env1) (o : OutS K T np ex env W σ H D r) : OutS K T np ex env1 W σ1 H1 D r := by
  cases r with
  | nx e => exact fun σ' H' q => o σ' H' (s.trans q)
  | bk e => exact fun σ' H' q => o σ' H' (s.trans q)
  | ct e => exact fun σ' H' q => o σ' H' (s.trans q)
  | rt v e => exact fun v σ' H' q r => o v σ' H' (s.trans q) (RepR.trans s r)
  | exc x e => exact fun c d σ' H' q r => o c d σ' H' (s.trans q) r
theorem RepE.r {v : V} {ev : EV} {env' : Sl} {H' : Hp} (g : Good K T ex σ H env) (s : Step K T ex σ H env H' env') (r : RepE K T ex σ env' H H' v ev) : RepR K T np ex σ env H σ env' H' v ev := by
  cases ev with
  | v d => exact r
  | o c =>
    obtain ⟨a, e, n, h, gx⟩ := r
    exact ⟨a, e, fun q => g.dom a q n, fun q => g.fresh n (.inr (s.owns q)), .inr n, h, gx⟩
/-- an expression, then what is done with its value -/
theorem tsx_expr {α γ : Type} {rel : Rl γ α} {f : M α} {r : SR} (g : Good K T ex σ H env) {q : Option (Re α)} (hq : f env = q) {k : α → Sl → Option SR} (e : (match q with | some (.ok a e) => k a e | some (.exc x e) => some (.exc x e) | none => none) = some r)
    (o : OutS K T np ex env W σ H D r) : trx K T rel ex f env W σ H fun v H1 => ∃ a env1, Step K T ex σ H env H1 env1 ∧ rel ex σ env1 H H1 v a ∧ k a env1 = some r ∧ OutS K T np ex env1 W σ H1 D r := by
  cases q with
  | none => cases e
  | some ra =>
    refine ⟨g, ra, hq, ?_⟩
    cases ra with
    | ok a e1 => exact fun v H' s hr => ⟨a, e1, s, hr, e, o.back s.s⟩
    | exc x e1 => cases e; exact fun c d H' s rx => o c d σ H' s.s rx
end
def sE {α : Type} (f : M α) (k : α → S) : S := fun env => match f env with
  | some (.ok a e) => k a e
  | some (.exc x e) => some (.exc x e)
  | none => none
section
variable {K : PySem.W.Frag} {T : Tab} {np : Nat → Bool} {ex : Addr → Prop} {env env1 : Sl} {W : WX} {σ σ1 : St} {H H1 : Hp} {D : Ends}
theorem trS_expr {α γ : Type} {f : M α} {k : α → S} (h : trS K T np (sE f k) W D σ H) (rel : Rl γ α) : tr K T rel f W σ H fun v H1 => ∃ ex env H0 env1 a, Good K T ex σ H0 env ∧ Step K T ex σ H0 env H1 env1 ∧ rel ex σ env1 H0 H1 v a ∧ tsx K T np ex (k a) env1 W σ H1 D ∧
    ∃ r, k a env1 = some r ∧ OutS K T np ex env W σ H0 D r := by
  obtain ⟨ex, env, g, r, e, o⟩ := h
  refine ⟨ex, env, g, ?_⟩
  unfold sE at e
  cases q : f env with
  | none => rw [q] at e; cases e
  | some ra =>
    rw [q] at e
    refine ⟨ra, rfl, ?_⟩
    cases ra with
    | ok a e1 => exact fun v H' s hr => ⟨ex, env, H, e1, a, g, s, hr, ⟨s.gd, r, e, o.back s.s⟩, r, e, o⟩
    | exc x e1 => cases e; exact fun c d H' s rx => o c d σ H' s.s rx
end

/-! ### judgements -/
section
variable (T : Tab) (X : Cx) (np : Nat → Bool)
def QS (st : Stmt) (f : S) : Prop := ∀ pn xe W, Takes (X.tr pn xe) W → PassesOwn (model X.prog X.w) X.A X.env xe → PS (X.tr pn xe) st (trS X.K T np f W)
def QSs (st : List Stmt) (f : S) : Prop := ∀ pn xe W, Takes (X.tr pn xe) W → PassesOwn (model X.prog X.w) X.A X.env xe → PSs (X.tr pn xe) st (trS X.K T np f W)
end
def sSeq (f g : S) : S := fun env => match f env with
  | some (.nx e) => g e
  | r => r
def sNil : S := fun env => some (.nx env)
def sBreak : S := fun env => some (.bk env)
def sCont : S := fun env => some (.ct env)
def sExpr (f : M EV) : S := sE f fun _ e => some (.nx e)
def sRet (f : M EV) : S := sE f fun v e => some (.rt v e)
def sRetN : S := fun env => some (.rt (.v .non) env)
def sIf (c : M Bool) (f g : S) : S := sE c fun b => if b = true then f else g
def slotOf : EV → Slot
  | .v d => .val d
  | .o c => .own c
def sSet (i : Nat) (f : M EV) : S := sE f fun v e => some (.nx (e.set i (slotOf v)))
/-- return x: what a local owns is given away -/
def sRetV (np : Nat → Bool) (i : Nat) : S := fun env => match env[i]? with
  | some (.val d) => some (.rt (.v d) env)
  | some (.own c) => if np i = false then some (.rt (.o c) (env.set i .emp)) else match frzC c with
    | some d => some (.rt (.v d) (env.set i (.val d)))
    | none => none
  | _ => none
section
variable {K : PySem.W.Frag} {T : Tab} {np : Nat → Bool} {ex : Addr → Prop} {env env0 : Sl} {W : WX} {σ σ1 : St} {H H0 : Hp} {D : Ends}
theorem set_get {α : Type} {l : List α} {i j : Nat} {x y : α} (h : (l.set i x)[j]? = some y) : (j = i ∧ y = x ∧ i < l.length) ∨ (j ≠ i ∧ l[j]? = some y) := by
  by_cases e : j = i
  · subst e
    by_cases hl : j < l.length
    · rw [List.getElem?_set_self hl] at h; exact .inl ⟨rfl, (Option.some.inj h).symm, hl⟩
    · rw [List.getElem?_eq_none (by simpa using hl)] at h; cases h
  · rw [List.getElem?_set_ne (Ne.symm e)] at h; exact .inr ⟨e, h⟩
theorem Good.store {v : V} {ev : EV} {i : Nat} (hi : np i = false) (g0 : Good K T ex σ H0 env0) (s : Step K T ex σ H0 env0 H env) (r : RepE K T ex σ env H0 H v ev) : SStep K T np ex σ H0 env0 (σ.set i (some v)) H (env.set i (slotOf ev)) := by
  have g := s.gd
  by_cases hl : i < env.length
  case neg =>
    have h1 : env.set i (slotOf ev) = env := List.set_eq_of_length_le (by omega)
    have h2 : σ.set i (some v) = σ := List.set_eq_of_length_le (by rw [← g.len]; omega)
    rw [h1, h2]
    exact s.s
  have hσ : i < σ.length := by rw [← g.len]; exact hl
  have σi : (σ.set i (some v))[i]? = some (some v) := List.getElem?_set_self hσ
  have σj : ∀ j, j ≠ i → (σ.set i (some v))[j]? = σ[j]? := fun j h => List.getElem?_set_ne (Ne.symm h)
  have par : ∀ j, np j = true → (σ.set i (some v))[j]? = σ[j]? := fun j h => σj j (fun z => by rw [z, hi] at h; cases h)
  have ln : (σ.set i (some v)).length = σ.length := List.length_set
  have subp : ∀ (j : Nat) (c : OC), np j = true → (env.set i (slotOf ev))[j]? = some (.own c) → ∃ c', env0[j]? = some (.own c') := fun j c hj e => by
    rcases set_get e with ⟨h1, _, _⟩ | ⟨_, h⟩
    · rw [h1, hi] at hj; cases hj
    · exact s.sb j c h
  cases ev with
  | v d =>
    have ow : ∀ {a}, Owns (σ.set i (some v)) (env.set i (slotOf (.v d))) a → Owns σ env a := fun ⟨j, c, e1, e2⟩ => by
      rcases set_get e1 with ⟨_, h, _⟩ | ⟨h1, h2⟩
      · cases h
      · rw [σj j h1] at e2; exact ⟨j, c, h2, e2⟩
    have mo : ∀ a o, ¬ exO ex σ env a → H a = some o → ¬ exO ex (σ.set i (some v)) (env.set i (slotOf (.v d))) a ∧ H a = some o := fun a o n e => ⟨fun z => n (z.imp id ow), e⟩
    refine ⟨s.fr, s.dm, subp, fun j c a hj e e2 => ?_, par, ln, ⟨by rw [List.length_set, List.length_set]; exact g.len, fun j d' e => ?_, fun j c e => ?_, fun j k a c c' e1 e2 e3 e4 => ?_, g.dom⟩⟩
    · rcases set_get e with ⟨_, h, _⟩ | ⟨h1, h2⟩
      · cases h
      · obtain ⟨c', e3⟩ := s.sb j c h2
        rw [σj j h1] at e2
        exact .inl ⟨j, c', hj, e3, e2⟩
    · rcases set_get e with ⟨h1, h, _⟩ | ⟨h1, h2⟩
      · cases h; subst h1; exact ⟨v, σi, Rep.mono mo r⟩
      · obtain ⟨u, e1, q⟩ := g.val j d' h2
        exact ⟨u, by rw [σj j h1]; exact e1, q.mono mo⟩
    · rcases set_get e with ⟨_, h, _⟩ | ⟨h1, h2⟩
      · cases h
      · obtain ⟨a, e1, n, q⟩ := g.own j c h2
        exact ⟨a, by rw [σj j h1]; exact e1, n, q.mono rfl mo⟩
    · rcases set_get e1 with ⟨_, h, _⟩ | ⟨h1, h2⟩
      · cases h
      · rcases set_get e2 with ⟨_, h, _⟩ | ⟨h3, h4⟩
        · cases h
        · rw [σj j h1] at e3
          rw [σj k h3] at e4
          exact g.inj j k a c c' h2 h4 e3 e4
  | o c0 =>
    obtain ⟨x, ev, nx, ro, gx⟩ := r
    subst ev
    have nox : ¬ exO ex σ env x := fun z => g0.fresh nx (s.exO z)
    have ow : ∀ {a}, Owns (σ.set i (some (.ref x))) (env.set i (slotOf (.o c0))) a → Owns σ env a ∨ a = x := fun ⟨j, c, e1, e2⟩ => by
      rcases set_get e1 with ⟨h1, _, _⟩ | ⟨h1, h2⟩
      · subst h1; rw [σi] at e2; cases e2; exact .inr rfl
      · rw [σj j h1] at e2; exact .inl ⟨j, c, h2, e2⟩
    have mo : ∀ a o, ¬ exO (fun b => ex b ∨ b = x) σ env a → H a = some o → ¬ exO ex (σ.set i (some (.ref x))) (env.set i (slotOf (.o c0))) a ∧ H a = some o := fun a o n e => ⟨fun z => n (by
      rcases z with z | z
      · exact .inl (.inl z)
      · rcases ow z with z | z
        · exact .inr z
        · exact .inl (.inr z)), e⟩
    have mo2 : ∀ a o, ¬ (exO ex σ env a ∨ a = x) → H a = some o → ¬ exO ex (σ.set i (some (.ref x))) (env.set i (slotOf (.o c0))) a ∧ H a = some o := fun a o n e => ⟨fun z => n (by
      rcases z with z | z
      · exact .inl (.inl z)
      · exact (ow z).imp .inr id), e⟩
    refine ⟨s.fr, s.dm, subp, fun j c a hj e e2 => ?_, par, ln, ⟨by rw [List.length_set, List.length_set]; exact g.len, fun j d' e => ?_, fun j c e => ?_, fun j k a c c' e1 e2 e3 e4 => ?_, g.dom⟩⟩
    · rcases set_get e with ⟨h1, _, _⟩ | ⟨h1, h2⟩
      · subst h1; rw [σi] at e2; cases e2; exact .inr nx
      · obtain ⟨c', e3⟩ := s.sb j c h2
        rw [σj j h1] at e2
        exact .inl ⟨j, c', hj, e3, e2⟩
    · rcases set_get e with ⟨_, h, _⟩ | ⟨h1, h2⟩
      · cases h
      · obtain ⟨u, e1, q⟩ := gx.val j d' h2
        exact ⟨u, by rw [σj j h1]; exact e1, q.mono mo⟩
    · rcases set_get e with ⟨h1, h, _⟩ | ⟨h1, h2⟩
      · cases h; subst h1; exact ⟨x, σi, fun z => nox (.inl z), ro.mono rfl mo2⟩
      · obtain ⟨a, e1, n, q⟩ := gx.own j c h2
        exact ⟨a, by rw [σj j h1]; exact e1, fun z => n (.inl z), q.mono rfl mo⟩
    · have nj : ∀ {j : Nat} {c : OC}, env[j]? = some (.own c) → σ[j]? ≠ some (some (V.ref x)) := fun {j c} h z => nox (.inr ⟨j, c, h, z⟩)
      rcases set_get e1 with ⟨h1, _, _⟩ | ⟨h1, h2⟩
      · subst h1
        rw [σi] at e3
        cases e3
        rcases set_get e2 with ⟨h3, _, _⟩ | ⟨h3, h4⟩
        · exact h3.symm
        · rw [σj k h3] at e4; exact absurd e4 (nj h4)
      · rw [σj j h1] at e3
        rcases set_get e2 with ⟨h3, _, _⟩ | ⟨h3, h4⟩
        · subst h3; rw [σi] at e4; cases e4; exact absurd e3 (nj h2)
        · rw [σj k h3] at e4
          exact g.inj j k a c c' h2 h4 e3 e4
/-- what a local owns, given away -/
theorem Good.give (g : Good K T ex σ H env) {i : Nat} {c : OC} (hi : np i = false) (e : env[i]? = some (.own c)) :
    ∃ a, σ[i]? = some (some (V.ref a)) ∧ SStep K T np ex σ H env σ H (env.set i .emp) ∧ RepR K T np ex σ env H σ (env.set i .emp) H (.ref a) (.o c) := by
  obtain ⟨a, ea, na, ra⟩ := g.own i c e
  have get : ∀ {j : Nat} {s : Slot}, (env.set i .emp)[j]? = some s → s ≠ .emp → j ≠ i ∧ env[j]? = some s := fun {j s} h n => by
    rcases set_get h with ⟨_, h2, _⟩ | h
    · exact absurd h2 n
    · exact h
  have ow : ∀ {b}, Owns σ (env.set i .emp) b → Owns σ env b ∧ b ≠ a := fun {b} ⟨j, c', e1, e2⟩ => by
    obtain ⟨h1, h2⟩ := get e1 (fun z => nomatch z)
    exact ⟨⟨j, c', h2, e2⟩, fun z => h1 (by subst z; exact g.inj j i b c' c h2 e e2 ea)⟩
  have no : ∀ b, exO (fun b => ex b ∨ b = a) σ (env.set i .emp) b → exO ex σ env b := fun b h => by
    rcases h with (h | h) | h
    · exact .inl h
    · subst h; exact .inr ⟨i, c, e, ea⟩
    · exact .inr (ow h).1
  have mo : ∀ b o, ¬ exO ex σ env b → H b = some o → ¬ exO (fun b => ex b ∨ b = a) σ (env.set i .emp) b ∧ H b = some o := fun b o n q => ⟨fun z => n (no b z), q⟩
  have gx : Good K T (fun b => ex b ∨ b = a) σ H (env.set i .emp) := by
    refine ⟨by rw [List.length_set]; exact g.len, fun j d q => ?_, fun j c' q => ?_, fun j k b c1 c2 q1 q2 q3 q4 => ?_, fun b h => ?_⟩
    · obtain ⟨_, h⟩ := get q (fun z => nomatch z)
      obtain ⟨v, e1, r⟩ := g.val j d h
      exact ⟨v, e1, r.mono mo⟩
    · obtain ⟨h1, h⟩ := get q (fun z => nomatch z)
      obtain ⟨b, e1, n, r⟩ := g.own j c' h
      exact ⟨b, e1, fun z => z.elim n fun z => h1 (by subst z; exact g.inj j i b c' c h e e1 ea), r.mono rfl mo⟩
    · exact g.inj j k b c1 c2 (get q1 fun z => nomatch z).2 (get q2 fun z => nomatch z).2 q3 q4
    · rcases h with h | h
      · exact g.dom b h
      · subst h; exact ra.there
  have g1 : Good K T ex σ H (env.set i .emp) := by
    have mo' : ∀ b o, ¬ exO (fun b => ex b ∨ b = a) σ (env.set i .emp) b → H b = some o → ¬ exO ex σ (env.set i .emp) b ∧ H b = some o := fun b o n q => ⟨fun z => n (z.imp .inl id), q⟩
    refine ⟨gx.len, fun j d q => ?_, fun j c' q => ?_, gx.inj, fun b h => gx.dom b (.inl h)⟩
    · obtain ⟨v, e1, r⟩ := gx.val j d q
      exact ⟨v, e1, r.mono mo'⟩
    · obtain ⟨b, e1, n, r⟩ := gx.own j c' q
      exact ⟨b, e1, fun z => n (.inl z), r.mono rfl mo'⟩
  refine ⟨a, ea, ⟨fun _ _ q _ => q, fun _ q => q, fun j c' _ q => ⟨c', (get q fun z => nomatch z).2⟩, fun j c' b hj q1 q2 => .inl ⟨j, c', hj, (get q1 fun z => nomatch z).2, q2⟩, fun _ _ => rfl, rfl, g1⟩,
    a, rfl, na, fun z => (ow z).2 rfl, .inl ⟨i, c, hi, e, ea⟩, ra.mono rfl fun b o n q => ⟨fun z => n ?_, q⟩, gx⟩
  rcases z with z | z
  · exact z.elim .inl fun z => .inr (ow z).1
  · subst z; exact .inr ⟨i, c, e, ea⟩
end
section
variable {T : Tab} {X : Cx} {np : Nat → Bool} {pos : Pos} {e : Expr} {st : Stmt} {rest : List Stmt} {f : M EV} {p q : S}
theorem qss_nil : QSs T X np [] sNil := fun pn xe W tk hp => impSs pss_nil fun D σ H ⟨ex, env, g, r, e, o⟩ => by cases e; exact o σ H (SStep.refl g)
theorem qss_cons (h : QS T X np st p) (k : QSs T X np rest q) : QSs T X np (st :: rest) (sSeq p q) := fun pn xe W tk hp => impSs (pss_cons (h pn xe W tk hp) (k pn xe W tk hp)) fun D σ H ⟨ex, env, g, r, e, o⟩ => by
  unfold sSeq at e
  refine ⟨ex, env, g, ?_⟩
  cases w : p env with
  | none => rw [w] at e; cases e
  | some rp =>
    rw [w] at e
    refine ⟨rp, rfl, ?_⟩
    cases rp with
    | nx env1 => exact fun σ' H' s => ⟨ex, env1, s.gd, r, e, o.back s⟩
    | _ => cases e; exact o
theorem qss_one (h : QS T X np st p) : QSs T X np [st] p := fun pn xe W tk hp => pss_one (h pn xe W tk hp)
theorem qs_pass : QS T X np (.Pass pos) sNil := fun pn xe W tk hp => impS ps_pass fun D σ H ⟨ex, env, g, r, e, o⟩ => by cases e; exact o σ H (SStep.refl g)
theorem qs_break : QS T X np (.Break pos) sBreak := fun pn xe W tk hp => impS ps_break fun D σ H ⟨ex, env, g, r, e, o⟩ => by cases e; exact o σ H (SStep.refl g)
theorem qs_continue : QS T X np (.Continue pos) sCont := fun pn xe W tk hp => impS ps_continue fun D σ H ⟨ex, env, g, r, e, o⟩ => by cases e; exact o σ H (SStep.refl g)
theorem qs_expr (h : QE T X e f) (hs : swapsWith e none pos.line X.env = pure false := by rfl) : QS T X np (.Expr e pos) (sExpr f) := fun pn xe W tk hp => impS (ps_expr (X := X.tr pn xe) (h pn xe W tk hp) hs) fun D σ H q => by
  obtain ⟨ex, env, z⟩ := trS_expr q (relE X.K T)
  refine ⟨ex, env, z.mono fun v H1 ⟨ex, env, H0, env1, a, g, s, ra, _, r, e, o⟩ => ?_⟩
  cases e
  exact o σ H1 s.s
theorem qs_ret (h : QE T X e f) : QS T X np (.Return (some e) pos) (sRet f) := fun pn xe W tk hp => impS (ps_ret (h pn xe W tk hp)) fun D σ H q => by
  obtain ⟨ex, env, z⟩ := trS_expr q (relE X.K T)
  refine ⟨ex, env, z.mono fun v H1 ⟨ex, env, H0, env1, a, g, s, ra, _, r, e, o⟩ => ?_⟩
  cases e
  exact o v σ H1 s.s (RepE.r g s ra)
theorem qs_retN : QS T X np (.Return none pos) sRetN := fun pn xe W tk hp => impS ps_retN fun D σ H ⟨ex, env, g, r, e, o⟩ => by cases e; exact o .non σ H (SStep.refl g) rfl
theorem qs_if {c : Expr} {a b : List Stmt} {t : M Bool} (hc : QT T X c t) (ha : QSs T X np a p) (hb : QSs T X np b q) : QS T X np (.If c a b pos) (sIf t p q) := fun pn xe W tk hp => impS (ps_if (hc pn xe W tk hp) (ha pn xe W tk hp) (hb pn xe W tk hp)) fun D σ H z => by
  obtain ⟨ex, env, z⟩ := trS_expr z relT
  refine ⟨ex, env, z.mono fun c H1 ⟨ex, env, H0, env1, a, g, s, ra, t, _⟩ => ?_⟩
  have ra : c = a := ra
  subst ra
  cases c with
  | true => exact ⟨ex, env1, t⟩
  | false => exact ⟨ex, env1, t⟩
theorem qs_set (i : Nat) {x : Str} {pos' : Pos} (hN : X.N.Nodup) (h : QE T X e f) (hi : X.N[i]? = some x := by rfl) (hx : Loc X.env.scope x := by first | exact Or.inl rfl | exact Or.inr rfl) (hnp : np i = false := by rfl)
    (hs : swapsWith e (some (.Name x pos')) pos.line X.env = pure false := by rfl) (hf : X.fn x = true ∨ X.env.scope.names.lookup x = some .local := by first | exact .inl rfl | exact .inr rfl) : QS T X np (.Assign [.Name x pos'] e pos) (sSet i f) :=
  fun pn xe W tk hp => impS (ps_set (X := X.tr pn xe) hN hi hx (h pn xe W tk hp) hs hf) fun D σ H q => by
    obtain ⟨ex, env, z⟩ := trS_expr q (relE X.K T)
    refine ⟨ex, env, z.mono fun v H1 ⟨ex, env, H0, env1, a, g, s, ra, _, r, e, o⟩ => ?_⟩
    cases e
    exact o _ H1 (Good.store hnp g s ra)
theorem qs_retV (i : Nat) {x : Str} {p : Pos} (hN : X.N[i]? = some x := by rfl) (hv : Vis X.env.scope x := by first | exact Or.inl rfl | exact Or.inr (Or.inl rfl) | exact Or.inr (Or.inr rfl))
    (hd : (x == ("__debug__" : Str)) = false := by decide) (hcd : (x == ("__classdict__" : Str)) = false := by decide) : QS T X np (.Return (some (.Name x p)) pos) (sRetV np i) :=
  fun pn xe W tk hp => impS (ps_ret (pe_var (X := X.tr pn xe) (i := i) hN hv hd hcd)) fun D σ H ⟨ex, env, g, r, e, o⟩ => by
    unfold sRetV at e
    cases w : env[i]? with
    | none => rw [w] at e; cases e
    | some s =>
      rw [w] at e
      cases s with
      | emp => cases e
      | val d =>
        cases e
        obtain ⟨v, e1, h1⟩ := g.val i d w
        exact ⟨v, e1, o v σ H (SStep.refl g) h1⟩
      | own c =>
        dsimp only at e
        by_cases hi : np i = false
        · rw [if_pos hi] at e
          cases e
          obtain ⟨a, e1, s, r⟩ := g.give hi w
          exact ⟨.ref a, e1, o _ σ H s r⟩
        · rw [if_neg hi] at e
          cases fc : frzC c with
          | none => rw [fc] at e; cases e
          | some d =>
            rw [fc] at e
            cases e
            obtain ⟨s, a, e1, rd⟩ := g.freeze w fc
            exact ⟨.ref a, e1, o _ σ H s.s rd⟩
end

/-! ### a def -/
def lt (np : Nat) : Nat → Bool := fun i => decide (i < np)
def funD (n np : Nat) (body : S) : M EV := fun args => if args.length = np then match body (args ++ List.replicate (n - np) .emp) with
  | some (.rt v e) => some (.ok v (e.take np))
  | some (.nx e) => some (.ok (.v .non) (e.take np))
  | some (.exc x e) => some (.exc x (e.take np))
  | _ => none
  else none
section
variable {K : PySem.W.Frag} {T : Tab} {ex : Addr → Prop} {args env' : Sl} {vs : List V} {σ' : St} {H H' : Hp} {n np : Nat}
theorem app_get {α : Type} {l : List α} {k j : Nat} {x y : α} (h : (l ++ List.replicate k x)[j]? = some y) : (j < l.length ∧ l[j]? = some y) ∨ (l.length ≤ j ∧ y = x) := by
  by_cases e : j < l.length
  · rw [List.getElem?_append_left e] at h; exact .inl ⟨e, h⟩
  · rw [List.getElem?_append_right (by omega), List.getElem?_replicate] at h
    split at h
    · cases h; exact .inr ⟨by omega, rfl⟩
    · cases h
theorem start_owns {k k' : Nat} (hl : args.length = vs.length) {a : Addr} : Owns (vs.map some ++ List.replicate k none) (args ++ List.replicate k' .emp) a ↔ Owns (vs.map some) args a := by
  constructor
  · rintro ⟨j, c, e1, e2⟩
    rcases app_get e1 with ⟨h1, h2⟩ | ⟨_, h⟩
    · rcases app_get e2 with ⟨_, h3⟩ | ⟨h4, _⟩
      · exact ⟨j, c, h2, h3⟩
      · rw [List.length_map] at h4; omega
    · cases h
  · rintro ⟨j, c, e1, e2⟩
    have h1 := (List.getElem?_eq_some_iff.mp e1).1
    refine ⟨j, c, ?_, ?_⟩
    · rw [List.getElem?_append_left h1]; exact e1
    · rw [List.getElem?_append_left (by rw [List.length_map]; omega)]; exact e2
theorem start_good (hnp : args.length = np) (hn : np ≤ n) (g : Good K T ex (vs.map some) H args) : Good K T ex (vs.map some ++ List.replicate (n - vs.length) none) H (args ++ List.replicate (n - np) .emp) := by
  have hl : args.length = vs.length := by have := g.len; rwa [List.length_map] at this
  have eo : exO ex (vs.map some ++ List.replicate (n - vs.length) none) (args ++ List.replicate (n - np) .emp) = exO ex (vs.map some) args := funext fun a => propext (or_congr Iff.rfl (start_owns hl))
  have up : ∀ {i : Nat} {x : Option V}, (vs.map some)[i]? = some x → (vs.map some ++ List.replicate (n - vs.length) none)[i]? = some x := fun {i x} h => by
    rw [List.getElem?_append_left (List.getElem?_eq_some_iff.mp h).1]; exact h
  refine ⟨by simp only [List.length_append, List.length_map, List.length_replicate]; omega, fun i d e => ?_, fun i c e => ?_, fun i j a c c' e1 e2 e3 e4 => ?_, g.dom⟩
  · rw [eo]
    rcases app_get e with ⟨_, h⟩ | ⟨_, h⟩
    · obtain ⟨v, e1, r⟩ := g.val i d h; exact ⟨v, up e1, r⟩
    · cases h
  · rw [eo]
    rcases app_get e with ⟨_, h⟩ | ⟨_, h⟩
    · obtain ⟨v, e1, n, r⟩ := g.own i c h; exact ⟨v, up e1, n, r⟩
    · cases h
  · rcases app_get e1 with ⟨h1, h2⟩ | ⟨_, h⟩
    · rcases app_get e2 with ⟨h3, h4⟩ | ⟨_, h⟩
      · rw [List.getElem?_append_left (by rw [List.length_map]; omega)] at e3 e4
        exact g.inj i j a c c' h2 h4 e3 e4
      · cases h
    · cases h
theorem end_step (hnp : args.length = np) (hn : np ≤ n) (g : Good K T ex (vs.map some) H args) (s : SStep K T (lt np) ex (vs.map some ++ List.replicate (n - vs.length) none) H (args ++ List.replicate (n - np) .emp) σ' H' env') :
    Step K T ex (vs.map some) H args H' (env'.take np) ∧ (∀ a, exO ex (vs.map some) (env'.take np) a → exO ex σ' env' a) ∧ ∀ x, Good K T (fun b => ex b ∨ b = x) σ' H' env' → Good K T (fun b => ex b ∨ b = x) (vs.map some) H' (env'.take np) := by
  have hl : args.length = vs.length := by have := g.len; rwa [List.length_map] at this
  have tk : ∀ {i : Nat} {x : Slot}, (env'.take np)[i]? = some x → i < np ∧ env'[i]? = some x := fun {i x} h => by
    rw [List.getElem?_take] at h
    split at h
    · exact ⟨by assumption, h⟩
    · cases h
  have par : ∀ i, i < np → σ'[i]? = (vs.map some)[i]? := fun i h => by
    rw [s.par i (decide_eq_true h), List.getElem?_append_left (by rw [List.length_map]; omega)]
  have ow : ∀ {a}, Owns (vs.map some) (env'.take np) a → Owns σ' env' a := fun ⟨i, c, e1, e2⟩ => ⟨i, c, (tk e1).2, by rw [par i (tk e1).1]; exact e2⟩
  have gen : ∀ ex2 : Addr → Prop, Good K T ex2 σ' H' env' → Good K T ex2 (vs.map some) H' (env'.take np) := fun ex2 gd => by
    have mo : ∀ a o, ¬ exO ex2 σ' env' a → H' a = some o → ¬ exO ex2 (vs.map some) (env'.take np) a ∧ H' a = some o := fun a o n e => ⟨fun z => n (z.imp id ow), e⟩
    refine ⟨?_, fun i d e => ?_, fun i c e => ?_, fun i j a c c' e1 e2 e3 e4 => ?_, gd.dom⟩
    · have h1 := s.gd.len
      rw [List.length_take, List.length_map]
      -- the slots' number
      have h2 : np ≤ σ'.length := by
        rcases Nat.lt_or_ge σ'.length np with q | q
        · have := par σ'.length q
          rw [List.getElem?_eq_none (Nat.le_refl _)] at this
          have h3 : σ'.length < (vs.map some).length := by rw [List.length_map]; omega
          rw [List.getElem?_eq_getElem h3] at this
          cases this
        · exact q
      omega
    · obtain ⟨v, e1, r⟩ := gd.val i d (tk e).2
      exact ⟨v, by rw [← par i (tk e).1]; exact e1, r.mono mo⟩
    · obtain ⟨a, e1, n, r⟩ := gd.own i c (tk e).2
      exact ⟨a, by rw [← par i (tk e).1]; exact e1, n, r.mono rfl mo⟩
    · exact gd.inj i j a c c' (tk e1).2 (tk e2).2 (by rw [par i (tk e1).1]; exact e3) (by rw [par j (tk e2).1]; exact e4)
  refine ⟨⟨fun b o e nb => s.fr b o e fun z => nb ((start_owns hl).mp z), s.dm, fun i c e => ?_, gen ex s.gd⟩, fun a h => h.imp id ow, fun x => gen _⟩
  obtain ⟨h1, h2⟩ := tk e
  obtain ⟨c', e3⟩ := s.sbp i c (decide_eq_true h1) h2
  rcases app_get e3 with ⟨_, h⟩ | ⟨_, h⟩
  · exact ⟨c', h⟩
  · cases h
end
section
variable {P : Program} {w : World} {K : PySem.W.Frag} {mg : Str → Option Value} {base : Heap} {T : Tab}
theorem fun_len {body : S} {n np : Nat} {vs : List V} {H : Hp} {Q : VK} {E : XK} (h : spD K T (funD n np body) vs H Q E) : vs.length = np := by
  obtain ⟨ex, env, g, r, e, _⟩ := h
  unfold funD at e
  by_cases hl : env.length = np
  · have := g.len; rw [List.length_map] at this; omega
  · rw [if_neg hl] at e; cases e
theorem sp_body {st : Stmt} {qual : Str} {f : Addr} {N ps : List Str} {body : S} {cdv : Value} {A : Around} {outer : List Env} {s : Shared} {H : Hp} {E : XK} {vs : List V} {Q : VK} (hpl : ps.length ≤ N.length)
    (q : QSs T (cxOf (L2.CX P w) P w K mg base N qual (defScope st) f cdv A outer s H E) (lt ps.length) (defBody st) body) (hsp : spD K T (funD N.length ps.length body) vs H Q E) :
    ∃ t, PSs (cxOf (L2.CX P w) P w K mg base N qual (defScope st) f cdv A outer s H E) (defBody st) t ∧ t { nx := fun _ H' => Q .non H', rt := Q } (start N vs) H := by
  have q := q (cxOf (L2.CX P w) P w K mg base N qual (defScope st) f cdv A outer s H E).pn (cxOf (L2.CX P w) P w K mg base N qual (defScope st) f cdv A outer s H E).xe (fun c d _ H => E c d H) (takes_of rfl rfl rfl rfl) (passes_of rfl)
  refine ⟨_, q, ?_⟩
  obtain ⟨ex, args, g, r, e, o⟩ := hsp
  unfold funD at e
  by_cases hl : args.length = ps.length
  · rw [if_pos hl] at e
    refine ⟨ex, _, start_good hl hpl g, ?_⟩
    cases w : body (args ++ List.replicate (N.length - ps.length) .emp) with
    | none => rw [w] at e; cases e
    | some rb =>
      rw [w] at e
      refine ⟨rb, rfl, ?_⟩
      cases rb with
      | bk _ => cases e
      | ct _ => cases e
      | nx e1 =>
        cases e
        intro σ' H' s
        obtain ⟨s', _, _⟩ := end_step hl hpl g s
        exact o .non H' s' rfl
      | rt v e1 =>
        cases e
        intro u σ' H' s rr
        obtain ⟨s', exb, gm⟩ := end_step hl hpl g s
        refine o u H' s' ?_
        cases v with
        | v d => exact Rep.mono (fun a o n e => ⟨fun z => n (exb a z), e⟩) rr
        | o c =>
          obtain ⟨a, ev, na, no, hn, ro, gx⟩ := rr
          refine ⟨a, ev, ?_, ro.mono rfl fun b o n e => ⟨fun z => n (z.imp (exb b) id), e⟩, gm a gx⟩
          rcases hn with ⟨j, c', hj, e1, _⟩ | hn
          · rcases app_get e1 with ⟨h1, _⟩ | ⟨_, h⟩
            · have := of_decide_eq_false hj; omega
            · cases h
          · exact hn
      | exc x e1 =>
        cases e
        intro cls dd σ' H' s rx
        obtain ⟨s', exb, _⟩ := end_step hl hpl g s
        refine o cls dd H' s' ⟨rx.1, rx.2.imp id ?_⟩
        rintro ⟨a, ws, e1, e2, l, r⟩
        exact ⟨a, ws, e1, e2, l, r.mono fun a o n e => ⟨fun z => n (exb a z), e⟩⟩
  · rw [if_neg hl] at e; cases e
theorem Fun.q {x qual : Str} {st : Stmt} {f : Addr} {fd : FuncData} {N ps : List Str} {k : Nat} {body : S} (F : Fun K x qual st f fd) (Sc : FnScope N ps (defScope st)) (bd : Binds K fd ps [])
    (hb : ∀ (cdv : Value) (A : Around) (outer : List Env) (s : Shared) (H : Hp) (E : XK), RG k (A.deeper (envOfC qual (defScope st) s.heap.objs.size f cdv)) →
      QSs T (cxOf (L2.CX P w) P w K mg base N qual (defScope st) f cdv A outer s H E) (lt ps.length) (defBody st) body) :
    FnG P w K mg base (k + 1) f (spD K T (funD N.length ps.length body)) := by
  have hpl : ps.length ≤ N.length := by have := congrArg List.length Sc.pre; rw [List.length_take] at this; omega
  obtain ⟨oc, od, kV, doc, pm, an, cdv, ct, osl, rfl, lk, hcd⟩ := F.ex
  intro A outer s H us vs Q E hr e0 r hsp
  have hl : vs.length = ps.length := fun_len hsp
  have KX : K.In s.heap := e0.mod.kin.keeps fun b o e => (e0.bs b o e).1
  have lim : s.heap.NoLimit := e0.mod.nolimit.keeps fun b o e => (e0.bs b o e).1
  have hb2 := bd s us KX (by rw [List.append_nil, ← r.length]; exact hl)
  rw [List.append_nil] at hb2
  have hkind : ∀ y ∈ ps.zip us, (defScope st).names.lookup y.1 = some .local ∨ ((defScope st).names.lookup y.1 = some .cell ∧ ((cellsFrom (s.heap.objs.size + 1) (defScope st).names []).lookup y.1).isSome = true) := fun ⟨n, v⟩ hy => by
    rcases Sc.par n (List.of_mem_zip hy).1 with q | q
    · exact .inl q
    · exact .inr ⟨q, PySem.W.cellsFrom_some _ _ _ (.inl q)⟩
  refine codeAny_call_function hr.r.depth (KX _ _ lk) rfl Sc.co Sc.gen rfl (PySem.W.codeRec_of KX hcd) (hb2 _ _ _ _ ?_)
  refine wpAny_newFunctionEnv_cells Sc.kind hkind fun env he s1 x => ?_
  subst he
  refine ⟨lim.keeps x.toInCall.keep, codeAny_func ?_⟩
  obtain ⟨t, ht, hq⟩ := sp_body hpl (hb cdv A outer s H E (hr.deeper _)) hsp
  have I : Inv (cxOf (L2.CX P w) P w K mg base N qual (defScope st) f cdv A outer s H E) [] (start N vs) H s1 := inv_start Sc hr.r.hd e0 hl r x
  refine wpAny_mono (ht.run [] s1 (start N vs) H _ I hq) (fun fl s' hs => ?_) fun e s' hs => hs
  have fin : ∀ {σ' : St} {H' : Hp} {v : V} {u : Value}, Inv (cxOf (L2.CX P w) P w K mg base N qual (defScope st) f cdv A outer s H E) [] σ' H' s' → RelV v u → Q v H' → CE outer P w H s Q u s' :=
    fun {σ' H' v u} J rv q => ⟨v, H', J.os, J.bare, J.base, J.hok, rv, q⟩
  cases fl with
  | ret u =>
    obtain ⟨v, σ', H', J, rv, q⟩ := hs
    exact fin J rv q
  | next =>
    obtain ⟨σ', H', J, q⟩ := hs
    exact fin (v := V.non) (u := Value.none) J rfl q
  | brk =>
    obtain ⟨_, _, _, q⟩ := hs
    exact False.elim q
  | cont =>
    obtain ⟨_, _, _, q⟩ := hs
    exact False.elim q
/-- a better known function in its place -/
theorem spD_imp {g g' : M EV} (h : ∀ args r, g' args = some r → g args = some r) {vs : List V} {H : Hp} {Q : VK} {E : XK} (q : spD K T g' vs H Q E) : spD K T g vs H Q E := by
  obtain ⟨ex, env, gd, r, e, o⟩ := q
  exact ⟨ex, env, gd, r, h _ _ e, o⟩
end
end Dt
end
section
set_option maxRecDepth 100000
set_option maxHeartbeats 4000000
/-! QG: what is walked; targets; for, while, list comprehensions; raise and try. -/
namespace Dt
open PySem PySem.Spec L2
open PyProof.Rows hiding St

/-! ### what is walked -/
def Keep (exs : Addr → Prop) (H1 H : Hp) : Prop := ∀ b o, ¬ exs b → H1 b = some o → H b = some o
structure ItOK (K : PySem.W.Frag) (T : Tab) (exs : Addr → Prop) (H1 : Hp) (J : It) (items : List D) : Prop where
  len : items.length ≤ sizeLine
  go : ∀ i H, i < items.length → Keep exs H1 H → J.go i H
  stop : ∀ H, Keep exs H1 H → J.stop items.length H
  yld : ∀ (i : Nat) (H : Hp) (x : V) (H' : Hp) (d : D), items[i]? = some d → Keep exs H1 H → J.yld i H x H' → Ext H H' ∧ ∀ ex', (∀ b o, ¬ exs b → H1 b = some o → ¬ ex' b) → (∀ b, ex' b → H b ≠ none) → Rep K T ex' H' d x
def relI (K : PySem.W.Frag) (T : Tab) : Rl It (List D) := fun ex σ env' _ H' J items => ItOK K T (exO ex σ env') H' J items
theorem rmI {K : PySem.W.Frag} {T : Tab} : RM (relI K T) := fun _ _ _ _ _ _ _ _ _ r => r
def QI (T : Tab) (X : Cx) (tg iter : Expr) (f : M (List D)) : Prop := ∀ pn xe W, Takes (X.tr pn xe) W → PassesOwn (model X.prog X.w) X.A X.env xe → PI (X.tr pn xe) tg iter (tr X.K T (relI X.K T) f W)
theorem impI {X : Cx} {tg e : Expr} {t t' : TI} (h : PI X tg e t) (k : ∀ σ H Q, t' σ H Q → t σ H Q) : PI X tg e t' := ⟨fun pins s σ H Q I q => h.run pins s σ H Q I (k σ H Q q)⟩
theorem impG {X : Cx} {e : Expr} {t t' : TG} (h : PG X e t) (k : ∀ v σ H Q, t' v σ H Q → t v σ H Q) : PG X e t' := ⟨fun pins s σ H v u Q I r q => h.run pins s σ H v u Q I r (k v σ H Q q)⟩

/-- a list, a tuple, a text: its items (what owns the list lets it go) -/
def itemsOf : D → Option (List D)
  | .lst ds => some ds
  | .tup ds => some ds
  | .str s => if s.length ≤ 1000000 then some (s.map fun c => .str [c]) else none
  | _ => none
def iOf (f : M EV) : M (List D) := M.bind f fun ev => match frz ev with
  | some d => lift (itemsOf d)
  | none => M.stuck
section
variable {K : PySem.W.Frag} {T : Tab} {exs : Addr → Prop} {H1 : Hp}
theorem itok_list {a : Addr} {vs : List V} {ds : List D} (hz : vs.length ≤ sizeLine) (h : ¬ exs a ∧ H1 a = some (.lst vs)) (r : RepL K T exs H1 ds vs) : ItOK K T exs H1 (Itl K a) ds := by
  have sq : ∀ H, Keep exs H1 H → SqL K H a vs := fun H k => SqL.of (k a _ h.1 h.2)
  have hl := r.length
  refine ⟨by omega, fun i H hi k => ?_, fun H k => ⟨vs, sq H k, by omega⟩, fun i H x H' d hd k y => ?_⟩
  · have : i < vs.length := by omega
    exact ⟨vs, vs[i], sq H k, List.getElem?_eq_getElem this⟩
  · obtain ⟨e, q⟩ := y
    subst e
    obtain ⟨v, e1, rv⟩ := r.get hd
    rw [q vs (sq _ k)] at e1
    cases e1
    exact ⟨fun _ _ q => q, fun ex' n1 _ => rv.mono fun b o nb e => ⟨n1 b o nb e, k b o nb e⟩⟩
theorem itok_tup {a : Addr} {vs : List V} {ds : List D} (hz : vs.length ≤ sizeLine) (h : ¬ exs a ∧ H1 a = some (.tup vs)) (r : RepL K T exs H1 ds vs) : ItOK K T exs H1 (Itt K a) ds := by
  have sq : ∀ H, Keep exs H1 H → SqT K H a vs := fun H k => SqT.of (k a _ h.1 h.2)
  have hl := r.length
  refine ⟨by omega, fun i H hi k => ?_, fun H k => ⟨vs, sq H k, by omega⟩, fun i H x H' d hd k y => ?_⟩
  · have : i < vs.length := by omega
    exact ⟨vs, vs[i], sq H k, List.getElem?_eq_getElem this⟩
  · obtain ⟨e, q⟩ := y
    subst e
    obtain ⟨v, e1, rv⟩ := r.get hd
    rw [q vs (sq _ k)] at e1
    cases e1
    exact ⟨fun _ _ q => q, fun ex' n1 _ => rv.mono fun b o nb e => ⟨n1 b o nb e, k b o nb e⟩⟩
theorem itok_str {s : List Nat} (hs : s.length ≤ 1000000) : ItOK K T exs H1 (Its (mkS s)) (s.map fun c => .str [c]) := by
  have hz : (mkS s).cps.size = s.length := by simp [mkS]
  refine ⟨by rw [List.length_map, sizeLine_eq]; omega, fun i H hi k => ?_, fun H k => ?_, fun i H x H' d hd k y => ?_⟩
  · rw [List.length_map] at hi
    show i < (mkS s).cps.size
    omega
  · show (mkS s).cps.size ≤ _
    rw [List.length_map]; omega
  · obtain ⟨e, c, e1, e2⟩ := y
    subst e e2
    refine ⟨fun _ _ q => q, fun ex' _ _ => ?_⟩
    have e3 : s[i]? = some c := by rw [← e1, ← Array.getElem?_toList, mkS_cps]
    rw [List.getElem?_map, e3] at hd
    cases hd
    show V.str ⟨#[c]⟩ = V.str (mkS [c])
    rfl
theorem itok_range {n : Nat} {lo : Int} (hn : n ≤ 2000000) : ItOK K T exs H1 (Itr lo n) ((List.range n).map fun (i : Nat) => D.int (lo + (i : Int))) := by
  refine ⟨by rw [List.length_map, List.length_range, sizeLine_eq]; omega, fun i H hi k => (show i < n by simpa using hi), fun H k => (by simp [Itr]), fun i H x H' d hd k y => ?_⟩
  obtain ⟨e, e1⟩ := y
  subst e e1
  refine ⟨fun _ _ q => q, fun ex' _ _ => ?_⟩
  rw [List.getElem?_map] at hd
  cases q : (List.range n)[i]? with
  | none => rw [q] at hd; cases hd
  | some j =>
    rw [q] at hd; cases hd
    have := List.getElem?_range (n := n) (i := i) (by have := (List.getElem?_eq_some_iff.mp q).1; simpa using this)
    rw [this] at q; cases q
    exact rfl
end
section
variable {X : Cx} {tg : Expr}
def iListL (K : PySem.W.Frag) (tl : TE) : TI := fun σ H R => tl σ H fun x H1 => ∃ a xs, x = .ref a ∧ SqL K H1 a xs ∧ (xs.length ≤ sizeLine → R (Itl K a) H1)
def iTupL (K : PySem.W.Frag) (tl : TE) : TI := fun σ H R => tl σ H fun x H1 => ∃ a xs, x = .ref a ∧ SqT K H1 a xs ∧ (xs.length ≤ sizeLine → R (Itt K a) H1)
theorem pi_listL {l : Expr} {tl : TE} (hl : PE X l tl) : PI X tg l (iListL X.K tl) := by
  refine ⟨fun pins s σ H R I h => ?_⟩
  refine thn (hl.run pins s σ H _ I h) fun v s1 ⟨x, H1, I1, r1, q1⟩ => ?_
  obtain ⟨a, xs, e, hq, q⟩ := q1
  subst e
  cases r1
  obtain ⟨its, rv, p, hz⟩ := I1.list hq
  refine wpAny_pyIter_list p.isList ?_
  refine ⟨s1.heap.objs.size, [s1.heap.objs.size], _, _, H1, rfl, I1.kept (t' := s1.toks) fun b o e => Heap.get?_push_of_some _ e, turn_list a _, ⟨_, Heap.get?_push_size _ rfl, rfl, rfl⟩, fun b hb => ?_, q hz⟩
  have e : b = s1.heap.objs.size := by simpa using hb
  subst e
  exact I1.fpOk (Nat.le_refl _) (I1.hok.fresh (Nat.le_refl _))
theorem pi_tupL {l : Expr} {tl : TE} (hl : PE X l tl) : PI X tg l (iTupL X.K tl) := by
  refine ⟨fun pins s σ H R I h => ?_⟩
  refine thn (hl.run pins s σ H _ I h) fun v s1 ⟨x, H1, I1, r1, q1⟩ => ?_
  obtain ⟨a, xs, e, hq, q⟩ := q1
  subst e
  cases r1
  obtain ⟨its, rv, p, hz⟩ := I1.tuple hq
  refine wpAny_pyIter_tuple (show s1.heap.IsTuple a its.toArray from p) ?_
  refine ⟨s1.heap.objs.size, [s1.heap.objs.size], _, _, H1, rfl, I1.kept (t' := s1.toks) fun b o e => Heap.get?_push_of_some _ e, turn_tuple a _, ⟨_, Heap.get?_push_size _ rfl, rfl, rfl⟩, fun b hb => ?_, q hz⟩
  have e : b = s1.heap.objs.size := by simpa using hb
  subst e
  exact I1.fpOk (Nat.le_refl _) (I1.hok.fresh (Nat.le_refl _))
end
section
variable {T : Tab} {X : Cx} {tg e : Expr} {f : M EV}
/-- a walk over what an expression gives: list, tuple or text by the data -/
theorem qi_lst (h : QE T X e f) : QI T X tg e (M.bind f fun ev => match frz ev with | some (.lst ds) => M.ret ds | _ => M.stuck) := fun pn xe W tk hp => impI (pi_listL (h pn xe W tk hp)) fun σ H Q ⟨ex, env, q⟩ => by
  have g0 := q.1
  refine ⟨ex, env, (trx_bind (relE X.K T) rmI q).mono fun v H1 ⟨ev, env1, s, r, q⟩ => ?_⟩
  have stuck : ∀ {f : M (List D)}, f = M.stuck → trx X.K T (relI X.K T) ex f env1 W σ H1 Q → False := fun e ⟨_, _, q, _⟩ => by rw [e] at q; cases q
  cases w : frz ev with
  | none => rw [w] at q; exact (stuck rfl q).elim
  | some d =>
    rw [w] at q
    have rd := RepE.frz g0 s r w
    cases d with
    | lst ds =>
      obtain ⟨g, k⟩ := trx_ret q
      obtain ⟨a, vs, e1, h0, h1, h2⟩ := rd
      exact ⟨a, vs, e1, SqL.of h1, fun hz => k _ H1 (Step.refl g) (itok_list hz ⟨h0, h1⟩ h2)⟩
    | _ => exact (stuck rfl q).elim
theorem qi_tup (h : QE T X e f) : QI T X tg e (M.bind f fun ev => match frz ev with | some (.tup ds) => M.ret ds | _ => M.stuck) := fun pn xe W tk hp => impI (pi_tupL (h pn xe W tk hp)) fun σ H Q ⟨ex, env, q⟩ => by
  have g0 := q.1
  refine ⟨ex, env, (trx_bind (relE X.K T) rmI q).mono fun v H1 ⟨ev, env1, s, r, q⟩ => ?_⟩
  have stuck : ∀ {f : M (List D)}, f = M.stuck → trx X.K T (relI X.K T) ex f env1 W σ H1 Q → False := fun e ⟨_, _, q, _⟩ => by rw [e] at q; cases q
  cases w : frz ev with
  | none => rw [w] at q; exact (stuck rfl q).elim
  | some d =>
    rw [w] at q
    have rd := RepE.frz g0 s r w
    cases d with
    | tup ds =>
      obtain ⟨g, k⟩ := trx_ret q
      obtain ⟨a, vs, e1, h0, h1, h2⟩ := rd
      exact ⟨a, vs, e1, SqT.of h1, fun hz => k _ H1 (Step.refl g) (itok_tup hz ⟨h0, h1⟩ h2)⟩
    | _ => exact (stuck rfl q).elim
theorem qi_str (h : QE T X e f) : QI T X tg e (M.bind f fun ev => match frz ev with | some (.str s) => if s.length ≤ 1000000 then M.ret (s.map fun c => D.str [c]) else M.stuck | _ => M.stuck) := fun pn xe W tk hp => impI (pi_str (h pn xe W tk hp)) fun σ H Q ⟨ex, env, q⟩ => by
  have g0 := q.1
  refine ⟨ex, env, (trx_bind (relE X.K T) rmI q).mono fun v H1 ⟨ev, env1, s, r, q⟩ => ?_⟩
  have stuck : ∀ {f : M (List D)}, f = M.stuck → trx X.K T (relI X.K T) ex f env1 W σ H1 Q → False := fun e ⟨_, _, q, _⟩ => by rw [e] at q; cases q
  cases w : frz ev with
  | none => rw [w] at q; exact (stuck rfl q).elim
  | some d =>
    rw [w] at q
    have rd := RepE.frz g0 s r w
    cases d with
    | str z =>
      dsimp only at q
      by_cases hz : z.length ≤ 1000000
      · rw [if_pos hz] at q
        obtain ⟨g, k⟩ := trx_ret q
        exact ⟨mkS z, rd, k _ H1 (Step.refl g) (itok_str hz)⟩
      · rw [if_neg hz] at q; exact (stuck rfl q).elim
    | _ => exact (stuck rfl q).elim
end
/-- by whatever it is: two walks of one expression -/
theorem QI.or {T : Tab} {X : Cx} {tg e : Expr} {f g : M (List D)} (h : QI T X tg e f) (k : QI T X tg e g) : QI T X tg e (fun env => match f env with | some r => some r | none => g env) := fun pn xe W tk hp => ⟨fun pins s σ H Q I ⟨ex, env, gd, r, er, o⟩ => by
  dsimp only at er
  cases q : f env with
  | some r' =>
    rw [q] at er; cases er
    exact (h pn xe W tk hp).run pins s σ H Q I ⟨ex, env, gd, r, q, o⟩
  | none =>
    rw [q] at er
    exact (k pn xe W tk hp).run pins s σ H Q I ⟨ex, env, gd, r, er, o⟩⟩
theorem qi_of {T : Tab} {X : Cx} {tg e : Expr} {f : M EV} (h : QE T X e f) : QI T X tg e (iOf f) := fun pn xe W tk hp => ⟨fun pins s σ H Q I ⟨ex, env, gd, r, er, o⟩ => by
  unfold iOf M.bind at er
  cases q : f env with
  | none => rw [q] at er; cases er
  | some ra =>
    rw [q] at er
    cases ra with
    | exc x e1 =>
      cases er
      exact (qi_lst h pn xe W tk hp).run pins s σ H Q I ⟨ex, env, gd, .exc x e1, by simp only [M.bind, q], o⟩
    | ok ev e1 =>
      dsimp only at er
      cases w : frz ev with
      | none => rw [w] at er; cases er
      | some d =>
        rw [w] at er
        cases d with
        | lst ds => cases er; exact (qi_lst h pn xe W tk hp).run pins s σ H Q I ⟨ex, env, gd, .ok ds e1, by simp only [M.bind, q, w]; rfl, o⟩
        | tup ds => cases er; exact (qi_tup h pn xe W tk hp).run pins s σ H Q I ⟨ex, env, gd, .ok ds e1, by simp only [M.bind, q, w]; rfl, o⟩
        | str z =>
          have er : lift (if z.length ≤ 1000000 then some (z.map fun c => D.str [c]) else none) e1 = some r := er
          by_cases hz : z.length ≤ 1000000
          · rw [if_pos hz] at er
            cases er
            exact (qi_str h pn xe W tk hp).run pins s σ H Q I ⟨ex, env, gd, .ok _ e1, by simp only [M.bind, q, w, if_pos hz]; rfl, o⟩
          · rw [if_neg hz] at er; cases er
        | _ => cases er⟩
def rangeD (lo hi : Int) : List D := (List.range (hi - lo).toNat).map fun (i : Nat) => D.int (lo + (i : Int))
def small62 (i : Int) : Bool := decide (-1000000 ≤ i ∧ i ≤ 1000000)
def iRange1 (fs : M (List AV)) : M (List D) := M.bind fs fun as => match as with
  | [.v (.int j)] => if small62 j = true then M.ret (rangeD 0 j) else M.stuck
  | _ => M.stuck
def iRange2 (fs : M (List AV)) : M (List D) := M.bind fs fun as => match as with
  | [.v (.int i), .v (.int j)] => if small62 i = true ∧ small62 j = true then M.ret (rangeD i j) else M.stuck
  | _ => M.stuck
section
variable {T : Tab} {X : Cx} {tg a b : Expr} {fs : M (List AV)} {p pos : Pos}
theorem int_of {K : PySem.W.Frag} {T : Tab} {ex : Addr → Prop} {σ : St} {env : Sl} {H : Hp} {v : V} {j : Int} (r : RepA K T ex σ env H v (.v (.int j))) : v = .int j := r
theorem qi_range1 (hg : Gl X "range") (hm : X.mg "range" = none) (h : QAs T X [a] fs) (hs : starEach [a] X.env = [(false, eval a X.env)] := by rfl) : QI T X tg (.Call (.Name "range" p) [a] [] pos) (iRange1 fs) := fun pn xe W tk hp => impI (pi_range1 (X := X.tr pn xe) hg hm (h pn xe W tk hp) hs) fun σ H Q ⟨ex, env, q⟩ => by
  refine ⟨ex, env, (trx_bind (relAs X.K T) rmI q).mono fun vs H1 ⟨as, env1, s, r, q⟩ => ?_⟩
  have stuck : ∀ {f : M (List D)}, f = M.stuck → trx X.K T (relI X.K T) ex f env1 W σ H1 Q → False := fun e ⟨_, _, q, _⟩ => by rw [e] at q; cases q
  split at q
  · rename_i j
    by_cases hj : small62 j = true
    · rw [if_pos hj] at q
      obtain ⟨g, k⟩ := trx_ret q
      have hj' := of_decide_eq_true hj
      cases r with
      | cons r1 r2 =>
        cases r2
        have e := int_of r1
        subst e
        refine ⟨j, rfl, by omega, by omega, k _ H1 (Step.refl g) ?_⟩
        have : ItOK X.K T (exO ex σ env1) H1 (Itr 0 j.toNat) ((List.range j.toNat).map fun (i : Nat) => D.int (0 + (i : Int))) := itok_range (by omega)
        unfold relI rangeD
        rw [Int.sub_zero]
        exact this
    · rw [if_neg hj] at q; exact (stuck rfl q).elim
  · exact (stuck rfl q).elim
theorem qi_range2 (hg : Gl X "range") (hm : X.mg "range" = none) (h : QAs T X [a, b] fs) (hs : starEach [a, b] X.env = [(false, eval a X.env), (false, eval b X.env)] := by rfl) (hs2 : starEach [b] X.env = [(false, eval b X.env)] := by rfl) : QI T X tg (.Call (.Name "range" p) [a, b] [] pos) (iRange2 fs) := fun pn xe W tk hp => impI (pi_range2 (X := X.tr pn xe) hg hm (h pn xe W tk hp) hs hs2) fun σ H Q ⟨ex, env, q⟩ => by
  refine ⟨ex, env, (trx_bind (relAs X.K T) rmI q).mono fun vs H1 ⟨as, env1, s, r, q⟩ => ?_⟩
  have stuck : ∀ {f : M (List D)}, f = M.stuck → trx X.K T (relI X.K T) ex f env1 W σ H1 Q → False := fun e ⟨_, _, q, _⟩ => by rw [e] at q; cases q
  split at q
  · rename_i i j
    by_cases hj : small62 i = true ∧ small62 j = true
    · rw [if_pos hj] at q
      obtain ⟨g, k⟩ := trx_ret q
      have h1 := of_decide_eq_true hj.1
      have h2 := of_decide_eq_true hj.2
      cases r with
      | cons r1 r2 =>
        cases r2 with
        | cons r2 r3 =>
          cases r3
          have e := int_of r1
          have e' := int_of r2
          subst e e'
          exact ⟨i, j, rfl, ⟨by omega, by omega, by omega, by omega⟩, k _ H1 (Step.refl g) (itok_range (by omega))⟩
    · rw [if_neg hj] at q; exact (stuck rfl q).elim
  · exact (stuck rfl q).elim
end

/-! ### targets -/
def trG (K : PySem.W.Frag) (T : Tab) (np : Nat → Bool) (t : D → Sl → Option Sl) : TG := fun v σ H Q => ∃ ex env d env', Good K T ex σ H env ∧ Rep K T (exO ex σ env) H d v ∧ t d env = some env' ∧ ∀ σ' H', SStep K T np ex σ H env σ' H' env' → Q σ' H'
def QG (T : Tab) (X : Cx) (np : Nat → Bool) (tg : Expr) (t : D → Sl → Option Sl) : Prop := ∀ pn xe, PG (X.tr pn xe) tg (trG X.K T np t)
def gN (i : Nat) : D → Sl → Option Sl := fun d env => some (env.set i (.val d))
def gsNil : List D → Sl → Option Sl := fun ds env => match ds with
  | [] => some env
  | _ => none
def gsCons (t : D → Sl → Option Sl) (u : List D → Sl → Option Sl) : List D → Sl → Option Sl := fun ds env => match ds with
  | d :: r => (t d env).bind fun e => u r e
  | [] => none
def gT (u : List D → Sl → Option Sl) : D → Sl → Option Sl := fun d env => match d with
  | .tup ds => u ds env
  | _ => none
def trGs (K : PySem.W.Frag) (T : Tab) (np : Nat → Bool) (t : List D → Sl → Option Sl) : TGs := fun vs σ H Q => ∃ ex env ds env', Good K T ex σ H env ∧ RepL K T (exO ex σ env) H ds vs ∧ t ds env = some env' ∧ ∀ σ' H', SStep K T np ex σ H env σ' H' env' → Q σ' H'
def QGs (T : Tab) (X : Cx) (np : Nat → Bool) (tgs : List Expr) (n : Nat) (t : List D → Sl → Option Sl) : Prop := (∀ ds env env', t ds env = some env' → ds.length = n) ∧ ∀ pn xe, PGs (X.tr pn xe) tgs (trGs X.K T np t)
section
variable {T : Tab} {X : Cx} {np : Nat → Bool} {n : Nat} {pos : Pos} {e : Expr} {es : List Expr} {t : D → Sl → Option Sl} {u : List D → Sl → Option Sl}
theorem qg_name (i : Nat) {x : Str} (hN : X.N.Nodup) (hi : X.N[i]? = some x := by rfl) (hx : Loc X.env.scope x := by first | exact Or.inl rfl | exact Or.inr rfl) (hnp : np i = false := by rfl)
    (hf : X.fn x = true ∨ X.env.scope.names.lookup x = some .local := by first | exact .inl rfl | exact .inr rfl) : QG T X np (.Name x pos) (gN i) := fun pn xe => impG (pg_name (X := X.tr pn xe) hN hi hx hf) fun v σ H Q ⟨ex, env, d, env', g, r, e, k⟩ => by
  cases e
  exact k _ H (Good.store (ev := .v d) hnp g (Step.refl g) r)
theorem qgs_nil : QGs T X np [] 0 gsNil := by
  refine ⟨fun ds env env' h => (by cases ds <;> first | rfl | cases h), fun pn xe => ⟨fun pins s σ H vs us Q I rv ⟨ex, env, ds, env', g, r, e, k⟩ => ?_⟩⟩
  cases ds with
  | nil =>
    cases e
    have : vs = [] := r
    subst this
    exact pgs_nil.run pins s σ H [] us Q I rv ⟨rfl, k σ H (SStep.refl g)⟩
  | cons d r => cases e
theorem RepL.sstep {K : PySem.W.Frag} {ex : Addr → Prop} {σ σ' : St} {H H' : Hp} {env env' : Sl} {ds : List D} {vs : List V} (s : SStep K T np ex σ H env σ' H' env') (r : RepL K T (exO ex σ env) H ds vs) : RepL K T (exO ex σ' env') H' ds vs :=
  r.mono fun a o n e => ⟨(fun q => by
    rcases q with q | q
    · exact n (.inl q)
    · rcases s.owns q with q | q
      · exact n (.inr q)
      · rw [q] at e; exact nomatch e), s.fr a o e fun q => n (.inr q)⟩
theorem qgs_cons (h : QG T X np e t) (k : QGs T X np es n u) (hs : (assignEach (e :: es) X.env).map (·.2) = assign e X.env :: (assignEach es X.env).map (·.2) := by rfl) : QGs T X np (e :: es) (n + 1) (gsCons t u) := by
  refine ⟨fun ds env env' q => ?_, fun pn xe => ⟨fun pins s σ H vs us Q I rv ⟨ex, env, ds, env', g, r, eq, kk⟩ => ?_⟩⟩
  · cases ds with
    | nil => cases q
    | cons d r => obtain ⟨e1, _, q⟩ := opt_bind q; simp [k.1 r e1 env' q]
  · cases ds with
    | nil => cases eq
    | cons d rs =>
      obtain ⟨e1, q1, q2⟩ := opt_bind eq
      obtain ⟨v, vr, ev, h1, h2⟩ := r
      subst ev
      refine (pgs_cons (h pn xe) (k.2 pn xe) hs).run pins s σ H _ us Q I rv ⟨v, vr, rfl, ex, env, d, e1, g, h1, q1, fun σ' H' s => ?_⟩
      exact ⟨ex, e1, rs, env', s.gd, h2.sstep s, q2, fun σ2 H2 s2 => kk σ2 H2 (s.trans s2)⟩
theorem qg_tup {k : Nat} (hc : X.calm = true) (h : QGs T X np es n u) (hn : (assignEach es X.env).length = n := by rfl) (hst : (assignEach es X.env).findIdx? (·.1) = none := by rfl) : QG T X np (.Tuple es k pos) (gT u) := fun pn xe => impG (pg_tup (X := X.tr pn xe) hc (h.2 pn xe) hn hst) fun v σ H Q ⟨ex, env, d, env', g, r, e, kk⟩ => by
  cases d with
  | tup ds =>
    obtain ⟨a, vs, e1, h0, h1, h2⟩ := r
    exact ⟨a, vs, e1, SqT.of h1, by rw [← h2.length]; exact h.1 ds env env' e, ex, env, ds, env', g, h2, e, kk⟩
  | _ => cases e
end

/-! ### for -/
def forL (t : D → Sl → Option Sl) (body : S) : List D → Sl → Option SR
  | [], env => some (.nx env)
  | d :: ds, env => match t d env with
    | none => none
    | some e1 => match body e1 with
      | some (.nx e) => forL t body ds e
      | some (.ct e) => forL t body ds e
      | some (.bk e) => some (.nx e)
      | some (.rt v e) => some (.rt v e)
      | some (.exc x e) => some (.exc x e)
      | none => none
def sFor (f : M (List D)) (t : D → Sl → Option Sl) (body : S) : S := sE f fun ds => forL t body ds
section
variable {T : Tab} {X : Cx} {np : Nat → Bool} {pos : Pos} {tg iter : Expr} {body : List Stmt} {f : M (List D)} {t : D → Sl → Option Sl} {b : S}
theorem qs_for (hc : X.calm = true) (hi : QI T X tg iter f) (hg : QG T X np tg t) (hb : QSs T X np body b) (hs : ∀ x, foldedSetIterable iter X.env x = pure x := by intro _; rfl) : QS T X np (.For tg iter body [] pos) (sFor f t b) := fun pn xe W tk hp => by
  refine impS (ps_for (X := X.tr pn xe) hp hc (hi pn xe W tk hp) (hg pn xe) (hb pn xe W tk hp) hs) fun D σ H q => ?_
  obtain ⟨ex, env, z⟩ := trS_expr q (relI X.K T)
  refine ⟨ex, env, z.mono fun J H1 ⟨ex, env0, H0, env1, items, g0, s0, it, ⟨g1, r, er, o⟩, _⟩ => ?_⟩
  have it : ItOK X.K T (exO ex σ env1) H1 J items := it
  refine ⟨fun i m σi Hi => m = items.length - i ∧ i ≤ items.length ∧ ∃ envi, SStep X.K T np ex σ H1 env1 σi Hi envi ∧ forL t b (items.drop i) envi = some r, ⟨items.length, by simp, Nat.zero_le _, env1, SStep.refl g1, by simpa using er⟩, ?_⟩
  rintro i m σi Hi ⟨rfl, hi, envi, s, e⟩
  have keep : Keep (exO ex σ env1) H1 Hi := fun b o n q => s.fr b o q fun z => n (.inr z)
  by_cases hlt : i < items.length
  · refine .inr ⟨it.go i Hi hlt keep, fun σ' H' => ∃ m', m' < items.length - i ∧ m' = items.length - (i + 1) ∧ i + 1 ≤ items.length ∧ ∃ envi, SStep X.K T np ex σ H1 env1 σ' H' envi ∧ forL t b (items.drop (i + 1)) envi = some r, fun σ' H' ⟨m', h1, h2, h3, h4⟩ => ⟨m', h1, h2, h3, h4⟩, fun x H' y => ?_⟩
    have hd : items.drop i = items[i] :: items.drop (i + 1) := List.drop_eq_getElem_cons hlt
    rw [hd] at e
    unfold forL at e
    obtain ⟨ext, rep⟩ := it.yld i Hi x H' items[i] (List.getElem?_eq_getElem hlt) keep y
    have gi := s.gd.ext ext
    have se : SStep X.K T np ex σi Hi envi σi H' envi := (Step.ext s.gd ext).s
    have rd : Rep X.K T (exO ex σi envi) H' items[i] x := rep _ (fun b o nb q z => by
      rcases z with z | z
      · exact nb (.inl z)
      · rcases s.owns z with z | z
        · exact nb (.inr z)
        · rw [z] at q; cases q) s.gd.dm
    cases q1 : t items[i] envi with
    | none => rw [q1] at e; cases e
    | some e1 =>
      rw [q1] at e
      dsimp only at e
      refine ⟨ex, envi, _, e1, gi, rd, q1, fun σ2 H2 s2 => ?_⟩
      have s12 := (s.trans se).trans s2
      cases q2 : b e1 with
      | none => rw [q2] at e; cases e
      | some rb =>
        rw [q2] at e
        refine ⟨ex, e1, s2.gd, rb, q2, ?_⟩
        cases rb with
        | nx e3 => exact fun σ3 H3 s3 => ⟨items.length - (i + 1), by omega, rfl, hlt, e3, s12.trans s3, e⟩
        | ct e3 => exact fun σ3 H3 s3 => ⟨items.length - (i + 1), by omega, rfl, hlt, e3, s12.trans s3, e⟩
        | bk e3 => cases e; exact fun σ3 H3 s3 => o σ3 H3 (s12.trans s3)
        | rt v e3 => cases e; exact fun v σ3 H3 s3 rr => o v σ3 H3 (s12.trans s3) (RepR.trans s12 rr)
        | exc x e3 => cases e; exact fun c d σ3 H3 s3 rx => o c d σ3 H3 (s12.trans s3) rx
  · have ei : i = items.length := by omega
    subst ei
    rw [List.drop_length] at e
    cases e
    exact .inl ⟨it.stop Hi keep, o σi Hi s⟩
end

/-! ### while -/
def whileL (c : M Bool) (body : S) : Nat → Sl → Option SR
  | 0, _ => none
  | n + 1, env => match c env with
    | some (.ok true e1) => match body e1 with
      | some (.nx e) => whileL c body n e
      | some (.ct e) => whileL c body n e
      | some (.bk e) => some (.nx e)
      | some (.rt v e) => some (.rt v e)
      | some (.exc x e) => some (.exc x e)
      | none => none
    | some (.ok false e1) => some (.nx e1)
    | some (.exc x e) => some (.exc x e)
    | none => none
def sWhile (fuel : Nat) (c : M Bool) (body : S) : S := whileL c body fuel
section
variable {T : Tab} {X : Cx} {np : Nat → Bool} {pos : Pos} {test : Expr} {body : List Stmt} {c : M Bool} {b : S}
theorem qs_while (fuel : Nat) (hc : QT T X test c) (hb : QSs T X np body b) : QS T X np (.While test body [] pos) (sWhile fuel c b) := fun pn xe W tk hp => by
  refine impS (ps_while (X := X.tr pn xe) hp (hc pn xe W tk hp) (hb pn xe W tk hp)) fun D σ H ⟨ex, env, g, r, er, o⟩ => ?_
  refine ⟨fun m σi Hi => ∃ envi, SStep X.K T np ex σ H env σi Hi envi ∧ whileL c b m envi = some r, ⟨fuel, env, SStep.refl g, er⟩, ?_⟩
  rintro m σi Hi ⟨envi, s, e⟩
  cases m with
  | zero => cases e
  | succ m =>
    unfold whileL at e
    refine ⟨ex, envi, s.gd, ?_⟩
    cases q1 : c envi with
    | none => rw [q1] at e; cases e
    | some rc =>
      rw [q1] at e
      refine ⟨rc, rfl, ?_⟩
      cases rc with
      | exc x e1 => cases e; exact fun cl d H' s1 rx => o cl d σi H' (s.trans s1.s) rx
      | ok k e1 =>
        intro k' H2 s1 ek
        have ek : k' = k := ek
        subst ek
        have s12 := s.trans s1.s
        cases k' with
        | false => cases e; exact o σi H2 s12
        | true =>
          dsimp only at e
          refine iteT ⟨fun σ' H' => ∃ m', m' < m + 1 ∧ ∃ envi, SStep X.K T np ex σ H env σ' H' envi ∧ whileL c b m' envi = some r, fun σ' H' q => q, ?_⟩
          cases q2 : b e1 with
          | none => rw [q2] at e; cases e
          | some rb =>
            rw [q2] at e
            refine ⟨ex, e1, s1.gd, rb, q2, ?_⟩
            cases rb with
            | nx e3 => exact fun σ3 H3 s3 => ⟨m, by omega, e3, s12.trans s3, e⟩
            | ct e3 => exact fun σ3 H3 s3 => ⟨m, by omega, e3, s12.trans s3, e⟩
            | bk e3 => cases e; exact fun σ3 H3 s3 => o σ3 H3 (s12.trans s3)
            | rt v e3 => cases e; exact fun v σ3 H3 s3 rr => o v σ3 H3 (s12.trans s3) (RepR.trans s12 rr)
            | exc x e3 => cases e; exact fun c d σ3 H3 s3 rx => o c d σ3 H3 (s12.trans s3) rx
end
end Dt
end
section
set_option maxRecDepth 100000
set_option maxHeartbeats 4000000
/-! QH: list comprehensions. -/
namespace Dt
open PySem PySem.Spec L2
open PyProof.Rows hiding St

def wipeE (env : Sl) : List Nat → Sl
  | [] => env
  | v :: vs => (wipeE env vs).set v .emp
theorem wipeE_len (env : Sl) : ∀ vs, (wipeE env vs).length = env.length
  | [] => rfl
  | v :: vs => by unfold wipeE; rw [List.length_set, wipeE_len env vs]
theorem wipeE_get {env : Sl} {i : Nat} {s : Slot} : ∀ {vs : List Nat}, (wipeE env vs)[i]? = some s → s = .emp ∨ (i ∉ vs ∧ env[i]? = some s)
  | [], h => .inr ⟨by simp, h⟩
  | v :: vs, h => by
    unfold wipeE at h
    rcases set_get h with ⟨_, e, _⟩ | ⟨h1, h2⟩
    · exact .inl e
    · rcases wipeE_get h2 with e | ⟨e1, e2⟩
      · exact .inl e
      · exact .inr ⟨by simp only [List.mem_cons, not_or]; exact ⟨h1, e1⟩, e2⟩
theorem wipe_in {σ : St} {i : Nat} : ∀ {vs : List Nat}, i ∈ vs → i < σ.length → (wipe σ vs)[i]? = some none
  | v :: vs, h, hl => by
    unfold wipe
    by_cases e : i = v
    · subst e
      rw [List.getElem?_set_self (by rw [wipe_length]; exact hl)]
    · rw [List.getElem?_set_ne (Ne.symm e)]
      exact wipe_in ((List.mem_cons.mp h).resolve_left e) hl
theorem wipe_eq {σ τ : St} {vs : List Nat} (hl : τ.length = σ.length) (h : ∀ i, i ∉ vs → τ[i]? = σ[i]?) : wipe τ vs = wipe σ vs := by
  refine List.ext_getElem? fun i => ?_
  by_cases hi : i ∈ vs
  · by_cases hs : i < σ.length
    · rw [wipe_in hi hs, wipe_in hi (by rw [hl]; exact hs)]
    · rw [List.getElem?_eq_none (by rw [wipe_length]; omega), List.getElem?_eq_none (by rw [wipe_length]; omega)]
  · rw [wipe_out hi, wipe_out hi, h i hi]

section
variable {K : PySem.W.Frag} {T : Tab} {ex : Addr → Prop} {σ τ : St} {H H' : Hp} {env env' : Sl}
/-- fewer slots are told, at σ in place of τ -/
theorem Good.wipe {vs : List Nat} (g : Good K T ex τ H env) (hl : τ.length = σ.length) (h : ∀ i, i ∉ vs → τ[i]? = σ[i]?) : Good K T ex σ H (wipeE env vs) := by
  have get : ∀ {j : Nat} {s : Slot}, (wipeE env vs)[j]? = some s → s ≠ .emp → env[j]? = some s ∧ σ[j]? = τ[j]? := fun {j s} e n => by
    rcases wipeE_get e with e | ⟨e1, e2⟩
    · exact absurd e n
    · exact ⟨e2, (h j e1).symm⟩
  have mo : ∀ a o, ¬ exO ex τ env a → H a = some o → ¬ exO ex σ (wipeE env vs) a ∧ H a = some o := fun a o n e => ⟨fun z => n (by
    rcases z with z | ⟨j, c, e1, e2⟩
    · exact .inl z
    · obtain ⟨e3, e4⟩ := get e1 (fun z => nomatch z)
      rw [e4] at e2
      exact .inr ⟨j, c, e3, e2⟩), e⟩
  refine ⟨by rw [wipeE_len, g.len, hl], fun i d e => ?_, fun i c e => ?_, fun i j a c c' e1 e2 e3 e4 => ?_, g.dom⟩
  · obtain ⟨e1, e2⟩ := get e (fun z => nomatch z)
    obtain ⟨v, e3, r⟩ := g.val i d e1
    exact ⟨v, by rw [e2]; exact e3, r.mono mo⟩
  · obtain ⟨e1, e2⟩ := get e (fun z => nomatch z)
    obtain ⟨a, e3, n, r⟩ := g.own i c e1
    exact ⟨a, by rw [e2]; exact e3, n, r.mono rfl mo⟩
  · obtain ⟨f1, f2⟩ := get e1 (fun z => nomatch z)
    obtain ⟨f3, f4⟩ := get e2 (fun z => nomatch z)
    exact g.inj i j a c c' f1 f3 (by rw [← f2]; exact e3) (by rw [← f4]; exact e4)
theorem owns_wipe {vs : List Nat} (h : ∀ i, i ∉ vs → τ[i]? = σ[i]?) {a : Addr} (w : Owns σ (wipeE env vs) a) : Owns τ env a := by
  obtain ⟨i, c, e1, e2⟩ := w
  rcases wipeE_get e1 with e | ⟨e3, e4⟩
  · cases e
  · exact ⟨i, c, e4, by rw [h i e3]; exact e2⟩
theorem Good.less {x : Addr} (g : Good K T (fun b => ex b ∨ b = x) σ H env) : Good K T ex σ H env := by
  have mo : ∀ b o, ¬ exO (fun b => ex b ∨ b = x) σ env b → H b = some o → ¬ exO ex σ env b ∧ H b = some o := fun b o n q => ⟨fun z => n (z.imp .inl id), q⟩
  refine ⟨g.len, fun j d q => ?_, fun j c' q => ?_, g.inj, fun b h => g.dom b (.inl h)⟩
  · obtain ⟨v, e1, r⟩ := g.val j d q
    exact ⟨v, e1, r.mono mo⟩
  · obtain ⟨b, e1, n, r⟩ := g.own j c' q
    exact ⟨b, e1, fun z => n (.inl z), r.mono rfl mo⟩
/-- another heap that differs at what is not met alone -/
theorem Good.chg (g : Good K T ex σ H env) (k : ∀ b o, ¬ ex b → H b = some o → H' b = some o) (d : ∀ b, ex b → H' b ≠ none) : Good K T ex σ H' env := by
  have mo : ∀ b o, ¬ exO ex σ env b → H b = some o → ¬ exO ex σ env b ∧ H' b = some o := fun b o n q => ⟨n, k b o (fun z => n (.inl z)) q⟩
  refine ⟨g.len, fun j d q => ?_, fun j c' q => ?_, g.inj, d⟩
  · obtain ⟨v, e1, r⟩ := g.val j d q
    exact ⟨v, e1, r.mono mo⟩
  · obtain ⟨b, e1, n, r⟩ := g.own j c' q
    refine ⟨b, e1, n, r.mono ?_ mo⟩
    cases w : H b with
    | none => exact absurd w r.there
    | some o => exact k b o n w
end

/-- one turn after another: the items so far, the slots -/
def compL (vs : List Nat) (t : D → Sl → Option Sl) (c : M Bool) (f : M EV) : List D → List D → Sl → Option (List D × Sl)
  | [], acc, env => some (acc, env)
  | d :: ds, acc, env => match t d env with
    | none => none
    | some e1 => match c e1 with
      | some (.ok true e2) => match f e2 with
        | some (.ok ev e3) => match frz ev with
          | some x => compL vs t c f ds (acc ++ [x]) (wipeE e3 vs)
          | none => none
        | _ => none
      | some (.ok false e2) => compL vs t c f ds acc (wipeE e2 vs)
      | _ => none
def eComp (vs : List Nat) (items : M (List D)) (t : D → Sl → Option Sl) (c : M Bool) (f : M EV) : M EV := M.bind items fun ds => fun env => match compL vs t c f ds [] (wipeE env vs) with
  | some (acc, e) => some (.ok (.o (.lst acc)) e)
  | none => none
def bYes : M Bool := M.ret true
/-- protected: all but the block's own slots -/
def but (vs : List Nat) : Nat → Bool := fun i => !(vs.contains i)
/-- a judgement within a comprehension's block -/
def Blk (X : Cx) (scope : Scope) (J : Cx → Prop) : Prop := ∀ (s : Shared) (H : Hp) (C : Addr) (cl : List (Str × Addr)) (fp : List Addr), J (X.blk s H scope (compEnvC scope cl C X.env) fp)
def QTs (T : Tab) (X : Cx) (ifs : List Expr) (c : M Bool) : Prop := ∀ pn xe W, Takes (X.tr pn xe) W → PassesOwn (model X.prog X.w) X.A X.env xe → PTs (X.tr pn xe) ifs (tr X.K T relT c W)
theorem qts_nil {T : Tab} {X : Cx} : QTs T X [] bYes := fun pn xe W tk hp => ⟨fun pins s σ H Q I q => pts_nil.run pins s σ H Q I (tr_ret q fun _ _ => rfl)⟩
theorem qts_one {T : Tab} {X : Cx} {e : Expr} {c : M Bool} (h : QT T X e c) : QTs T X [e] c := fun pn xe W tk hp => pts_one (h pn xe W tk hp)

section
variable {T : Tab} {X : Cx} {elt tg iter : Expr} {ifs : List Expr} {scope : Scope} {own : List (Str × Nat)} {pos : Pos} {fi : M (List D)} {t : D → Sl → Option Sl} {c : M Bool} {f : M EV}
def W0 : WX := fun _ _ _ _ => False
/-- the turns of the block -/
theorem comp_turns {K : PySem.W.Frag} {ex : Addr → Prop} {σ : St} {H0 H1 : Hp} {env env1 envF : Sl} {J : It} {items acc : List D} {Dd : Addr} {vs : List Nat} (g0 : Good K T ex σ H0 env) (s0 : Step K T ex σ H0 env H1 env1) (it : ItOK K T (exO ex σ env1) H1 J items)
    (er : compL vs t c f items [] (wipeE env1 vs) = some (acc, envF)) (hD : H1 Dd = none) {Qd : Hp → Prop}
    (hq : ∀ H' vacc, Step K T ex σ H1 env1 H' envF → Good K T (fun b => ex b ∨ b = Dd) σ H' envF → H' Dd = some (.lst vacc) → RepL K T (fun b => exO ex σ envF b ∨ b = Dd) H' acc vacc → Qd H') :
    ∃ Wv : Nat → Nat → Hp → Prop, (∃ m, Wv 0 m (upd H1 Dd (.lst []))) ∧ ∀ i m H, Wv i m H →
      (J.stop i H ∧ Qd H) ∨ (J.go i H ∧ ∃ Nx : Hp → Prop, (∀ H', Nx H' → ∃ m', m' < m ∧ Wv (i + 1) m' H') ∧ ∀ x H', J.yld i H x H' → trG K T (but vs) t x (wipe σ vs) H' fun σ2 H2 => wipe σ2 vs = wipe σ vs ∧ tr K T relT c W0 σ2 H2 fun b H3 =>
        if b = true then tr K T (relE K T) f W0 σ2 H3 fun y H4 => ∃ acc, H4 Dd = some (.lst acc) ∧ acc.length < sizeLine ∧ Nx (upd H4 Dd (.lst (acc ++ [y]))) else Nx H3) := by
  -- the state between two turns
  let Inv := fun (i : Nat) (Hi : Hp) => ∃ acci envi vacc, compL vs t c f (items.drop i) acci envi = some (acc, envF) ∧ Step K T (fun b => ex b ∨ b = Dd) σ H1 env1 Hi envi ∧ Hi Dd = some (.lst vacc) ∧
    RepL K T (fun b => exO ex σ envi b ∨ b = Dd) Hi acci vacc ∧ acci.length ≤ i ∧ ∃ e0, envi = wipeE e0 vs
  have gd1 := s0.gd
  refine ⟨fun i m Hi => m = items.length - i ∧ i ≤ items.length ∧ Inv i Hi, ⟨items.length, by simp, Nat.zero_le _, [], wipeE env1 vs, [], by simpa using er, ?_, upd_same, .nil, Nat.le_refl _, env1, rfl⟩, ?_⟩
  · have gw : Good K T ex σ H1 (wipeE env1 vs) := gd1.wipe rfl fun _ _ => rfl
    refine ⟨fun b o e _ => ext_new hD b o e, fun b e => ?_, fun i c e => ?_, gw.more hD (ext_new hD) (by rw [upd_same]; exact fun z => nomatch z)⟩
    · cases q : H1 b with
      | none => exact absurd q e
      | some o => rw [ext_new hD b o q]; exact fun z => nomatch z
    · rcases wipeE_get e with e | ⟨_, e⟩
      · cases e
      · exact ⟨c, e⟩
  · rintro i m Hi ⟨rfl, hi, acci, envi, vacc, e, s, eD, ra, hai, e0, ew⟩
    have keep : Keep (exO ex σ env1) H1 Hi := fun b o n q => s.fr b o q fun z => n (.inr z)
    by_cases hlt : i < items.length
    case neg =>
      have ei : i = items.length := by omega
      subst ei
      rw [List.drop_length] at e
      cases e
      exact .inl ⟨it.stop Hi keep, hq Hi vacc ⟨s.fr, s.dm, s.sb, s.gd.less⟩ s.gd eD ra⟩
    case pos =>
    refine .inr ⟨it.go i Hi hlt keep, fun H' => ∃ m', m' < items.length - i ∧ m' = items.length - (i + 1) ∧ i + 1 ≤ items.length ∧ Inv (i + 1) H', fun H' ⟨m', h1, h2, h3, h4⟩ => ⟨m', h1, h2, h3, h4⟩, fun x H' y => ?_⟩
    have hd : items.drop i = items[i] :: items.drop (i + 1) := List.drop_eq_getElem_cons hlt
    rw [hd] at e
    unfold compL at e
    obtain ⟨ext, rep⟩ := it.yld i Hi x H' items[i] (List.getElem?_eq_getElem hlt) keep y
    cases q1 : t items[i] envi with
    | none => rw [q1] at e; cases e
    | some e1 =>
    rw [q1] at e
    dsimp only at e
    have gi := s.gd.ext ext
    -- in the block
    have σw : ∀ j, j ∉ vs → σ[j]? = (wipe σ vs)[j]? := fun j hj => (wipe_out hj).symm
    have gb : Good K T (fun b => ex b ∨ b = Dd) (wipe σ vs) H' envi := by
      have := gi.wipe (vs := vs) (σ := wipe σ vs) (wipe_length σ vs).symm σw
      rw [ew] at this ⊢
      have idem : wipeE (wipeE e0 vs) vs = wipeE e0 vs := by
        refine List.ext_getElem? fun j => ?_
        cases q : (wipeE (wipeE e0 vs) vs)[j]? with
        | none => rw [List.getElem?_eq_none_iff, wipeE_len] at q; rw [List.getElem?_eq_none q]
        | some sl =>
          rcases wipeE_get q with z | ⟨_, z⟩
          · subst z
            cases q2 : (wipeE e0 vs)[j]? with
            | none => rw [List.getElem?_eq_none_iff, ← wipeE_len (wipeE e0 vs) vs] at q2; rw [List.getElem?_eq_none q2] at q; cases q
            | some s2 =>
              rcases wipeE_get q2 with z | ⟨hj, _⟩
              · rw [z]
              · have : ∀ {vs : List Nat} {env : Sl}, j ∉ vs → (wipeE env vs)[j]? = env[j]? := by
                  intro vs
                  induction vs with
                  | nil => intro env _; rfl
                  | cons v vs ih =>
                    intro env h
                    simp only [List.mem_cons, not_or] at h
                    unfold wipeE
                    rw [List.getElem?_set_ne (Ne.symm h.1)]
                    exact ih h.2
                rw [this hj, q2] at q
                exact q.symm ▸ rfl
          · exact z.symm
      rw [idem] at this
      exact this
    have rd : Rep K T (exO (fun b => ex b ∨ b = Dd) (wipe σ vs) envi) H' items[i] x := by
      refine rep _ (fun b o nb q z => ?_) (fun b z => ?_)
      · rcases z with (z | z) | z
        · exact nb (.inl z)
        · subst z; rw [hD] at q; cases q
        · refine nb (.inr (s.owns ?_))
          obtain ⟨j, c', f1, f2⟩ := z
          exact ⟨j, c', f1, (wipe_some f2).1⟩
      · have : exO (fun b => ex b ∨ b = Dd) σ envi b := by
          rcases z with z | ⟨j, c', f1, f2⟩
          · exact .inl z
          · exact .inr ⟨j, c', f1, (wipe_some f2).1⟩
        exact s.gd.dm b this
    refine ⟨fun b => ex b ∨ b = Dd, envi, _, e1, gb, rd, q1, fun σ2 H2 s2 => ?_⟩
    have par2 : ∀ j, j ∉ vs → σ2[j]? = (wipe σ vs)[j]? := fun j hj => s2.par j (by unfold but; simp [hj])
    have hw2 : wipe σ2 vs = wipe σ vs := by
      have h1 := wipe_eq (vs := vs) s2.ln par2
      rw [h1]
      exact wipe_eq (wipe_length σ vs) fun j hj => wipe_out hj
    refine ⟨hw2, ?_⟩
    have par3 : ∀ j, j ∉ vs → σ2[j]? = σ[j]? := fun j hj => (par2 j hj).trans (wipe_out hj)
    have ln3 : σ2.length = σ.length := s2.ln.trans (wipe_length σ vs)
    -- what the block leaves
    have ownb : ∀ {a}, Owns (wipe σ vs) envi a → Owns σ env1 a := fun ⟨j, c', f1, f2⟩ => s.owns ⟨j, c', f1, (wipe_some f2).1⟩
    have fin : ∀ {H3 : Hp} {e3 : Sl}, Step K T (fun b => ex b ∨ b = Dd) σ2 H2 e1 H3 e3 → (∀ b o, H1 b = some o → ¬ Owns σ env1 b → H3 b = some o) ∧ (∀ b, H1 b ≠ none → H3 b ≠ none) ∧
        (∀ (j : Nat) (c' : OC), (wipeE e3 vs)[j]? = some (.own c') → ∃ c', env1[j]? = some (.own c')) ∧ Good K T (fun b => ex b ∨ b = Dd) σ H3 (wipeE e3 vs) ∧ ∃ vb, H3 Dd = some (.lst vacc) ∧ RepL K T (fun b => exO ex σ (wipeE e3 vs) b ∨ b = Dd) H3 acci vb ∧ vb = vacc := fun {H3 e3} s3 => by
      have own3 : ∀ {a}, Owns σ2 e3 a → Owns (wipe σ vs) envi a ∨ H' a = none := fun z => s2.owns (s3.owns z)
      have frD : ∀ b o, H' b = some o → ¬ Owns (wipe σ vs) envi b → H3 b = some o := fun b o q n => s3.fr b o (s2.fr b o q n) fun z => (s2.owns z).elim n fun z => by rw [z] at q; cases q
      have nD : ¬ Owns (wipe σ vs) envi Dd := fun z => (gb.owned z).2 (.inr rfl)
      refine ⟨fun b o q n => frD b o (ext b o (s.fr b o q n)) fun z => n (ownb z), fun b q => s3.dm b (s2.dm b ?_), fun j c' q => ?_, s3.gd.wipe ln3 par3, vacc, frD Dd _ (ext Dd _ eD) nD, ?_, rfl⟩
      · have := s.dm b q
        intro z
        cases w : Hi b with
        | none => exact this w
        | some o => rw [ext b o w] at z; cases z
      · rcases wipeE_get q with z | ⟨hj, z⟩
        · cases z
        · obtain ⟨c1, z1⟩ := s3.sb j c' z
          obtain ⟨c2, z2⟩ := s2.sbp j c1 (by unfold but; simp [hj]) z1
          exact s.sb j c2 z2
      · refine ra.mono fun b o n q => ⟨fun z => ?_, frD b o (ext b o q) fun z => ?_⟩
        · rcases z with (z | z) | z
          · exact n (.inl (.inl z))
          · rcases own3 (owns_wipe par3 z) with z | z
            · obtain ⟨j, c', f1, f2⟩ := z
              exact n (.inl (.inr ⟨j, c', f1, (wipe_some f2).1⟩))
            · rw [ext b o q] at z; cases z
          · exact n (.inr z)
        · obtain ⟨j, c', f1, f2⟩ := z
          exact n (.inl (.inr ⟨j, c', f1, (wipe_some f2).1⟩))
    refine ⟨fun b => ex b ∨ b = Dd, e1, s2.gd, ?_⟩
    cases q2 : c e1 with
    | none => rw [q2] at e; cases e
    | some rc =>
    rw [q2] at e
    refine ⟨rc, rfl, ?_⟩
    cases rc with
    | exc x e2 => cases e
    | ok k e2 =>
    intro k' H3 s3 ek
    have ek : k' = k := ek
    subst ek
    cases k' with
    | false =>
      dsimp only at e
      refine iteF ?_
      obtain ⟨f1, f2, f3, f4, vb, f5, f6, f7⟩ := fin s3
      subst f7
      exact ⟨_, by omega, rfl, hlt, acci, _, vb, e, ⟨f1, f2, f3, f4⟩, f5, f6, by omega, e2, rfl⟩
    | true =>
      dsimp only at e
      refine iteT ⟨fun b => ex b ∨ b = Dd, e2, s3.gd, ?_⟩
      cases q3 : f e2 with
      | none => rw [q3] at e; cases e
      | some rf =>
      rw [q3] at e
      refine ⟨rf, rfl, ?_⟩
      cases rf with
      | exc x e3 => cases e
      | ok ev e3 =>
      intro yv H4 s4 rv
      dsimp only at e
      cases q4 : frz ev with
      | none => rw [q4] at e; cases e
      | some xd =>
      rw [q4] at e
      dsimp only at e
      have rd := RepE.frz s3.gd s4 rv q4
      obtain ⟨f1, f2, f3, f4, vb, f5, f6, f7⟩ := fin (s3.trans s4)
      subst f7
      have hlen := f6.length
      have hil := it.len
      refine ⟨vb, f5, by omega, _, by omega, rfl, hlt, acci ++ [xd], wipeE e3 vs, vb ++ [yv], e, ⟨fun b o q n => ?_, fun b q => ?_, f3, ?_⟩, upd_same, ?_, by simp; omega, e3, rfl⟩
      · rw [upd_ne (fun z => by subst z; rw [hD] at q; cases q)]
        exact f1 b o q n
      · by_cases z : b = Dd
        · subst z; rw [upd_same]; exact fun z => nomatch z
        · rw [upd_ne z]; exact f2 b q
      · refine f4.chg (fun b o n q => ?_) fun b z => ?_
        · rw [upd_ne (fun z => n (.inr z))]; exact q
        · by_cases w : b = Dd
          · subst w; rw [upd_same]; exact fun z => nomatch z
          · rw [upd_ne w]; exact f4.dom b z
      · have rd' : Rep K T (fun b => exO ex σ (wipeE e3 vs) b ∨ b = Dd) H4 xd yv := rd.mono fun b o n q => ⟨fun z => n (by
          rcases z with (z | z) | z
          · exact .inl (.inl z)
          · exact .inr (owns_wipe par3 z)
          · exact .inl (.inr z)), q⟩
        refine (f6.append (RepL.one rd')).mono fun b o n q => ⟨n, ?_⟩
        rw [upd_ne (fun z => n (.inr z))]; exact q

theorem qe_comp (hc : X.calm = true) (hN : X.N.Nodup) (hi : QI T X tg iter fi) (ok : BlkOk X.N X.env.scope scope own)
    (hg : Blk X scope fun Y => QG T Y (but (own.map (·.2))) tg t) (ht : Blk X scope fun Y => QTs T Y ifs c) (he : Blk X scope fun Y => QE T Y elt f) (hs : ∀ x, foldedSetIterable iter X.env x = pure x := by intro _; rfl) :
    QE T X (.ListComp elt [⟨tg, iter, ifs, 0⟩] scope pos) (eComp (own.map (·.2)) fi t c f) := fun pn xe W tk hp => by
  refine impE (pe_lc (X := X.tr pn xe) (g := trG X.K T (but (own.map (·.2))) t) (tt := tr X.K T relT c W0) (te := tr X.K T (relE X.K T) f W0) hc hN (hi pn xe W tk hp) ok (fun s H C cl fp => hg s H C cl fp [] fun _ _ => False) (fun s H C cl fp => ht s H C cl fp [] (fun _ _ => False) W0 takes0 .never)
    (fun s H C cl fp => he s H C cl fp [] (fun _ _ => False) W0 takes0 .never) hs) fun σ H Q q => ?_
  obtain ⟨ex, env, q⟩ := q
  have g0 := q.1
  refine ⟨ex, env, (trx_bind (relI X.K T) rmE q).mono fun J H1 ⟨items, env1, s0, it, q⟩ D hD => ?_⟩
  obtain ⟨g1, r, er, o⟩ := q
  dsimp only at er
  cases w : compL (own.map (·.2)) t c f items [] (wipeE env1 (own.map (·.2))) with
  | none => rw [w] at er; cases er
  | some p =>
    obtain ⟨acc, envF⟩ := p
    rw [w] at er
    cases er
    exact comp_turns (Qd := fun H' => Q (.ref D) H') g0 s0 it w hD fun H' vacc s gD eD ra => o (.ref D) H' s ⟨D, rfl, hD, ⟨vacc, eD, ra⟩, gD⟩
/-- name = [..] on one line -/
theorem qs_setComp {np : Nat → Bool} {y : Str} {py spos : Pos} (i : Nat) (hc : X.calm = true) (hN : X.N.Nodup) (hi : QI T X tg iter fi) (ok : BlkOk X.N X.env.scope scope own)
    (hg : Blk X scope fun Y => QG T Y (but (own.map (·.2))) tg t) (ht : Blk X scope fun Y => QTs T Y ifs c) (he : Blk X scope fun Y => QE T Y elt f) (hyl : X.env.scope.names.lookup y = some .local := by rfl)
    (hsw : swapsWith (.ListComp elt [⟨tg, iter, ifs, 0⟩] scope pos) (some (.Name y py)) spos.line X.env = pure true := by exact sw_true rfl rfl rfl (by decide +kernel)) (hy : X.N[i]? = some y := by rfl) (hnp : np i = false := by rfl) (hs : ∀ x, foldedSetIterable iter X.env x = pure x := by intro _; rfl) :
    QS T X np (.Assign [.Name y py] (.ListComp elt [⟨tg, iter, ifs, 0⟩] scope pos) spos) (sSet i (eComp (own.map (·.2)) fi t c f)) := fun pn xe W tk hp => by
  refine impS (ps_setLc (X := X.tr pn xe) (g := trG X.K T (but (own.map (·.2))) t) (tt := tr X.K T relT c W0) (te := tr X.K T (relE X.K T) f W0) hc hN hy hyl hsw (hi pn xe W tk hp) ok (fun s H C cl fp => hg s H C cl fp [] fun _ _ => False) (fun s H C cl fp => ht s H C cl fp [] (fun _ _ => False) W0 takes0 .never)
    (fun s H C cl fp => he s H C cl fp [] (fun _ _ => False) W0 takes0 .never) hs) fun Dn σ H q => ?_
  obtain ⟨ex, env, z⟩ := trS_expr q (relE X.K T)
  have g0 := z.1
  refine ⟨ex, env, (trx_bind (relI X.K T) rmE z).mono fun J H1 ⟨items, env1, s0, it, q⟩ D hD => ?_⟩
  obtain ⟨g1, r, er, o⟩ := q
  dsimp only at er
  cases w : compL (own.map (·.2)) t c f items [] (wipeE env1 (own.map (·.2))) with
  | none => rw [w] at er; cases er
  | some p =>
    obtain ⟨acc, envF⟩ := p
    rw [w] at er
    cases er
    refine comp_turns (Qd := fun H' => gName i (.ref D) σ H' Dn.nx) g0 s0 it w hD fun H' vacc s gD eD ra => ?_
    obtain ⟨ex2, env2, H02, env3, a, g2, s2, ra2, _, r2, e2, o2⟩ := o (.ref D) H' s ⟨D, rfl, hD, ⟨vacc, eD, ra⟩, gD⟩
    cases e2
    exact o2 _ H' (Good.store hnp g2 s2 ra2)
end
end Dt
end
section
set_option maxRecDepth 100000
set_option maxHeartbeats 4000000
/-! QI: what is owned is changed; fields; methods; objects made; raise, try. -/
namespace Dt
open PySem PySem.Spec L2
open PyProof.Rows hiding St

section
variable {K : PySem.W.Frag} {T : Tab} {ex : Addr → Prop} {σ : St} {H H' : Hp} {env env' : Sl}
theorem Good.mut (g : Good K T ex σ H env) {i : Nat} {c c' : OC} {a : Addr} {o : HO} (e : env[i]? = some (.own c)) (ea : σ[i]? = some (some (V.ref a))) (r : RepO K T (exO ex σ env) (upd H a o) a c') :
    Step K T ex σ H env (upd H a o) (env.set i (.own c')) ∧ ∀ b, exO ex σ (env.set i (.own c')) b ↔ exO ex σ env b := by
  have hi : i < env.length := (List.getElem?_eq_some_iff.mp e).1
  have ow : ∀ {b}, Owns σ (env.set i (.own c')) b ↔ Owns σ env b := fun {b} => by
    constructor
    · rintro ⟨j, d, e1, e2⟩
      rcases set_get e1 with ⟨h, _, _⟩ | ⟨_, h⟩
      · subst h; exact ⟨j, c, e, e2⟩
      · exact ⟨j, d, h, e2⟩
    · rintro ⟨j, d, e1, e2⟩
      by_cases h : j = i
      · subst h; exact ⟨j, c', List.getElem?_set_self hi, e2⟩
      · exact ⟨j, d, by rw [List.getElem?_set_ne (Ne.symm h)]; exact e1, e2⟩
  have exq : ∀ b, exO ex σ (env.set i (.own c')) b ↔ exO ex σ env b := fun b => or_congr Iff.rfl ow
  have ex2 : exO ex σ (env.set i (.own c')) = exO ex σ env := funext fun b => propext (exq b)
  have oa : Owns σ env a := ⟨i, c, e, ea⟩
  have mo : ∀ b u, ¬ exO ex σ env b → H b = some u → ¬ exO ex σ env b ∧ upd H a o b = some u := fun b u n q => ⟨n, by rw [upd_ne (fun z => n (by rw [z]; exact .inr oa))]; exact q⟩
  refine ⟨⟨fun b u q n => by rw [upd_ne (fun z => n (by rw [z]; exact oa))]; exact q, fun b q => ?_, fun j d q => ?_, ⟨by rw [List.length_set]; exact g.len, fun j d q => ?_, fun j d q => ?_, fun j k b d d' q1 q2 q3 q4 => ?_, fun b h => ?_⟩⟩, exq⟩
  · by_cases z : b = a
    · subst z; rw [upd_same]; exact fun w => nomatch w
    · rw [upd_ne z]; exact q
  · rcases set_get q with ⟨h, _, _⟩ | ⟨_, h⟩
    · subst h; exact ⟨c, e⟩
    · exact ⟨d, h⟩
  · rcases set_get q with ⟨_, h, _⟩ | ⟨_, h⟩
    · cases h
    · obtain ⟨v, e1, rr⟩ := g.val j d h
      rw [ex2]
      exact ⟨v, e1, rr.mono mo⟩
  · rw [ex2]
    rcases set_get q with ⟨h1, h, _⟩ | ⟨h1, h⟩
    · cases h; subst h1
      obtain ⟨b, e1, n, _⟩ := g.own j c e
      rw [ea] at e1; cases e1
      exact ⟨a, ea, n, r⟩
    · obtain ⟨b, e1, n, rr⟩ := g.own j d h
      refine ⟨b, e1, n, rr.mono (upd_ne fun z => ?_) mo⟩
      subst z
      exact h1 (g.inj j i b d c h e e1 ea)
  · have f1 : ∃ d, env[j]? = some (.own d) := by
      rcases set_get q1 with ⟨h, _, _⟩ | ⟨_, h⟩
      · subst h; exact ⟨c, e⟩
      · exact ⟨d, h⟩
    have f2 : ∃ d, env[k]? = some (.own d) := by
      rcases set_get q2 with ⟨h, _, _⟩ | ⟨_, h⟩
      · subst h; exact ⟨c, e⟩
      · exact ⟨d', h⟩
    obtain ⟨x1, y1⟩ := f1
    obtain ⟨x2, y2⟩ := f2
    exact g.inj j k b x1 x2 y1 y2 q3 q4
  · by_cases z : b = a
    · subst z; rw [upd_same]; exact fun w => nomatch w
    · rw [upd_ne z]; exact g.dom b h
end

/-! ### methods of lists that a slot owns -/
def ownLst : Option Slot → Bool
  | some (.own (.lst _)) => true
  | _ => false
def mutM (op : List D → List D → Option (D × List D)) (i : Nat) (fs : M (List AV)) : M EV := fun env => if ownLst env[i]? = true then (M.bind fs fun as => fun env => match env[i]? with
  | some (.own (.lst xs)) => (vals as).bind fun ds => (op xs ds).bind fun p => some (.ok (.v p.1) (env.set i (.own (.lst p.2))))
  | _ => none) env else none
/-- what a method does by its data: r is the layer's reading -/
def Muts (K : PySem.W.Frag) (op : List D → List D → Option (D × List D)) (r : V → List V → Hp → VK → Prop) : Prop := ∀ (T : Tab) (ex : Addr → Prop) (H : Hp) (a : Addr) (xs : List D) (ws : List V) (ds : List D) (vs : List V) (d : D) (ys : List D) (Q : VK), ex a → H a = some (.lst ws) → RepL K T ex H xs ws → RepL K T ex H ds vs → op xs ds = some (d, ys) →
  (∀ v ws', RepL K T ex H ys ws' → Rep K T ex H d v → Q v (upd H a (.lst ws'))) → r (.ref a) vs H Q
section
variable {T : Tab} {X : Cx} {e : Expr} {es : List Expr} {x name : Str} {p apos pos : Pos} {id : String} {op : List D → List D → Option (D × List D)} {r : V → List V → Hp → VK → Prop} {fs : M (List AV)}
theorem mut_end {K : PySem.W.Frag} {ex : Addr → Prop} {σ : St} {H1 : Hp} {env1 : Sl} {W : WX} {Q : VK} {i : Nat} {as : List AV} {vs : List V} (hop : Muts K op r) (ra : Paired (fun a v => RepA K T ex σ env1 H1 v a) as vs)
    (q : trx K T (relE K T) ex (fun env => match env[i]? with
      | some (.own (.lst xs)) => (vals as).bind fun ds => (op xs ds).bind fun p => some (.ok (.v p.1) (env.set i (.own (.lst p.2))))
      | _ => none) env1 W σ H1 Q) : ∃ a, σ[i]? = some (some (V.ref a)) ∧ r (.ref a) vs H1 Q := by
  obtain ⟨g1, rr, er, o⟩ := q
  dsimp only at er
  cases w : env1[i]? with
  | none => rw [w] at er; cases er
  | some sl =>
    rw [w] at er
    cases sl with
    | emp => cases er
    | val d => cases er
    | own c =>
      cases c with
      | dic _ _ => cases er
      | ins _ _ => cases er
      | lst xs =>
        obtain ⟨ds, e1, er⟩ := opt_bind er
        obtain ⟨⟨d, ys⟩, e2, er⟩ := opt_bind er
        cases er
        obtain ⟨a, ea, n, ws, ha, rw'⟩ := g1.own i _ w
        have exa : exO ex σ env1 a := .inr ⟨i, _, w, ea⟩
        refine ⟨a, ea, hop T _ H1 a xs ws ds vs d ys Q exa ha rw' (vals_rep ra e1) e2 fun v ws' r1 r2 => ?_⟩
        have mo : ∀ b u, ¬ exO ex σ env1 b → H1 b = some u → ¬ exO ex σ env1 b ∧ upd H1 a (.lst ws') b = some u := fun b u n q => ⟨n, by rw [upd_ne (fun z => n (by rw [z]; exact exa))]; exact q⟩
        obtain ⟨st, exq⟩ := g1.mut (o := .lst ws') (c' := .lst ys) w ea ⟨ws', upd_same, r1.mono mo⟩
        exact o v _ st (Rep.mono (fun b u n q => ⟨fun z => n ((exq b).mp z), (mo b u n q).2⟩) r2)
theorem qe_mut (i : Nat) (slot : PySem.Slot "list" name id) (hty : typeOf (.builtin id) = pure (.type "method_descriptor")) (hm : ∀ pn xe, MtR (X.tr pn xe) id r) (hop : Muts X.K op r) (ha : QAs T X (e :: es) fs)
    (hN : X.N[i]? = some x := by rfl) (hv : Vis X.env.scope x := by first | exact Or.inl rfl | exact Or.inr (Or.inl rfl) | exact Or.inr (Or.inr rfl))
    (hbase : attributeBase (.Name x p) name X.env (eval (.Name x p) X.env) = eval (.Name x p) X.env := by rfl)
    (hfew : ((backTo pos (starEach (e :: es) X.env)).all (fun x => !x.1) && (backToKw pos (keywordEach [] X.env)).all (fun x => x.1.isSome)
      && decide ((e :: es).length + ([] : List Keyword).length + (if ([] : List Keyword).isEmpty then 0 else 1) < 30)) = true := by rfl)
    (hline : (apos.endLine == pos.line) = true := by rfl) (hs : starEach (e :: es) X.env = (false, eval e X.env) :: starEach es X.env := by rfl) (hplain : (backTo pos (starEach es X.env)).any (·.1) = false := by rfl)
    (hd : (x == ("__debug__" : Str)) = false := by decide) (hcd : (x == ("__classdict__" : Str)) = false := by decide) : QE T X (.Call (.Attribute (.Name x p) name apos) (e :: es) [] pos) (mutM op i fs) := fun pn xe W tk hp => by
  refine impE (pe_bm (X := X.tr pn xe) PySem.F.plainAttrs_list slot hty (hm pn xe) (pe_var hN hv hd hcd) (ha pn xe W tk hp) hbase hfew hline hs hplain) fun σ H Q ⟨ex, env, g, rr, er, o⟩ => ?_
  unfold mutM at er
  cases w : env[i]? with
  | none => rw [w] at er; cases er
  | some sl =>
    rw [w] at er
    cases sl with
    | emp => cases er
    | val d => cases er
    | own c =>
      cases c with
      | dic _ _ => cases er
      | ins _ _ => cases er
      | lst xs =>
        rw [show ownLst (some (Slot.own (OC.lst xs))) = true from rfl, if_pos rfl] at er
        obtain ⟨a, ea, n, ws, ha', _⟩ := g.own i _ w
        refine ⟨.ref a, ea, .inl ⟨rfl, _, .inl (.inl ha')⟩, ex, env, (trx_bind (relAs X.K T) rmE ⟨g, rr, er, o⟩).mono fun vs H1 ⟨as, env1, s, ra, q⟩ => ?_⟩
        obtain ⟨b, eb, hr⟩ := mut_end hop ra q
        rw [ea] at eb; cases eb
        exact hr
theorem qe_mut0 (i : Nat) (slot : PySem.Slot "list" name id) (hty : typeOf (.builtin id) = pure (.type "method_descriptor")) (hm : ∀ pn xe, MtR (X.tr pn xe) id r) (hop : Muts X.K op r)
    (hN : X.N[i]? = some x := by rfl) (hv : Vis X.env.scope x := by first | exact Or.inl rfl | exact Or.inr (Or.inl rfl) | exact Or.inr (Or.inr rfl))
    (hbase : attributeBase (.Name x p) name X.env (eval (.Name x p) X.env) = eval (.Name x p) X.env := by rfl) (hline : (apos.endLine == pos.line) = true := by rfl)
    (hd : (x == ("__debug__" : Str)) = false := by decide) (hcd : (x == ("__classdict__" : Str)) = false := by decide) : QE T X (.Call (.Attribute (.Name x p) name apos) [] [] pos) (mutM op i asNil) := fun pn xe W tk hp => by
  refine impE (pe_bm0 (X := X.tr pn xe) PySem.F.plainAttrs_list slot hty (hm pn xe) (pe_var hN hv hd hcd) hbase hline) fun σ H Q ⟨ex, env, g, rr, er, o⟩ => ?_
  unfold mutM at er
  cases w : env[i]? with
  | none => rw [w] at er; cases er
  | some sl =>
    rw [w] at er
    cases sl with
    | emp => cases er
    | val d => cases er
    | own c =>
      cases c with
      | dic _ _ => cases er
      | ins _ _ => cases er
      | lst xs =>
        rw [show ownLst (some (Slot.own (OC.lst xs))) = true from rfl, if_pos rfl] at er
        obtain ⟨a, ea, n, ws, ha', _⟩ := g.own i _ w
        obtain ⟨b, eb, hr⟩ := mut_end (W := W) (as := []) (vs := []) hop .nil ⟨g, rr, er, o⟩
        rw [ea] at eb; cases eb
        exact ⟨.ref a, ea, .inl ⟨rfl, _, .inl (.inl ha')⟩, hr⟩
end
def opAppend : List D → List D → Option (D × List D) := fun xs ds => match ds with
  | [d] => if xs.length < 1000000 then some (.non, xs ++ [d]) else none
  | _ => none
def opExtend : List D → List D → Option (D × List D) := fun xs ds => match ds with
  | [.lst ys] => if xs.length + ys.length ≤ 1000000 then some (.non, xs ++ ys) else none
  | _ => none
def opPop : List D → List D → Option (D × List D) := fun xs ds => match ds with
  | [] => xs[xs.length - 1]?.map fun d => (d, xs.dropLast)
  | [.int i] => if 0 ≤ i ∧ i < 1000000 then xs[i.toNat]?.map fun d => (d, xs.eraseIdx i.toNat) else none
  | _ => none
theorem RepL.dropLast {K : PySem.W.Frag} {T : Tab} {ex : Addr → Prop} {H : Hp} {ds : List D} {vs : List V} (r : RepL K T ex H ds vs) : RepL K T ex H ds.dropLast vs.dropLast := by
  rw [List.dropLast_eq_take, List.dropLast_eq_take, r.length]
  exact r.take _
theorem muts_append {K : PySem.W.Frag} : Muts K opAppend rAppend := by
  intro T ex H a xs ws ds vs d ys Q ha hH rx rd e k
  unfold opAppend at e
  split at e
  · rename_i d'
    split at e
    · rename_i hl
      cases e
      obtain ⟨v, vr, ev, r1, r2⟩ := rd
      have : vr = [] := r2
      subst this ev
      have := rx.length
      exact ⟨a, ws, v, rfl, rfl, hH, by rw [sizeLine_eq]; omega, k .non _ (rx.append (RepL.one r1)) rfl⟩
    · cases e
  · cases e
theorem muts_extend {K : PySem.W.Frag} : Muts K opExtend rExtend := by
  intro T ex H a xs ws ds vs d ys Q ha hH rx rd e k
  unfold opExtend at e
  split at e
  · rename_i zs
    split at e
    · rename_i hl
      cases e
      obtain ⟨v, vr, ev, ⟨b, us, e1, n, hb, r1⟩, r2⟩ := rd
      have : vr = [] := r2
      subst this ev e1
      have := rx.length
      have := r1.length
      exact ⟨a, b, ws, us, rfl, rfl, hH, hb, by rw [sizeLine_eq]; omega, k .non _ (rx.append r1) rfl⟩
    · cases e
  · cases e
def rPopBoth : V → List V → Hp → VK → Prop := fun x vs H Q => rPop x vs H Q ∨ rPopAt x vs H Q
theorem muts_pop {K : PySem.W.Frag} : Muts K opPop rPopBoth := by
  intro T ex H a xs ws ds vs d ys Q ha hH rx rd e k
  unfold opPop at e
  have hl := rx.length
  split at e
  · have ev : vs = [] := rd
    subst ev
    cases q : xs[xs.length - 1]? with
    | none => rw [q] at e; cases e
    | some d' =>
      rw [q] at e; cases e
      obtain ⟨v, e1, r1⟩ := rx.get q
      exact .inl ⟨a, ws, v, rfl, rfl, hH, by rw [← hl]; exact e1, k v _ rx.dropLast r1⟩
  · rename_i i
    split at e
    · rename_i hi
      obtain ⟨v, vr, ev, r1, r2⟩ := rd
      have : vr = [] := r2
      subst this ev
      have r1 : v = .int i := r1
      subst r1
      cases q : xs[i.toNat]? with
      | none => rw [q] at e; cases e
      | some d' =>
        rw [q] at e; cases e
        obtain ⟨v, e1, r1⟩ := rx.get q
        have h1 := (List.getElem?_eq_some_iff.mp e1).1
        exact .inr ⟨a, ws, i, i.toNat, v, rfl, rfl, hH, by omega, by omega, PySem.StrLaws.seqIndex_nonneg hi.1 (by omega), e1, k v _ (rx.erase _) r1⟩
    · cases e
  · cases e
theorem mt_popB {X : Cx} : MtR X "list.pop" rPopBoth := by
  intro pins s σ H x xs v us Q I rx rxs h
  rcases h with h | h
  · exact mt_pop pins s σ H x xs v us Q I rx rxs h
  · exact mt_popAt pins s σ H x xs v us Q I rx rxs h

/-! ### x[i] = e -/
def keyD : D → Option Key
  | .int i => some (.inl i)
  | .str s => some (.inr (mkS s))
  | _ => none
def dicPut (ks : List Key) (vs : List D) (k : Key) (d : D) : List Key × List D := match ks, vs with
  | a :: ks, v :: vs => if a = k then (a :: ks, d :: vs) else (a :: (dicPut ks vs k d).1, v :: (dicPut ks vs k d).2)
  | _, _ => ([k], [d])
def atV (f : M AV) {α : Type} (k : D → M α) : M α := M.bind f fun a => match a with
  | .v d => k d
  | .s _ => M.stuck
def setLM (x : Nat) (d : D) (kd : D) : M Unit := fun env => match kd, env[x]? with
  | .int k, some (.own (.lst xs)) => (ixN xs.length k).bind fun j => some (.ok () (env.set x (.own (.lst (xs.set j d)))))
  | _, _ => none
def setDM (x : Nat) (d : D) (kd : D) : M Unit := fun env => match env[x]? with
  | some (.own (.dic ks vs)) => (keyD kd).bind fun k => if ks.length < 1000000 ∧ ks.length = vs.length ∧ ks.Nodup then some (.ok () (env.set x (.own (.dic (dicPut ks vs k d).1 (dicPut ks vs k d).2)))) else none
  | _ => none
def grd {α : Type} (x : Nat) (m : M α) : M α := fun env => if isOwn env[x]? = true then m env else none
def sSetL (x : Nat) (fe fi : M AV) : S := sE (atV fe fun d => grd x (atV fi fun kd => setLM x d kd)) fun _ env => some (.nx env)
def sSetD (x : Nat) (fe fi : M AV) : S := sE (atV fe fun d => grd x (atV fi fun kd => setDM x d kd)) fun _ env => some (.nx env)
def relU : Rl V Unit := fun _ _ _ _ _ _ _ => True
theorem rmU : RM relU := fun _ _ _ _ _ _ _ _ _ r => r
section
variable {K : PySem.W.Frag} {T : Tab} {ex : Addr → Prop} {σ : St} {H H' : Hp} {env : Sl} {W : WX}
theorem trx_atV {α γ : Type} {rel : Rl γ α} (hm : RM rel) {f : M AV} {k : D → M α} {Q : γ → Hp → Prop} (h : trx K T rel ex (atV f k) env W σ H Q) :
    trx K T (relA K T) ex f env W σ H fun v H1 => ∃ d env1, Step K T ex σ H env H1 env1 ∧ Rep K T (exO ex σ env1) H1 d v ∧ trx K T rel ex (k d) env1 W σ H1 Q := by
  refine (trx_bind (relA K T) hm h).mono fun v H1 ⟨a, env1, s, r, q⟩ => ?_
  cases a with
  | s i => obtain ⟨_, _, e, _⟩ := q; cases e
  | v d => exact ⟨d, env1, s, r, q⟩
theorem trx_grd {α γ : Type} {rel : Rl γ α} {x : Nat} {m : M α} {Q : γ → Hp → Prop} (h : trx K T rel ex (grd x m) env W σ H Q) : (∃ a, σ[x]? = some (some (V.ref a))) ∧ trx K T rel ex m env W σ H Q := by
  obtain ⟨g, r, e, o⟩ := h
  unfold grd at e
  by_cases q : isOwn env[x]? = true
  · rw [if_pos q] at e
    cases w : env[x]? with
    | none => rw [w] at q; cases q
    | some sl =>
      rw [w] at q
      cases sl with
      | own c => obtain ⟨a, ea, _⟩ := g.own x c w; exact ⟨⟨a, ea⟩, g, r, e, o⟩
      | _ => cases q
  · rw [if_neg q] at e; cases e
theorem dicPut_put : ∀ {ks : List Key} {vs : List D} {ws : List V} {k : Key} {d : D} {v : V}, RepL K T ex H vs ws → Rep K T ex H d v → ks.length = vs.length → ks.Nodup →
    ∃ ws', putK (ks.zip ws) k v = (dicPut ks vs k d).1.zip ws' ∧ (dicPut ks vs k d).1.length = ws'.length ∧ RepL K T ex H (dicPut ks vs k d).2 ws'
  | [], [], _, k, d, v, r, rd, _, _ => by
    have e : _ = [] := r
    subst e
    exact ⟨[v], by simp [putK, dicPut], rfl, RepL.one rd⟩
  | [], _ :: _, _, _, _, _, _, _, hl, _ => by simp at hl
  | _ :: _, [], _, _, _, _, _, _, hl, _ => by simp at hl
  | a :: ks, x :: vs, _, k, d, v, ⟨u, ur, e, r1, r2⟩, rd, hl, nd => by
    subst e
    have nd' := List.nodup_cons.mp nd
    have hl' : ks.length = vs.length := by simpa using hl
    have hlu := r2.length
    by_cases h : a = k
    · subst h
      refine ⟨v :: ur, ?_, by simp [dicPut]; omega, by simp only [dicPut, if_pos]; exact ⟨v, ur, rfl, rd, r2⟩⟩
      simp only [dicPut, if_pos, List.zip_cons_cons, putK, List.any_cons, decide_true, Bool.true_or, List.map_cons]
      congr 1
      have : ∀ p ∈ ks.zip ur, ¬ p.1 = a := fun p hp z => nd'.1 (by subst z; exact (List.of_mem_zip hp).1)
      have me : (ks.zip ur).map (fun kv => if kv.1 = a then (kv.1, v) else kv) = (ks.zip ur).map id := List.map_congr_left fun p hp => if_neg (this p hp)
      rw [me, List.map_id]
    · obtain ⟨ws', h1, h2, h3⟩ := dicPut_put (k := k) (d := d) (v := v) r2 rd hl' nd'.2
      refine ⟨u :: ws', ?_, by simp only [dicPut, if_neg h, List.length_cons]; omega, by simp only [dicPut, if_neg h]; exact ⟨u, ws', rfl, r1, h3⟩⟩
      simp only [dicPut, if_neg h, List.zip_cons_cons]
      rw [← h1]
      unfold putK
      simp only [List.any_cons, decide_eq_false h, Bool.false_or, List.map_cons, if_neg h]
      split <;> simp
end
section
variable {T : Tab} {X : Cx} {np : Nat → Bool} {o i e : Expr} {x : Str} {p pos pos' : Pos} {fe fi : M AV}
theorem qs_setL (n : Nat) (he : QO T X e fe) (hi : QO T X i fi) (hN : X.N[n]? = some x := by rfl) (hv : Vis X.env.scope x := by first | exact Or.inl rfl | exact Or.inr (Or.inl rfl) | exact Or.inr (Or.inr rfl))
    (ha : ∀ v, assign (.Subscript (.Name x p) i pos') X.env v = (do
      let ov ← holding [v] (eval (.Name x p) X.env)
      let iv ← holding [v, ov] (eval i X.env)
      standAt pos'
      holding [v, ov, iv] (setItem ov iv v)
      release [v, ov, iv] []) := by intro _; rfl) (hs : swapsWithSole [.Subscript (.Name x p) i pos'] e pos.line X.env = pure false := by rfl) (hw : swappedStores [.Subscript (.Name x p) i pos'] e X.env = pure none := by rfl)
    (h1 : (assignEach [.Subscript (.Name x p) i pos'] X.env).map (·.2) = [assign (.Subscript (.Name x p) i pos') X.env] := by rfl)
    (hd : (x == ("__debug__" : Str)) = false := by decide) (hcd : (x == ("__classdict__" : Str)) = false := by decide) : QS T X np (.Assign [.Subscript (.Name x p) i pos'] e pos) (sSetL n fe fi) := fun pn xe W tk hp => by
  refine impS (ps_asg (X := X.tr pn xe) (he pn xe W tk hp) (pg_sub (pe_var hN hv hd hcd) (hi pn xe W tk hp) set_list ha) hs hw h1) fun D σ H q => ?_
  obtain ⟨ex, env, z⟩ := trS_expr q relU
  refine ⟨ex, env, (trx_atV rmU z).mono fun v H1 ⟨d, env1, s1, r1, z⟩ => ?_⟩
  obtain ⟨⟨a0, ea0⟩, z⟩ := trx_grd z
  refine ⟨.ref a0, ea0, ex, env1, (trx_atV rmU z).mono fun iv H2 ⟨kd, env2, s2, r2, z⟩ => ?_⟩
  have rd := Rep.step r1 s2
  obtain ⟨g2, rr, er, oo⟩ := z
  unfold setLM at er
  split at er
  · rename_i k xs w
    obtain ⟨j, ej, er⟩ := opt_bind er
    cases er
    obtain ⟨a, ea, n, ws, ha, rw'⟩ := g2.own _ _ w
    rw [ea0] at ea
    cases ea
    have exa : exO ex σ env2 a0 := .inr ⟨_, _, w, ea0⟩
    have mo : ∀ b u, ¬ exO ex σ env2 b → H2 b = some u → ¬ exO ex σ env2 b ∧ upd H2 a0 (.lst (ws.set j v)) b = some u := fun b u n q => ⟨n, by rw [upd_ne (fun z => n (by rw [z]; exact exa))]; exact q⟩
    obtain ⟨st, _⟩ := g2.mut (o := .lst (ws.set j v)) (c' := .lst (xs.set j d)) w ea0 ⟨_, upd_same, (rw'.set j rd).mono mo⟩
    obtain ⟨ex3, env3, H03, env4, u, g3, s3, _, _, r3, e3, o3⟩ := oo .non _ st trivial
    cases e3
    refine ⟨a0, ws, k, j, rfl, r2, ha, by rw [← rw'.length]; exact ej, o3 σ _ s3.s⟩
  · cases er
theorem qs_setD (n : Nat) (hu : X.A.units + 1 < cLine) (he : QO T X e fe) (hi : QO T X i fi) (hN : X.N[n]? = some x := by rfl) (hv : Vis X.env.scope x := by first | exact Or.inl rfl | exact Or.inr (Or.inl rfl) | exact Or.inr (Or.inr rfl))
    (hs : swapsWith e (some (.Subscript (.Name x p) i pos')) pos.line X.env = pure false := by rfl)
    (hd : (x == ("__debug__" : Str)) = false := by decide) (hcd : (x == ("__classdict__" : Str)) = false := by decide) : QS T X np (.Assign [.Subscript (.Name x p) i pos'] e pos) (sSetD n fe fi) := fun pn xe W tk hp => by
  refine impS (ps_dput (X := X.tr pn xe) hu (pe_var hN hv hd hcd) (hi pn xe W tk hp) (he pn xe W tk hp) hs) fun D σ H q => ?_
  obtain ⟨ex, env, z⟩ := trS_expr q relU
  refine ⟨ex, env, (trx_atV rmU z).mono fun v H1 ⟨d, env1, s1, r1, z⟩ => ?_⟩
  obtain ⟨⟨a0, ea0⟩, z⟩ := trx_grd z
  refine ⟨.ref a0, ea0, ex, env1, (trx_atV rmU z).mono fun iv H2 ⟨kd, env2, s2, r2, z⟩ => ?_⟩
  have rd := Rep.step r1 s2
  obtain ⟨g2, rr, er, oo⟩ := z
  unfold setDM at er
  split at er
  · rename_i ks vs w
    obtain ⟨k, ek, er⟩ := opt_bind er
    split at er
    · rename_i hl
      obtain ⟨hl, hl2, hnd⟩ := hl
      cases er
      obtain ⟨a, ea, n, ws, ha, hlw, rw'⟩ := g2.own _ _ w
      rw [ea0] at ea
      cases ea
      have exa : exO ex σ env2 a0 := .inr ⟨_, _, w, ea0⟩
      obtain ⟨ws', h1, h2, h3⟩ := dicPut_put (k := k) (d := d) (v := v) rw' rd hl2 hnd
      have mo : ∀ b u, ¬ exO ex σ env2 b → H2 b = some u → ¬ exO ex σ env2 b ∧ upd H2 a0 (.dK (putK (ks.zip ws) k v)) b = some u := fun b u n q => ⟨n, by rw [upd_ne (fun z => n (by rw [z]; exact exa))]; exact q⟩
      obtain ⟨st, _⟩ := g2.mut (o := .dK (putK (ks.zip ws) k v)) (c' := .dic (dicPut ks vs k d).1 (dicPut ks vs k d).2) w ea0 ⟨ws', by rw [upd_same, h1], h2, h3.mono mo⟩
      obtain ⟨ex3, env3, H03, env4, u, g3, s3, _, _, r3, e3, o3⟩ := oo .non _ st trivial
      cases e3
      have ekv : iv = kV k := by
        cases kd with
        | int j => cases ek; exact r2
        | str l => cases ek; exact r2
        | _ => cases ek
      subst ekv
      refine ⟨a0, _, rfl, DPut.k ha ?_, o3 σ _ s3.s⟩
      rw [List.length_zip, sizeLine_eq]
      omega
    · cases er
  · cases er
/-- {} -/
def eDict0 : M EV := M.ret (.o (.dic [] []))
theorem qe_dict0 {pos : Pos} : QE T X (.Dict [] [] pos) eDict0 := fun pn xe W tk hp => impE pe_dnewK fun σ H Q ⟨ex, env, q⟩ p hp => by
  obtain ⟨g, k⟩ := trx_ret q
  exact k _ _ (Step.ext g (ext_new hp)) ⟨p, rfl, hp, ⟨[], upd_same, rfl, .nil⟩, g.more hp (ext_new hp) (by rw [upd_same]; exact fun z => nomatch z)⟩
end
end Dt
end
section
set_option maxRecDepth 100000
set_option maxHeartbeats 4000000
/-! QK: fields, methods, properties, objects made; raise, try. -/
namespace Dt
open PySem PySem.Spec L2
open PyProof.Rows hiding St

theorem FL_nodup (t : Nat) : (FL t).Nodup := by
  unfold FL
  split <;> decide +kernel
theorem zip_lookup {β : Type} : ∀ {l : List Str} {vs : List β} {j : Nat} {f : Str}, l.Nodup → l[j]? = some f → l.length ≤ vs.length → (l.zip vs).lookup f = vs[j]?
  | [], _, j, f, _, h, _ => by simp at h
  | a :: l, [], j, f, _, _, hl => by simp at hl
  | a :: l, v :: vs, 0, f, _, h, _ => by simp at h; subst h; simp [List.lookup]
  | a :: l, v :: vs, j + 1, f, nd, h, hl => by
    have nd' := List.nodup_cons.mp nd
    simp at h
    have ne : (f == a) = false := beq_eq_false_iff_ne.mpr fun z => nd'.1 (z ▸ List.mem_of_getElem? h)
    simp only [List.zip_cons_cons, List.lookup, ne, List.getElem?_cons_succ]
    exact zip_lookup nd'.2 h (by simpa using hl)
theorem zip_lookup_none {β : Type} : ∀ {l : List Str} {vs : List β} {f : Str}, f ∉ l → (l.zip vs).lookup f = none
  | [], _, f, _ => rfl
  | a :: l, [], f, _ => rfl
  | a :: l, v :: vs, f, h => by
    simp only [List.mem_cons, not_or] at h
    have ne : (f == a) = false := beq_eq_false_iff_ne.mpr h.1
    simp only [List.zip_cons_cons, List.lookup, ne]
    exact zip_lookup_none h.2
theorem putF_new {f : Str} {v : V} : ∀ {l : List Str} {vs : List V}, f ∉ l → putF f v (l.zip vs) = l.zip vs ++ [(f, v)]
  | [], _, _ => rfl
  | a :: l, [], _ => rfl
  | a :: l, u :: vs, h => by
    simp only [List.mem_cons, not_or] at h
    simp only [List.zip_cons_cons, putF, if_neg (Ne.symm h.1), List.cons_append]
    rw [putF_new h.2]
theorem putF_set {f : Str} {v : V} : ∀ {l : List Str} {vs : List V} {j : Nat}, l.Nodup → l[j]? = some f → j < vs.length → putF f v (l.zip vs) = l.zip (vs.set j v)
  | [], _, j, _, h, _ => by simp at h
  | a :: l, [], j, _, _, hl => by simp at hl
  | a :: l, u :: vs, 0, _, h, _ => by simp at h; subst h; simp [putF]
  | a :: l, u :: vs, j + 1, nd, h, hl => by
    have nd' := List.nodup_cons.mp nd
    simp at h
    have ne : a ≠ f := fun z => nd'.1 (z ▸ List.mem_of_getElem? h)
    simp only [List.zip_cons_cons, putF, if_neg ne, List.set_cons_succ]
    rw [putF_set nd'.2 h (by simpa using hl)]

/-! ### fields -/
/-- an object's class and its fields so far -/
def objS : Option Slot → Option (Nat × List D)
  | some (.val (.obj t ds)) => some (t, ds)
  | some (.own (.ins t ds)) => some (t, ds)
  | _ => none
def objOf (env : Sl) : AV → Option (Nat × List D)
  | .v (.obj t ds) => some (t, ds)
  | .v _ => none
  | .s i => objS env[i]?
def eFld (fi : Nat → Option Nat) (fa : M AV) : M EV := M.bind fa fun a => fun env => (objOf env a).bind fun p => (fi p.1).bind fun j => lift ((p.2[j]?).map .v) env
section
variable {K : PySem.W.Frag} {T : Tab} {ex : Addr → Prop} {σ : St} {H H' : Hp} {env : Sl} {W : WX}
theorem objOf_ok {a : AV} {v : V} {t : Nat} {ds : List D} (g : Good K T ex σ H env) (r : RepA K T ex σ env H v a) (e : objOf env a = some (t, ds)) :
    ∃ x dx vs, v = .ref x ∧ H x = some (.ins (T.cls t) dx (((FL t).take ds.length).zip vs)) ∧ ds.length ≤ (FL t).length ∧ RepL K T (exO ex σ env) H ds vs := by
  have ob : ∀ {v : V} {t : Nat} {ds : List D}, Rep K T (exO ex σ env) H (.obj t ds) v → ∃ x dx vs, v = .ref x ∧ H x = some (.ins (T.cls t) dx (((FL t).take ds.length).zip vs)) ∧ ds.length ≤ (FL t).length ∧ RepL K T (exO ex σ env) H ds vs := fun {v t ds} ⟨x, dx, vs, e1, n, h, l, r⟩ => by
    have e2 := r.length
    have l : (FL t).length = vs.length := l
    exact ⟨x, dx, vs, e1, by rw [List.take_of_length_le (by omega)]; exact h, by omega, r⟩
  cases a with
  | v d => cases d <;> first | cases e; exact ob r | cases e
  | s i =>
    have e : objS env[i]? = some (t, ds) := e
    have r : σ[i]? = some (some v) := r
    cases q : env[i]? with
    | none => rw [q] at e; cases e
    | some sl =>
      rw [q] at e
      cases sl with
      | emp => cases e
      | val d =>
        obtain ⟨u, e1, h⟩ := g.val i d q
        rw [r] at e1; cases e1
        cases d <;> first | cases e; exact ob h | cases e
      | own c =>
        obtain ⟨x, e1, n, h⟩ := g.own i c q
        rw [r] at e1; cases e1
        cases c with
        | ins t' ds' => cases e; obtain ⟨dx, vs, h1, h2, h3⟩ := h; exact ⟨x, dx, vs, rfl, h1, h2, h3⟩
        | _ => cases e
theorem take_nodup {t n : Nat} : ((FL t).take n).Nodup := (FL_nodup t).sublist (List.take_sublist _ _)
theorem take_at {t n j : Nat} {f : Str} (h : (FL t)[j]? = some f) (hj : j < n) : ((FL t).take n)[j]? = some f := by rw [List.getElem?_take_of_lt hj]; exact h
end
section
variable {T : Tab} {X : Cx} {e : Expr} {f : Str} {pos : Pos} {fa : M AV} {fi : Nat → Option Nat}
theorem qe_fld (h : QO T X e fa) (hf : ∀ t j, fi t = some j → (FL t)[j]? = some f ∧ Cls X.K (T.cls t) ∧ NoAttr X.K (T.cls t) f) (hb : attributeBase e f X.env (eval e X.env) = eval e X.env := by rfl) : QE T X (.Attribute e f pos) (eFld fi fa) := fun pn xe W tk hp => by
  refine impE (pe_fld (X := X.tr pn xe) (h pn xe W tk hp) hb) fun σ H Q ⟨ex, env, q⟩ => ?_
  refine ⟨ex, env, (trx_bind (relA X.K T) rmE q).mono fun v H1 ⟨a, env1, s, ra, q⟩ => ?_⟩
  obtain ⟨g1, r, er, o⟩ := q
  obtain ⟨⟨t, ds⟩, e1, er⟩ := opt_bind er
  obtain ⟨j, e2, er⟩ := opt_bind er
  dsimp only at er e2
  obtain ⟨h1, h2, h3⟩ := hf t j e2
  obtain ⟨x, dx, vs, ev, hx, hl, rl⟩ := objOf_ok g1 ra e1
  cases w : ds[j]? with
  | none => rw [w] at er; cases er
  | some d =>
    rw [w] at er
    cases er
    obtain ⟨u, e3, rd⟩ := rl.get w
    have hj := (List.getElem?_eq_some_iff.mp w).1
    have hlv := rl.length
    exact ⟨x, _, dx, _, u, ev, hx, h2, h3, by rw [zip_lookup take_nodup (take_at h1 hj) (by rw [List.length_take]; omega)]; exact e3, o u H1 (Step.refl g1) rd⟩
end
/-- self.f = e: the next field, or one that is there -/
def setFM (x : Nat) (fi : Nat → Option Nat) (d : D) : M Unit := fun env => match env[x]? with
  | some (.own (.ins t ds)) => (fi t).bind fun j => if j = ds.length then some (.ok () (env.set x (.own (.ins t (ds ++ [d]))))) else if j < ds.length then some (.ok () (env.set x (.own (.ins t (ds.set j d))))) else none
  | _ => none
def sSetF (x : Nat) (fi : Nat → Option Nat) (fe : M AV) : S := sE (atV fe fun d => setFM x fi d) fun _ env => some (.nx env)
section
variable {T : Tab} {X : Cx} {np : Nat → Bool} {e : Expr} {x f : Str} {p pos pos' : Pos} {fe : M AV} {fi : Nat → Option Nat}
theorem setF_ok {K : PySem.W.Frag} {ex : Addr → Prop} {σ : St} {H : Hp} {env : Sl} {W : WX} {n : Nat} {d : D} {v : V} {Q : V → Hp → Prop} (hf : ∀ t j, fi t = some j → (FL t)[j]? = some f ∧ Cls K (T.cls t) ∧ NoAttr K (T.cls t) f)
    (h : trx K T relU ex (setFM n fi d) env W σ H Q) (rd : Rep K T (exO ex σ env) H d v) : ∃ a C dx fs, σ[n]? = some (some (V.ref a)) ∧ H a = some (.ins C dx fs) ∧ Cls K C ∧ NoAttr K C f ∧ fs.length < 1000 ∧ Q .non (upd H a (.ins C dx (putF f v fs))) := by
  obtain ⟨g, r, er, o⟩ := h
  unfold setFM at er
  split at er
  · rename_i t ds w
    obtain ⟨j, e1, er⟩ := opt_bind er
    obtain ⟨h1, h2, h3⟩ := hf t j e1
    obtain ⟨a, ea, n, dx, vs, ha, hl, rl⟩ := g.own _ _ w
    have exa : exO ex σ env a := .inr ⟨_, _, w, ea⟩
    have hlv := rl.length
    have fsl : (((FL t).take ds.length).zip vs).length < 1000 := by
      rw [List.length_zip, List.length_take]
      have : (FL t).length ≤ 10 := by unfold FL; split <;> decide
      omega
    have mo : ∀ w' b u, ¬ exO ex σ env b → H b = some u → ¬ exO ex σ env b ∧ upd H a w' b = some u := fun w' b u n q => ⟨n, by rw [upd_ne (fun z => n (by rw [z]; exact exa))]; exact q⟩
    split at er
    · rename_i hj
      cases er
      subst hj
      have hlt := (List.getElem?_eq_some_iff.mp h1).1
      have hlt : ds.length < (FL t).length := hlt
      have nin : f ∉ (FL t).take ds.length := fun hm => by
        obtain ⟨k, hk, ek⟩ := List.mem_iff_getElem.mp hm
        rw [List.length_take] at hk
        rw [List.getElem_take] at ek
        have h5 : (FL t)[k]? = some f := by rw [List.getElem?_eq_getElem (by omega), ek]
        have := nodup_ix (FL_nodup t) h5 h1
        omega
      have e4 : putF f v (((FL t).take ds.length).zip vs) = ((FL t).take (ds ++ [d]).length).zip (vs ++ [v]) := by
        rw [putF_new nin, List.length_append, List.length_singleton, List.take_succ_eq_append_getElem hlt]
        rw [List.zip_append (by rw [List.length_take]; omega)]
        congr 1
        have : (FL t)[ds.length] = f := by rw [List.getElem?_eq_getElem hlt] at h1; exact Option.some.inj h1
        rw [this]; rfl
      obtain ⟨st, _⟩ := g.mut (o := .ins (T.cls t) dx (putF f v (((FL t).take ds.length).zip vs))) (c' := .ins t (ds ++ [d])) w ea
        ⟨dx, vs ++ [v], by rw [upd_same, e4], by rw [List.length_append, List.length_singleton]; omega, (rl.append (RepL.one rd)).mono (mo _)⟩
      exact ⟨a, _, dx, _, ea, ha, h2, h3, fsl, o .non _ st trivial⟩
    · split at er
      · rename_i hj
        cases er
        have e4 : putF f v (((FL t).take ds.length).zip vs) = ((FL t).take (ds.set j d).length).zip (vs.set j v) := by
          rw [List.length_set]
          exact putF_set take_nodup (take_at h1 hj) (by omega)
        obtain ⟨st, _⟩ := g.mut (o := .ins (T.cls t) dx (putF f v (((FL t).take ds.length).zip vs))) (c' := .ins t (ds.set j d)) w ea
          ⟨dx, vs.set j v, by rw [upd_same, e4], by rw [List.length_set]; omega, (rl.set j rd).mono (mo _)⟩
        exact ⟨a, _, dx, _, ea, ha, h2, h3, fsl, o .non _ st trivial⟩
      · cases er
  · cases er
theorem qs_setF (n : Nat) (he : QO T X e fe) (hf : ∀ t j, fi t = some j → (FL t)[j]? = some f ∧ Cls X.K (T.cls t) ∧ NoAttr X.K (T.cls t) f) (hN : X.N[n]? = some x := by rfl) (hv : Vis X.env.scope x := by first | exact Or.inl rfl | exact Or.inr (Or.inl rfl) | exact Or.inr (Or.inr rfl))
    (hs : swapsWith e (some (.Attribute (.Name x p) f pos')) pos.line X.env = pure false := by rfl) (hd : (x == ("__debug__" : Str)) = false := by decide) (hcd : (x == ("__classdict__" : Str)) = false := by decide) :
    QS T X np (.Assign [.Attribute (.Name x p) f pos'] e pos) (sSetF n fi fe) := fun pn xe W tk hp => by
  refine impS (ps_fld (X := X.tr pn xe) (pe_var hN hv hd hcd) (he pn xe W tk hp) hs) fun D σ H q => ?_
  obtain ⟨ex, env, z⟩ := trS_expr q relU
  refine ⟨ex, env, (trx_atV rmU z).mono fun v H1 ⟨d, env1, s1, r1, z⟩ => ?_⟩
  obtain ⟨a, C, dx, fs, ea, h1, h2, h3, h4, q⟩ := setF_ok hf z r1
  refine ⟨.ref a, ea, a, C, dx, fs, rfl, h1, h2, h3, h4, ?_⟩
  obtain ⟨ex3, env3, H03, env4, u, g3, s3, _, _, r3, e3, o3⟩ := q
  cases e3
  exact o3 σ _ s3.s
end

/-! ### methods -/
def eMeth (mt : Nat → Option (M EV)) (fa : M AV) (fs : M (List AV)) : M EV := M.bind fa fun a => fun env => (objOf env a).bind fun p => (mt p.1).bind fun g => (M.bind fs fun as => callM g (a :: as)) env
structure MethOK (T : Tab) (X : Cx) (m : Str) (mt : Nat → Option (M EV)) : Prop where
  of : ∀ t g, mt t = some g → m ∉ FL t ∧ Cls X.K (T.cls t) ∧ ∃ f k, Meth X.K (T.cls t) m f ∧ RG k X.A ∧ FnQ T X k f g
section
variable {X : Cx} {W : WX} {m : Str} {o e : Expr} {es : List Expr} {ta : TE} {t : TA} {pos apos : Pos} {pl : Sem Bool}
/-- what a method call asks -/
def AskM (X : Cx) (m : Str) (x : V) (H1 : Hp) (R : Sp → Prop) : Prop := ∃ a C dx fs g k sp, x = .ref a ∧ H1 a = some (.ins C dx fs) ∧ fs.lookup m = none ∧ Cls X.K C ∧ Meth X.K C m g ∧ RG k X.A ∧ FnG X.prog X.w X.K X.mg X.base k g sp ∧ R sp
theorem pe_methQ (he : PE X o ta) (tk : Takes X W) (ha : PA X (e :: es) t)
    (hst : starEach (e :: es) X.env = (false, eval e X.env) :: starEach es X.env := by rfl) (hpl : (backTo pos (starEach es X.env)).any (·.1) = false := by rfl)
    (ht : eval (.Call (.Attribute o m apos) (e :: es) [] pos) X.env = (do
      let ov ← eval o X.env
      standAt apos.atName
      let (f, first) ← holding [ov] (getMethod ov m pl)
      callWith pos f first (backTo pos (starEach (e :: es) X.env)) (backToKw pos (keywordEach [] X.env))) := by rfl) :
    PE X (.Call (.Attribute o m apos) (e :: es) [] pos) (fun σ H Q => ta σ H fun x H1 => AskM X m x H1 fun sp => t σ H1 fun vs H2 => sp (x :: vs) H2 Q fun c d H' => W c d σ H') := by
  refine ⟨fun pins s σ H Q I h => ?_⟩
  refine PySem.W.methodCall_KW (pl := pl) (thn (he.run pins s σ H _ I h) fun u s1 ⟨x, H1, I1, rx, a, C, dx, fs, g, k, sp, ex, ea, l, c, hm, hr, F, q⟩ => ?_) ht
  subst ex
  obtain rfl : u = Value.ref a := rx
  refine getmeth_ok I1 ea c hm l ?_
  refine PySem.W.callWith_K (first := [.ref a]) (h₀ := X.base) I.ok.mod.kin hm.kp (thn (ha.run pos pins s1 σ H1 _ I1 q) fun us s2 ⟨vs, H2, I2, r, q2⟩ => ⟨I2.kIn, ?_⟩) hst hpl
  exact wpAny_call (run_at (us := .ref a :: us) (vs := .ref a :: vs) F hr tk I2 (.cons rfl r) q2)
theorem pe_methQ0 (he : PE X o ta) (tk : Takes X W)
    (ht : eval (.Call (.Attribute o m apos) [] [] pos) X.env = (do
      let ov ← eval o X.env
      standAt apos.atName
      let (f, first) ← holding [ov] (getMethod ov m pl)
      callWith pos f first (backTo pos (starEach [] X.env)) (backToKw pos (keywordEach [] X.env))) := by rfl) :
    PE X (.Call (.Attribute o m apos) [] [] pos) (fun σ H Q => ta σ H fun x H1 => AskM X m x H1 fun sp => sp [x] H1 Q fun c d H' => W c d σ H') := by
  refine ⟨fun pins s σ H Q I h => ?_⟩
  refine PySem.W.methodCall_KW (pl := pl) (thn (he.run pins s σ H _ I h) fun u s1 ⟨x, H1, I1, rx, a, C, dx, fs, g, k, sp, ex, ea, l, c, hm, hr, F, q⟩ => ?_) ht
  subst ex
  obtain rfl : u = Value.ref a := rx
  refine getmeth_ok I1 ea c hm l ?_
  exact PySem.W.callWith_K0 (first := [.ref a]) I1.kIn hm.kp (wpAny_call (run_at (us := [.ref a]) (vs := [.ref a]) F hr tk I1 (.cons rfl .nil) q))
end
section
variable {T : Tab} {X : Cx} {o e : Expr} {es : List Expr} {m : Str} {pos apos : Pos} {pl : Sem Bool} {fa : M AV} {fs : M (List AV)} {mt : Nat → Option (M EV)}
theorem trx_meth {ex : Addr → Prop} {σ : St} {H1 : Hp} {env1 : Sl} {W : WX} {Q : VK} {a : AV} {v : V} {k : M EV → M EV} (hm : MethOK T X m mt) (ra : RepA X.K T ex σ env1 H1 v a)
    (q : trx X.K T (relE X.K T) ex (fun env => (objOf env a).bind fun p => (mt p.1).bind fun g => k g env) env1 W σ H1 Q) {R : Sp → Prop} (hR : ∀ g, trx X.K T (relE X.K T) ex (k g) env1 W σ H1 Q → R (spD X.K T g)) : AskM X m v H1 R := by
  obtain ⟨g1, r, er, oo⟩ := q
  obtain ⟨⟨t, ds⟩, e1, er⟩ := opt_bind er
  obtain ⟨g, e2, er⟩ := opt_bind er
  obtain ⟨x, dx, vs, ev, hx, hl, rl⟩ := objOf_ok g1 ra e1
  obtain ⟨h1, h2, f, k', h3, h4, h5⟩ := hm.of t g e2
  exact ⟨x, _, dx, _, f, k', spD X.K T g, ev, hx, zip_lookup_none fun z => h1 (List.mem_of_mem_take z), h2, h3, h4, h5, hR g ⟨g1, r, er, oo⟩⟩
theorem qe_meth (h : QO T X o fa) (hm : MethOK T X m mt) (ha : QAs T X (e :: es) fs)
    (hst : starEach (e :: es) X.env = (false, eval e X.env) :: starEach es X.env := by rfl) (hpl : (backTo pos (starEach es X.env)).any (·.1) = false := by rfl)
    (ht : eval (.Call (.Attribute o m apos) (e :: es) [] pos) X.env = (do
      let ov ← eval o X.env
      standAt apos.atName
      let (f, first) ← holding [ov] (getMethod ov m pl)
      callWith pos f first (backTo pos (starEach (e :: es) X.env)) (backToKw pos (keywordEach [] X.env))) := by rfl) : QE T X (.Call (.Attribute o m apos) (e :: es) [] pos) (eMeth mt fa fs) := fun pn xe W tk hp => by
  refine impE (pe_methQ (X := X.tr pn xe) (pl := pl) (h pn xe W tk hp) tk (ha pn xe W tk hp) hst hpl ht) fun σ H Q ⟨ex, env, q⟩ => ?_
  refine ⟨ex, env, (trx_bind (relA X.K T) rmE q).mono fun v H1 ⟨a, env1, s, ra, q⟩ => ?_⟩
  refine trx_meth (X := X) hm ra q fun g q => ⟨ex, env1, (trx_bind (relAs X.K T) rmE q).mono fun vs H2 ⟨as, env2, s2, rs, q2⟩ => ?_⟩
  exact trx_call q2 (.cons (RepA.step ra s2) rs)
theorem qe_meth0 (h : QO T X o fa) (hm : MethOK T X m mt)
    (ht : eval (.Call (.Attribute o m apos) [] [] pos) X.env = (do
      let ov ← eval o X.env
      standAt apos.atName
      let (f, first) ← holding [ov] (getMethod ov m pl)
      callWith pos f first (backTo pos (starEach [] X.env)) (backToKw pos (keywordEach [] X.env))) := by rfl) : QE T X (.Call (.Attribute o m apos) [] [] pos) (eMeth mt fa asNil) := fun pn xe W tk hp => by
  refine impE (pe_methQ0 (X := X.tr pn xe) (pl := pl) (h pn xe W tk hp) tk ht) fun σ H Q ⟨ex, env, q⟩ => ?_
  refine ⟨ex, env, (trx_bind (relA X.K T) rmE q).mono fun v H1 ⟨a, env1, s, ra, q⟩ => ?_⟩
  refine trx_meth (X := X) (k := fun g => M.bind asNil fun as => callM g (a :: as)) hm ra q fun g q => ?_
  exact trx_call (as := [a]) q (.cons ra .nil)
end

/-! ### properties -/
def eProp (mt : Nat → Option (M EV)) (fa : M AV) : M EV := M.bind fa fun a => fun env => (objOf env a).bind fun p => (mt p.1).bind fun g => match callM g [a] env with
  | some (.ok v e) => some (.ok v e)
  | _ => none
structure PropsOK (T : Tab) (X : Cx) (m : Str) (mt : Nat → Option (M EV)) : Prop where
  of : ∀ t g, mt t = some g → Cls X.K (T.cls t) ∧ ∃ p f k, PropOf X.K (T.cls t) m p f ∧ RG (k + 1) X.A ∧ FnQ T X k f g
section
variable {T : Tab} {X : Cx} {e : Expr} {m : Str} {pos : Pos} {fa : M AV} {mt : Nat → Option (M EV)}
theorem getprop_Q {pins : List (Addr × Obj)} {σ : St} {H : Hp} {s : Shared} {Q : VK} {b : Bool} {a C dx p g : Addr} {fs : List (Str × V)} {k : Nat} {f : Str} {sp : Sp} {E' : Value → Shared → Prop} (I : Inv X pins σ H s) (ea : H a = some (.ins C dx fs)) (c : Cls X.K C) (hp : PropOf X.K C f p g)
    (F : FnG X.prog X.w X.K X.mg X.base k g sp) (hr : RG (k + 1) X.A) (h : sp [.ref a] H Q E0) :
    wpAny (model X.prog X.w) X.A (getAttr (.ref a) f b) (EP X pins σ Q) E' s := by
  obtain ⟨mA, O, _, _, _, _⟩ := ins_get I.hok ea
  obtain ⟨od, J, _⟩ := O.look
  obtain ⟨rest, hrec⟩ := hp.rec_
  have I1 := I.tok (s.toks + 1)
  have hc : (PySem.W.clsIn X.K C).isSome = true := by
    obtain ⟨cd, hc, _⟩ := PySem.W.any_some c.hd
    rw [hc]
    rfl
  refine PySem.W.get_bind I.kIn J (PySem.W.plainGet_of (c.get f)).1 (PySem.W.findObj_data hc hp.at_ hp.get hp.tak) (PySem.W.plainGet_of (c.get f)).2 (wpAny_call (PySem.W.prop_get (s := { s with toks := s.toks + 1 }) I.kIn hrec ?_))
  refine codeAny_mono (F X.A.in1 X.stack { s with toks := s.toks + 1 } H [.ref a] [.ref a] Q E0 hr.in1 I1.env0.in1 (.cons rfl .nil) h) fun r s' hq => ?_
  cases r with
  | error er => exact False.elim (passL (X := X.nox) pins σ H { s with toks := s.toks + 1 } er s' (I1.wish _) hq)
  | ok fl =>
    cases fl with
    | ret u =>
      obtain ⟨v, H', I3, rv, q3⟩ := I1.after hq
      show wpAny _ _ (handedOut u) _ _ _
      rw [PySem.W.handedOut_of (handed_of rv)]
      exact wpAny_pure ⟨v, H', I3, rv, q3⟩
    | next => exact False.elim hq
    | brk => exact False.elim hq
    | cont => exact False.elim hq
theorem pe_propQ {ta : TE} (he : PE X e ta) (hab : attributeBase e m X.env (eval e X.env) = eval e X.env) : PE X (.Attribute e m pos) (fun σ H Q => ta σ H fun x H1 => ∃ a C dx fs p f k sp, x = .ref a ∧ H1 a = some (.ins C dx fs) ∧ Cls X.K C ∧ PropOf X.K C m p f ∧ RG (k + 1) X.A ∧
    FnG X.prog X.w X.K X.mg X.base k f sp ∧ sp [.ref a] H1 Q E0) := by
  refine ⟨fun pins s σ H Q I h => ?_⟩
  refine attr_of hab (thn (he.run pins s σ H _ I h) fun u s1 ⟨x, H1, I1, rx, a, C, dx, fs, p, f, k, sp, ex, ea, c, hp, hr, F, q⟩ => ?_)
  subst ex
  obtain rfl : u = Value.ref a := rx
  exact getprop_Q I1 ea c hp F hr q
theorem qe_prop (h : QO T X e fa) (hm : PropsOK T X m mt) (hab : attributeBase e m X.env (eval e X.env) = eval e X.env := by rfl) : QE T X (.Attribute e m pos) (eProp mt fa) := fun pn xe W tk hp => by
  refine impE (pe_propQ (X := X.tr pn xe) (h pn xe W tk hp) hab) fun σ H Q ⟨ex, env, q⟩ => ?_
  refine ⟨ex, env, (trx_bind (relA X.K T) rmE q).mono fun v H1 ⟨a, env1, s, ra, q⟩ => ?_⟩
  obtain ⟨g1, r, er, oo⟩ := q
  obtain ⟨⟨t, ds⟩, e1, er⟩ := opt_bind er
  obtain ⟨g, e2, er⟩ := opt_bind er
  obtain ⟨x, dx, vs, ev, hx, hl, rl⟩ := objOf_ok g1 ra e1
  obtain ⟨h2, p, f, k, h3, h4, h6⟩ := hm.of t g e2
  subst ev
  refine ⟨x, _, dx, _, p, f, k, spD X.K T g, rfl, hx, h2, h3, h4, h6, ?_⟩
  refine trx_call (W := fun _ _ _ _ => False) (σ := σ) (env := env1) (ex := ex) (as := [a]) (vs := [.ref x]) ⟨g1, r, ?_, ?_⟩ (.cons ra .nil)
  · split at er
    · cases er; assumption
    · cases er
  · split at er
    · cases er; exact oo
    · cases er
end

/-! ### objects made -/
def makeM (t : Nat) (g : M EV) (as : List AV) : M EV := fun env => match callM g (.s env.length :: as) (env ++ [.own (.ins t [])]) with
  | some (.ok (.v .non) e') => match e'[env.length]? with
    | some (.own (.ins t' ds)) => if t' = t ∧ ds.length = (FL t).length then some (.ok (.v (.obj t ds)) (e'.take env.length)) else none
    | _ => none
  | some (.exc x e') => some (.exc x (e'.take env.length))
  | _ => none
def eMake (t : Nat) (g : M EV) (fs : M (List AV)) : M EV := M.bind fs fun as => makeM t g as
section
variable {K : PySem.W.Frag} {T : Tab} {ex : Addr → Prop} {σ : St} {H H' H0 : Hp} {env e' : Sl} {W : WX} {c : OC} {x : Addr}
theorem snoc_get {α : Type} {l : List α} {y z : α} {j : Nat} (h : (l ++ [y])[j]? = some z) : (j < l.length ∧ l[j]? = some z) ∨ (j = l.length ∧ z = y) := by
  by_cases e : j < l.length
  · rw [List.getElem?_append_left e] at h; exact .inl ⟨e, h⟩
  · have : j = l.length := by
      have := (List.getElem?_eq_some_iff.mp h).1
      rw [List.length_append, List.length_singleton] at this
      omega
    subst this
    rw [List.getElem?_append_right (Nat.le_refl _), Nat.sub_self] at h
    exact .inr ⟨rfl, by simpa using h.symm⟩
theorem owns_push (hl : env.length = σ.length) {b : Addr} : Owns (σ ++ [some (V.ref x)]) (env ++ [.own c]) b ↔ Owns σ env b ∨ b = x := by
  constructor
  · rintro ⟨j, d, e1, e2⟩
    rcases snoc_get e1 with ⟨h1, h2⟩ | ⟨h1, h2⟩
    · rcases snoc_get e2 with ⟨_, h3⟩ | ⟨h3, _⟩
      · exact .inl ⟨j, d, h2, h3⟩
      · omega
    · subst h1
      rcases snoc_get e2 with ⟨h3, _⟩ | ⟨_, h3⟩
      · omega
      · cases h3; exact .inr rfl
  · rintro (⟨j, d, e1, e2⟩ | e)
    · have h1 := (List.getElem?_eq_some_iff.mp e1).1
      have h2 := (List.getElem?_eq_some_iff.mp e2).1
      exact ⟨j, d, by rw [List.getElem?_append_left h1]; exact e1, by rw [List.getElem?_append_left h2]; exact e2⟩
    · subst e
      exact ⟨env.length, c, by simp, by rw [hl]; simp⟩
/-- a new thing in a slot more -/
theorem Good.push (g : Good K T ex σ H env) (hx : H x = none) (k : ∀ b o, H b = some o → H' b = some o) (r : RepO K T (fun b => exO ex σ env b ∨ b = x) H' x c) : Good K T ex (σ ++ [some (V.ref x)]) H' (env ++ [.own c]) := by
  have exq : exO ex (σ ++ [some (V.ref x)]) (env ++ [.own c]) = fun b => exO ex σ env b ∨ b = x := funext fun b => propext (by
    unfold exO
    rw [owns_push g.len, or_assoc])
  have mo : ∀ b o, ¬ exO ex σ env b → H b = some o → ¬ (exO ex σ env b ∨ b = x) ∧ H' b = some o := fun b o n q => ⟨fun z => z.elim n fun z => (by rw [z, hx] at q; exact nomatch q), k b o q⟩
  refine ⟨by simp [g.len], fun j d e => ?_, fun j d e => ?_, fun i j a d d' e1 e2 e3 e4 => ?_, fun b h => ?_⟩
  · rw [exq]
    rcases snoc_get e with ⟨h1, h2⟩ | ⟨_, h2⟩
    · obtain ⟨v, e1, rr⟩ := g.val j d h2
      exact ⟨v, by rw [List.getElem?_append_left (by rw [← g.len]; exact h1)]; exact e1, rr.mono mo⟩
    · cases h2
  · rw [exq]
    rcases snoc_get e with ⟨h1, h2⟩ | ⟨h1, h2⟩
    · obtain ⟨a, e1, n, rr⟩ := g.own j d h2
      refine ⟨a, by rw [List.getElem?_append_left (by rw [← g.len]; exact h1)]; exact e1, n, rr.mono ?_ mo⟩
      cases w : H a with
      | none => exact absurd w rr.there
      | some o => exact k a o w
    · cases h2; subst h1
      exact ⟨x, by rw [g.len]; simp, fun z => g.dom x z hx, r⟩
  · have nx : ∀ {j : Nat} {d : OC}, env[j]? = some (.own d) → σ[j]? ≠ some (some (V.ref x)) := fun {j d} h z => (g.owned ⟨j, d, h, z⟩).1 hx
    rcases snoc_get e1 with ⟨h1, h2⟩ | ⟨h1, h2⟩
    · rw [List.getElem?_append_left (by rw [← g.len]; exact h1)] at e3
      rcases snoc_get e2 with ⟨h3, h4⟩ | ⟨h3, h4⟩
      · rw [List.getElem?_append_left (by rw [← g.len]; exact h3)] at e4
        exact g.inj i j a d d' h2 h4 e3 e4
      · subst h3; rw [g.len] at e4; simp at e4; subst e4; exact absurd e3 (nx h2)
    · subst h1
      rw [g.len] at e3; simp at e3; subst e3
      rcases snoc_get e2 with ⟨h3, h4⟩ | ⟨h3, h4⟩
      · rw [List.getElem?_append_left (by rw [← g.len]; exact h3)] at e4
        exact absurd e4 (nx h4)
      · exact h3.symm
  · intro q
    cases w : H b with
    | none => exact g.dom b h w
    | some o => rw [k b o w] at q; cases q
theorem step_popped (g : Good K T ex σ H env) (hx : H x = none) (k : ∀ b o, H b = some o → H0 b = some o) (s : Step K T ex (σ ++ [some (V.ref x)]) H0 (env ++ [.own c]) H' e') :
    Step K T ex σ H env H' (e'.take env.length) ∧ (∀ b, exO ex σ (e'.take env.length) b → exO ex (σ ++ [some (V.ref x)]) e' b) ∧ (∀ c', e'[env.length]? = some (.own c') → RepO K T (exO ex (σ ++ [some (V.ref x)]) e') H' x c' ∧ ¬ exO ex σ (e'.take env.length) x) := by
  have hl := s.gd.len
  rw [List.length_append, List.length_singleton] at hl
  have tk : ∀ {j : Nat} {z : Slot}, (e'.take env.length)[j]? = some z → j < env.length ∧ e'[j]? = some z := fun {j z} h => by
    rw [List.getElem?_take] at h
    split at h
    · exact ⟨by assumption, h⟩
    · cases h
  have σe : ∀ {j : Nat}, j < env.length → (σ ++ [some (V.ref x)])[j]? = σ[j]? := fun {j} h => List.getElem?_append_left (by rw [← g.len]; exact h)
  have ow : ∀ {b}, Owns σ (e'.take env.length) b → Owns (σ ++ [some (V.ref x)]) e' b ∧ b ≠ x := fun {b} ⟨j, d, e1, e2⟩ => by
    obtain ⟨h1, h2⟩ := tk e1
    refine ⟨⟨j, d, h2, by rw [σe h1]; exact e2⟩, fun z => ?_⟩
    subst z
    obtain ⟨d', e3⟩ := s.sb j d h2
    rw [List.getElem?_append_left h1] at e3
    exact (g.owned ⟨j, d', e3, e2⟩).1 hx
  have mo : ∀ b o, ¬ exO ex (σ ++ [some (V.ref x)]) e' b → H' b = some o → ¬ exO ex σ (e'.take env.length) b ∧ H' b = some o := fun b o n q => ⟨fun z => n (z.imp id fun z => (ow z).1), q⟩
  refine ⟨⟨fun b o e n => s.fr b o (k b o e) fun z => ?_, fun b e => s.dm b fun q => ?_, fun j d e => ?_, ⟨by rw [List.length_take, g.len]; omega, fun j d e => ?_, fun j d e => ?_, fun i j a d d' e1 e2 e3 e4 => ?_, s.gd.dom⟩⟩, fun b h => h.imp id fun z => (ow z).1, fun c' e => ?_⟩
  · rcases (owns_push g.len).mp z with z | z
    · exact n z
    · subst z; rw [hx] at e; cases e
  · cases w : H b with
    | none => exact e w
    | some o => rw [k b o w] at q; cases q
  · obtain ⟨h1, h2⟩ := tk e
    obtain ⟨d', e3⟩ := s.sb j d h2
    rw [List.getElem?_append_left h1] at e3
    exact ⟨d', e3⟩
  · obtain ⟨h1, h2⟩ := tk e
    obtain ⟨v, e1, r⟩ := s.gd.val j d h2
    exact ⟨v, by rw [← σe h1]; exact e1, r.mono mo⟩
  · obtain ⟨h1, h2⟩ := tk e
    obtain ⟨a, e1, n, r⟩ := s.gd.own j d h2
    exact ⟨a, by rw [← σe h1]; exact e1, n, r.mono rfl mo⟩
  · obtain ⟨h1, h2⟩ := tk e1
    obtain ⟨h3, h4⟩ := tk e2
    exact s.gd.inj i j a d d' h2 h4 (by rw [σe h1]; exact e3) (by rw [σe h3]; exact e4)
  · obtain ⟨a, e1, n, r⟩ := s.gd.own _ c' e
    have e2 : (σ ++ [some (V.ref x)])[env.length]? = some (some (V.ref x)) := by rw [g.len]; simp
    rw [e2] at e1
    cases e1
    exact ⟨r, fun z => z.elim n fun z => (ow z).2 rfl⟩
/-- the promise of __init__ at a new instance -/
theorem trx_make {t : Nat} {gi : M EV} {as : List AV} {vs : List V} {Q : VK} {dx : Addr} (h : trx K T (relE K T) ex (makeM t gi as) env W σ H Q) (hp : Paired (fun a v => RepA K T ex σ env H v a) as vs) (hx : H x = none) (hdx : H dx = none) (hne : dx ≠ x) :
    spD K T gi (.ref x :: vs) (upd (upd H dx (.own x)) x (.ins (T.cls t) dx [])) (fun v H2 => v = .non ∧ Q (.ref x) H2) fun c d H' => W c d σ H' := by
  obtain ⟨g, r, er, o⟩ := h
  have k : ∀ b u, H b = some u → upd (upd H dx (.own x)) x (.ins (T.cls t) dx []) b = some u := fun b u e => by
    rw [upd_ne (ne_of_none e hx), upd_ne (ne_of_none e hdx)]; exact e
  have gp : Good K T ex (σ ++ [some (V.ref x)]) (upd (upd H dx (.own x)) x (.ins (T.cls t) dx [])) (env ++ [.own (.ins t [])]) := g.push hx k ⟨dx, [], by rw [upd_same]; rfl, Nat.zero_le _, .nil⟩
  have exle : ∀ b, exO ex σ env b → exO ex (σ ++ [some (V.ref x)]) (env ++ [.own (.ins t [])]) b := fun b h => h.imp id fun z => (owns_push g.len).mpr (.inl z)
  have exi : ∀ b, exO ex (σ ++ [some (V.ref x)]) (env ++ [.own (.ins t [])]) b → exO ex σ env b ∨ b = x := fun b h => by
    rcases h with h | h
    · exact .inl (.inl h)
    · exact ((owns_push g.len).mp h).imp .inr id
  have rp : ∀ {a : AV} {v : V}, RepA K T ex σ env H v a → RepA K T ex (σ ++ [some (V.ref x)]) (env ++ [.own (.ins t [])]) (upd (upd H dx (.own x)) x (.ins (T.cls t) dx [])) v a := fun {a v} r => by
    cases a with
    | v d => exact Rep.mono (fun b u n e => ⟨fun z => (exi b z).elim n fun z => (by rw [z, hx] at e; exact nomatch e), k b u e⟩) r
    | s i =>
      have r : σ[i]? = some (some v) := r
      show (σ ++ [some (V.ref x)])[i]? = some (some v)
      rw [List.getElem?_append_left (List.getElem?_eq_some_iff.mp r).1]; exact r
  have hp2 : Paired (fun a v => RepA K T ex (σ ++ [some (V.ref x)]) (env ++ [.own (.ins t [])]) (upd (upd H dx (.own x)) x (.ins (T.cls t) dx [])) v a) (.s env.length :: as) (.ref x :: vs) := by
    refine .cons (by show (σ ++ [some (V.ref x)])[env.length]? = _; rw [g.len]; simp) ?_
    clear er o
    induction hp with
    | nil => exact .nil
    | cons h1 h2 ih => exact .cons (rp h1) ih
  have conv : ∀ {rg : Re EV}, callM gi (.s env.length :: as) (env ++ [.own (.ins t [])]) = some rg → Out K T (relE K T) ex (env ++ [.own (.ins t [])]) (fun c d _ H' => W c d σ H') (σ ++ [some (V.ref x)]) (upd (upd H dx (.own x)) x (.ins (T.cls t) dx [])) (fun v H2 => v = .non ∧ Q (.ref x) H2) rg := fun {rg} e => by
    unfold makeM at er
    rw [e] at er
    cases rg with
    | exc z e' =>
      cases er
      intro cls dd H' s rx
      obtain ⟨s', exb, _⟩ := step_popped g hx k s
      refine o cls dd H' s' ⟨rx.1, rx.2.imp id ?_⟩
      rintro ⟨a, ws, e1, e2, l, rr⟩
      exact ⟨a, ws, e1, e2, l, rr.mono fun b u n e => ⟨fun z => n (exb b z), e⟩⟩
    | ok ev e' =>
      intro v H' s rv
      obtain ⟨s', exb, hown⟩ := step_popped g hx k s
      cases ev with
      | o c => cases er
      | v d =>
        cases d with
        | non =>
          dsimp only at er
          split at er
          · rename_i t' ds w
            split at er
            · rename_i ht
              cases er
              obtain ⟨rfl, hl⟩ := ht
              obtain ⟨⟨dx', us, h1, _, h3⟩, nx⟩ := hown _ w
              refine ⟨rv, o (.ref x) H' s' ⟨x, dx', us, rfl, nx, ?_, ?_, ?_⟩⟩
              · rw [hl, List.take_length] at h1; exact h1
              · rw [← h3.length, hl]
              · exact h3.mono fun b u n e => ⟨fun z => n (exb b z), e⟩
            · cases er
          · cases er
        | _ => cases er
  cases e : callM gi (.s env.length :: as) (env ++ [.own (.ins t [])]) with
  | none => unfold makeM at er; rw [e] at er; cases er
  | some rg => exact trx_call (W := fun c d _ H' => W c d σ H') ⟨gp, rg, e, conv e⟩ hp2
end
section
variable {X : Cx} {W : WX} {k : Nat} {f C : Addr} {sp : Sp} {x : Str} {p pos : Pos} {e : Expr} {es : List Expr} {t : TA}
theorem run_makeQ {pins : List (Addr × Obj)} {σ : St} {H : Hp} {s : Shared} {Q : VK} {us : List Value} {vs : List V} (M : Mk X.K C f) (F : FnG X.prog X.w X.K X.mg X.base k f sp) (hr : RG (k + 1) X.A) (tk : Takes X W) (I : Inv X pins σ H s) (r : Vals vs us)
    (h : ∀ x dx, H x = none → H dx = none → dx ≠ x → sp (V.ref x :: vs) (upd (upd H dx (.own x)) x (.ins C dx [])) (fun v H2 => v = .non ∧ Q (.ref x) H2) fun c d H' => W c d σ H') :
    wpAny (model X.prog X.w) X.A (call (.ref C) us) (EP X pins σ Q) X.xe s := by
  have hq := h (s.heap.objs.size + 1) s.heap.objs.size (I.hok.fresh (Nat.le_succ _)) (I.hok.fresh (Nat.le_refl _)) (Nat.ne_of_lt (Nat.lt_succ_self _))
  have I2 := Inv.made (C := C) I
  have r2 : Vals (V.ref (s.heap.objs.size + 1) :: vs) (Value.ref (s.heap.objs.size + 1) :: us) := .cons rfl r
  refine wpAny_call (make_map (f := f) I.kIn M.makes M.init (beq_iff_eq.mp M.fn) (codeAny_mono (F _ X.stack _ _ (Value.ref (s.heap.objs.size + 1) :: us) _ _ _ (hr.make C us) (I2.env0.make C us []) r2 hq) fun r s' hq' => ?_))
  cases r with
  | error e => exact tk e s' (XE.of_call I2 (fun _ _ _ h => h) hq')
  | ok fl =>
    cases fl with
    | ret u =>
      obtain ⟨v, H', I3, rv, ev, q3⟩ := I2.after hq'
      subst ev
      exact ⟨rv, ⟨V.ref (s.heap.objs.size + 1), H', I3, rfl, q3⟩⟩
    | next => exact False.elim hq'
    | brk => exact False.elim hq'
    | cont => exact False.elim hq'
def tMakeQ (C : Addr) (sp : Sp) (W : WX) (t : TA) : TE := fun σ H Q => t σ H fun vs H1 => ∀ x dx, H1 x = none → H1 dx = none → dx ≠ x → sp (V.ref x :: vs) (upd (upd H1 dx (.own x)) x (.ins C dx [])) (fun v H2 => v = .non ∧ Q (.ref x) H2) fun c d H' => W c d σ H'
theorem pe_makeQ (M : Mk X.K C f) (F : FnG X.prog X.w X.K X.mg X.base k f sp) (hr : RG (k + 1) X.A) (tk : Takes X W) (hg : Gl X x) (hm : X.mg x = some (.ref C)) (ha : PA X (e :: es) t) (hdb : (x == ("__debug__" : Str)) = false := by decide)
    (he : starEach (e :: es) X.env = (false, eval e X.env) :: starEach es X.env := by rfl) (hpl : (backTo pos (starEach es X.env)).any (·.1) = false := by rfl) : PE X (.Call (.Name x p) (e :: es) [] pos) (tMakeQ C sp W t) := by
  refine ⟨fun pins s σ H Q I h => ?_⟩
  refine wpAny_Call_Name_kw (ld_glob I hg hm ?_ hdb)
  refine PySem.W.callWith_K (h₀ := X.base) I.ok.mod.kin M.kp (thn (ha.run pos pins s σ H _ I h) fun us s1 ⟨vs, H1, I1, r, q⟩ => ⟨I1.kIn, ?_⟩) he hpl
  exact run_makeQ M F hr tk I1 r q
theorem pe_makeQ0 (M : Mk X.K C f) (F : FnG X.prog X.w X.K X.mg X.base k f sp) (hr : RG (k + 1) X.A) (tk : Takes X W) (hg : Gl X x) (hm : X.mg x = some (.ref C)) (hdb : (x == ("__debug__" : Str)) = false := by decide) : PE X (.Call (.Name x p) [] [] pos) (tMakeQ C sp W tNil) := by
  refine ⟨fun pins s σ H Q I h => ?_⟩
  refine wpAny_Call_Name_kw (ld_glob I hg hm ?_ hdb)
  exact PySem.W.callWith_K0 I.kIn M.kp (run_makeQ (us := []) M F hr tk I .nil h)
/-- C(*y) -/
theorem pe_makeQS {sp_ : Pos} {te : TE} (M : Mk X.K C f) (F : FnG X.prog X.w X.K X.mg X.base k f sp) (hr : RG (k + 1) X.A) (tk : Takes X W) (hg : Gl X x) (hm : X.mg x = some (.ref C)) (he : PE X e te) (hdb : (x == ("__debug__" : Str)) = false := by decide)
    (hst : starEach [.Starred e sp_] X.env = [(true, eval e X.env)] := by rfl) : PE X (.Call (.Name x p) [.Starred e sp_] [] pos) (fun σ H Q => te σ H fun y H1 => ∃ a vs, y = V.ref a ∧ (SqT X.K H1 a vs ∨ SqL X.K H1 a vs) ∧
      ∀ x dx, H1 x = none → H1 dx = none → dx ≠ x → sp (V.ref x :: vs) (upd (upd H1 dx (.own x)) x (.ins C dx [])) (fun v H2 => v = .non ∧ Q (.ref x) H2) fun c d H' => W c d σ H') := by
  refine ⟨fun pins s σ H Q I h => ?_⟩
  refine wpAny_Call_Name_kw (ld_glob I hg hm ?_ hdb)
  refine PySem.W.callWith_S (h₀ := X.base) I.ok.mod.kin M.kp (thn (he.run pins s σ H _ I h) fun v s1 ⟨y, H1, I1, ry, a, xs, ey, hxs, q⟩ => ?_) hst
  subst ey
  obtain rfl : v = Value.ref a := ry
  exact StX.star_any I1 hxs fun us s2 I2 rv => ⟨I2.kIn, run_makeQ M F hr tk I2 rv q⟩
end
/-- what a star hands on -/
def starD : D → Option (List D)
  | .lst ds => some ds
  | .tup ds => some ds
  | _ => none
def eMakeS (t : Nat) (g : M EV) (fa : M AV) : M EV := M.bind fa fun a => fun env => (deref env a).bind fun d => (starD d).bind fun ds => makeM t g (ds.map AV.v) env
theorem reps_of {K : PySem.W.Frag} {T : Tab} {ex : Addr → Prop} {σ : St} {env : Sl} {H : Hp} : ∀ {ds : List D} {vs : List V}, RepL K T (exO ex σ env) H ds vs → Paired (fun a v => RepA K T ex σ env H v a) (ds.map AV.v) vs
  | [], vs, e => by cases (show vs = [] from e); exact .nil
  | d :: ds, _, ⟨v, r, e, h1, h2⟩ => by subst e; exact .cons h1 (reps_of h2)
section
variable {T : Tab} {X : Cx} {k t : Nat} {f : Addr} {g : M EV} {x : Str} {p pos : Pos} {e : Expr} {es : List Expr} {fs : M (List AV)} {fa : M AV}
theorem qe_make (M : Mk X.K (T.cls t) f) (F : FnQ T X k f g) (hr : RG (k + 1) X.A) (hg : Gl X x) (hm : X.mg x = some (.ref (T.cls t))) (ha : QAs T X (e :: es) fs) (hdb : (x == ("__debug__" : Str)) = false := by decide)
    (he : starEach (e :: es) X.env = (false, eval e X.env) :: starEach es X.env := by rfl) (hpl : (backTo pos (starEach es X.env)).any (·.1) = false := by rfl) : QE T X (.Call (.Name x p) (e :: es) [] pos) (eMake t g fs) := fun pn xe W tk hp =>
  impE (pe_makeQ (X := X.tr pn xe) M F hr tk hg hm (ha pn xe W tk hp) hdb he hpl) fun σ H Q ⟨ex, env, q⟩ => ⟨ex, env, (trx_bind (relAs X.K T) rmE q).mono fun vs H1 ⟨as, env1, s, ra, q⟩ x dx hx hdx hne => trx_make q ra hx hdx hne⟩
theorem qe_make0 (M : Mk X.K (T.cls t) f) (F : FnQ T X k f g) (hr : RG (k + 1) X.A) (hg : Gl X x) (hm : X.mg x = some (.ref (T.cls t))) (hdb : (x == ("__debug__" : Str)) = false := by decide) : QE T X (.Call (.Name x p) [] [] pos) (eMake t g asNil) := fun pn xe W tk hp =>
  impE (pe_makeQ0 (X := X.tr pn xe) M F hr tk hg hm hdb) fun σ H Q ⟨ex, env, q⟩ x dx hx hdx hne => trx_make (as := []) (vs := []) q .nil hx hdx hne
theorem qe_makeS {sp_ : Pos} (M : Mk X.K (T.cls t) f) (F : FnQ T X k f g) (hr : RG (k + 1) X.A) (hg : Gl X x) (hm : X.mg x = some (.ref (T.cls t))) (h : QO T X e fa) (hdb : (x == ("__debug__" : Str)) = false := by decide)
    (hst : starEach [.Starred e sp_] X.env = [(true, eval e X.env)] := by rfl) : QE T X (.Call (.Name x p) [.Starred e sp_] [] pos) (eMakeS t g fa) := fun pn xe W tk hp => by
  refine impE (pe_makeQS (X := X.tr pn xe) M F hr tk hg hm (h pn xe W tk hp) hdb hst) fun σ H Q ⟨ex, env, q⟩ => ⟨ex, env, (trx_bind (relA X.K T) rmE q).mono fun v H1 ⟨a, env1, s, ra, q⟩ => ?_⟩
  obtain ⟨g1, r, er, o⟩ := q
  obtain ⟨d, e1, er⟩ := opt_bind er
  obtain ⟨ds, e2, er⟩ := opt_bind er
  have rd := deref_ok g1 ra e1
  cases d with
  | lst xs =>
    cases e2
    obtain ⟨b, vs, e3, h1, h2⟩ := rd
    exact ⟨b, vs, e3, .inr (SqL.of h1), fun x dx hx hdx hne => trx_make ⟨g1, r, er, o⟩ (reps_of h2) hx hdx hne⟩
  | tup xs =>
    cases e2
    obtain ⟨b, vs, e3, _, h1, h2⟩ := rd
    exact ⟨b, vs, e3, .inl (SqT.of h1), fun x dx hx hdx hne => trx_make ⟨g1, r, er, o⟩ (reps_of h2) hx hdx hne⟩
  | _ => cases e2
end

/-! ### raise, try -/
def sRaise (t : Nat) : S := fun env => some (.exc ⟨t, []⟩ env)
def sTry (body : S) (sb : Nat → Option Bool) (suite : S) : S := fun env => match body env with
  | some (.exc x e) => match sb x.t with
    | some true => match suite e with
      | some (.exc _ _) => none
      | r => r
    | some false => some (.exc x e)
    | none => none
  | r => r
section
variable {T : Tab} {X : Cx} {np : Nat → Bool} {t : Nat} {x m : Str} {j : Nat} {p p2 pos pos' np' : Pos} {bmB : List Value} {B newId initId : String}
theorem qs_raise (hc : X.calm = true) (F : ExcBaseFacts B newId initId bmB) (q : PySem.W.excIn X.K (T.cls t) bmB newId = true) (gC : X.mg x = some (.ref (T.cls t))) (kC : PySem.W.keepIn X.K (.ref (T.cls t)) = true) (r : Raises X (.ref (T.cls t))) (hg : Gl X x)
    (hdb : (x == ("__debug__" : Str)) = false := by decide) : QS T X np (.Raise (some (.Call (.Name x p) [.Constant (.str m) j p2] [] pos')) none pos) (sRaise t) := fun pn xe W tk hp => by
  refine impS (ps_raise (X := X.tr pn xe) hc tk (pmk_own (X := X.tr pn xe) F q gC kC r hg hdb)) fun D σ H ⟨ex, env, g, rr, er, o⟩ => ?_
  cases er
  exact o _ _ σ H (SStep.refl g) ⟨rfl, .inl ⟨rfl, rfl⟩⟩
theorem qs_try {body suite : List Stmt} {b₀ : Stmt} {cn : Str} {c : Value} {fb fs : S} {sb : Nat → Option Bool} (hs : X.stack = X.env :: X.outer) (hf : X.env.frame = some X.env.locals) (hc : Names X cn c)
    (hb : QSs T X np body fb) (hsb : ∀ t b, sb t = some b → PySem.W.exmOne X.K (.ref (T.cls t)) c = some b)
    (hsu : ∀ (a : Addr) (oe : Obj) (pn : List (Addr × Obj)), QSs T (X.suite a ((a, oe) :: pn)) np (b₀ :: suite) fs) :
    QS T X np (.Try body [.ExceptHandler (some (.Name cn np')) none (b₀ :: suite) pos'] [] [] pos) (sTry fb sb fs) := fun pn xe W tk hp => by
  refine impS (ps_try_only (X := X.tr pn xe) (tb := fun W => trS X.K T np fb W) (ts := fun _ _ _ => trS X.K T np fs W0) hs hf hc tk (fun W' pn' xe' tk' hp' => hb pn' xe' W' tk' hp') (fun a oe cls d pn' _ _ => hsu a oe pn' _ _ W0 takes0 .never)) fun D σ H ⟨ex, env, g, r, er, o⟩ => ?_
  unfold sTry at er
  refine ⟨ex, env, g, ?_⟩
  cases q : fb env with
  | none => rw [q] at er; cases er
  | some rb =>
    rw [q] at er
    refine ⟨rb, rfl, ?_⟩
    cases rb with
    | exc z e =>
      dsimp only at er
      intro cls dd σ' H' s rx
      cases w : sb z.t with
      | none => rw [w] at er; cases er
      | some b =>
        rw [w] at er
        refine ⟨b, by rw [rx.1]; exact hsb _ _ w, fun hb a ha => ?_, fun hb => ?_⟩
        · subst hb
          dsimp only at er
          split at er
          · cases er
          · rename_i hne
            refine ⟨ex, e, s.gd, r, er, ?_⟩
            have o' := o.back s
            cases r with
            | exc z2 e2 => exact absurd er (hne z2 e2)
            | _ => exact o'
        · subst hb
          cases er
          exact o cls dd σ' H' s rx
    | _ => cases er; exact o
end
end Dt
end
section
set_option maxRecDepth 100000
set_option maxHeartbeats 4000000
/-! QJ: operators and built-in functions on data. -/
namespace Dt
open PySem PySem.Spec L2
open PyProof.Rows hiding St

/-! ### data as plain data -/
mutual
def toP : D → Option PyData
  | .non => some .none
  | .bl b => some (.bool b)
  | .int i => some (.int i)
  | .str s => some (.str (mkS s))
  | .tup xs => (toPL xs).map .tuple
  | .lst xs => (toPL xs).map .list
  | _ => none
def toPL : List D → Option (List PyData)
  | [] => some []
  | d :: ds => (toP d).bind fun p => (toPL ds).map (p :: ·)
end
def strsOf : List D → Option (List (List Nat))
  | [] => some []
  | .str s :: r => (strsOf r).map (s :: ·)
  | _ :: _ => none
def vB (b : Bool) : EV := .v (.bl b)
def vI (i : Int) : EV := .v (.int i)
def big : Nat := 1000000

section
variable {K : PySem.W.Frag} {T : Tab} {ex : Addr → Prop} {H H' : Hp}
theorem dp_both : (∀ d : D, ∀ v p, toP d = some p → Rep K T ex H d v → Dp K H v p) ∧ ∀ ds : List D, ∀ vs ps, toPL ds = some ps → RepL K T ex H ds vs → DpAll K H vs ps := by
  refine D.ind ?_ ?_ ?_ ?_ ?_ ?_ ?_ ?_ ?_ ?_ ?_ ?_
  · intro v p e r; unfold toP at e; cases e; cases (show v = V.non from r); exact .non
  · intro b v p e r; unfold toP at e; cases e; cases (show v = V.bl b from r); exact .bl b
  · intro i v p e r; unfold toP at e; cases e; cases (show v = V.int i from r); exact .int i
  · intro s v p e r; unfold toP at e; cases e; cases (show v = V.str (mkS s) from r); exact .str _
  · intro xs ih v p e r
    unfold toP at e
    obtain ⟨ps, e1, rfl⟩ := Option.map_eq_some_iff.mp e
    obtain ⟨a, vs, rfl, _, h1, h2⟩ := r
    exact .tup (.of h1) (ih _ _ e1 h2)
  · intro xs ih v p e r
    unfold toP at e
    obtain ⟨ps, e1, rfl⟩ := Option.map_eq_some_iff.mp e
    obtain ⟨a, vs, rfl, _, h1, h2⟩ := r
    exact .lst (.of h1) (ih _ _ e1 h2)
  · intro ks xs ih v p e r; unfold toP at e; cases e
  · intro t xs ih v p e r; unfold toP at e; cases e
  · intro u v p e r; unfold toP at e; cases e
  · intro ns v p e r; unfold toP at e; cases e
  · intro vs ps e r; unfold toPL at e; cases e; cases (show vs = [] from r); exact .nil
  · intro d ds i1 i2 vs ps e r
    unfold toPL at e
    obtain ⟨p, e1, e⟩ := opt_bind e
    obtain ⟨qs, e2, rfl⟩ := Option.map_eq_some_iff.mp e
    obtain ⟨v, r', rfl, h1, h2⟩ := r
    exact .cons (i1 _ _ e1 h1) (i2 _ _ e2 h2)
theorem Rd1.dp {d : D} {v : V} {p : PyData} (r : Rd1 K T ex H d v) (e : toP d = some p) : Dp K H v p := by
  cases d with
  | lst xs =>
    unfold toP at e
    obtain ⟨ps, e1, rfl⟩ := Option.map_eq_some_iff.mp e
    obtain ⟨a, vs, rfl, h1, h2⟩ := r
    exact .lst (.of h1) (dp_both.2 _ _ _ e1 h2)
  | dic ks ds => unfold toP at e; cases e
  | _ => exact (dp_both (T := T) (ex := ex)).1 _ _ _ e r
theorem strs_rep : ∀ {ds : List D} {ss : List (List Nat)} {vs : List V}, strsOf ds = some ss → RepL K T ex H ds vs → vs = (ss.map mkS).map V.str
  | [], ss, vs, e, r => by cases e; cases (show vs = [] from r); rfl
  | .str s :: ds, ss, _, e, ⟨v, w, e1, h1, h2⟩ => by
    unfold strsOf at e
    obtain ⟨ts, e2, rfl⟩ := Option.map_eq_some_iff.mp e
    subst e1
    cases (show v = V.str (mkS s) from h1)
    rw [strs_rep e2 h2]; rfl
  | .non :: _, _, _, e, _ => by cases e
  | .bl _ :: _, _, _, e, _ => by cases e
  | .int _ :: _, _, _, e, _ => by cases e
  | .tup _ :: _, _, _, e, _ => by cases e
  | .lst _ :: _, _, _, e, _ => by cases e
  | .dic _ _ :: _, _, _, e, _ => by cases e
  | .obj _ _ :: _, _, _, e, _ => by cases e
  | .raw _ :: _, _, _, e, _ => by cases e
  | .scr _ :: _, _, _, e, _ => by cases e
theorem strs_repL : ∀ (ss : List (List Nat)), RepL K T ex H (ss.map D.str) ((ss.map mkS).map V.str)
  | [] => rfl
  | s :: ss => ⟨_, _, rfl, rfl, strs_repL ss⟩
end

/-! ### two-place operators -/
def orD (f g : D → D → Option EV) : D → D → Option EV := fun x y => match f x y with
  | some r => some r
  | none => g x y
section
variable {X : Cx} {T : Tab} {f : Value → Value → Sem Value}
theorem op_or {g g' : D → D → Option EV} (h : OpR X f (rQ X.K T g)) (h' : OpR X f (rQ X.K T g')) : OpR X f (rQ X.K T (orD g g')) := by
  intro pins s σ H x y v u Q I rx ry ⟨ex, d1, d2, ev, dm, r1, r2, e, k⟩
  unfold orD at e
  cases q : g d1 d2 with
  | some r => rw [q] at e; cases e; exact h pins s σ H x y v u Q I rx ry ⟨ex, d1, d2, ev, dm, r1, r2, q, k⟩
  | none => rw [q] at e; exact h' pins s σ H x y v u Q I rx ry ⟨ex, d1, d2, ev, dm, r1, r2, e, k⟩
theorem op_of {g : D → D → Option EV} {r : R2} (h : OpR X f r) (k : ∀ x y H Q, rQ X.K T g x y H Q → r x y H Q) : OpR X f (rQ X.K T g) := fun pins s σ H x y v u Q I rx ry q => h pins s σ H x y v u Q I rx ry (k _ _ _ _ q)
end
/-- on ints -/
def opI2 (c : Int → Int → Bool) (g : Int → Int → D) : D → D → Option EV := fun x y => match x, y with
  | .int i, .int j => if c i j = true then some (.v (g i j)) else none
  | _, _ => none
section
variable {K : PySem.W.Frag} {T : Tab}
theorem rQ_int {c : Int → Int → Bool} {g : Int → Int → D} {gv : Int → Int → V} (hg : ∀ ex H i j, Rep K T ex H (g i j) (gv i j)) {x y : V} {H : Hp} {Q : VK} (h : rQ K T (opI2 c g) x y H Q) : ∃ i j, x = .int i ∧ y = .int j ∧ c i j = true ∧ Q (gv i j) H := by
  obtain ⟨ex, d1, d2, ev, dm, r1, r2, e, k⟩ := h
  unfold opI2 at e
  split at e
  · split at e
    · rename_i i j hc
      cases e
      exact ⟨i, j, r1, r2, hc, k _ H (fun _ _ z => z) (hg _ _ _ _)⟩
    · cases e
  · cases e
end
def yes2 : Int → Int → Bool := fun _ _ => true
def okMul : Int → Int → Bool := fun i j => decide ((-(2 ^ 64) < i ∧ i < 2 ^ 64) ∨ (-(2 ^ 64) < j ∧ j < 2 ^ 64))
def okDiv : Int → Int → Bool := fun _ j => decide (0 < j ∧ j < 1073741824)
def okMod : Int → Int → Bool := fun _ j => decide (0 < j)
def okPow : Int → Int → Bool := fun i j => decide (0 ≤ j ∧ j ≤ 1000000 ∧ i.natAbs < 2 ^ 64)
def addI := opI2 yes2 fun i j => .int (i + j)
def subD := opI2 yes2 fun i j => .int (i - j)
def mulI := opI2 okMul fun i j => .int (i * j)
def divD := opI2 okDiv fun i j => .int (i / j)
def modD := opI2 okMod fun i j => .int (i % j)
def powD := opI2 okPow fun i j => .int (i ^ j.toNat)
def ltI := opI2 yes2 fun i j => .bl (decide (i < j))
def leI := opI2 yes2 fun i j => .bl (decide (i ≤ j))
def gtI := opI2 yes2 fun i j => .bl (decide (j < i))
def geI := opI2 yes2 fun i j => .bl (decide (j ≤ i))
def addS : D → D → Option EV := fun x y => match x, y with
  | .str a, .str b => if a.length + b.length ≤ big then some (.v (.str (a ++ b))) else none
  | _, _ => none
def addL : D → D → Option EV := fun x y => match x, y with
  | .lst a, .lst b => if a.length + b.length ≤ big then some (.o (.lst (a ++ b))) else none
  | _, _ => none
def addT : D → D → Option EV := fun x y => match x, y with
  | .tup a, .tup b => if a.length + b.length ≤ big then some (.v (.tup (a ++ b))) else none
  | _, _ => none
def addD : D → D → Option EV := orD addI (orD addS (orD addL addT))
theorem big_line : big ≤ sizeLine := by rw [sizeLine_eq]; unfold big; omega
theorem mkS_app (a b : List Nat) : mkS a ++ mkS b = mkS (a ++ b) := by
  show Str.append (mkS a) (mkS b) = _
  simp [Str.append, mkS]
section
variable {X : Cx} {T : Tab}
theorem op_int0 {f : Value → Value → Sem Value} {gv : Int → Int → V} {g : Int → Int → D} (ho : OpR X f (rI0 gv)) (hg : ∀ ex H i j, Rep X.K T ex H (g i j) (gv i j)) : OpR X f (rQ X.K T (opI2 yes2 g)) :=
  op_of ho fun x y H Q h => let ⟨i, j, a, b, _, q⟩ := rQ_int (gv := gv) hg h; ⟨i, j, a, b, q⟩
theorem op_intC {f : Value → Value → Sem Value} {C : Int → Int → Prop} {c : Int → Int → Bool} {gv : Int → Int → V} {g : Int → Int → D} (ho : OpR X f (rI C gv)) (hc : ∀ i j, c i j = true → C i j) (hg : ∀ ex H i j, Rep X.K T ex H (g i j) (gv i j)) : OpR X f (rQ X.K T (opI2 c g)) :=
  op_of ho fun x y H Q h => let ⟨i, j, a, b, c, q⟩ := rQ_int (gv := gv) hg h; ⟨i, j, a, b, hc _ _ c, q⟩
theorem op_addI : OpR X (binaryOp .Add) (rQ X.K T addI) := op_int0 op_add fun _ _ _ _ => rfl
theorem op_subD : OpR X (binaryOp .Sub) (rQ X.K T subD) := op_int0 op_sub fun _ _ _ _ => rfl
theorem op_mulI : OpR X (binaryOp .Mult) (rQ X.K T mulI) := op_intC op_mul (fun _ _ h => of_decide_eq_true (p := (-(2 ^ 64) < _ ∧ _ < 2 ^ 64) ∨ (-(2 ^ 64) < _ ∧ _ < 2 ^ 64)) h) fun _ _ _ _ => rfl
theorem op_divD : OpR X (binaryOp .FloorDiv) (rQ X.K T divD) := op_intC op_fdiv (fun _ _ h => of_decide_eq_true (p := 0 < _ ∧ _ < 1073741824) h) fun _ _ _ _ => rfl
theorem op_modD : OpR X (binaryOp .Mod) (rQ X.K T modD) := op_intC op_mod (fun _ _ h => of_decide_eq_true (p := 0 < _) h) fun _ _ _ _ => rfl
theorem op_powD : OpR X (binaryOp .Pow) (rQ X.K T powD) := op_intC op_pow (fun _ _ h => of_decide_eq_true (p := 0 ≤ _ ∧ _ ≤ 1000000 ∧ _ < 2 ^ 64) h) fun _ _ _ _ => rfl
theorem op_ltI : OpR X (compareOp .Lt) (rQ X.K T ltI) := op_int0 op_lt fun _ _ _ _ => rfl
theorem op_leI : OpR X (compareOp .LtE) (rQ X.K T leI) := op_int0 op_le fun _ _ _ _ => rfl
theorem op_gtI : OpR X (compareOp .Gt) (rQ X.K T gtI) := op_int0 op_gt fun _ _ _ _ => rfl
theorem op_geI : OpR X (compareOp .GtE) (rQ X.K T geI) := op_int0 op_ge fun _ _ _ _ => rfl
theorem op_addS : OpR X (binaryOp .Add) (rQ X.K T addS) := op_of op_add_str fun x y H Q ⟨ex, d1, d2, ev, dm, r1, r2, e, k⟩ => by
  unfold addS at e
  split at e
  · split at e
    · rename_i a b hc
      cases e
      refine ⟨mkS a, mkS b, r1, r2, by rw [mkS_len, mkS_len]; exact Nat.le_trans hc big_line, k _ H (fun _ _ z => z) ?_⟩
      show V.str (mkS a ++ mkS b) = V.str (mkS (a ++ b))
      rw [mkS_app]
    · cases e
  · cases e
theorem op_addL : OpR X (binaryOp .Add) (rQ X.K T addL) := op_of op_cat fun x y H Q ⟨ex, d1, d2, ev, dm, r1, r2, e, k⟩ => by
  unfold addL at e
  split at e
  · split at e
    · rename_i a b hc
      cases e
      obtain ⟨p, vs, rfl, h1, h2⟩ := r1
      obtain ⟨q, ws, rfl, h3, h4⟩ := r2
      refine ⟨p, q, vs, ws, rfl, rfl, h1, h3, by rw [← h2.length, ← h4.length]; exact Nat.le_trans hc big_line, fun n hn => ?_⟩
      exact k _ _ (ext_new hn) ⟨n, rfl, hn, rep_newL hn (h2.append h4)⟩
    · cases e
  · cases e
theorem op_addT : OpR X (binaryOp .Add) (rQ X.K T addT) := op_of op_catA fun x y H Q ⟨ex, d1, d2, ev, dm, r1, r2, e, k⟩ => by
  unfold addT at e
  split at e
  · split at e
    · rename_i a b hc
      cases e
      obtain ⟨p, vs, rfl, n1, h1, h2⟩ := r1
      obtain ⟨q, ws, rfl, n2, h3, h4⟩ := r2
      refine ⟨p, q, vs, ws, rfl, rfl, .of h1, .of h3, by rw [← h2.length, ← h4.length]; exact Nat.le_trans hc big_line, fun z => ?_, fun _ z => ?_, fun _ _ n hn => ?_⟩
      · subst z
        cases a with
        | nil => exact k _ H (fun _ _ z => z) ⟨q, ws, rfl, n2, h3, h4⟩
        | cons _ _ => have := h2.length; simp at this
      · subst z
        cases b with
        | nil => rw [List.append_nil] at k; exact k _ H (fun _ _ z => z) ⟨p, vs, rfl, n1, h1, h2⟩
        | cons _ _ => have := h4.length; simp at this
      · exact k _ _ (ext_new hn) ⟨n, _, rfl, fun z => dm n z hn, upd_same, (h2.append h4).mono fun b o nb e => ⟨nb, ext_new hn b o e⟩⟩
    · cases e
  · cases e
theorem op_addD : OpR X (binaryOp .Add) (rQ X.K T addD) := op_or op_addI (op_or op_addS (op_or op_addL op_addT))
end

/-! ### comparisons -/
def scalD : D → D → Bool
  | .non, .non => true | .non, .int _ => true | .int _, .non => true | .non, .bl _ => true | .bl _, .non => true | .non, .str _ => true | .str _, .non => true
  | .int _, .int _ => true | .bl _, .bl _ => true | .str _, .str _ => true
  | .int _, .str _ => true | .str _, .int _ => true | .bl _, .str _ => true | .str _, .bl _ => true
  | _, _ => false
def scEq : D → D → Bool
  | .non, .non => true
  | .int i, .int j => i == j
  | .bl a, .bl b => a == b
  | .str a, .str b => a == b
  | _, _ => false
def eqS : D → D → Option EV := fun x y => if scalD x y = true then some (vB (scEq x y)) else none
def neS : D → D → Option EV := fun x y => if scalD x y = true then some (vB (!scEq x y)) else none
def eqP (n : Bool) : D → D → Option EV := fun x y => match toP x, toP y with
  | some p, some q => if SeqAt.shaped p = true ∧ SeqAt.shaped q = true then some (vB (n ^^ PyData.eqv p q)) else none
  | _, _ => none
def eqD : D → D → Option EV := orD eqS (eqP false)
def neD : D → D → Option EV := orD neS (eqP true)
def ltS : D → D → Option EV := fun x y => match x, y with
  | .str a, .str b => some (vB (decide (a < b)))
  | _, _ => none
def ltD := orD ltI ltS
def isNon : D → Option Bool
  | .non => some true
  | .raw _ => none
  | _ => some false
def isD (n : Bool) : D → D → Option EV := fun x y => match y with
  | .non => (isNon x).map fun b => vB (n ^^ b)
  | _ => none
def isB (n : Bool) : D → D → Option EV := fun x y => match x, y with
  | .bl a, .bl b => some (vB (n ^^ (a == b)))
  | _, _ => none
section
variable {X : Cx} {T : Tab}
theorem sc_eq {K : PySem.W.Frag} {ex : Addr → Prop} {H : Hp} {d e : D} {x y : V} (h : scalD d e = true) (r1 : Rd1 K T ex H d x) (r2 : Rd1 K T ex H e y) : scal x y = true ∧ decide (x = y) = scEq d e := by
  unfold scalD at h
  split at h <;> first
  | (cases h; done)
  | (cases (show x = _ from r1); cases (show y = _ from r2); refine ⟨rfl, ?_⟩; unfold scEq; first | rfl | (rw [Bool.eq_iff_iff]; simp [mkS_inj]) | simp)
theorem op_eqS : OpR X (compareOp .Eq) (rQ X.K T eqS) := op_of op_eq fun x y H Q ⟨ex, d1, d2, ev, dm, r1, r2, e, k⟩ => by
  unfold eqS at e
  split at e
  · rename_i h
    cases e
    obtain ⟨a, b⟩ := sc_eq h r1 r2
    refine ⟨a, k _ H (fun _ _ z => z) ?_⟩
    show V.bl _ = V.bl _
    rw [b]
  · cases e
theorem op_neS : OpR X (compareOp .NotEq) (rQ X.K T neS) := op_of op_ne fun x y H Q ⟨ex, d1, d2, ev, dm, r1, r2, e, k⟩ => by
  unfold neS at e
  split at e
  · rename_i h
    cases e
    obtain ⟨a, b⟩ := sc_eq h r1 r2
    refine ⟨a, k _ H (fun _ _ z => z) ?_⟩
    show V.bl _ = V.bl _
    rw [b]
  · cases e
theorem op_eqP (hu : X.A.units + 64 < cLine) : OpR X (compareOp .Eq) (rQ X.K T (eqP false)) := op_of (op_eqD hu) fun x y H Q ⟨ex, d1, d2, ev, dm, r1, r2, e, k⟩ => by
  unfold eqP at e
  split at e
  · rename_i p q hp hq
    split at e
    · rename_i h
      cases e
      exact ⟨p, q, r1.dp hp, r2.dp hq, h.1, h.2, k _ H (fun _ _ z => z) (by show V.bl _ = V.bl _; rw [Bool.false_xor])⟩
    · cases e
  · cases e
theorem op_neP (hu : X.A.units + 64 < cLine) : OpR X (compareOp .NotEq) (rQ X.K T (eqP true)) := op_of (op_neD hu) fun x y H Q ⟨ex, d1, d2, ev, dm, r1, r2, e, k⟩ => by
  unfold eqP at e
  split at e
  · rename_i p q hp hq
    split at e
    · rename_i h
      cases e
      exact ⟨p, q, r1.dp hp, r2.dp hq, h.1, h.2, k _ H (fun _ _ z => z) (by show V.bl _ = V.bl _; rw [Bool.true_xor])⟩
    · cases e
  · cases e
theorem op_eqQ (hu : X.A.units + 64 < cLine) : OpR X (compareOp .Eq) (rQ X.K T eqD) := op_or op_eqS (op_eqP hu)
theorem op_neQ (hu : X.A.units + 64 < cLine) : OpR X (compareOp .NotEq) (rQ X.K T neD) := op_or op_neS (op_neP hu)
theorem op_ltS : OpR X (compareOp .Lt) (rQ X.K T ltS) := op_of op_lt_str fun x y H Q ⟨ex, d1, d2, ev, dm, r1, r2, e, k⟩ => by
  unfold ltS at e
  split at e
  · rename_i a b
    cases e
    exact ⟨mkS a, mkS b, r1, r2, k _ H (fun _ _ z => z) (by show V.bl _ = V.bl _; rw [mkS_cps, mkS_cps])⟩
  · cases e
theorem op_ltQ : OpR X (compareOp .Lt) (rQ X.K T ltD) := op_or op_ltI op_ltS
theorem is_non {K : PySem.W.Frag} {ex : Addr → Prop} {H : Hp} {d : D} {x : V} {b : Bool} (h : isNon d = some b) (r : Rd1 K T ex H d x) : decide (x = .non) = b := by
  cases d with
  | non => cases h; cases (show x = _ from r); rfl
  | bl c => cases h; cases (show x = _ from r); rfl
  | int c => cases h; cases (show x = _ from r); rfl
  | str c => cases h; cases (show x = _ from r); rfl
  | tup c => cases h; obtain ⟨a, vs, rfl, _⟩ := r; rfl
  | lst c => cases h; obtain ⟨a, vs, rfl, _⟩ := r; rfl
  | dic c e => cases h; obtain ⟨a, vs, rfl, _⟩ := r; rfl
  | obj c e => cases h; obtain ⟨a, dx, vs, rfl, _⟩ := r; rfl
  | raw v => cases h
  | scr c => cases h; obtain ⟨a, rfl, _⟩ := r; rfl
theorem op_isNon : OpR X (compareOp .Is) (rQ X.K T (isD false)) := op_of op_isN fun x y H Q ⟨ex, d1, d2, ev, dm, r1, r2, e, k⟩ => by
  unfold isD at e
  split at e
  · obtain ⟨b, h, rfl⟩ := Option.map_eq_some_iff.mp e
    exact ⟨r2, k _ H (fun _ _ z => z) (by show V.bl _ = V.bl _; rw [is_non h r1, Bool.false_xor])⟩
  · cases e
theorem op_notNon : OpR X (compareOp .IsNot) (rQ X.K T (isD true)) := op_of op_notN fun x y H Q ⟨ex, d1, d2, ev, dm, r1, r2, e, k⟩ => by
  unfold isD at e
  split at e
  · obtain ⟨b, h, rfl⟩ := Option.map_eq_some_iff.mp e
    exact ⟨r2, k _ H (fun _ _ z => z) (by show V.bl _ = V.bl _; rw [is_non h r1, Bool.true_xor])⟩
  · cases e
theorem dec_eq (a b : Bool) : decide (a = b) = (a == b) := by cases a <;> cases b <;> rfl
theorem op_isB : OpR X (compareOp .Is) (rQ X.K T (isB false)) := op_of op_isBl fun x y H Q ⟨ex, d1, d2, ev, dm, r1, r2, e, k⟩ => by
  unfold isB at e
  split at e
  · cases e
    exact ⟨_, _, r1, r2, k _ H (fun _ _ z => z) (by show V.bl _ = V.bl _; rw [Bool.false_xor, dec_eq])⟩
  · cases e
theorem op_notB : OpR X (compareOp .IsNot) (rQ X.K T (isB true)) := op_of op_notBl fun x y H Q ⟨ex, d1, d2, ev, dm, r1, r2, e, k⟩ => by
  unfold isB at e
  split at e
  · cases e
    exact ⟨_, _, r1, r2, k _ H (fun _ _ z => z) (by show V.bl _ = V.bl _; rw [Bool.true_xor, dec_eq])⟩
  · cases e
end
end Dt
end
section
set_option maxRecDepth 100000
set_option maxHeartbeats 4000000
/-! QL: calls of built-in functions and methods, subscripts, slices, membership. -/
namespace Dt
open PySem PySem.Spec L2
open PyProof.Rows hiding St

def Rd1s (K : PySem.W.Frag) (T : Tab) (ex : Addr → Prop) (H : Hp) (ds : List D) (vs : List V) : Prop := Paired (fun d v => Rd1 K T ex H d v) ds vs
def rB (K : PySem.W.Frag) (T : Tab) (op : List D → Option EV) : List V → Hp → VK → Prop := fun vs H Q => ∃ ex ds ev, (∀ a, ex a → H a ≠ none) ∧ Rd1s K T ex H ds vs ∧ op ds = some ev ∧ ∀ v H', Ext H H' → RepV K T ex H H' v ev → Q v H'
def derefs (env : Sl) : List AV → Option (List D)
  | [] => some []
  | a :: as => (deref env a).bind fun d => (derefs env as).map (d :: ·)
def bM (op : List D → Option EV) (as : List AV) : M EV := fun env => (derefs env as).bind fun ds => lift (op ds) env
def eB (op : List D → Option EV) (fs : M (List AV)) : M EV := M.bind fs fun as => bM op as
section
variable {K : PySem.W.Frag} {T : Tab} {ex : Addr → Prop} {σ : St} {H : Hp} {env : Sl} {W : WX} {Q : VK}
theorem derefs_ok (g : Good K T ex σ H env) : ∀ {as : List AV} {vs : List V} {ds : List D}, Paired (fun a v => RepA K T ex σ env H v a) as vs → derefs env as = some ds → Rd1s K T (exO ex σ env) H ds vs
  | [], _, _, .nil, e => by cases e; exact .nil
  | a :: as, _, _, .cons h t, e => by
    unfold derefs at e
    obtain ⟨d, e1, e⟩ := opt_bind e
    obtain ⟨ds, e2, rfl⟩ := Option.map_eq_some_iff.mp e
    exact .cons (deref_ok g h e1) (derefs_ok g t e2)
theorem trx_b {op : List D → Option EV} {as : List AV} {vs : List V} (h : trx K T (relE K T) ex (bM op as) env W σ H Q) (rs : Paired (fun a v => RepA K T ex σ env H v a) as vs) : rB K T op vs H Q := by
  obtain ⟨g, r, e, o⟩ := h
  obtain ⟨ds, e1, e⟩ := opt_bind e
  cases q : op ds with
  | none => rw [q] at e; cases e
  | some ev =>
    rw [q] at e
    cases e
    exact ⟨_, ds, ev, g.dm, derefs_ok g rs e1, q, fun v H' k r => o v H' (Step.ext g k) (r.e g k)⟩
end
section
variable {T : Tab} {X : Cx} {id Ty : String} {op : List D → Option EV} {x name : Str} {p pos apos : Pos} {e o : Expr} {es : List Expr} {fs : M (List AV)} {fo : M AV}
theorem qe_callB (hc : ∀ pn xe, CallR (X.tr pn xe) (.builtin id) (rB X.K T op)) (hg : Gl X x) (hm : X.mg x = none) (hv : bootBuiltins x = some (.builtin id)) (ha : QAs T X (e :: es) fs) (hn : x ≠ "__name__" := by decide) (hdb : (x == ("__debug__" : Str)) = false := by decide)
    (he : starEach (e :: es) X.env = (false, eval e X.env) :: starEach es X.env := by rfl) (hpl : (backTo pos (starEach es X.env)).any (·.1) = false := by rfl) : QE T X (.Call (.Name x p) (e :: es) [] pos) (eB op fs) := fun pn xe W tk hp =>
  impE (pe_callB (X := X.tr pn xe) (hc pn xe) hg hm hv (ha pn xe W tk hp) hn hdb he hpl) fun σ H Q ⟨ex, env, q⟩ => ⟨ex, env, (trx_bind (relAs X.K T) rmE q).mono fun vs H1 ⟨as, env1, s, ra, q⟩ => trx_b q ra⟩
theorem qe_callTy (hc : ∀ pn xe, CallR (X.tr pn xe) (.type Ty) (rB X.K T op)) (hg : Gl X x) (hm : X.mg x = none) (hv : bootBuiltins x = some (.type Ty)) (ha : QAs T X (e :: es) fs) (hn : x ≠ "__name__" := by decide) (hdb : (x == ("__debug__" : Str)) = false := by decide)
    (he : starEach (e :: es) X.env = (false, eval e X.env) :: starEach es X.env := by rfl) (hpl : (backTo pos (starEach es X.env)).any (·.1) = false := by rfl) : QE T X (.Call (.Name x p) (e :: es) [] pos) (eB op fs) := fun pn xe W tk hp =>
  impE (pe_callTy (X := X.tr pn xe) (hc pn xe) hg hm hv (ha pn xe W tk hp) hn hdb he hpl) fun σ H Q ⟨ex, env, q⟩ => ⟨ex, env, (trx_bind (relAs X.K T) rmE q).mono fun vs H1 ⟨as, env1, s, ra, q⟩ => trx_b q ra⟩
/-- o.m(..), m of a built-in type -/
def tyM (ty : D → Bool) (a : AV) (m : M EV) : M EV := fun env => match deref env a with
  | some d => if ty d = true then m env else none
  | none => none
def eBM (ty : D → Bool) (op : List D → Option EV) (fo : M AV) (fs : M (List AV)) : M EV := M.bind fo fun a => tyM ty a (M.bind fs fun as => bM op (a :: as))
theorem qe_meB {ty : D → Bool} (hT : ∀ d ex H v, ty d = true → Rd1 X.K T ex H d v → tyV X.K Ty v H) {r : V → List V → Hp → VK → Prop} (pa : PlainAttrs Ty) (slot : PySem.Slot Ty name id) (hty : typeOf (.builtin id) = pure (.type "method_descriptor"))
    (hm : ∀ pn xe, MtR (X.tr pn xe) id r) (hr : ∀ x vs H Q, rB X.K T op (x :: vs) H Q → r x vs H Q) (ho : QO T X o fo) (ha : QAs T X (e :: es) fs)
    (hbase : attributeBase o name X.env (eval o X.env) = eval o X.env := by rfl)
    (hfew : ((backTo pos (starEach (e :: es) X.env)).all (fun x => !x.1) && (backToKw pos (keywordEach [] X.env)).all (fun x => x.1.isSome)
      && decide ((e :: es).length + ([] : List Keyword).length + (if ([] : List Keyword).isEmpty then 0 else 1) < 30)) = true := by rfl)
    (hline : (apos.endLine == pos.line) = true := by rfl) (hs : starEach (e :: es) X.env = (false, eval e X.env) :: starEach es X.env := by rfl) (hplain : (backTo pos (starEach es X.env)).any (·.1) = false := by rfl) :
    QE T X (.Call (.Attribute o name apos) (e :: es) [] pos) (eBM ty op fo fs) := fun pn xe W tk hp => by
  refine impE (pe_bm (X := X.tr pn xe) pa slot hty (hm pn xe) (ho pn xe W tk hp) (ha pn xe W tk hp) hbase hfew hline hs hplain) fun σ H Q ⟨ex, env, q⟩ => ?_
  refine ⟨ex, env, (trx_bind (relA X.K T) rmE q).mono fun v H1 ⟨a, env1, s, ra, g, rr, er, oo⟩ => ?_⟩
  unfold tyM at er
  split at er
  · split at er
    · rename_i d hd hty'
      refine ⟨hT d _ H1 v hty' (deref_ok g ra hd), ex, env1, (trx_bind (relAs X.K T) rmE ⟨g, rr, er, oo⟩).mono fun vs H2 ⟨as, env2, s2, rs, q2⟩ => hr _ _ _ _ (trx_b q2 (.cons (RepA.step ra s2) rs))⟩
    · cases er
  · cases er
end

/-! ### the functions -/
def orB (f g : List D → Option EV) : List D → Option EV := fun ds => match f ds with
  | some r => some r
  | none => g ds
section
variable {X : Cx} {T : Tab} {f : Value}
theorem cr_or {g g' : List D → Option EV} (h : CallR X f (rB X.K T g)) (h' : CallR X f (rB X.K T g')) : CallR X f (rB X.K T (orB g g')) := by
  intro pins s σ H xs us Q I rs ⟨ex, ds, ev, dm, r1, e, k⟩
  unfold orB at e
  cases q : g ds with
  | some r => rw [q] at e; cases e; exact h pins s σ H xs us Q I rs ⟨ex, ds, ev, dm, r1, q, k⟩
  | none => rw [q] at e; exact h' pins s σ H xs us Q I rs ⟨ex, ds, ev, dm, r1, e, k⟩
theorem cr_of {g : List D → Option EV} {r : List V → Hp → VK → Prop} (h : CallR X f r) (k : ∀ xs H Q, rB X.K T g xs H Q → r xs H Q) : CallR X f (rB X.K T g) := fun pins s σ H xs us Q I rs q => h pins s σ H xs us Q I rs (k _ _ _ q)
end
/-- the items of a list or tuple (the script, too) -/
def seqD : D → Option (List D)
  | .lst xs => some xs
  | .tup xs => some xs
  | .scr ns => some (ns.map D.int)
  | _ => none
section
variable {K : PySem.W.Frag} {T : Tab} {ex : Addr → Prop} {H : Hp}
theorem ints_repL : ∀ (ns : List Int), RepL K T ex H (ns.map D.int) (ns.map V.int)
  | [] => rfl
  | s :: ss => ⟨_, _, rfl, rfl, ints_repL ss⟩
theorem seq_of {d : D} {xs : List D} {v : V} (e : seqD d = some xs) (r : Rd1 K T ex H d v) : ∃ a vs, v = .ref a ∧ (SqL K H a vs ∨ SqT K H a vs) ∧ RepL K T ex H xs vs := by
  cases d with
  | lst ds => cases e; obtain ⟨a, vs, rfl, h1, h2⟩ := r; exact ⟨a, vs, rfl, .inl (.of h1), h2⟩
  | tup ds => cases e; obtain ⟨a, vs, rfl, _, h1, h2⟩ := r; exact ⟨a, vs, rfl, .inr (.of h1), h2⟩
  | scr ns =>
    cases e
    obtain ⟨a, rfl, h⟩ := r
    refine ⟨a, _, rfl, .inl ?_, ints_repL ns⟩
    rcases h with ⟨_, o, h⟩ | h
    · exact .inl (.inr ⟨o, h⟩)
    · exact .inr h
  | _ => cases e
theorem lst_of {d : D} {xs : List D} {v : V} (e : d = .lst xs) (r : Rd1 K T ex H d v) : ∃ a vs, v = .ref a ∧ H a = some (.lst vs) ∧ RepL K T ex H xs vs := by
  subst e; exact r
end
def lenD : List D → Option EV
  | [.str s] => if s.length ≤ big then some (vI s.length) else none
  | [d] => (seqD d).map fun xs => vI xs.length
  | _ => none
def lenK : List D → Option EV
  | [.dic ks vs] => some (vI ks.length)
  | _ => none
def listD : List D → Option EV
  | [d] => match d with
    | .lst xs => some (.o (.lst xs))
    | .tup xs => some (.o (.lst xs))
    | _ => none
  | _ => none
def listK : List D → Option EV
  | [.dic ks vs] => some (.o (.lst (ks.map fun k => match k with | .inl i => .int i | .inr s => .str s.cps.toList)))
  | _ => none
def tupD : List D → Option EV
  | [d] => match d with
    | .lst xs => some (.v (.tup xs))
    | .tup xs => some (.v (.tup xs))
    | _ => none
  | _ => none
def maxI : List D → Option EV
  | [.int i, .int j] => some (vI (if j > i then j else i))
  | _ => none
def minI : List D → Option EV
  | [.int i, .int j] => some (vI (if j < i then j else i))
  | _ => none
def absD : List D → Option EV
  | [.int i] => some (vI (if i < 0 then -i else i))
  | _ => none
def intD : List D → Option EV
  | [.int i] => some (vI i)
  | [.bl b] => some (vI (if b then 1 else 0))
  | _ => none
def blsOf : List D → Option (List Bool)
  | [] => some []
  | .bl b :: r => (blsOf r).map (b :: ·)
  | _ :: _ => none
def intsOf : List D → Option (List Int)
  | [] => some []
  | .int b :: r => (intsOf r).map (b :: ·)
  | _ :: _ => none
def allD : List D → Option EV
  | [.lst xs] => (blsOf xs).map fun bs => vB (bs.all id)
  | _ => none
def anyD : List D → Option EV
  | [.lst xs] => (blsOf xs).map fun bs => vB (bs.any id)
  | _ => none
def sumD : List D → Option EV
  | [.lst xs] => (intsOf xs).map fun ns => vI ns.sum
  | _ => none
section
variable {K : PySem.W.Frag} {T : Tab} {ex : Addr → Prop} {H : Hp}
theorem bls_rep : ∀ {ds : List D} {ss : List Bool} {vs : List V}, blsOf ds = some ss → RepL K T ex H ds vs → vs = ss.map V.bl
  | [], ss, vs, e, r => by cases e; cases (show vs = [] from r); rfl
  | d :: ds, ss, _, e, ⟨v, w, e1, h1, h2⟩ => by
    cases d with
    | bl b =>
      unfold blsOf at e
      obtain ⟨ts, e2, rfl⟩ := Option.map_eq_some_iff.mp e
      subst e1
      cases (show v = V.bl b from h1)
      rw [bls_rep e2 h2]; rfl
    | _ => cases e
theorem ints_rep : ∀ {ds : List D} {ss : List Int} {vs : List V}, intsOf ds = some ss → RepL K T ex H ds vs → vs = ss.map V.int
  | [], ss, vs, e, r => by cases e; cases (show vs = [] from r); rfl
  | d :: ds, ss, _, e, ⟨v, w, e1, h1, h2⟩ => by
    cases d with
    | int b =>
      unfold intsOf at e
      obtain ⟨ts, e2, rfl⟩ := Option.map_eq_some_iff.mp e
      subst e1
      cases (show v = V.int b from h1)
      rw [ints_rep e2 h2]; rfl
    | _ => cases e
theorem one_of {d : D} {vs : List V} (r : Rd1s K T ex H [d] vs) : ∃ v, vs = [v] ∧ Rd1 K T ex H d v := by
  cases r with
  | cons h t => cases t; exact ⟨_, rfl, h⟩
theorem two_of {d e : D} {vs : List V} (r : Rd1s K T ex H [d, e] vs) : ∃ v w, vs = [v, w] ∧ Rd1 K T ex H d v ∧ Rd1 K T ex H e w := by
  cases r with
  | cons h t =>
    obtain ⟨w, rfl, h2⟩ := one_of t
    exact ⟨_, w, rfl, h, h2⟩
theorem ext_refl : Ext H H := fun _ _ z => z
end
theorem len_inv {ds : List D} {ev : EV} (e : lenD ds = some ev) : (∃ s, ds = [.str s] ∧ s.length ≤ big ∧ ev = vI s.length) ∨ ∃ d xs, ds = [d] ∧ seqD d = some xs ∧ ev = vI xs.length := by
  unfold lenD at e
  split at e
  · split at e
    · cases e; exact .inl ⟨_, rfl, by assumption, rfl⟩
    · cases e
  · obtain ⟨xs, e1, rfl⟩ := Option.map_eq_some_iff.mp e
    exact .inr ⟨_, xs, rfl, e1, rfl⟩
  · cases e
section
variable {X : Cx} {T : Tab}
theorem cr_len : CallR X (.builtin "len") (rB X.K T lenD) := cr_of call_len fun xs H Q ⟨ex, ds, ev, dm, r, e, k⟩ => by
  rcases len_inv e with ⟨s, rfl, hs, rfl⟩ | ⟨d, ys, rfl, hd, rfl⟩
  · obtain ⟨v, rfl, h⟩ := one_of r
    cases (show v = V.str (mkS s) from h)
    exact ⟨_, s.length, rfl, ⟨by rw [mkS_len]; exact Nat.le_trans hs big_line, by rw [mkS_len]⟩, k _ _ ext_refl rfl⟩
  · obtain ⟨v, rfl, h⟩ := one_of r
    obtain ⟨a, vs, rfl, h1, h2⟩ := seq_of hd h
    refine ⟨_, ys.length, rfl, ?_, k _ _ ext_refl rfl⟩
    rcases h1 with h1 | h1
    · exact .inl ⟨vs, h1, h2.length⟩
    · exact .inr ⟨vs, h1, h2.length⟩
theorem cr_list : CallR X (.type "list") (rB X.K T listD) := cr_of call_list_of fun xs H Q ⟨ex, ds, ev, dm, r, e, k⟩ => by
  unfold listD at e
  split at e
  · obtain ⟨v, rfl, h⟩ := one_of r
    split at e
    · cases e
      obtain ⟨a, vs, rfl, h1, h2⟩ := h
      exact ⟨a, vs, rfl, .inl (.of h1), fun l hl => k _ _ (ext_new hl) ⟨l, rfl, hl, rep_newL hl h2⟩⟩
    · cases e
      obtain ⟨a, vs, rfl, _, h1, h2⟩ := h
      exact ⟨a, vs, rfl, .inr (.of h1), fun l hl => k _ _ (ext_new hl) ⟨l, rfl, hl, rep_newL hl h2⟩⟩
    · cases e
  · cases e
theorem cr_tup : CallR X (.type "tuple") (rB X.K T tupD) := cr_of call_tuple_of fun xs H Q ⟨ex, ds, ev, dm, r, e, k⟩ => by
  unfold tupD at e
  split at e
  · obtain ⟨v, rfl, h⟩ := one_of r
    split at e
    · cases e
      obtain ⟨a, vs, rfl, h1, h2⟩ := h
      exact ⟨a, vs, rfl, .inl ⟨.of h1, fun l hl => k _ _ (ext_new hl) ⟨l, vs, rfl, fun z => dm l z hl, upd_same, h2.mono fun b o nb e => ⟨nb, ext_new hl b o e⟩⟩⟩⟩
    · cases e
      obtain ⟨a, vs, rfl, n, h1, h2⟩ := h
      exact ⟨a, vs, rfl, .inr ⟨.of h1, k _ _ ext_refl ⟨a, vs, rfl, n, h1, h2⟩⟩⟩
    · cases e
  · cases e
theorem cr_max2 (hc : X.calm = true) : CallR X (.builtin "max") (rB X.K T maxI) := cr_of (call_max2 hc) fun xs H Q ⟨ex, ds, ev, dm, r, e, k⟩ => by
  unfold maxI at e
  split at e
  · cases e
    obtain ⟨v, w, rfl, h1, h2⟩ := two_of r
    cases (show v = _ from h1); cases (show w = _ from h2)
    exact ⟨_, _, rfl, k _ _ ext_refl rfl⟩
  · cases e
theorem cr_min2 (hc : X.calm = true) : CallR X (.builtin "min") (rB X.K T minI) := cr_of (call_min2 hc) fun xs H Q ⟨ex, ds, ev, dm, r, e, k⟩ => by
  unfold minI at e
  split at e
  · cases e
    obtain ⟨v, w, rfl, h1, h2⟩ := two_of r
    cases (show v = _ from h1); cases (show w = _ from h2)
    exact ⟨_, _, rfl, k _ _ ext_refl rfl⟩
  · cases e
theorem cr_abs : CallR X (.builtin "abs") (rB X.K T absD) := cr_of call_abs fun xs H Q ⟨ex, ds, ev, dm, r, e, k⟩ => by
  unfold absD at e
  split at e
  · cases e
    obtain ⟨v, rfl, h1⟩ := one_of r
    cases (show v = _ from h1)
    exact ⟨_, rfl, k _ _ ext_refl rfl⟩
  · cases e
theorem cr_int : CallR X (.type "int") (rB X.K T intD) := cr_of call_int1 fun xs H Q ⟨ex, ds, ev, dm, r, e, k⟩ => by
  unfold intD at e
  split at e
  · cases e
    obtain ⟨v, rfl, h1⟩ := one_of r
    cases (show v = _ from h1)
    exact .inl ⟨_, rfl, k _ _ ext_refl rfl⟩
  · cases e
    obtain ⟨v, rfl, h1⟩ := one_of r
    cases (show v = _ from h1)
    exact .inr ⟨_, rfl, k _ _ ext_refl rfl⟩
  · cases e
theorem cr_allQ (hc : X.calm = true) : CallR X (.builtin "all") (rB X.K T allD) := cr_of (cr_all hc) fun xs H Q ⟨ex, ds, ev, dm, r, e, k⟩ => by
  unfold allD at e
  split at e
  · obtain ⟨bs, e1, rfl⟩ := Option.map_eq_some_iff.mp e
    obtain ⟨v, rfl, a, vs, rfl, h1, h2⟩ := one_of r
    cases bls_rep e1 h2
    exact ⟨a, bs, rfl, .of h1, k _ _ ext_refl rfl⟩
  · cases e
theorem cr_anyQ (hc : X.calm = true) : CallR X (.builtin "any") (rB X.K T anyD) := cr_of (cr_any hc) fun xs H Q ⟨ex, ds, ev, dm, r, e, k⟩ => by
  unfold anyD at e
  split at e
  · obtain ⟨bs, e1, rfl⟩ := Option.map_eq_some_iff.mp e
    obtain ⟨v, rfl, a, vs, rfl, h1, h2⟩ := one_of r
    cases bls_rep e1 h2
    exact ⟨a, bs, rfl, .of h1, k _ _ ext_refl rfl⟩
  · cases e
theorem cr_sumQ (hc : X.calm = true) : CallR X (.builtin "sum") (rB X.K T sumD) := cr_of (cr_sum hc) fun xs H Q ⟨ex, ds, ev, dm, r, e, k⟩ => by
  unfold sumD at e
  split at e
  · obtain ⟨bs, e1, rfl⟩ := Option.map_eq_some_iff.mp e
    obtain ⟨v, rfl, a, vs, rfl, h1, h2⟩ := one_of r
    cases ints_rep e1 h2
    exact ⟨a, bs, rfl, .of h1, k _ _ ext_refl rfl⟩
  · cases e
end

/-! ### methods of texts -/
def isStrD : D → Bool
  | .str _ => true
  | _ => false
def isLstD : D → Bool
  | .lst _ => true
  | .scr _ => true
  | _ => false
def splitS (a b : List Nat) : List (List Nat) := (Txt.split (mkS a) (mkS b)).map fun s => s.cps.toList
def joinS (a : List Nat) (ys : List (List Nat)) : List Nat := (Txt.join (mkS a) (ys.map mkS)).cps.toList
def splitD : List D → Option EV
  | [.str a, .str b] => if b ≠ [] ∧ a.length ≤ big then some (.o (.lst ((splitS a b).map D.str))) else none
  | _ => none
def joinD : List D → Option EV
  | [.str a, .lst xs] => (strsOf xs).bind fun ys => if (ys.map (·.length)).sum + ys.length * a.length ≤ big then some (.v (.str (joinS a ys))) else none
  | [.str a, .tup xs] => (strsOf xs).bind fun ys => if (ys.map (·.length)).sum + ys.length * a.length ≤ big then some (.v (.str (joinS a ys))) else none
  | _ => none
def countD : List D → Option EV
  | [.str a, .str b] => some (vI (Txt.count (mkS a) (mkS b)))
  | _ => none
theorem joinD_inv {ds : List D} {ev : EV} (e : joinD ds = some ev) : ∃ a d xs ys, ds = [.str a, d] ∧ seqD d = some xs ∧ strsOf xs = some ys ∧ (ys.map (·.length)).sum + ys.length * a.length ≤ big ∧ ev = .v (.str (joinS a ys)) := by
  unfold joinD at e
  split at e
  · obtain ⟨ys, e1, e⟩ := opt_bind e
    split at e
    · cases e; exact ⟨_, _, _, ys, rfl, rfl, e1, by assumption, rfl⟩
    · cases e
  · obtain ⟨ys, e1, e⟩ := opt_bind e
    split at e
    · cases e; exact ⟨_, _, _, ys, rfl, rfl, e1, by assumption, rfl⟩
    · cases e
  · cases e
section
variable {T : Tab} {X : Cx} {o e : Expr} {es : List Expr} {pos apos : Pos} {fs : M (List AV)} {fo : M AV}
theorem str_tyV {K : PySem.W.Frag} (d : D) (ex : Addr → Prop) (H : Hp) (v : V) (h : isStrD d = true) (r : Rd1 K T ex H d v) : tyV K "str" v H := by
  cases d <;> first | (cases h; done) | (cases (show v = _ from r); rfl)
theorem lst_tyV {K : PySem.W.Frag} (d : D) (ex : Addr → Prop) (H : Hp) (v : V) (h : isLstD d = true) (r : Rd1 K T ex H d v) : tyV K "list" v H := by
  cases d with
  | lst xs => obtain ⟨a, vs, rfl, h1, _⟩ := r; exact .inl ⟨rfl, vs, .of h1⟩
  | scr ns =>
    obtain ⟨a, rfl, q⟩ := r
    refine .inl ⟨rfl, ns.map V.int, ?_⟩
    rcases q with ⟨_, o, h⟩ | h
    · exact .inl (.inr ⟨o, h⟩)
    · exact .inr h
  | _ => cases h
theorem qe_split (ho : QO T X o fo) (ha : QAs T X [e] fs) (hbase : attributeBase o "split" X.env (eval o X.env) = eval o X.env := by rfl)
    (hfew : ((backTo pos (starEach [e] X.env)).all (fun x => !x.1) && (backToKw pos (keywordEach [] X.env)).all (fun x => x.1.isSome) && decide ([e].length + ([] : List Keyword).length + (if ([] : List Keyword).isEmpty then 0 else 1) < 30)) = true := by rfl)
    (hline : (apos.endLine == pos.line) = true := by rfl) (hs : starEach [e] X.env = (false, eval e X.env) :: starEach [] X.env := by rfl) :
    QE T X (.Call (.Attribute o "split" apos) [e] [] pos) (eBM isStrD splitD fo fs) :=
  qe_meB (Ty := "str") str_tyV PySem.F.plainAttrs_str PySem.F.slot_str_split PySem.F.type_str_split (fun pn xe => mt_split) (fun x vs H Q ⟨ex, ds, ev, dm, r, e, k⟩ => by
    unfold splitD at e
    split at e
    · split at e
      · rename_i a b hc
        cases e
        cases r with
        | cons h1 t =>
          obtain ⟨w, rfl, h2⟩ := one_of t
          refine ⟨mkS a, mkS b, h1, by rw [show w = V.str (mkS b) from h2], ?_, by rw [mkS_len, sizeLine_eq]; have := hc.2; unfold big at this; omega, fun p hp => ?_⟩
          · rw [mkS_len]
            exact beq_eq_false_iff_ne.mpr fun z => hc.1 (List.length_eq_zero_iff.mp z)
          · refine k _ _ (ext_new hp) ⟨p, rfl, hp, rep_newL hp ?_⟩
            have e : (Txt.split (mkS a) (mkS b)).map V.str = ((splitS a b).map mkS).map V.str := by
              unfold splitS
              rw [List.map_map, List.map_map]
              exact List.map_congr_left fun s _ => by show V.str s = V.str (mkS s.cps.toList); rw [mkS_tl]
            rw [e]
            exact strs_repL _
      · cases e
    · cases e) ho ha hbase hfew hline hs rfl
def rJoinV (K : PySem.W.Frag) : V → List V → Hp → VK → Prop := fun x xs H Q => ∃ a p, ∃ ys : List Str, x = .str a ∧ xs = [.ref p] ∧ (SqL K H p (ys.map V.str) ∨ SqT K H p (ys.map V.str)) ∧
    (ys.map (·.length)).sum + ys.length * a.length ≤ 16777216 ∧ Q (.str (Txt.join a ys)) H
theorem qe_join (ho : QO T X o fo) (ha : QAs T X [e] fs) (hbase : attributeBase o "join" X.env (eval o X.env) = eval o X.env := by rfl)
    (hfew : ((backTo pos (starEach [e] X.env)).all (fun x => !x.1) && (backToKw pos (keywordEach [] X.env)).all (fun x => x.1.isSome) && decide ([e].length + ([] : List Keyword).length + (if ([] : List Keyword).isEmpty then 0 else 1) < 30)) = true := by rfl)
    (hline : (apos.endLine == pos.line) = true := by rfl) (hs : starEach [e] X.env = (false, eval e X.env) :: starEach [] X.env := by rfl) :
    QE T X (.Call (.Attribute o "join" apos) [e] [] pos) (eBM isStrD joinD fo fs) :=
  qe_meB (Ty := "str") (r := rJoinV X.K) str_tyV PySem.F.plainAttrs_str PySem.F.slot_str_join PySem.F.type_str_join (fun pn xe => mt_join (X := X.tr pn xe)) (fun x vs H Q ⟨ex, ds, ev, dm, r, e, k⟩ => by
    obtain ⟨a, d, xs, ys, rfl, h1, h2, h3, rfl⟩ := joinD_inv e
    cases r with
    | cons r1 t =>
      obtain ⟨w, rfl, r2⟩ := one_of t
      obtain ⟨p, vs, rfl, h4, h5⟩ := seq_of h1 r2
      cases strs_rep h2 h5
      refine ⟨mkS a, p, ys.map mkS, r1, rfl, h4, ?_, k _ _ ext_refl ?_⟩
      · rw [List.map_map, List.length_map, mkS_len]
        have e : (ys.map (Str.length ∘ mkS)) = ys.map (·.length) := List.map_congr_left fun s _ => mkS_len s
        rw [e]
        unfold big at h3
        omega
      · show V.str _ = V.str (mkS (joinS a ys))
        unfold joinS
        rw [mkS_tl]) ho ha hbase hfew hline hs rfl
theorem qe_count (ho : QO T X o fo) (ha : QAs T X [e] fs) (hbase : attributeBase o "count" X.env (eval o X.env) = eval o X.env := by rfl)
    (hfew : ((backTo pos (starEach [e] X.env)).all (fun x => !x.1) && (backToKw pos (keywordEach [] X.env)).all (fun x => x.1.isSome) && decide ([e].length + ([] : List Keyword).length + (if ([] : List Keyword).isEmpty then 0 else 1) < 30)) = true := by rfl)
    (hline : (apos.endLine == pos.line) = true := by rfl) (hs : starEach [e] X.env = (false, eval e X.env) :: starEach [] X.env := by rfl) :
    QE T X (.Call (.Attribute o "count" apos) [e] [] pos) (eBM isStrD countD fo fs) :=
  qe_meB (Ty := "str") str_tyV PySem.F.plainAttrs_str PySem.F.slot_str_count PySem.F.type_str_count (fun pn xe => mt_count) (fun x vs H Q ⟨ex, ds, ev, dm, r, e, k⟩ => by
    unfold countD at e
    split at e
    · cases e
      cases r with
      | cons h1 t =>
        obtain ⟨w, rfl, h2⟩ := one_of t
        exact ⟨_, _, h1, by rw [show w = _ from h2], k _ _ ext_refl rfl⟩
    · cases e) ho ha hbase hfew hline hs rfl
end

/-! ### subscripts, slices -/
def ixD : D → D → Option EV := fun x y => match y with
  | .int i => match x with
    | .str s => if s.length ≤ big then (atI s i).map fun c => .v (.str [c]) else none
    | d => (seqD d).bind fun xs => (atI xs i).map .v
  | _ => none
theorem atI_rep {K : PySem.W.Frag} {T : Tab} {ex : Addr → Prop} {H : Hp} {xs : List D} {vs : List V} {i : Int} {d : D} (h : RepL K T ex H xs vs) (e : atI xs i = some d) : ∃ v, atI vs i = some v ∧ Rep K T ex H d v := by
  unfold atI at e ⊢
  obtain ⟨j, e1, e⟩ := opt_bind e
  obtain ⟨v, e2, r⟩ := h.get e
  refine ⟨v, ?_, r⟩
  rw [← h.length, e1]
  exact e2
theorem ix_inv {x y : D} {ev : EV} (e : ixD x y = some ev) : ∃ i, y = .int i ∧ ((∃ s c, x = .str s ∧ s.length ≤ big ∧ atI s i = some c ∧ ev = .v (.str [c])) ∨ ∃ xs d, seqD x = some xs ∧ atI xs i = some d ∧ ev = .v d) := by
  unfold ixD at e
  split at e
  · rename_i i
    refine ⟨i, rfl, ?_⟩
    split at e
    · split at e
      · obtain ⟨c, e1, rfl⟩ := Option.map_eq_some_iff.mp e
        exact .inl ⟨_, c, rfl, by assumption, e1, rfl⟩
      · cases e
    · obtain ⟨xs, e1, e⟩ := opt_bind e
      obtain ⟨d, e2, rfl⟩ := Option.map_eq_some_iff.mp e
      exact .inr ⟨xs, d, e1, e2, rfl⟩
  · cases e
section
variable {T : Tab} {X : Cx} {a b : Expr} {pos : Pos} {fa fb : M AV}
theorem qe_ix (ha : QO T X a fa) (hb : QO T X b fb) (hs : PlainIx b := by intro _ _; rfl) : QE T X (.Subscript a b pos) (eOp ixD fa fb) := fun pn xe W tk hp =>
  impE (pe_ix (X := X.tr pn xe) ix_seq (ha pn xe W tk hp) (hb pn xe W tk hp) hs) fun σ H Q q => by
    obtain ⟨ex, env, q⟩ := tr_op q
    refine ⟨ex, env, q.mono fun x H1 ⟨ex2, env2, q2⟩ => ⟨ex2, env2, q2.mono fun y H2 ⟨exs, d1, d2, ev, dm, r1, r2, e, k⟩ => ?_⟩⟩
    obtain ⟨i, rfl, h⟩ := ix_inv e
    rcases h with ⟨s, c, rfl, hs, hc, rfl⟩ | ⟨xs, d, hx, hd, rfl⟩
    · exact .inr (.inr ⟨mkS s, i, c, r1, r2, by rw [mkS_len]; exact Nat.le_trans hs big_line, by rw [mkS_cps]; exact hc, k _ _ ext_refl rfl⟩)
    · obtain ⟨p, vs, rfl, h1, h2⟩ := seq_of hx r1
      obtain ⟨v, hv, rv⟩ := atI_rep h2 hd
      rcases h1 with h1 | h1
      · exact .inl ⟨p, vs, i, v, rfl, r2, h1, hv, k _ _ ext_refl rv⟩
      · exact .inr (.inl ⟨p, vs, i, v, rfl, r2, h1, hv, k _ _ ext_refl rv⟩)
end
end Dt
end
section
set_option maxRecDepth 100000
set_option maxHeartbeats 4000000
/-! QM: slices, membership, isinstance, repr, sorted, dict of pairs. -/
namespace Dt
open PySem PySem.Spec L2
open PyProof.Rows hiding St

/-! ### slices -/
def relP : Rl (Option Int) (Option Int) := fun _ _ _ _ _ b c => b = c
theorem rmP : RM relP := fun _ _ _ _ _ _ _ _ _ r => r
def QPO (T : Tab) (X : Cx) (e : Option Expr) (f : M (Option Int)) : Prop := ∀ pn xe W, Takes (X.tr pn xe) W → PassesOwn (model X.prog X.w) X.A X.env xe → PO (X.tr pn xe) e (tr X.K T relP f W)
def pNo : M (Option Int) := M.ret none
def pYes (f : M AV) : M (Option Int) := M.bind f fun a => match a with
  | .v (.int i) => M.ret (some i)
  | _ => M.stuck
def cutD {α : Type} (xs : List α) (lo hi : Option Int) : List α := (xs.drop (HT.sIx xs.length 0 lo)).take (HT.sIx xs.length xs.length hi - HT.sIx xs.length 0 lo)
def sliceD (d : D) (lo hi : Option Int) : Option EV := match d with
  | .str s => if s.length ≤ big then some (.v (.str (cutD s lo hi))) else none
  | .lst xs => some (.o (.lst (cutD xs lo hi)))
  | .tup xs => some (.v (.tup (cutD xs lo hi)))
  | _ => none
def eSlice (fa : M AV) (fl fh : M (Option Int)) : M EV := M.bind fa fun a => M.bind fl fun lo => M.bind fh fun hi => fun env => (deref env a).bind fun d => lift (sliceD d lo hi) env
def rSlQ (K : PySem.W.Frag) : V → Option Int → Option Int → Hp → VK → Prop := fun x lo hi H Q => rSlL K x lo hi H Q ∨ rSlA K x lo hi H Q ∨ rSlS x lo hi H Q
theorem sl_all {X : Cx} : SlR X (rSlQ X.K) := SlR.or sl_list (SlR.or sl_tupA sl_str)
section
variable {T : Tab} {X : Cx} {e : Expr} {lo hi : Option Expr} {p2 pos : Pos} {fa : M AV} {f : M AV} {fl fh : M (Option Int)}
theorem qpo_no : QPO T X none pNo := fun pn xe W tk hp => ⟨fun pins s σ H Q I q => po_none.run pins s σ H Q I (tr_ret q fun _ _ => rfl)⟩
theorem qpo_yes (h : QO T X e f) : QPO T X (some e) (pYes f) := fun pn xe W tk hp => ⟨fun pins s σ H Q I q => (po_some (h pn xe W tk hp)).run pins s σ H Q I (by
  obtain ⟨ex, env, q⟩ := q
  refine ⟨ex, env, (trx_bind (relA X.K T) rmP q).mono fun v H1 ⟨a, env1, s, ra, q⟩ => ?_⟩
  have stuck : ∀ {f : M (Option Int)}, f = M.stuck → trx X.K T relP ex f env1 W σ H1 Q → False := fun e ⟨_, _, q, _⟩ => by rw [e] at q; cases q
  cases a with
  | s i => exact (stuck rfl q).elim
  | v d =>
    cases d with
    | int i =>
      obtain ⟨g, k⟩ := trx_ret q
      exact ⟨i, ra, k _ H1 (Step.refl g) rfl⟩
    | _ => exact (stuck rfl q).elim)⟩
theorem cut_map {K : PySem.W.Frag} {ex : Addr → Prop} {H : Hp} {ds : List D} {vs : List V} (r : RepL K T ex H ds vs) : RepL K T ex H (cutD ds lo' hi') (cutV vs lo' hi') := by
  unfold cutD cutV
  rw [← r.length]
  exact (r.drop _).take _
theorem qe_slice (ha : QO T X e fa) (hl : QPO T X lo fl) (hh : QPO T X hi fh) : QE T X (.Subscript e (.Slice lo hi none p2) pos) (eSlice fa fl fh) := fun pn xe W tk hp =>
  impE (pe_slice (X := X.tr pn xe) (sl_all (X := X.tr pn xe)) (ha pn xe W tk hp) (hl pn xe W tk hp) (hh pn xe W tk hp)) fun σ H Q ⟨ex, env, q⟩ => by
    refine ⟨ex, env, (trx_bind (relA X.K T) rmE q).mono fun v H1 ⟨a, env1, s, ra, q⟩ => ⟨ex, env1, (trx_bind relP rmE q).mono fun l H2 ⟨lo', env2, s2, e2, q⟩ => ⟨ex, env2, (trx_bind relP rmE q).mono fun h H3 ⟨hi', env3, s3, e3, q⟩ => ?_⟩⟩⟩
    have e2 : l = lo' := e2
    have e3 : h = hi' := e3
    subst e2; subst e3
    obtain ⟨g, r, er, o⟩ := q
    obtain ⟨d, e4, er⟩ := opt_bind er
    cases w : sliceD d l h with
    | none => rw [w] at er; cases er
    | some ev =>
      rw [w] at er
      cases er
      have rd := deref_ok g (RepA.step (RepA.step ra s2) s3) e4
      have fin : ∀ v H', Ext H3 H' → RepV X.K T (exO ex σ env3) H3 H' v ev → Q v H' := fun v H' k r => o v H' (Step.ext g k) (r.e g k)
      cases d with
      | str x =>
        unfold sliceD at w
        dsimp only at w
        split at w
        · rename_i hx
          cases w
          refine .inr (.inr ⟨mkS x, rd, by rw [mkS_len]; exact Nat.le_trans hx big_line, fin _ _ ext_refl ?_⟩)
          show V.str _ = V.str _
          unfold cutS cutD
          rw [mkS_cps, mkS_len]
          rfl
        · cases w
      | lst xs =>
        cases w
        obtain ⟨p, vs, rfl, h1, h2⟩ := rd
        exact .inl ⟨p, vs, rfl, .of h1, fun n hn => fin _ _ (ext_new hn) ⟨n, rfl, hn, rep_newL hn (cut_map h2)⟩⟩
      | tup xs =>
        cases w
        obtain ⟨p, vs, rfl, n1, h1, h2⟩ := rd
        refine .inr (.inl ⟨p, vs, rfl, .of h1, fun z => fin _ _ ext_refl ⟨p, vs, rfl, n1, h1, ?_⟩, fun _ n hn => fin _ _ (ext_new hn) ⟨n, _, rfl, fun z => g.dm n z hn, upd_same, (cut_map h2).mono fun b o nb e => ⟨nb, ext_new hn b o e⟩⟩⟩)
        unfold cutD
        rw [← h2.length] at z
        rw [z.1, z.2]
        simpa using h2
      | _ => cases w
end

/-! ### membership -/
def inC (n : Bool) : D → D → Option EV := fun x y => match x, y with
  | .str [c], .str z => some (vB (n ^^ decide (c ∈ z)))
  | _, _ => none
def flatD : D → Bool
  | .non => true
  | .bl _ => true
  | .int _ => true
  | .str _ => true
  | _ => false
def flEq : D → D → Bool
  | .non, .non => true
  | .bl a, .bl b => a == b
  | .bl a, .int b => (if a then 1 else 0) == b
  | .int a, .bl b => a == (if b then 1 else 0)
  | .int a, .int b => a == b
  | .str a, .str b => a == b
  | _, _ => false
def inL (n : Bool) : D → D → Option EV := fun x y => (seqD y).bind fun xs => if flatD x = true ∧ xs.all flatD = true then some (vB (n ^^ xs.any fun y => flEq y x)) else none
def inP (n : Bool) : D → D → Option EV := fun x y => match y with
  | .lst ys => match toP x, toPL ys with
    | some p, some qs => if SeqAt.shaped p = true ∧ SeqAt.shaped (.list qs) = true then some (vB (n ^^ qs.any fun z => PyData.eqv z p)) else none
    | _, _ => none
  | _ => none
section
variable {K : PySem.W.Frag} {T : Tab} {ex : Addr → Prop} {H : Hp}
theorem flat_rep {d : D} {v : V} (h : flatD d = true) (r : Rep K T ex H d v) : flatV v = true := by
  cases d <;> first | (cases h; done) | (cases (show v = _ from r); rfl)
theorem flat_eq {d e : D} {v w : V} (h : flatD d = true) (h' : flatD e = true) (r : Rep K T ex H d v) (r' : Rep K T ex H e w) : eqV v w = flEq d e := by
  cases d <;> first | (cases h; done) | (cases (show v = _ from r); cases e <;> first | (cases h'; done) | (cases (show w = _ from r'); first | rfl | (show (mkS _ == mkS _) = (_ == _); rw [Bool.eq_iff_iff]; simp [mkS_inj])))
theorem flat_all : ∀ {ds : List D} {vs : List V}, ds.all flatD = true → RepL K T ex H ds vs → vs.all flatV = true
  | [], _, _, r => by cases (show _ = [] from r); rfl
  | d :: ds, _, h, ⟨v, w, e, h1, h2⟩ => by
    subst e
    rw [List.all_cons, Bool.and_eq_true] at h ⊢
    exact ⟨flat_rep h.1 h1, flat_all h.2 h2⟩
theorem flat_any {x : D} {v : V} (hx : flatD x = true) (rx : Rep K T ex H x v) : ∀ {ds : List D} {vs : List V}, ds.all flatD = true → RepL K T ex H ds vs → inV v vs = ds.any fun y => flEq y x
  | [], _, _, r => by cases (show _ = [] from r); rfl
  | d :: ds, _, h, ⟨w, ws, e, h1, h2⟩ => by
    subst e
    rw [List.all_cons, Bool.and_eq_true] at h
    have ih := flat_any hx rx h.2 h2
    unfold inV at ih ⊢
    rw [List.any_cons, List.any_cons, flat_eq h.1 hx h1 rx, ih]
end
section
variable {X : Cx} {T : Tab}
theorem flat_rd {K : PySem.W.Frag} {ex : Addr → Prop} {H : Hp} {d : D} {v : V} (h : flatD d = true) (r : Rd1 K T ex H d v) : Rep K T ex H d v := by
  cases d <;> first | (cases h; done) | exact r
theorem op_inC : OpR X (compareOp .In) (rQ X.K T (inC false)) := op_of op_in_sign fun x y H Q ⟨ex, d1, d2, ev, dm, r1, r2, e, k⟩ => by
  unfold inC at e
  split at e
  · cases e
    refine ⟨_, _, r1, r2, k _ H ext_refl ?_⟩
    show V.bl _ = V.bl _
    rw [mkS_cps, Bool.false_xor]
  · cases e
theorem op_notInC : OpR X (compareOp .NotIn) (rQ X.K T (inC true)) := op_of op_notIn_sign fun x y H Q ⟨ex, d1, d2, ev, dm, r1, r2, e, k⟩ => by
  unfold inC at e
  split at e
  · cases e
    refine ⟨_, _, r1, r2, k _ H ext_refl ?_⟩
    show V.bl _ = V.bl _
    rw [mkS_cps, Bool.true_xor]
  · cases e
theorem inL_ok {K : PySem.W.Frag} {n : Bool} {x y : V} {H : Hp} {Q : VK} (h : rQ K T (inL n) x y H Q) : rIn K n x y H Q := by
  obtain ⟨ex, d1, d2, ev, dm, r1, r2, e, k⟩ := h
  unfold inL at e
  obtain ⟨xs, e1, e⟩ := opt_bind e
  split at e
  · rename_i h
    cases e
    obtain ⟨a, vs, rfl, h1, h2⟩ := seq_of e1 r2
    have rx := flat_rd h.1 r1
    refine ⟨a, vs, rfl, h1, flat_rep h.1 rx, flat_all h.2 h2, k _ H ext_refl ?_⟩
    show V.bl _ = V.bl _
    rw [flat_any h.1 rx h.2 h2]
    cases n <;> simp
  · cases e
theorem op_inL : OpR X (compareOp .In) (rQ X.K T (inL false)) := op_of op_in_seq fun x y H Q h => inL_ok h
theorem op_notInL : OpR X (compareOp .NotIn) (rQ X.K T (inL true)) := op_of op_notIn_seq fun x y H Q h => inL_ok h
theorem op_inQ : OpR X (compareOp .In) (rQ X.K T (orD (inC false) (inL false))) := op_or op_inC op_inL
theorem op_notInQ : OpR X (compareOp .NotIn) (rQ X.K T (orD (inC true) (inL true))) := op_or op_notInC op_notInL
end
def inD := orD (inC false) (inL false)
def ninD := orD (inC true) (inL true)

/-! ### isinstance -/
/-- the kinds of built-in values, by a number -/
def kindN : D → Option Nat
  | .non => some 0
  | .bl _ => some 1
  | .int _ => some 2
  | .str _ => some 3
  | .tup _ => some 4
  | .lst _ => some 5
  | .dic _ _ => some 6
  | _ => none
def kindT : Nat → String
  | 0 => "NoneType"
  | 1 => "bool"
  | 2 => "int"
  | 3 => "str"
  | 4 => "tuple"
  | 5 => "list"
  | _ => "dict"
/-- the answers of one class: of the built-in kinds, of own classes -/
structure IsT where
  k : Nat → Bool
  o : Nat → Option Bool
def isiB (I : IsT) (d : D) : Option Bool := match d with
  | .obj t _ => I.o t
  | d => (kindN d).map I.k
/-- the class c is the value u -/
structure IsOK (K : PySem.W.Frag) (T : Tab) (I : IsT) (u : Value) : Prop where
  k : ∀ n, n < 7 → PySem.W.kitOne K (.type (kindT n)) u = some (I.k n)
  o : ∀ t b, I.o t = some b → PySem.W.kitOne K (.ref (T.cls t)) u = some b ∧ Cls K (T.cls t) ∧ PySem.W.findIn K (.ref (T.cls t)) "__class__" = some (some (.builtin "object.__class__")) ∧
    PySem.W.specialIn K (.builtin "object.__class__") "__get__" = some (some (.builtin "getset_descriptor.__get__")) ∧ PySem.W.takesIn K (.builtin "object.__class__") = some true ∧ PySem.W.mroIn K (T.cls t) (.type "object") = some true
/-- isinstance(e, C), C a global name -/
def eIsi (I : IsT) (fa : M AV) : M EV := M.bind fa fun a => fun env => (objIs env a).bind fun d => lift ((isiB I d).map vB) env
where objIs (env : Sl) (a : AV) : Option D := match objOf env a with
  | some (t, ds) => some (.obj t ds)
  | none => deref env a
section
variable {K : PySem.W.Frag} {T : Tab} {ex : Addr → Prop} {H : Hp}
theorem tyx_of {I : IsT} {u : Value} (hI : IsOK K T I u) {d : D} {v : V} {b : Bool} (h : isiB I d = some b) (hk : kindN d ≠ none) (r : Rd1 K T ex H d v) : ∃ t, TyX K H v t ∧ PySem.W.kitOne K t u = some b := by
  have key : ∀ n, kindN d = some n → n < 7 → TyX K H v (.type (kindT n)) → ∃ t, TyX K H v t ∧ PySem.W.kitOne K t u = some b := fun n e l ty => by
    refine ⟨_, ty, ?_⟩
    have : isiB I d = some (I.k n) := by
      unfold isiB
      split
      · cases e
      · rw [e]; rfl
    rw [this] at h
    cases h
    exact hI.k n l
  cases d with
  | non => cases (show v = _ from r); exact key 0 rfl (by decide) (.base .non)
  | bl x => cases (show v = _ from r); exact key 1 rfl (by decide) (.base (.bl _))
  | int x => cases (show v = _ from r); exact key 2 rfl (by decide) (.base (.int _))
  | str x => cases (show v = _ from r); exact key 3 rfl (by decide) (.base (.str _))
  | tup x => obtain ⟨a, vs, rfl, _, h1, _⟩ := r; exact key 4 rfl (by decide) (.base (.tup h1))
  | lst x => obtain ⟨a, vs, rfl, h1, _⟩ := r; exact key 5 rfl (by decide) (.base (.lst h1))
  | dic x y => obtain ⟨a, vs, rfl, h1, _⟩ := r; exact key 6 rfl (by decide) (.base (.dK h1))
  | _ => exact absurd rfl hk
end
section
variable {T : Tab} {X : Cx} {a : Expr} {c : Str} {p p2 pos : Pos} {fa : M AV} {I : IsT} {u : Value} {cv : V}
theorem trx_isi {ex : Addr → Prop} {σ : St} {H : Hp} {env : Sl} {W : WX} {Q : VK} {av : AV} {v : V} (hI : IsOK X.K T I u) (h : trx X.K T (relE X.K T) ex (fun env => (eIsi.objIs env av).bind fun d => lift ((isiB I d).map vB) env) env W σ H Q) (ra : RepA X.K T ex σ env H v av) :
    ∃ t b, TyX X.K H v t ∧ PySem.W.kitOne X.K t u = some b ∧ Q (.bl b) H := by
  obtain ⟨g, r, er, o⟩ := h
  obtain ⟨d, e1, er⟩ := opt_bind er
  cases w : isiB I d with
  | none => rw [w] at er; cases er
  | some b =>
    rw [w] at er
    cases er
    have fin : Q (.bl b) H := o _ H (Step.refl g) rfl
    unfold eIsi.objIs at e1
    split at e1
    · rename_i t ds hob
      cases e1
      obtain ⟨x, dx, vs, rfl, hx, _, _⟩ := objOf_ok g ra hob
      obtain ⟨h1, h2, h3, h4, h5, h6⟩ := hI.o t b w
      exact ⟨_, b, .base (.ins hx h2 h3 h4 h5 h6), h1, fin⟩
    · rename_i hob
      have rd := deref_ok g ra e1
      have hk : kindN d ≠ none := fun z => by
        cases d with
        | obj t ds =>
          cases av with
          | v d' => cases e1; cases hob
          | s i =>
            have e1 : rdS env[i]? = some (.obj t ds) := e1
            have hob : objS env[i]? = none := hob
            cases q : env[i]? with
            | none => rw [q] at e1; cases e1
            | some sl =>
              rw [q] at e1 hob
              cases sl with
              | emp => cases e1
              | val d => cases e1; cases hob
              | own c => cases c <;> cases e1
        | raw v => cases w
        | scr v => cases w
        | _ => cases z
      obtain ⟨t, h1, h2⟩ := tyx_of hI w hk rd
      exact ⟨t, b, h1, h2, fin⟩
theorem pe_isi {a b : Expr} {ta tb : TE} (hg : Gl X "isinstance") (hm : X.mg "isinstance" = none) (ha : PE X a ta) (hb : PE X b tb) (hs : starEach [a, b] X.env = [(false, eval a X.env), (false, eval b X.env)] := by rfl) (hs2 : starEach [b] X.env = [(false, eval b X.env)] := by rfl) :
    PE X (.Call (.Name "isinstance" p) [a, b] [] pos) (tCB (rIsi X.K) (tCons ta (tCons tb tNil))) :=
  pe_callB call_isi hg hm boot_isinstance (pa_cons ha (pa_cons hb pa_nil hs2) (by rw [hs, hs2])) (he := by rw [hs, hs2]) (hpl := by rw [hs2]; rfl)
theorem qe_isi (hg : Gl X "isinstance") (hm : X.mg "isinstance" = none) (hI : IsOK X.K T I u) (hc : ClsV cv u) (he : ∀ pn xe, PE (X.tr pn xe) (.Name c p2) (tC cv)) (ha : QO T X a fa)
    (hs : starEach [a, .Name c p2] X.env = [(false, eval a X.env), (false, eval (.Name c p2) X.env)] := by rfl) (hs2 : starEach [.Name c p2] X.env = [(false, eval (.Name c p2) X.env)] := by rfl) : QE T X (.Call (.Name "isinstance" p) [a, .Name c p2] [] pos) (eIsi I fa) := fun pn xe W tk hp =>
  impE (pe_isi (X := X.tr pn xe) hg hm (ha pn xe W tk hp) (he pn xe) hs hs2) fun σ H Q ⟨ex, env, q⟩ => ⟨ex, env, (trx_bind (relA X.K T) rmE q).mono fun v H1 ⟨av, env1, s, ra, q⟩ => by
    obtain ⟨t, b, h1, h2, h3⟩ := trx_isi hI q ra
    exact ⟨v, cv, t, u, b, rfl, hc, h1, h2, h3⟩⟩
/-- a built-in class's name -/
theorem isi_bi {Ty : String} (hg : Gl X c) (hm : X.mg c = none) (hv : bootBuiltins c = some (.type Ty)) (hn : c ≠ "__name__" := by decide) (hdb : (c == ("__debug__" : Str)) = false := by decide) : ∀ pn xe, PE (X.tr pn xe) (.Name c p2) (tC (.ty Ty)) := fun pn xe => pe_bltn (X := X.tr pn xe) hg hm hv rfl hn hdb
theorem isi_own {C : Addr} (hg : Gl X c) (hm : X.mg c = some (.ref C)) (hdb : (c == ("__debug__" : Str)) = false := by decide) : ∀ pn xe, PE (X.tr pn xe) (.Name c p2) (tC (.ref C)) := fun pn xe => pe_glob (X := X.tr pn xe) hg hm rfl hdb
end

/-! ### repr -/
def shownS (p : PyData) : List Nat := p.shown.cps.toList
def reprD : List D → Option EV
  | [.lst xs] => (toPL xs).bind fun ps => if (PyData.list ps).showable = true ∧ (PyData.list ps).hasDict = false ∧ (PyData.list ps).shown.length ≤ big ∧ (PyData.list ps).depth ≤ 60 then some (.v (.str (shownS (.list ps)))) else none
  | [.tup xs] => (toPL xs).bind fun ps => if (PyData.tuple ps).showable = true ∧ (PyData.tuple ps).hasDict = false ∧ (PyData.tuple ps).shown.length ≤ big ∧ (PyData.tuple ps).depth ≤ 60 then some (.v (.str (shownS (.tuple ps)))) else none
  | _ => none
theorem reprD_inv {ds : List D} {ev : EV} (e : reprD ds = some ev) : ∃ d p, ds = [d] ∧ toP d = some p ∧ (∀ v K T ex H, Rd1 K T ex H d v → ∃ a, v = .ref a) ∧ p.showable = true ∧ p.hasDict = false ∧ p.shown.length ≤ big ∧ p.depth ≤ 60 ∧ ev = .v (.str (shownS p)) := by
  unfold reprD at e
  split at e
  · rename_i xs
    obtain ⟨ps, e1, e⟩ := opt_bind e
    split at e
    · rename_i h
      cases e
      exact ⟨_, _, rfl, by unfold toP; rw [e1]; rfl, fun v K T ex H r => let ⟨a, vs, e, _⟩ := r; ⟨a, e⟩, h.1, h.2.1, h.2.2.1, h.2.2.2, rfl⟩
    · cases e
  · rename_i xs
    obtain ⟨ps, e1, e⟩ := opt_bind e
    split at e
    · rename_i h
      cases e
      exact ⟨_, _, rfl, by unfold toP; rw [e1]; rfl, fun v K T ex H r => let ⟨a, vs, e, _⟩ := r; ⟨a, e⟩, h.1, h.2.1, h.2.2.1, h.2.2.2, rfl⟩
    · cases e
  · cases e
theorem cr_repr {X : Cx} {T : Tab} (hgd : X.A.guards = some []) (hu : X.A.units + 64 < cLine) : CallR X (.builtin "repr") (rB X.K T reprD) := by
  intro pins s σ H xs us Q I rvs ⟨ex, ds, ev, dm, r1, e, k⟩
  obtain ⟨d, p, rfl, hp, href, h1, h2, h3, h4, rfl⟩ := reprD_inv e
  obtain ⟨v, rfl, rd⟩ := one_of r1
  obtain ⟨u, rfl, rv⟩ := vals1 rvs
  obtain ⟨a, rfl⟩ := href _ _ _ _ _ rd
  obtain rfl : u = Value.ref a := rv
  obtain ⟨as, rr⟩ := Dp.reads I p _ _ (rd.dp hp) (show RelV (V.ref a) (Value.ref a) from rfl)
  refine repr_of_reads' rr h1 (fun z => by rw [h2] at z; cases z) hgd (by omega) (fun _ _ z => z) (fun h' u' tk hk => ?_) (Nat.le_trans h3 big_line)
  refine ⟨.str p.shown, H, I.kept (t' := tk) hk, ⟨_, rfl⟩, k _ H ext_refl ?_⟩
  show V.str _ = V.str (mkS (shownS p))
  unfold shownS
  rw [mkS_tl]
end Dt
end
section
set_option maxRecDepth 100000
set_option maxHeartbeats 4000000
/-! QN: sorted, dicts, sets, list(range), texts and lists repeated. -/
namespace Dt
open PySem PySem.Spec L2
open PyProof.Rows hiding St
open PySem.W (EachIs AllAlike Sortable dataLe SortsAt dataKind sortVals alike sortingHeap_old sortVals_data sortVals_length each_map list_sort_vals)

/-! ### sorted -/
def isTup1 : PyData → Bool
  | .tuple (_ :: _) => true
  | _ => false
def noTupN : PyData → Bool
  | .tuple _ => false
  | .none => false
  | _ => true
def okSort (ps : List PyData) : Bool := (ps.all fun p => ps.all fun q => alike p q) && (ps.all isTup1 || ps.all noTupN) && ps.all fun p => decide (p.depth ≤ 60)
def sortL (xs : List D) (ps : List PyData) : List D := ((xs.zip ps).mergeSort (dataLe false fun b => b.2)).map (·.1)
def keyOf : Key → D
  | .inl i => .int i
  | .inr s => .str s.cps.toList
def sortItems : D → Option (List D)
  | .lst xs => some xs
  | .tup xs => some xs
  | .dic ks _ => some (ks.map keyOf)
  | _ => none
def sortD : List D → Option EV
  | [d] => (sortItems d).bind fun xs => (toPL xs).bind fun ps => if okSort ps = true ∧ xs.length ≤ big then some (.o (.lst (sortL xs ps))) else none
  | _ => none
section
variable {K : PySem.W.Frag} {T : Tab} {ex : Addr → Prop} {H : Hp}
theorem okSort_all {ps : List PyData} (h : okSort ps = true) : AllAlike ps ∧ Sortable ps ∧ ∀ p ∈ ps, p.depth ≤ 60 := by
  unfold okSort at h
  rw [Bool.and_eq_true, Bool.and_eq_true, Bool.or_eq_true] at h
  obtain ⟨⟨h1, h2⟩, h3⟩ := h
  refine ⟨fun d hd e he => List.all_eq_true.mp (List.all_eq_true.mp h1 d hd) e he, ?_, fun p hp => of_decide_eq_true (List.all_eq_true.mp h3 p hp)⟩
  rcases h2 with h2 | h2
  · refine .inl fun d hd => ?_
    have := List.all_eq_true.mp h2 d hd
    unfold isTup1 at this
    split at this
    · exact ⟨_, _, rfl⟩
    · cases this
  · refine .inr fun d hd => ?_
    have := List.all_eq_true.mp h2 d hd
    refine ⟨fun z => ?_, fun xs z => ?_⟩ <;> (rw [z] at this; cases this)
theorem toPL_len : ∀ {ds : List D} {ps : List PyData}, toPL ds = some ps → ds.length = ps.length
  | [], _, e => by unfold toPL at e; cases e; rfl
  | d :: ds, _, e => by
    unfold toPL at e
    obtain ⟨p, _, e⟩ := opt_bind e
    obtain ⟨qs, e2, rfl⟩ := Option.map_eq_some_iff.mp e
    simp [toPL_len e2]
/-- the triples of a value, its data, its plain data -/
abbrev Tri := V × D × PyData
def tri : List V → List D → List PyData → List Tri
  | v :: vs, d :: ds, p :: ps => (v, d, p) :: tri vs ds ps
  | _, _, _ => []
theorem tri_ok : ∀ {vs : List V} {ds : List D} {ps : List PyData}, RepL K T ex H ds vs → toPL ds = some ps → (tri vs ds ps).map (·.1) = vs ∧ (tri vs ds ps).map (·.2) = ds.zip ps ∧ (tri vs ds ps).map (·.2.2) = ps ∧ ∀ b ∈ tri vs ds ps, Rep K T ex H b.2.1 b.1 ∧ toP b.2.1 = some b.2.2
  | _, [], ps, r, e => by
    cases (show _ = [] from r)
    unfold toPL at e; cases e
    exact ⟨rfl, rfl, rfl, fun _ h => by cases h⟩
  | _, d :: ds, ps, ⟨v, w, e1, h1, h2⟩, e => by
    subst e1
    unfold toPL at e
    obtain ⟨p, e3, e⟩ := opt_bind e
    obtain ⟨qs, e2, rfl⟩ := Option.map_eq_some_iff.mp e
    obtain ⟨a, b, c, d⟩ := tri_ok h2 e2
    refine ⟨by simp [tri, a], by simp [tri, b], by simp [tri, c], fun x hx => ?_⟩
    rcases List.mem_cons.mp hx with rfl | hx
    · exact ⟨h1, e3⟩
    · exact d x hx
theorem repL_map : ∀ (bs : List Tri), (∀ b ∈ bs, Rep K T ex H b.2.1 b.1) → RepL K T ex H (bs.map (·.2.1)) (bs.map (·.1))
  | [], _ => rfl
  | b :: bs, h => ⟨_, _, rfl, h b (List.mem_cons_self ..), repL_map bs fun c hc => h c (List.mem_cons_of_mem _ hc)⟩
theorem each_vals : ∀ {bs : List Tri} {us : List Value}, Vals (bs.map (·.1)) us → EachIs (fun (u : Value) (b : Tri) => RelV b.1 u) us bs
  | [], _, r => by cases r; exact .nil
  | b :: bs, _, r => by
    cases r with
    | cons h t => exact .cons h (each_vals t)
theorem vals_each : ∀ {bs : List Tri} {us : List Value}, EachIs (fun (u : Value) (b : Tri) => RelV b.1 u) us bs → Vals (bs.map (·.1)) us
  | [], _, r => by cases r; exact .nil
  | b :: bs, _, r => by
    cases r with
    | cons h t => exact .cons h (vals_each t)
end
section
variable {X : Cx} {T : Tab} {pins : List (Addr × Obj)} {σ : St} {H : Hp} {s : Shared} {Q : VK} {ex : Addr → Prop}
theorem each_reads (I : Inv X pins σ H s) : ∀ {bs : List Tri} {us : List Value}, (∀ b ∈ bs, Rep X.K T ex H b.2.1 b.1 ∧ toP b.2.1 = some b.2.2) → EachIs (fun (u : Value) (b : Tri) => RelV b.1 u) us bs → EachIs (fun u b => ∃ as, Reads s.heap u b.2.2 as) us bs
  | [], _, _, r => by cases r; exact .nil
  | b :: bs, _, h, r => by
    cases r with
    | cons h1 t =>
      obtain ⟨h2, h3⟩ := h b (List.mem_cons_self ..)
      exact .cons (Dp.reads I _ _ _ (dp_both.1 _ _ _ h3 h2) h1) (each_reads I (fun c hc => h c (List.mem_cons_of_mem _ hc)) t)
/-- sorted(x), however x is collected -/
theorem sorted_run {u : Value} {ds : List D} {ps : List PyData} {vs : List V} (hu : X.A.units + 64 < cLine) (I : Inv X pins σ H s) (dm : ∀ a, ex a → H a ≠ none) (rl : RepL X.K T ex H ds vs) (hp : toPL ds = some ps) (hok : okSort ps = true) (hz : ds.length ≤ big)
    (hcol : ∀ (R : List Value → Shared → Prop), (∀ h' tk acc, (∀ b o, s.heap.get? b = some o → h'.get? b = some o) → Vals vs acc → R acc { s with heap := h', toks := tk }) → wpAny (model X.prog X.w) X.A.in1 (collect u) R X.xe s)
    (hQ : ∀ v H', Ext H H' → RepV X.K T ex H H' v (.o (.lst (sortL ds ps))) → Q v H') : wpAny (model X.prog X.w) X.A (call (.builtin "sorted") [u]) (EP X pins σ Q) X.xe s := by
  obtain ⟨hal, hsb, hdp⟩ := okSort_all hok
  refine Calls.call_function_entry PyProof.Rows.kind_sorted PyProof.Rows.plain_sorted PyProof.Rows.entry_sorted (PyProof.Rows.args_sorted1 _) ?_
  unfold Builtin.«sorted»
  refine wpAny_bind (m := checkCount "sorted" 1 1 _) (wpAny_pure ?_)
  refine wpAny_bind (hcol _ fun h' tk acc hk hacc => ?_)
  have I1 : Inv X pins σ H { s with heap := h', toks := tk } := I.kept hk
  obtain ⟨t1, t2, t3, t4⟩ := tri_ok rl hp
  have hlen : acc.length = ds.length := by rw [← hacc.length, rl.length]
  have ev : EachIs (fun (u : Value) (b : Tri) => RelV b.1 u) acc (tri vs ds ps) := each_vals (by rw [t1]; exact hacc)
  have er : EachIs (fun u b => ∃ as, Reads h' u b.2.2 as) acc (tri vs ds ps) := each_reads (s := { s with heap := h', toks := tk }) I1 t4 ev
  refine wpAny_bind (wpAny_newList ?_ (by rw [hlen]; exact Nat.le_trans hz big_line))
  have hoL : (h'.push (seqObj "list" acc.toArray 0)).get? h'.objs.size = some (seqObj "list" acc.toArray 0) := Heap.get?_push_size _ rfl
  show wpAny _ _ _ _ _ { s with heap := h'.push (seqObj "list" acc.toArray 0), toks := tk }
  have er' : EachIs (fun u b => ∃ as, Reads (PySem.W.sortingHeap (h'.push (seqObj "list" acc.toArray 0)) h'.objs.size acc) u b.2.2 as) acc (tri vs ds ps) := er.mono fun _ _ ⟨as, r⟩ => ⟨as, PyProof.Rows.Reads.keeps (fun b o e => sortingHeap_old (Nat.ne_of_lt (Heap.lt_size e)) (Heap.get?_push_of_some _ e)) r⟩
  have hmp : (tri vs ds ps).map (fun b => b.2.2) = ps := t3
  have hlt : (tri vs ds ps).length = ds.length := by rw [← List.length_map (f := fun b : Tri => b.2.2), hmp, toPL_len hp]
  refine wpAny_bind (wpAny_holding (wpAny_call_entry PyProof.Rows.slot_list_sort ⟨_, hoL, rfl⟩ PyProof.Rows.entry_list_sort
    (list_sort_vals (κ := dataKind (PySem.W.sortingHeap (h'.push (seqObj "list" acc.toArray 0)) h'.objs.size acc) ((tri vs ds ps).map fun b => b.2.2)) (s := { s with heap := h'.push (seqObj "list" acc.toArray 0), toks := tk }) hoL
      (SortsAt.data (s := { s with heap := PySem.W.sortingHeap (h'.push (seqObj "list" acc.toArray 0)) h'.objs.size acc, toks := tk }) (each_map (R := fun v d => ∃ as, Reads (PySem.W.sortingHeap (h'.push (seqObj "list" acc.toArray 0)) h'.objs.size acc) v d as) (fun b : Tri => b.2.2) er') (by rw [hmp]; exact hal) (by rw [hmp]; exact hsb)
        (fun d hd => by rw [hmp] at hd; have := hdp d hd; show X.A.units + 1 + 1 + d.depth < cLine; omega)) (by rw [hlen]; exact Nat.le_trans hz big_line) ⟨.none, rfl, ?_⟩)
    (PyProof.Rows.args_list_sort _)))
  have hsd := sortVals_data (R := fun (u : Value) (b : Tri) => RelV b.1 u) (enc := fun b : Tri => b.2.2) false ev er' (by rw [hmp]; exact hal)
  have vo := vals_each hsd
  obtain ⟨e', he'⟩ := PyProof.Rows.sortedHeap_at (vs := acc) (out := (sortVals (dataKind (PySem.W.sortingHeap (h'.push (seqObj "list" acc.toArray 0)) h'.objs.size acc) ((tri vs ds ps).map fun b => b.2.2)) false acc acc).toArray) hoL
  have hsl : sortL ds ps = ((tri vs ds ps).mergeSort (dataLe false fun b => b.2.2)).map (·.2.1) := by
    unfold sortL
    rw [← t2, ← List.map_mergeSort (r := dataLe false fun b : Tri => b.2.2) (s := dataLe false fun b : D × PyData => b.2) (fun a _ b _ => rfl), List.map_map]
    rfl
  have hn : H h'.objs.size = none := I1.hok.fresh (Nat.le_refl _)
  have hpm := List.mergeSort_perm (tri vs ds ps) (dataLe false fun b : Tri => b.2.2)
  refine wpAny_pure ⟨_, rfl, .ref h'.objs.size, upd H h'.objs.size (.lst (((tri vs ds ps).mergeSort (dataLe false fun b => b.2.2)).map (·.1))), I1.laid (t' := tk) (fun b u e => ?_) (Nat.le_refl _)
    (show ObjOk X.prog X.w _ _ _ (.lst _) from ⟨?_, _, e', vo, he'⟩), rfl, hQ _ _ (ext_new hn) ⟨_, rfl, hn, rep_newL hn ?_⟩⟩
  · have hb : b < h'.objs.size := Heap.lt_size e
    rw [PyProof.Rows.sortedHeap_old (Nat.ne_of_lt hb) (by rw [size_push']; exact Nat.lt_succ_of_lt hb)]
    exact Heap.get?_push_of_some _ e
  · rw [List.length_map, hpm.length_eq, hlt]
    exact Nat.le_trans hz big_line
  · rw [hsl]
    exact repL_map _ fun b hb => (t4 b (hpm.mem_iff.mp hb)).1
theorem cr_sorted (hc : X.calm = true) (hu : X.A.units + 64 < cLine) : CallR X (.builtin "sorted") (rB X.K T sortD) := by
  intro pins s σ H xs us Q I rvs ⟨ex, ds, ev, dm, r1, e, k⟩
  unfold sortD at e
  split at e
  · rename_i d
    obtain ⟨v, rfl, rd⟩ := one_of r1
    obtain ⟨u, rfl, rv⟩ := vals1 rvs
    obtain ⟨ys, e1, e⟩ := opt_bind e
    obtain ⟨ps, e2, e⟩ := opt_bind e
    split at e
    · rename_i h
      cases e
      unfold sortItems at e1
      split at e1
      · cases e1
        obtain ⟨a, vs, rfl, h1, h2⟩ := rd
        cases rv
        obtain ⟨its, r', pl, hz⟩ := I.list (SqL.of h1)
        obtain ⟨o, ho, hcl, n, hd⟩ := pl.isList
        have hlen := r'.length
        exact sorted_run hu I dm h2 e2 h.1 h.2 (fun R hR => wpAny_collect_seq a (.inl rfl) ho hcl hd (fun h' hk => hR h' s.toks its hk r') (by simp only [List.size_toArray]; omega)) k
      · cases e1
        obtain ⟨a, vs, rfl, _, h1, h2⟩ := rd
        cases rv
        obtain ⟨its, r', pl, hz⟩ := I.tuple (SqT.of h1)
        obtain ⟨o, ho, hcl, n, hd⟩ := pl
        have hlen := r'.length
        exact sorted_run hu I dm h2 e2 h.1 h.2 (fun R hR => wpAny_collect_seq a (.inr rfl) ho hcl hd (fun h' hk => hR h' s.toks its hk r') (by simp only [List.size_toArray]; omega)) k
      · cases e1
        rename_i ks es _
        obtain ⟨a, vs, rfl, h1, hl, h2⟩ := rd
        cases rv
        obtain ⟨z, lo, ws, rel, dd⟩ := dk_rd I.hok (Rd.of h1)
        obtain ⟨ep, hat⟩ := dd.dictAt
        have hkeys : ws.map (·.1) = ks := by
          rw [← rel.keys]
          exact List.map_fst_zip (Nat.le_of_eq hl)
        have rk : ∀ (ks : List Key), RepL X.K T ex H (ks.map keyOf) (ks.map kV) := fun ks => by
          induction ks with
          | nil => exact rfl
          | cons k ks ih =>
            refine ⟨_, _, rfl, ?_, ih⟩
            cases k with
            | inl i => exact rfl
            | inr s => show V.str s = V.str (mkS s.cps.toList); rw [mkS_tl]
        have hwl : ws.length ≤ sizeLine := by
          rw [← List.length_map (f := (·.1)), hkeys]
          have := h.2
          rw [List.length_map] at this
          exact Nat.le_trans this big_line
        refine sorted_run (vs := ks.map kV) hu I dm (rk ks) e2 h.1 h.2 (fun R hR => PySem.W.kdu_collect (A := X.A.in1) (PySem.W.kdl_dict (knd := mixKind X.prog X.w) (kvs := ws) (ep := ep) lo) (I.ok.hd hc) hat hwl fun h' tk acc hk hacc => ?_) k
        have hv := keys_at (us := acc.toList) (vs := ws) (by rw [Array.length_toList, hacc.1]) fun j v e => by
          obtain ⟨k, x, e1, e2⟩ := hacc.2 j v (by rw [← Array.getElem?_toList]; exact e)
          exact ⟨k, x, e1, e2⟩
        have ek : ws.map (fun p => kV p.1) = ks.map kV := by rw [← hkeys, List.map_map]; rfl
        rw [ek] at hv
        exact hR h' tk acc.toList hk hv
      · cases e1
    · cases e
  · cases e
end
end Dt
end
section
set_option maxRecDepth 100000
set_option maxHeartbeats 4000000
/-! QP: len(set(xs)) of texts, any number below 4000 (our own turn of the library's proof for sets of ints). -/
namespace DtS
open PySem PySem.Spec PyProof.Rows
variable {α : Type} [BEq α] [LawfulBEq α]
def stepM (σ : List α) (v : α) : List α := if σ.any (· == v) = true then σ else σ ++ [v]
def met (xs : List α) : List α := xs.foldl stepM []
theorem met_snoc (xs : List α) (x : α) : met (xs ++ [x]) = stepM (met xs) x := by unfold met; rw [List.foldl_append]; rfl
theorem stepM_len_le (σ : List α) (v : α) : (stepM σ v).length ≤ σ.length + 1 := by unfold stepM; split <;> simp
theorem fold_len : ∀ (xs σ : List α), (xs.foldl stepM σ).length ≤ σ.length + xs.length
  | [], σ => by simp
  | x :: xs, σ => by
    have h1 := fold_len xs (stepM σ x)
    have h2 := stepM_len_le σ x
    simp only [List.foldl_cons, List.length_cons]
    omega
theorem met_len (xs : List α) : (met xs).length ≤ xs.length := by have := fold_len xs []; rw [List.length_nil, Nat.zero_add] at this; exact this
theorem stepM_any [DecidableEq α] (σ : List α) (v k : α) : (stepM σ v).any (· == k) = (σ.any (· == k) || decide (k = v)) := by
  unfold stepM
  by_cases h : σ.any (· == v) = true
  · rw [if_pos h]
    by_cases e : k = v
    · subst e; rw [h]; simp
    · simp [e]
  · rw [if_neg h, List.any_append]
    by_cases e : k = v
    · subst e; simp
    · have hb : (v == k) = false := beq_eq_false_iff_ne.mpr fun h' => e h'.symm
      simp [hb, e]
theorem stepM_len (σ : List α) (v : α) : (stepM σ v).length = if σ.any (· == v) then σ.length else σ.length + 1 := by
  unfold stepM; split <;> simp
section
variable {prog : Program} {w : World} {A : Around} {R : Result → Shared → Prop} {I : Addr} {fp wr : List Addr} {G : Array GenState → Array GenState → Prop} {n : Nat} {P : Nat → Value → Prop} {St : Nat → Shared → Prop}
theorem loopAll (W : WalksS prog w A.in1 I fp wr G n P St) (S : Addr) (hSf : S ∉ fp) (xs : List Str) (hsz : xs.length = n) (hb : n + 1 < scanBound)
    (hval : ∀ i v, P i v → ∃ t, v = .str (xs.getD i Str.empty) t) :
    ∀ (k i : Nat) (s : Shared), n - i = k → i ≤ n → St i s →
      s.heap.SetOf (PySem.strKind prog w) S (fun k' => (met (xs.take i)).any (· == k')) (met (xs.take i)).length →
      (∀ s', Moved (S :: wr) G s s' → s'.heap.SetOf (PySem.strKind prog w) S (fun k' => (met (xs.take n)).any (· == k')) (met (xs.take n)).length → R (.ok (.ret .none)) s') →
      codeAny (model prog w) A (.builtin "set.update.loop" ⟨[.ref S, .ref I], []⟩) R s := by
  have hSw : S ∉ wr := fun h => hSf (W.sub _ h)
  have hsub : ∀ b ∈ wr, b ∈ S :: wr := fun b hb => List.mem_cons_of_mem _ hb
  intro k
  induction k with
  | zero =>
    intro i s hk hi hst hS hR
    have hin : i = n := by omega
    subst hin
    refine codeAny_builtin PyProof.Rows.F.entry_set_update_loop ?_
    rw [Around.under_plainId PyProof.Rows.F.plain_set_update_loop _]
    show wpAny _ A.in1 (pyNext (.ref I) >>= _) _ _ s
    refine wpAny_bind (W.done s _ _ hst fun s' hm => ?_)
    show wpAny _ A.in1 (ret Value.none) _ _ s'
    exact wpAny_pure (hR s' (hm.mono hsub) (by
      obtain ⟨o, es, ep, t, ho, rest⟩ := hS
      exact ⟨o, es, ep, t, hm.heap S _ hSw ho, rest⟩))
  | succ k ih =>
    intro i s hk hi hst hS hR
    have hlt : i < n := by omega
    refine codeAny_builtin PyProof.Rows.F.entry_set_update_loop ?_
    rw [Around.under_plainId PyProof.Rows.F.plain_set_update_loop _]
    show wpAny _ A.in1 (pyNext (.ref I) >>= _) _ _ s
    refine wpAny_bind (W.item i s _ _ hlt hst fun v s' hP hst' hm => ?_)
    obtain ⟨t, rfl⟩ := hval i v hP
    have hS' : s'.heap.SetOf (PySem.strKind prog w) S (fun k' => (met (xs.take i)).any (· == k')) (met (xs.take i)).length := by
      obtain ⟨o, es, ep, tb, ho, rest⟩ := hS
      exact ⟨o, es, ep, tb, hm.heap S _ hSw ho, rest⟩
    show wpAny _ A.in1 (holding [Value.str (xs.getD i Str.empty) t] (setAdd S (.str (xs.getD i Str.empty) t)) >>= _) _ _ s'
    refine wpAny_bind (wpAny_holding ?_)
    unfold setAdd
    refine wpAny_holding ?_
    refine wpAny_bind ((PySem.strKind prog w).pyHash (k := xs.getD i Str.empty) (strKind_is _ _ _ _) ?_)
    have hroom : (met (xs.take i)).length + 1 < scanBound := by
      have := met_len (xs.take i)
      rw [List.length_take] at this
      omega
    refine wpAny_setAddHashed_of (knd := PySem.strKind prog w) (s := { s' with toks := s'.toks + 1 }) (strKind_is _ _ _ _) rfl hS' hroom fun h' hsb hS2 => ?_
    have htk : xs.take (i + 1) = xs.take i ++ [xs.getD i Str.empty] := by
      rw [List.take_succ_eq_append_getElem (by omega)]
      congr 2
      rw [List.getD_eq_getElem?_getD, List.getElem?_eq_getElem (by omega)]; rfl
    have hSi : h'.SetOf (PySem.strKind prog w) S (fun k' => (met (xs.take (i + 1))).any (· == k')) (met (xs.take (i + 1))).length :=
      PyProof.Rows.SetOf_congr hS2 (fun k' => by rw [htk, met_snoc, stepM_any]) (by rw [htk, met_snoc, stepM_len])
    refine wpAny_pure ⟨plainId_quiet PyProof.Rows.F.plain_set_update_loop _, ih (i + 1) _ (by omega) hlt (W.frame _ s' _ _ hst' (Nat.le_succ _) fun b hb o e => ?_) hSi fun s'' hm'' hS'' => ?_⟩
    · rw [hsb.2 b (fun h : b = S => hSf (by rw [← h]; exact hb))]; exact e
    · refine hR s'' (Moved.trans W.gtrans ((hm.mono hsub).then_heap (Nat.le_succ _) fun b o hb e => ?_) hm'') hS''
      rw [hsb.2 b (fun h : b = S => hb (by rw [h]; exact List.mem_cons_self))]; exact e
end
section
variable {prog : Program} {w : World} {A : Around} {E : Value → Shared → Prop} {s : Shared}
set_option maxHeartbeats 3200000 in
theorem set_listA {l : Addr} {items : Array Value} {xs : List Str} {Q : Value → Shared → Prop}
    (hh : A.handled = none) (hl : s.heap.IsList l items) (hi : PyProof.Rows.StrsAre items.toList xs) (hn1 : xs.length + 1 < scanBound)
    (h : ∀ (h' : Heap) (tk : Nat), h'.SetOf (PySem.strKind prog w) s.heap.objs.size (fun k' => (met (xs.take items.size)).any (· == k')) (met (xs.take items.size)).length →
      (∀ b o, b < s.heap.objs.size → s.heap.get? b = some o → h'.get? b = some o) → Q (.ref s.heap.objs.size) { s with heap := h', toks := tk }) :
    wpAny (model prog w) A (call (.type "set") [.ref l]) Q E s := by
  obtain ⟨c, tl, hmro⟩ := PySem.F.called_set.mro
  have hmade := PySem.F.called_set.made
  have hsub := PySem.F.called_set.sub
  refine wpAny_call (codeAny_of_tree ?_)
  show wpAny _ _ (callAny (.type "set") _) _ _ _
  refine wpAny_pure ⟨Code.quiet_builtin _ (by decide +kernel), codeAny_builtin PySem.F.entry_type_call ?_⟩
  rw [Around.under_plain (weight_type_call_type "set" [.ref l] []) rfl]
  have h1 := PySem.F.called_set.notType
  have h2 := PySem.F.called_set.canCreate
  have hct := PySem.F.typeCall_set_1 (.ref l)
  repeat (any_goals (first | assumption | wp_step))

  refine codeAny_mono (code_set_new_1 (.ref l) (E := E) (Q₁ := fun obj s₁ => ∃ led : Bool, obj = .ref s.heap.objs.size ∧ s₁ = { s with heap := s.heap.push { cls := .type "set", dict := none, data := .set #[] 0 (.fresh 0 0 led) } }) fun led => ⟨led, rfl, rfl⟩) fun r s₁ hr => ?_
  cases r with
  | error e => exact hr
  | ok fl =>
    cases fl with
    | ret obj =>
      obtain ⟨led, rfl, rfl⟩ := hr
      have hS : (s.heap.push { cls := .type "set", dict := none, data := .set #[] 0 (.fresh 0 0 led) }).get? s.heap.objs.size = some { cls := .type "set", dict := none, data := .set #[] 0 (.fresh 0 0 led) } := Heap.get?_push_size _ rfl
      have hT : Shared.TypeIs { s with heap := s.heap.push { cls := .type "set", dict := none, data := .set #[] 0 (.fresh 0 0 led) } } (.ref s.heap.objs.size) "set" := ⟨_, hS, rfl⟩
      have hli := PySem.F.called_set.init.lookup
      have hbi := PySem.F.called_set.init.bind (.ref s.heap.objs.size)
      repeat (any_goals (first | assumption | wp_step))

      refine codeAny_mono (codeAny_call_builtin (R := wants (fun r s₂ => r = .none ∧ ∃ h' tk, s₂ = { s with heap := h', toks := tk } ∧
          h'.SetOf (PySem.strKind prog w) s.heap.objs.size (fun k' => (met (xs.take items.size)).any (· == k')) (met (xs.take items.size)).length ∧
          (∀ b o, b < s.heap.objs.size → s.heap.get? b = some o → h'.get? b = some o)) E) PySem.F.called_set.init.plain PySem.F.entry_set_init (check_set_init_1 hT ?_)) fun r₂ s₂ hr₂ => ?_
      · obtain ⟨ol, hol, hcl, nl, hdl⟩ := hl
        obtain ⟨ocls, odict, odata, oslots⟩ := ol
        simp only at hcl hdl
        subst hcl; subst hdl
        have hol' : (s.heap.push { cls := .type "set", dict := none, data := .set #[] 0 (.fresh 0 0 led) }).get? l = some { cls := .type "list", dict := odict, data := .seq items nl, slots := oslots } := Heap.get?_push_of_some _ hol
        have hsls := PySem.F.sub_list_set
        have hslf := PySem.F.sub_list_frozenset
        have hne : (Value.type "list" == Value.type "dict") = false := by decide
        have hl1 : (s.heap.push { cls := .type "set", dict := none, data := .set #[] 0 (.fresh 0 0 led) }).IsList l items := ⟨_, hol', rfl, nl, rfl⟩
        unfold Builtin.«set.__init__» noKeywords Builtin.Frozenset.updateFrom
        generalize hPI : pyIter = PI
        wp_walk
        subst hPI

        refine wpAny_pyIter_list hl1 ?_
        refine wpAny_bind (wpAny_runValue ?_)
        have hlS : l < s.heap.objs.size := Heap.lt_size hol
        have hh3 : A.in1.in1.in1.handled = none := by simp [hh]
        have hneI : l ≠ (s.heap.push { cls := .type "set", dict := none, data := .set #[] 0 (.fresh 0 0 led) }).objs.size := by
          rw [Heap.size_push]; exact Nat.ne_of_lt (Nat.lt_succ_of_lt hlS)
        have hSf : s.heap.objs.size ∉ [(s.heap.push { cls := .type "set", dict := none, data := .set #[] 0 (.fresh 0 0 led) }).objs.size, l] := by
          rw [Heap.size_push]; simp only [List.mem_cons, List.mem_singleton, List.not_mem_nil, or_false, not_or]
          exact ⟨Nat.ne_of_lt (Nat.lt_succ_self _), Nat.ne_of_gt hlS⟩
        have hsz : xs.length = items.size := by rw [← StrsAre.len_eq hi, Array.length_toList]
        have hval : ∀ (i : Nat) (v : Value), items[i]? = some v → ∃ t, v = .str (xs.getD i Str.empty) t := fun i v hv => SS.strs_at hi i v (by rw [Array.getElem?_toList]; exact hv)
        refine loopAll ((Walks.list hh3 _ l hneI items).toS) s.heap.objs.size
          hSf xs hsz (by rw [← hsz]; exact hn1) hval (items.size - 0) 0 _ (by omega) (Nat.zero_le _)
          ⟨⟨_, Heap.get?_push_size _ rfl, rfl, rfl⟩, (hl1.push _)⟩ ?hS0 ?hR
        case hS0 =>
          have hget : ((s.heap.push { cls := .type "set", dict := none, data := .set #[] 0 (.fresh 0 0 led) }).push { cls := .type "list_iterator", data := .fields #[.ref l, .int 0 0] }).get? s.heap.objs.size
              = some { cls := .type "set", dict := none, data := .set #[] 0 (.fresh 0 0 led) } := Heap.get?_push_of_some _ hS
          exact PyProof.Rows.SetOf_congr ((PyProof.Rows.setObjOf_fresh (knd := PySem.strKind prog w) led).setOf hget (by unfold scanBound; omega)) (fun _ => rfl) rfl
        case hR =>
          intro s' hm hS'
          obtain ⟨h', g', d', tk', os'⟩ := s'
          have eg : g' = s.gens := hm.gens
          have ed : d' = s.drawn := hm.drawn
          have eo : os' = s.os := hm.os
          subst eg; subst ed; subst eo
          show wpAny _ _ _ _ _ _
          refine wpAny_pure ?_
          show wpAny _ _ (ret Value.none) _ _ _
          refine wpAny_pure ⟨rfl, h', tk', rfl, hS', fun b o hb e => ?_⟩
          have hb1 : b ≠ s.heap.objs.size := Nat.ne_of_lt hb
          have hb2 : b ≠ (s.heap.push { cls := .type "set", dict := none, data := .set #[] 0 (.fresh 0 0 led) }).objs.size := by
            rw [Heap.size_push]; exact Nat.ne_of_lt (Nat.lt_succ_of_lt hb)
          exact hm.heap b o (by simp only [List.mem_cons, List.mem_singleton, List.not_mem_nil, or_false, not_or]; exact ⟨hb1, hb2⟩) (Heap.get?_push_of_some _ (Heap.get?_push_of_some _ e))

      · cases r₂ with
        | error e => exact hr₂
        | ok fl₂ =>
          cases fl₂ with
          | ret r =>
            obtain ⟨rfl, h', tk, rfl, hS', hk'⟩ := hr₂
            repeat (any_goals (first | assumption | wp_step))
            exact h _ _ hS' hk'
          | _ => exact hr₂.elim
    | _ => exact hr.elim

set_option maxHeartbeats 3200000 in
theorem set_tupleA {l : Addr} {items : Array Value} {xs : List Str} {Q : Value → Shared → Prop}
    (hh : A.handled = none) (hl : s.heap.IsTuple l items) (hi : PyProof.Rows.StrsAre items.toList xs) (hn1 : xs.length + 1 < scanBound)
    (h : ∀ (h' : Heap) (tk : Nat), h'.SetOf (PySem.strKind prog w) s.heap.objs.size (fun k' => (met (xs.take items.size)).any (· == k')) (met (xs.take items.size)).length →
      (∀ b o, b < s.heap.objs.size → s.heap.get? b = some o → h'.get? b = some o) → Q (.ref s.heap.objs.size) { s with heap := h', toks := tk }) :
    wpAny (model prog w) A (call (.type "set") [.ref l]) Q E s := by
  obtain ⟨c, tl, hmro⟩ := PySem.F.called_set.mro
  have hmade := PySem.F.called_set.made
  have hsub := PySem.F.called_set.sub
  refine wpAny_call (codeAny_of_tree ?_)
  show wpAny _ _ (callAny (.type "set") _) _ _ _
  refine wpAny_pure ⟨Code.quiet_builtin _ (by decide +kernel), codeAny_builtin PySem.F.entry_type_call ?_⟩
  rw [Around.under_plain (weight_type_call_type "set" [.ref l] []) rfl]
  have h1 := PySem.F.called_set.notType
  have h2 := PySem.F.called_set.canCreate
  have hct := PySem.F.typeCall_set_1 (.ref l)
  repeat (any_goals (first | assumption | wp_step))

  refine codeAny_mono (code_set_new_1 (.ref l) (E := E) (Q₁ := fun obj s₁ => ∃ led : Bool, obj = .ref s.heap.objs.size ∧ s₁ = { s with heap := s.heap.push { cls := .type "set", dict := none, data := .set #[] 0 (.fresh 0 0 led) } }) fun led => ⟨led, rfl, rfl⟩) fun r s₁ hr => ?_
  cases r with
  | error e => exact hr
  | ok fl =>
    cases fl with
    | ret obj =>
      obtain ⟨led, rfl, rfl⟩ := hr
      have hS : (s.heap.push { cls := .type "set", dict := none, data := .set #[] 0 (.fresh 0 0 led) }).get? s.heap.objs.size = some { cls := .type "set", dict := none, data := .set #[] 0 (.fresh 0 0 led) } := Heap.get?_push_size _ rfl
      have hT : Shared.TypeIs { s with heap := s.heap.push { cls := .type "set", dict := none, data := .set #[] 0 (.fresh 0 0 led) } } (.ref s.heap.objs.size) "set" := ⟨_, hS, rfl⟩
      have hli := PySem.F.called_set.init.lookup
      have hbi := PySem.F.called_set.init.bind (.ref s.heap.objs.size)
      repeat (any_goals (first | assumption | wp_step))

      refine codeAny_mono (codeAny_call_builtin (R := wants (fun r s₂ => r = .none ∧ ∃ h' tk, s₂ = { s with heap := h', toks := tk } ∧
          h'.SetOf (PySem.strKind prog w) s.heap.objs.size (fun k' => (met (xs.take items.size)).any (· == k')) (met (xs.take items.size)).length ∧
          (∀ b o, b < s.heap.objs.size → s.heap.get? b = some o → h'.get? b = some o)) E) PySem.F.called_set.init.plain PySem.F.entry_set_init (check_set_init_1 hT ?_)) fun r₂ s₂ hr₂ => ?_
      · obtain ⟨ol, hol, hcl, nl, hdl⟩ := hl
        obtain ⟨ocls, odict, odata, oslots⟩ := ol
        simp only at hcl hdl
        subst hcl; subst hdl
        have hol' : (s.heap.push { cls := .type "set", dict := none, data := .set #[] 0 (.fresh 0 0 led) }).get? l = some { cls := .type "tuple", dict := odict, data := .seq items nl, slots := oslots } := Heap.get?_push_of_some _ hol
        have hsls := PySem.F.sub_tuple_set
        have hslf := PySem.F.sub_tuple_frozenset
        have hne : (Value.type "tuple" == Value.type "dict") = false := by decide
        have hl1 : (s.heap.push { cls := .type "set", dict := none, data := .set #[] 0 (.fresh 0 0 led) }).IsTuple l items := ⟨_, hol', rfl, nl, rfl⟩
        unfold Builtin.«set.__init__» noKeywords Builtin.Frozenset.updateFrom
        generalize hPI : pyIter = PI
        wp_walk
        subst hPI

        refine wpAny_pyIter_tuple hl1 ?_
        refine wpAny_bind (wpAny_runValue ?_)
        have hlS : l < s.heap.objs.size := Heap.lt_size hol
        have hh3 : A.in1.in1.in1.handled = none := by simp [hh]
        have hneI : l ≠ (s.heap.push { cls := .type "set", dict := none, data := .set #[] 0 (.fresh 0 0 led) }).objs.size := by
          rw [Heap.size_push]; exact Nat.ne_of_lt (Nat.lt_succ_of_lt hlS)
        have hSf : s.heap.objs.size ∉ [(s.heap.push { cls := .type "set", dict := none, data := .set #[] 0 (.fresh 0 0 led) }).objs.size, l] := by
          rw [Heap.size_push]; simp only [List.mem_cons, List.mem_singleton, List.not_mem_nil, or_false, not_or]
          exact ⟨Nat.ne_of_lt (Nat.lt_succ_self _), Nat.ne_of_gt hlS⟩
        have hsz : xs.length = items.size := by rw [← StrsAre.len_eq hi, Array.length_toList]
        have hval : ∀ (i : Nat) (v : Value), items[i]? = some v → ∃ t, v = .str (xs.getD i Str.empty) t := fun i v hv => SS.strs_at hi i v (by rw [Array.getElem?_toList]; exact hv)
        refine loopAll ((Walks.tuple hh3 _ l hneI items).toS) s.heap.objs.size
          hSf xs hsz (by rw [← hsz]; exact hn1) hval (items.size - 0) 0 _ (by omega) (Nat.zero_le _)
          ⟨⟨_, Heap.get?_push_size _ rfl, rfl, rfl⟩, (hl1.push _)⟩ ?hS0 ?hR
        case hS0 =>
          have hget : ((s.heap.push { cls := .type "set", dict := none, data := .set #[] 0 (.fresh 0 0 led) }).push { cls := .type "tuple_iterator", data := .fields #[.ref l, .int 0 0] }).get? s.heap.objs.size
              = some { cls := .type "set", dict := none, data := .set #[] 0 (.fresh 0 0 led) } := Heap.get?_push_of_some _ hS
          exact PyProof.Rows.SetOf_congr ((PyProof.Rows.setObjOf_fresh (knd := PySem.strKind prog w) led).setOf hget (by unfold scanBound; omega)) (fun _ => rfl) rfl
        case hR =>
          intro s' hm hS'
          obtain ⟨h', g', d', tk', os'⟩ := s'
          have eg : g' = s.gens := hm.gens
          have ed : d' = s.drawn := hm.drawn
          have eo : os' = s.os := hm.os
          subst eg; subst ed; subst eo
          show wpAny _ _ _ _ _ _
          refine wpAny_pure ?_
          show wpAny _ _ (ret Value.none) _ _ _
          refine wpAny_pure ⟨rfl, h', tk', rfl, hS', fun b o hb e => ?_⟩
          have hb1 : b ≠ s.heap.objs.size := Nat.ne_of_lt hb
          have hb2 : b ≠ (s.heap.push { cls := .type "set", dict := none, data := .set #[] 0 (.fresh 0 0 led) }).objs.size := by
            rw [Heap.size_push]; exact Nat.ne_of_lt (Nat.lt_succ_of_lt hb)
          exact hm.heap b o (by simp only [List.mem_cons, List.mem_singleton, List.not_mem_nil, or_false, not_or]; exact ⟨hb1, hb2⟩) (Heap.get?_push_of_some _ (Heap.get?_push_of_some _ e))

      · cases r₂ with
        | error e => exact hr₂
        | ok fl₂ =>
          cases fl₂ with
          | ret r =>
            obtain ⟨rfl, h', tk, rfl, hS', hk'⟩ := hr₂
            repeat (any_goals (first | assumption | wp_step))
            exact h _ _ hS' hk'
          | _ => exact hr₂.elim
    | _ => exact hr.elim

end
end DtS
end
section
set_option maxRecDepth 100000
set_option maxHeartbeats 4000000
/-! QP: len(set(xs)) of texts as a rule of the layer. -/
namespace Dt
open PySem PySem.Spec L2
open PyProof.Rows hiding St
def lenSetD : List D → Option EV
  | [d] => (seqD d).bind fun xs => (strsOf xs).bind fun ys => if ys.length ≤ 4000 then some (vI (DtS.met ys).length) else none
  | _ => none
theorem met_map {ys : List (List Nat)} : (DtS.met (ys.map mkS)).length = (DtS.met ys).length := by
  have key : ∀ (ys σ : List (List Nat)), (ys.map mkS).foldl DtS.stepM (σ.map mkS) = (ys.foldl DtS.stepM σ).map mkS := fun ys => by
    induction ys with
    | nil => intro σ; rfl
    | cons y ys ih =>
      intro σ
      simp only [List.map_cons, List.foldl_cons]
      have e : DtS.stepM (σ.map mkS) (mkS y) = (DtS.stepM σ y).map mkS := by
        unfold DtS.stepM
        have e1 : (σ.map mkS).any (· == mkS y) = σ.any (· == y) := by
          rw [List.any_map]
          congr 1
          funext z
          show (mkS z == mkS y) = (z == y)
          rw [Bool.eq_iff_iff]
          simp [mkS_inj]
        rw [e1]
        split <;> simp
      rw [e, ih]
  have := key ys []
  unfold DtS.met
  rw [List.map_nil] at this
  rw [this, List.length_map]
section
variable {X : Cx}
def tLenSetA (K : PySem.W.Frag) (ta : TE) : TE := fun σ H Q => ta σ H fun x H1 => ∃ l, ∃ xs : List Str, x = .ref l ∧ (SqL K H1 l (xs.map V.str) ∨ SqT K H1 l (xs.map V.str)) ∧ xs.length ≤ 4000 ∧ Q (.int ((DtS.met xs).length : Nat)) H1
theorem pe_lenSetA {a : Expr} {ta : TE} {p p2 q pos : Pos} (hc : X.calm = true) (hg : Gl X "len") (hm : X.mg "len" = none) (hg2 : Gl X "set") (hm2 : X.mg "set" = none) (ha : PE X a ta)
    (na : starEach [a] X.env = (false, eval a X.env) :: starEach [] X.env := by rfl) : PE X (.Call (.Name "len" p) [.Call (.Name "set" p2) [a] [] q] [] pos) (tLenSetA X.K ta) := by
  refine ⟨fun pins s σ H Q I h => ?_⟩
  refine Call_ (ld_blt I hg hm PySem.boot_len ?_)
  refine PyProof.Rows.callWith_builtin1 (PyProof.Rows.args_cons ?_ rfl) rfl rfl
  refine Call_ (ld_blt I hg2 hm2 PyProof.Rows.boot_set ?_)
  refine PyProof.Rows.callWith_type1 (PyProof.Rows.args_cons (thn (ha.run pins s σ H _ I h) fun v s1 ⟨x, H1, I1, r1, q1⟩ => PyProof.Rows.args_nil ?_) na) na rfl
  obtain ⟨l, xs, rfl, hq, h1, q1⟩ := q1
  cases r1
  have fin : ∀ (its : List Value), Vals (xs.map V.str) its → ∀ (h' : Heap) (tk : Nat), h'.SetOf (PySem.strKind X.prog X.w) s1.heap.objs.size (fun k' => (DtS.met (xs.take its.toArray.size)).any (· == k')) (DtS.met (xs.take its.toArray.size)).length →
      (∀ b o, b < s1.heap.objs.size → s1.heap.get? b = some o → h'.get? b = some o) →
      wpAny (model X.prog X.w) X.A (spliced (backTo pos (starEach [] X.env))) (fun vs s₂ => wpAny (model X.prog X.w) X.A (call (.builtin "len") (Value.ref s1.heap.objs.size :: vs)) (EP X pins σ Q) X.xe s₂) X.xe { s1 with heap := h', toks := tk } := fun its r h' tk hS hk => by
    refine PyProof.Rows.args_nil ?_
    have hl : its.toArray.size = xs.length := by rw [List.size_toArray, ← r.length, List.length_map]
    rw [hl, List.take_length] at hS
    obtain ⟨o, es, ep, t, ho, hex, hd, _, _, _, hf, hn⟩ := hS
    have I2 : Inv X pins σ H1 { s1 with heap := h', toks := tk } := I1.kept fun b o e => hk b o (Heap.lt_size e) e
    have hml := DtS.met_len xs
    refine call_len_set ho hex hd hf (by rw [hn] <;> omega) ⟨.int ((DtS.met xs).length : Nat), H1, I2.tok _, ⟨_, by rw [hn]⟩, q1⟩
  rcases hq with hq | hq
  · obtain ⟨its, r, pl, hz⟩ := I1.list hq
    exact DtS.set_listA (I1.ok.hd hc) pl.isList (by simpa using strsAre_of r) (by unfold scanBound; omega) fun h' tk hS hk => fin its r h' tk hS hk
  · obtain ⟨its, r, pl, hz⟩ := I1.tuple hq
    exact DtS.set_tupleA (I1.ok.hd hc) pl (by simpa using strsAre_of r) (by unfold scanBound; omega) fun h' tk hS hk => fin its r h' tk hS hk
end
section
variable {T : Tab} {X : Cx} {a : Expr} {fa : M AV} {p p2 q pos : Pos}
theorem qe_lenSet (hc : X.calm = true) (hg : Gl X "len") (hm : X.mg "len" = none) (hg2 : Gl X "set") (hm2 : X.mg "set" = none) (ha : QO T X a fa) (na : starEach [a] X.env = (false, eval a X.env) :: starEach [] X.env := by rfl) :
    QE T X (.Call (.Name "len" p) [.Call (.Name "set" p2) [a] [] q] [] pos) (eB lenSetD (asCons fa asNil)) := fun pn xe W tk hp => by
  refine impE (pe_lenSetA (X := X.tr pn xe) hc hg hm hg2 hm2 (ha pn xe W tk hp) na) fun σ H Q ⟨ex, env, z⟩ => ⟨ex, env, ?_⟩
  have z2 := trx_bind (relAs X.K T) rmE z
  refine (trx_bind (relA X.K T) rmAs z2).mono fun v H1 ⟨av, env1, s, ra, g, rr, er, oo⟩ => ?_
  have oo2 : Out X.K T (relAs X.K T) ex env1 W σ H1 (fun vs H2 => ∃ as env2, Step X.K T ex σ H env H2 env2 ∧ relAs X.K T ex σ env2 H H2 vs as ∧ trx X.K T (relE X.K T) ex (bM lenSetD as) env2 W σ H2 Q) rr := oo
  cases er
  obtain ⟨as, env2, s2, rs, q⟩ := oo2 [v] H1 (Step.refl g) (.cons ra .nil)
  obtain ⟨exs, ds, ev, dm, r1, e, k⟩ := trx_b q rs
  unfold lenSetD at e
  split at e
  · rename_i d
    obtain ⟨w, hw, rd⟩ := one_of r1
    cases hw
    obtain ⟨xs, e1, e⟩ := opt_bind e
    obtain ⟨ys, e2, e⟩ := opt_bind e
    split at e
    · rename_i hl
      cases e
      obtain ⟨l, vs, rfl, h1, h2⟩ := seq_of e1 rd
      cases strs_rep e2 h2
      refine ⟨l, ys.map mkS, rfl, h1, by rw [List.length_map]; exact hl, k _ _ ext_refl ?_⟩
      show V.int _ = V.int _
      rw [met_map]
    · cases e
  · cases e
end
end Dt
end
section
set_option maxRecDepth 100000
set_option maxHeartbeats 4000000
/-! QR: defs with *args, own special methods, class attributes, classmethods, pairs of names, list(range). -/
namespace Dt
open PySem PySem.Spec L2
open PyProof.Rows hiding St

/-! ### a def (self, *rest) -/
def valsOf : Sl → Option (List D)
  | [] => some []
  | .val d :: r => (valsOf r).map (d :: ·)
  | _ :: _ => none
def funV (n : Nat) (body : S) : M EV := fun args => match args with
  | a :: rest => (valsOf rest).bind fun ds => if ds.length ≤ 5000 then match funD n 2 body [a, .val (.tup ds)] with
    | some (.ok v (a' :: _)) => some (.ok v (a' :: rest))
    | some (.exc x (a' :: _)) => some (.exc x (a' :: rest))
    | _ => none else none
  | [] => none
section
variable {K : PySem.W.Frag} {T : Tab} {ex : Addr → Prop} {H H' H1 : Hp} {a a' r1 : Slot} {v : V} {p : Addr} {rest : List V} {rs : Sl} {ds : List D}
theorem valsOf_get : ∀ {rs : Sl} {ds : List D}, valsOf rs = some ds → rs = ds.map Slot.val
  | [], _, e => by cases e; rfl
  | .val d :: r, _, e => by
    unfold valsOf at e
    obtain ⟨es, e1, rfl⟩ := Option.map_eq_some_iff.mp e
    rw [valsOf_get e1]; rfl
  | .emp :: _, _, e => by cases e
  | .own _ :: _, _, e => by cases e
theorem repL_slots {σ : St} {env : Sl} (g : Good K T ex σ H env) : ∀ {ds : List D} {rest : List V} (k : Nat), (∀ j d, ds[j]? = some d → env[k + j]? = some (.val d)) → (∀ j u, rest[j]? = some u → σ[k + j]? = some (some u)) → ds.length = rest.length → RepL K T (exO ex σ env) H ds rest
  | [], [], _, _, _, _ => rfl
  | d :: ds, u :: us, k, h1, h2, hl => by
    obtain ⟨w, e1, r⟩ := g.val k d (h1 0 d rfl)
    have e2 := h2 0 u rfl
    rw [show k + 0 = k from rfl] at e2
    rw [e2] at e1
    cases e1
    exact ⟨u, us, rfl, r, repL_slots g (k + 1) (fun j d' e => by have := h1 (j + 1) d' e; rwa [show k + (j + 1) = k + 1 + j by omega] at this) (fun j w e => by have := h2 (j + 1) w e; rwa [show k + (j + 1) = k + 1 + j by omega] at this) (by simpa using hl)⟩
  | [], _ :: _, _, _, _, hl => by simp at hl
  | _ :: _, [], _, _, _, hl => by simp at hl
theorem owns_V (b : Addr) : Owns (some v :: rest.map some) (a' :: ds.map Slot.val) b ↔ ∃ c, a' = .own c ∧ v = .ref b := by
  constructor
  · rintro ⟨i, c, e1, e2⟩
    cases i with
    | zero => simp at e1 e2; exact ⟨c, e1, e2⟩
    | succ i =>
      simp at e1
  · rintro ⟨c, rfl, rfl⟩
    exact ⟨0, c, rfl, rfl⟩
theorem owns_P (hr : ∀ c, r1 ≠ .own c) (b : Addr) : Owns [some v, some (V.ref p)] [a', r1] b ↔ ∃ c, a' = .own c ∧ v = .ref b := by
  constructor
  · rintro ⟨i, c, e1, e2⟩
    match i, e1, e2 with
    | 0, e1, e2 => simp at e1 e2; exact ⟨c, e1, e2⟩
    | 1, e1, _ => simp at e1; exact absurd e1 (hr c)
    | i + 2, e1, _ => simp at e1
  · rintro ⟨c, rfl, rfl⟩
    exact ⟨0, c, rfl, rfl⟩
theorem exO_VP (hr : ∀ c, r1 ≠ .own c) : exO ex (some v :: rest.map some) (a' :: ds.map Slot.val) = exO ex [some v, some (V.ref p)] [a', r1] := funext fun b => propext (or_congr Iff.rfl ((owns_V b).trans (owns_P hr b).symm))
/-- the start -/
theorem good_P (g : Good K T ex (some v :: rest.map some) H (a :: ds.map Slot.val)) (hl : ds.length = rest.length) (hp : H p = none) : Good K T ex [some v, some (V.ref p)] (upd H p (.tup rest)) [a, .val (.tup ds)] := by
  have hr : ∀ c, Slot.val (.tup ds) ≠ .own c := fun c z => by cases z
  have eo := exO_VP (ex := ex) (v := v) (rest := rest) (ds := ds) (a' := a) (p := p) hr
  have mo : ∀ b o, ¬ exO ex (some v :: rest.map some) (a :: ds.map Slot.val) b → H b = some o → ¬ exO ex [some v, some (V.ref p)] [a, .val (.tup ds)] b ∧ upd H p (.tup rest) b = some o := fun b o n e => ⟨by rw [← eo]; exact n, ext_new hp b o e⟩
  refine ⟨rfl, fun i d e => ?_, fun i c e => ?_, fun i j x c c' e1 e2 e3 e4 => ?_, fun b h => ?_⟩
  · match i, e with
    | 0, e =>
      simp at e
      obtain ⟨w, e1, r⟩ := g.val 0 d (by simp [e])
      exact ⟨w, by simpa using e1, r.mono mo⟩
    | 1, e =>
      simp at e
      subst e
      refine ⟨.ref p, rfl, p, rest, rfl, ?_, upd_same, ?_⟩
      · rw [← eo]; exact g.fresh hp
      · have rl := repL_slots (ds := ds) (rest := rest) g 1 (fun j d e => by rw [Nat.add_comm, List.getElem?_cons_succ, List.getElem?_map, e]; rfl) (fun j u e => by rw [Nat.add_comm, List.getElem?_cons_succ, List.getElem?_map, e]; rfl) hl
        exact rl.mono mo
    | i + 2, e => simp at e
  · match i, e with
    | 0, e =>
      simp at e
      obtain ⟨x, e1, n, r⟩ := g.own 0 c (by simp [e])
      refine ⟨x, by simpa using e1, n, r.mono ?_ mo⟩
      exact upd_ne fun z => by subst z; exact r.there hp
    | 1, e => simp at e
    | i + 2, e => simp at e
  · match i, j, e1, e2 with
    | 0, 0, _, _ => rfl
    | 1, _, e1, _ => simp at e1
    | 0, 1, _, e2 => simp at e2
    | i + 2, _, e1, _ => simp at e1
    | 0, j + 2, _, e2 => simp at e2
  · intro z
    by_cases q : b = p
    · subst q; rw [upd_same] at z; cases z
    · rw [upd_ne q] at z; exact g.dom b h z
/-- the end -/
theorem good_V {ex2 : Addr → Prop} (gd : Good K T ex2 [some v, some (V.ref p)] H' [a', r1]) (hr : ∀ c, r1 ≠ .own c) (rl : RepL K T (exO ex2 [some v, some (V.ref p)] [a', r1]) H' ds rest) : Good K T ex2 (some v :: rest.map some) H' (a' :: ds.map Slot.val) := by
  have eo := exO_VP (ex := ex2) (v := v) (rest := rest) (ds := ds) (a' := a') (p := p) hr
  refine ⟨by simp [rl.length], fun i d e => ?_, fun i c e => ?_, fun i j x c c' e1 e2 e3 e4 => ?_, gd.dom⟩
  · rw [eo]
    cases i with
    | zero =>
      simp at e
      obtain ⟨w, e1, r⟩ := gd.val 0 d (by simp [e])
      exact ⟨w, by simpa using e1, r⟩
    | succ i =>
      rw [List.getElem?_cons_succ, List.getElem?_map] at e
      cases q : ds[i]? with
      | none => rw [q] at e; cases e
      | some d' =>
        rw [q] at e
        cases e
        obtain ⟨w, e1, r⟩ := rl.get q
        exact ⟨w, by rw [List.getElem?_cons_succ, List.getElem?_map, e1]; rfl, r⟩
  · rw [eo]
    cases i with
    | zero =>
      simp at e
      obtain ⟨x, e1, n, r⟩ := gd.own 0 c (by simp [e])
      exact ⟨x, by simpa using e1, n, r⟩
    | succ i => simp at e
  · cases i with
    | succ i => simp at e1
    | zero =>
      cases j with
      | zero => rfl
      | succ j => simp at e2
theorem spV {n : Nat} {body : S} {vs : List V} {Q : VK} {E : XK} (h : spD K T (funV n body) vs H Q E) : ∃ v rest, vs = v :: rest ∧ rest.length ≤ 5000 ∧ ∀ p, H p = none → spD K T (funD n 2 body) [v, .ref p] (upd H p (.tup rest)) Q E := by
  obtain ⟨ex, args, g, r, e, o⟩ := h
  have hlen := g.len
  rw [List.length_map] at hlen
  cases args with
  | nil => cases e
  | cons a rs =>
    cases vs with
    | nil => simp at hlen
    | cons v rest =>
      unfold funV at e
      obtain ⟨ds, e1, e⟩ := opt_bind e
      have ers := valsOf_get e1
      subst ers
      have hl : ds.length = rest.length := by simpa using hlen
      by_cases hz : ds.length ≤ 5000
      · rw [if_pos hz] at e
        refine ⟨v, rest, rfl, by omega, fun p hp => ⟨ex, [a, .val (.tup ds)], good_P g hl hp, ?_⟩⟩
        have rl := repL_slots (ds := ds) (rest := rest) g 1 (fun j d e => by rw [Nat.add_comm, List.getElem?_cons_succ, List.getElem?_map, e]; rfl) (fun j u e => by rw [Nat.add_comm, List.map_cons, List.getElem?_cons_succ, List.getElem?_map, e]; rfl) hl
        have step : ∀ {H' : Hp} {a' : Slot} {t : Sl}, Step K T ex [some v, some (V.ref p)] (upd H p (.tup rest)) [a, .val (.tup ds)] H' (a' :: t) → ∃ r1, t = [r1] ∧ (∀ c, r1 ≠ .own c) ∧ Step K T ex ((v :: rest).map some) H (a :: ds.map Slot.val) H' (a' :: ds.map Slot.val) ∧ (∀ b o, ¬ exO ex ((v :: rest).map some) (a :: ds.map Slot.val) b → H b = some o → ¬ exO ex [some v, some (V.ref p)] [a', r1] b ∧ H' b = some o) := fun {H' a' t} s => by
          have hl2 := s.gd.len
          obtain ⟨r1, rfl⟩ : ∃ r1, t = [r1] := by
            match t, hl2 with
            | [r1], _ => exact ⟨r1, rfl⟩
          have hr : ∀ c, r1 ≠ .own c := fun c z => by
            obtain ⟨c', e⟩ := s.sb 1 c (by simp [z])
            simp at e
          have fr : ∀ b o, ¬ exO ex ((v :: rest).map some) (a :: ds.map Slot.val) b → H b = some o → ¬ exO ex [some v, some (V.ref p)] [a', r1] b ∧ H' b = some o := fun b o nb e => by
            have eo := exO_VP (ex := ex) (v := v) (rest := rest) (ds := ds) (a' := a) (p := p) (r1 := .val (.tup ds)) (fun c z => by cases z)
            rw [List.map_cons, eo] at nb
            exact ⟨fun z => nb (s.exO z), s.fr b o (ext_new hp b o e) fun z => nb (.inr z)⟩
          refine ⟨r1, rfl, hr, ⟨fun b o e nb => s.fr b o (ext_new hp b o e) fun z => nb ((owns_V b).mpr ((owns_P (fun c z => by cases z) b).mp z)), fun b e => s.dm b fun z => ?_, fun i c e => ?_, ?_⟩, fr⟩
          · by_cases q : b = p
            · subst q; rw [upd_same] at z; cases z
            · rw [upd_ne q] at z; exact e z
          · cases i with
            | zero => simp at e; obtain ⟨c', e'⟩ := s.sb 0 c (by simp [e]); exact ⟨c', by simpa using e'⟩
            | succ i => simp at e
          · exact good_V s.gd hr (rl.mono fr)
        cases q : funD n 2 body [a, .val (.tup ds)] with
        | none => rw [q] at e; cases e
        | some rr =>
          rw [q] at e
          refine ⟨rr, rfl, ?_⟩
          have eo2 : ∀ {ex2 : Addr → Prop} {a' r1 : Slot}, (∀ c, r1 ≠ .own c) → exO ex2 ((v :: rest).map some) (a' :: ds.map Slot.val) = exO ex2 [some v, some (V.ref p)] [a', r1] := fun hr => exO_VP hr
          cases rr with
          | exc x env2 =>
            cases env2 with
            | nil => cases e
            | cons a' t =>
              cases e
              intro cls dd H' s rx
              obtain ⟨r1, rfl, hr, s', fr⟩ := step s
              refine o cls dd H' s' ⟨rx.1, rx.2.imp id ?_⟩
              rintro ⟨b, ws, h1, h2, h3, h4⟩
              exact ⟨b, ws, h1, h2, h3, by rw [eo2 hr]; exact h4⟩
          | ok w env2 =>
            cases env2 with
            | nil => cases e
            | cons a' t =>
              cases e
              intro u H' s ru
              obtain ⟨r1, rfl, hr, s', fr⟩ := step s
              refine o u H' s' ?_
              cases w with
              | v d => show Rep K T _ H' d u; rw [eo2 hr]; exact ru
              | o c =>
                obtain ⟨b, h1, h2, h3, h4⟩ := ru
                have hb : H b = none := by
                  by_cases q : b = p
                  · subst q; exact hp
                  · rw [upd_ne q] at h2; exact h2
                refine ⟨b, h1, hb, by rw [eo2 hr]; exact h3, good_V h4 hr (rl.mono fun x o n e => ?_)⟩
                obtain ⟨f1, f2⟩ := fr x o n e
                refine ⟨fun z => ?_, f2⟩
                rcases z with (z | z) | z
                · exact f1 (.inl z)
                · subst z; rw [hb] at e; cases e
                · exact f1 (.inr z)
      · rw [if_neg hz] at e; cases e
end
section
variable {P : Program} {w : World} {K : PySem.W.Frag} {mg : Str → Option Value} {base : Heap} {T : Tab}
theorem Fun.qV {x qual : Str} {st : Stmt} {f : Addr} {fd : FuncData} {N : List Str} {pa pv : Str} {k : Nat} {body : S} (F : Fun K x qual st f fd) (Sc : FnScope N [pa, pv] (defScope st))
    (bd : ∀ (kV doc pm : Value) (an : Option Addr) (cdv ct : Value) (u : Value) (rest : List Value), rest.length ≤ 5000 → bindArgs (PySem.W.fnOf x qual (defArgs st) (defBody st) (defScope st) .none kV doc pm an cdv ct) ⟨u :: rest, []⟩ = (newTuple rest >>= fun t => pure [(pa, u), (pv, t)]))
    (hb : ∀ (cdv : Value) (A : Around) (outer : List Env) (s : Shared) (H : Hp) (E : XK), RG k (A.deeper (envOfC qual (defScope st) s.heap.objs.size f cdv)) →
      QSs T (cxOf (L2.CX P w) P w K mg base N qual (defScope st) f cdv A outer s H E) (lt 2) (defBody st) body) :
    FnG P w K mg base (k + 1) f (spD K T (funV N.length body)) := by
  have hpl : 2 ≤ N.length := by have := congrArg List.length Sc.pre; rw [List.length_take] at this; simp at this; omega
  obtain ⟨oc, od, kV, doc, pm, an, cdv, ct, osl, rfl, lk, hcd⟩ := F.ex
  intro A outer s H us vs Q E hr e0 r hsp
  obtain ⟨v, rest, rfl, hl, hq⟩ := spV hsp
  obtain ⟨u, ur, rfl, rv, rr⟩ : ∃ u ur, us = u :: ur ∧ RelV v u ∧ Vals rest ur := by
    cases r with
    | cons x y => exact ⟨_, _, rfl, x, y⟩
  have hl' : ur.length ≤ 5000 := by rw [← rr.length]; exact hl
  have hz : (5000 : Nat) ≤ sizeLine := by rw [sizeLine_eq]; omega
  have KX : K.In s.heap := e0.mod.kin.keeps fun b o e => (e0.bs b o e).1
  have hn : H s.heap.objs.size = none := e0.hok.fresh (Nat.le_refl _)
  have hp := hq s.heap.objs.size hn
  have kp : ∀ b o, s.heap.get? b = some o → (s.heap.push ({ cls := .type "tuple", data := .seq ur.toArray } : Obj)).get? b = some o := fun b o e => Heap.get?_push_of_some _ e
  have new : ObjOk P w (upd H s.heap.objs.size (.tup rest)) (s.heap.push ({ cls := .type "tuple", data := .seq ur.toArray } : Obj)) s.heap.objs.size (.tup rest) :=
    ⟨Nat.le_trans hl hz, ur, rr, ⟨_, Heap.get?_push_size _ rfl, rfl, _, rfl⟩⟩
  have e2 : Env0 P w K mg base A outer { s with heap := s.heap.push ({ cls := .type "tuple", data := .seq ur.toArray } : Obj) } (upd H s.heap.objs.size (.tup rest)) := StX.env0_laid e0 new
  have un : Un (frs outer) [] H (upd H s.heap.objs.size (.tup rest)) s.heap (s.heap.push ({ cls := .type "tuple", data := .seq ur.toArray } : Obj)) := Un.laid kp (Nat.le_refl _) hn
  have lim : (s.heap.push ({ cls := .type "tuple", data := .seq ur.toArray } : Obj)).NoLimit := e0.mod.nolimit.keeps fun b o e => (e2.bs b o e).1
  have hkind : ∀ y ∈ [pa, pv].zip [u, Value.ref s.heap.objs.size], (defScope st).names.lookup y.1 = some .local ∨
      ((defScope st).names.lookup y.1 = some .cell ∧ ((cellsFrom ((s.heap.push ({ cls := .type "tuple", data := .seq ur.toArray } : Obj)).objs.size + 1) (defScope st).names []).lookup y.1).isSome = true) := fun y hy => by
    rcases Sc.par y.1 (List.of_mem_zip hy).1 with q | q
    · exact .inl q
    · exact .inr ⟨q, PySem.W.cellsFrom_some _ _ _ (.inl q)⟩
  refine codeAny_call_function hr.r.depth (KX _ _ lk) rfl Sc.co Sc.gen rfl (PySem.W.codeRec_of KX hcd) ?_
  rw [bd kV doc pm an cdv ct u ur hl']
  refine wpAny_bind (wpAny_newTuple (wpAny_pure ?_) (Nat.le_trans hl' hz))
  refine wpAny_newFunctionEnv_cells (s := { s with heap := s.heap.push ({ cls := .type "tuple", data := .seq ur.toArray } : Obj) }) Sc.kind hkind fun env he s1 x => ?_
  subst he
  refine ⟨lim.keeps x.toInCall.keep, codeAny_func ?_⟩
  obtain ⟨t, ht, hq'⟩ := sp_body (ps := [pa, pv]) (s := { s with heap := s.heap.push ({ cls := .type "tuple", data := .seq ur.toArray } : Obj) }) hpl (hb cdv A outer { s with heap := s.heap.push ({ cls := .type "tuple", data := .seq ur.toArray } : Obj) } (upd H s.heap.objs.size (.tup rest)) E (hr.deeper _)) hp
  have r2 : Vals [v, V.ref s.heap.objs.size] [u, Value.ref s.heap.objs.size] := .cons rv (.cons rfl .nil)
  have I : Inv (cxOf (L2.CX P w) P w K mg base N qual (defScope st) f cdv A outer { s with heap := s.heap.push ({ cls := .type "tuple", data := .seq ur.toArray } : Obj) } (upd H s.heap.objs.size (.tup rest)) E) [] (start N [v, .ref s.heap.objs.size]) (upd H s.heap.objs.size (.tup rest)) s1 :=
    inv_start Sc hr.r.hd e2 rfl r2 x
  refine wpAny_mono (ht.run [] s1 _ _ _ I hq') (fun fl s' hs => ?_) fun e s' hs => ?_
  · have fin : ∀ {σ' : St} {H' : Hp} {v' : V} {u' : Value}, Inv (cxOf (L2.CX P w) P w K mg base N qual (defScope st) f cdv A outer { s with heap := s.heap.push ({ cls := .type "tuple", data := .seq ur.toArray } : Obj) } (upd H s.heap.objs.size (.tup rest)) E) [] σ' H' s' → RelV v' u' → Q v' H' →
        CE outer P w H s Q u' s' := fun {σ' H' v' u'} J rv' q => ⟨v', H', J.os, J.bare, un.trans J.base, J.hok, rv', q⟩
    cases fl with
    | ret u' =>
      obtain ⟨v', σ', H', J, rv', q⟩ := hs
      exact fin J rv' q
    | next =>
      obtain ⟨σ', H', J, q⟩ := hs
      exact fin (v' := V.non) (u' := Value.none) J rfl q
    | brk =>
      obtain ⟨_, _, _, q⟩ := hs
      exact False.elim q
    | cont =>
      obtain ⟨_, _, _, q⟩ := hs
      exact False.elim q
  · exact wpAny_mono hs (fun _ s'' z => StX.cxUp (P := P) (w := w) outer s H { s with heap := s.heap.push ({ cls := .type "tuple", data := .seq ur.toArray } : Obj) } (upd H s.heap.objs.size (.tup rest)) E e s'' un kp rfl z) fun e' s'' z => StX.cxUp (P := P) (w := w) outer s H { s with heap := s.heap.push ({ cls := .type "tuple", data := .seq ur.toArray } : Obj) } (upd H s.heap.objs.size (.tup rest)) E e' s'' un kp rfl z
end
end Dt
end
section
set_option maxRecDepth 100000
set_option maxHeartbeats 4000000
/-! QU: own special methods, class attributes, classmethods, star calls of a local class, pairs of names, list(range), dicts made. -/
namespace Dt
open PySem PySem.Spec L2
open PyProof.Rows hiding St

/-! ### own special methods -/
def eOpM (k : AV → AV → M EV) (fa fb : M AV) : M EV := M.bind fa fun x => M.bind fb fun y => k x y
/-- x in y, y an own object -/
def inO (n : Bool) (mt : Nat → Option (M EV)) (x y : AV) : M EV := fun env => (objOf env y).bind fun p => (mt p.1).bind fun g => match callM g [y, x] env with
  | some (.ok (.v (.bl b)) e) => some (.ok (.v (.bl (n ^^ b))) e)
  | _ => none
/-- x.special(y) -/
def spO (mt : Nat → Option (M EV)) (x y : AV) : M EV := fun env => (objOf env x).bind fun p => (mt p.1).bind fun g => callM g [x, y] env
def spO1 (mt : Nat → Option (M EV)) (x : AV) : M EV := fun env => (objOf env x).bind fun p => (mt p.1).bind fun g => callM g [x] env
/-- what of the text a special method asks -/
structure SpecOK (T : Tab) (X : Cx) (m : Str) (ex : Addr → Prop) (mt : Nat → Option (M EV)) : Prop where
  of : ∀ t g, mt t = some g → ∃ f k, PySem.W.findIn X.K (.ref (T.cls t)) m = some (some (.ref f)) ∧ PySem.W.isFn X.K (.ref f) = true ∧ PySem.W.fnIn X.K f = true ∧ PySem.W.noSeq X.K (T.cls t) = true ∧ RG (k + 1) X.A ∧ FnQ T X k f g ∧ ex (T.cls t)
/-- the object, the method's promise at it -/
def AskS (X : Cx) (m : Str) (ec : Addr → Prop) (x : V) (H1 : Hp) (R : Sp → Prop) : Prop := ∃ a C dx fs f k sp, x = .ref a ∧ H1 a = some (.ins C dx fs) ∧ PySem.W.findIn X.K (.ref C) m = some (some (.ref f)) ∧ PySem.W.isFn X.K (.ref f) = true ∧ PySem.W.fnIn X.K f = true ∧ PySem.W.noSeq X.K C = true ∧ RG (k + 1) X.A ∧
  FnG X.prog X.w X.K X.mg X.base k f sp ∧ ec C ∧ R sp
section
variable {T : Tab} {X : Cx} {m : Str} {ec : Addr → Prop} {mt : Nat → Option (M EV)} {ex : Addr → Prop} {σ : St} {H : Hp} {env : Sl} {W : WX} {Q : VK}
theorem trx_spec (hm : SpecOK T X m ec mt) {a : AV} {v : V} {k : M EV → M EV} (h : trx X.K T (relE X.K T) ex (fun env => (objOf env a).bind fun p => (mt p.1).bind fun g => k g env) env W σ H Q) (ra : RepA X.K T ex σ env H v a) {R : Sp → Prop}
    (hR : ∀ g, trx X.K T (relE X.K T) ex (k g) env W σ H Q → R (spD X.K T g)) : AskS X m ec v H R := by
  obtain ⟨g1, r, er, oo⟩ := h
  obtain ⟨⟨t, ds⟩, e1, er⟩ := opt_bind er
  obtain ⟨g, e2, er⟩ := opt_bind er
  obtain ⟨x, dx, vs, ev, hx, hl, rl⟩ := objOf_ok g1 ra e1
  obtain ⟨f, k', h1, h2, h3, h4, h5, h6, h7⟩ := hm.of t g e2
  exact ⟨x, _, dx, _, f, k', spD X.K T g, ev, hx, h1, h2, h3, h4, h5, h6, h7, hR g ⟨g1, r, er, oo⟩⟩
theorem trx_callB {g : M EV} {n : Bool} {as : List AV} {vs : List V} (h : trx X.K T (relE X.K T) ex (fun env => match callM g as env with | some (.ok (.v (.bl b)) e) => some (.ok (.v (.bl (n ^^ b))) e) | _ => none) env W σ H Q) (hp : Paired (fun a v => RepA X.K T ex σ env H v a) as vs) :
    spD X.K T g vs H (fun v H' => ∃ b, v = .bl b ∧ Q (.bl (n ^^ b)) H') fun _ _ _ => False := by
  obtain ⟨gd, r, e, o⟩ := h
  refine trx_call (W := fun _ _ _ _ => False) (σ := σ) (env := env) (ex := ex) ⟨gd, ?_⟩ hp
  cases q : callM g as env with
  | none => dsimp only at e; rw [q] at e; cases e
  | some rr =>
    dsimp only at e
    rw [q] at e
    refine ⟨rr, rfl, ?_⟩
    cases rr with
    | exc x e' => cases e
    | ok ev e' =>
      cases ev with
      | o c => cases e
      | v d =>
        cases d with
        | bl b =>
          cases e
          intro v H' s rv
          exact ⟨b, rv, o (.bl (n ^^ b)) H' s rfl⟩
        | _ => cases e
end
section
variable {X : Cx} {a b : Expr} {ta tb : TE} {pos : Pos}
/-- the call of a special method gives a bool -/
theorem sp_bool {pins : List (Addr × Obj)} {σ : St} {H : Hp} {s : Shared} {Q : VK} {n : Bool} {f : Addr} {k : Nat} {sp : Sp} {us : List Value} {vs : List V} (F : FnG X.prog X.w X.K X.mg X.base k f sp) (hr : RG k X.A) (I : Inv X pins σ H s) (r : Vals vs us)
    (h : sp vs H (fun v H' => ∃ b, v = .bl b ∧ Q (.bl (n ^^ b)) H') fun _ _ _ => False) :
    wpAny (model X.prog X.w) X.A (call (.ref f) us) (fun r s' => wpAny (model X.prog X.w) X.A (truthy r) (fun b => EP X pins σ Q (.bool (n ^^ b))) X.xe s') X.xe s := by
  refine thn (wpAny_call (run_at (W := fun _ _ _ _ => False) F hr takes0 I r h)) fun v s1 ⟨x, H1, I1, rx, b, ex, q⟩ => ?_
  subst ex
  cases rx
  exact wpAny_truthy_bool ⟨.bl (n ^^ b), H1, I1, rfl, q⟩
theorem in_own {pins : List (Addr × Obj)} {σ : St} {H : Hp} {s : Shared} {Q : VK} {x y : V} {v u : Value} (I : Inv X pins σ H s) (rx : RelV x v) (ry : RelV y u)
    (q : AskS X "__contains__" (fun _ => True) y H fun sp => sp [y, x] H (fun z H' => ∃ b, z = .bl b ∧ Q (.bl (false ^^ b)) H') fun _ _ _ => False) : wpAny (model X.prog X.w) X.A (compareOp .In v u) (EP X pins σ Q) X.xe s := by
  obtain ⟨a, C, dx, fs, f, k, sp, rfl, ha, h1, h2, h3, h4, h5, F, _, q⟩ := q
  obtain rfl : u = Value.ref a := ry
  obtain ⟨mA, O, _⟩ := ins_get I.hok ha
  obtain ⟨od, J, _⟩ := O.look
  obtain ⟨m, hF⟩ := I.fr
  refine PySem.W.in_K hF I.ok.mod.kin J h1 h2 (thn (sp_bool (n := false) F (h5.mono (Nat.le_succ _)) I (.cons (show RelV (V.ref a) (Value.ref a) from rfl) (.cons rx .nil)) q) fun r s' z => thn z fun b s'' z => ?_)
  rw [Bool.false_xor] at z
  exact z
theorem notin_own {pins : List (Addr × Obj)} {σ : St} {H : Hp} {s : Shared} {Q : VK} {x y : V} {v u : Value} (I : Inv X pins σ H s) (rx : RelV x v) (ry : RelV y u)
    (q : AskS X "__contains__" (fun _ => True) y H fun sp => sp [y, x] H (fun z H' => ∃ b, z = .bl b ∧ Q (.bl (true ^^ b)) H') fun _ _ _ => False) : wpAny (model X.prog X.w) X.A (compareOp .NotIn v u) (EP X pins σ Q) X.xe s := by
  obtain ⟨a, C, dx, fs, f, k, sp, rfl, ha, h1, h2, h3, h4, h5, F, _, q⟩ := q
  obtain rfl : u = Value.ref a := ry
  obtain ⟨mA, O, _⟩ := ins_get I.hok ha
  obtain ⟨od, J, _⟩ := O.look
  obtain ⟨m, hF⟩ := I.fr
  refine PySem.W.notIn_K hF I.ok.mod.kin J h1 h2 (thn (sp_bool (n := true) F (h5.mono (Nat.le_succ _)) I (.cons (show RelV (V.ref a) (Value.ref a) from rfl) (.cons rx .nil)) q) fun r s' z => thn z fun b s'' z => ?_)
  rw [Bool.true_xor] at z
  exact z
end
section
variable {T : Tab} {X : Cx} {a b : Expr} {pos : Pos} {fa fb : M AV} {mt : Nat → Option (M EV)}
/-- the op asks at (x, y): as a relation -/
def rInO (X : Cx) (n : Bool) : R2 := fun x y H Q => AskS X "__contains__" (fun _ => True) y H fun sp => sp [y, x] H (fun z H' => ∃ b, z = .bl b ∧ Q (.bl (n ^^ b)) H') fun _ _ _ => False
theorem op_inO : OpR X (compareOp .In) (rInO X false) := fun pins s σ H x y v u Q I rx ry q => in_own I rx ry q
theorem op_notInO : OpR X (compareOp .NotIn) (rInO X true) := fun pins s σ H x y v u Q I rx ry q => notin_own I rx ry q
theorem tr_inO (hm : SpecOK T X "__contains__" (fun _ => True) mt) {n : Bool} {W : WX} {σ : St} {H : Hp} {Q : VK} (h : tr X.K T (relE X.K T) (eOpM (inO n mt) fa fb) W σ H Q) : tOp (rInO X n) (tr X.K T (relA X.K T) fa W) (tr X.K T (relA X.K T) fb W) σ H Q := by
  obtain ⟨ex, env, h⟩ := h
  refine ⟨ex, env, (trx_bind (relA X.K T) rmE h).mono fun x H1 ⟨av, env1, s1, ra, h1⟩ => ⟨ex, env1, (trx_bind (relA X.K T) rmE h1).mono fun y H2 ⟨bv, env2, s2, rb, h2⟩ => ?_⟩⟩
  exact trx_spec (k := fun g env => match callM g [bv, av] env with | some (.ok (.v (.bl b)) e) => some (.ok (.v (.bl (n ^^ b))) e) | _ => none) hm h2 rb fun g q => trx_callB q (.cons rb (.cons (RepA.step ra s2) .nil))
theorem trB_inO (hm : SpecOK T X "__contains__" (fun _ => True) mt) {n : Bool} {W : WX} {σ : St} {H : Hp} {Q : Bool → Hp → Prop} (h : tr X.K T relT (toB (eOpM (inO n mt) fa fb)) W σ H Q) : tTest (tOp (rInO X n) (tr X.K T (relA X.K T) fa W) (tr X.K T (relA X.K T) fb W)) σ H Q := by
  have h2 := tr_toB h
  exact tr_inO hm h2
theorem qe_inO (hm : SpecOK T X "__contains__" (fun _ => True) mt) (ha : QO T X a fa) (hb : QO T X b fb) (hmk : behindInMarks .In b = false := by first | rfl | with_unfolding_all rfl) : QE T X (.Compare a [.In] [b] pos) (eOpM (inO false mt) fa fb) :=
  fun pn xe W tk hp => impE (pe_cmpR (X := X.tr pn xe) op_inO (ha pn xe W tk hp) (hb pn xe W tk hp) hmk) fun σ H Q q => tr_inO hm q
theorem qt_inO (hm : SpecOK T X "__contains__" (fun _ => True) mt) (ha : QO T X a fa) (hb : QO T X b fb) (hmk : behindInMarks .In b = false := by first | rfl | with_unfolding_all rfl) : QT T X (.Compare a [.In] [b] pos) (toB (eOpM (inO false mt) fa fb)) :=
  fun pn xe W tk hp => impT (pt_cmpR (X := X.tr pn xe) op_inO (ha pn xe W tk hp) (hb pn xe W tk hp) hmk) fun σ H Q q => trB_inO hm q
theorem qe_ninO (hm : SpecOK T X "__contains__" (fun _ => True) mt) (ha : QO T X a fa) (hb : QO T X b fb) (hmk : behindInMarks .NotIn b = false := by first | rfl | with_unfolding_all rfl) : QE T X (.Compare a [.NotIn] [b] pos) (eOpM (inO true mt) fa fb) :=
  fun pn xe W tk hp => impE (pe_cmpR (X := X.tr pn xe) op_notInO (ha pn xe W tk hp) (hb pn xe W tk hp) hmk) fun σ H Q q => tr_inO hm q
theorem qt_ninO (hm : SpecOK T X "__contains__" (fun _ => True) mt) (ha : QO T X a fa) (hb : QO T X b fb) (hmk : behindInMarks .NotIn b = false := by first | rfl | with_unfolding_all rfl) : QT T X (.Compare a [.NotIn] [b] pos) (toB (eOpM (inO true mt) fa fb)) :=
  fun pn xe W tk hp => impT (pt_cmpR (X := X.tr pn xe) op_notInO (ha pn xe W tk hp) (hb pn xe W tk hp) hmk) fun σ H Q q => trB_inO hm q
/-- y[k], y an own object -/
theorem pe_ixOwn {ta tb : TE} {W : WX} (tk : Takes X W) (ha : PE X a ta) (hb : PE X b tb) (hsl : ∀ x i, subscripted b true x i = runValue (.builtin "lifetime.subscript" ⟨[x, i], []⟩)) : PE X (.Subscript a b pos) (fun σ H Q => ta σ H fun x H1 => tb σ H1 fun y H2 => AskS X "__getitem__" (fun _ => True) x H2 fun sp => sp [x, y] H2 Q fun c d H' => W c d σ H') := by
  refine ⟨fun pins s σ H Q I h => ?_⟩
  refine Subscript_ (binT ha hb I h fun v u s2 x y H2 I2 rx ry q => ?_)
  obtain ⟨c, C, dx, fs, f, k, sp, rfl, hc, h1, h2, h3, h4, h5, F, _, q⟩ := q
  obtain rfl : v = Value.ref c := rx
  obtain ⟨mA, O, _⟩ := ins_get I2.hok hc
  obtain ⟨od, J, _⟩ := O.look
  obtain ⟨m, hF⟩ := I2.fr
  refine PySem.W.sub_K hF I2.ok.mod.kin J h1 h3 h2 (wpAny_call ?_) (hsl _ _)
  refine codeAny_mono (F X.A.in1 X.stack s2 H2 [.ref c, u] [.ref c, y] Q _ h5.in1 I2.env0.in1 (.cons rfl (.cons ry .nil)) q) fun r s' hq => ?_
  cases r with
  | error e => exact tk e s' (XE.of_call I2 (fun _ _ _ h => h) hq)
  | ok fl =>
    cases fl with
    | ret u => exact I2.after hq
    | next => exact False.elim hq
    | brk => exact False.elim hq
    | cont => exact False.elim hq
theorem qe_ixO (hm : SpecOK T X "__getitem__" (fun _ => True) mt) (ha : QO T X a fa) (hb : QO T X b fb) (hsl : ∀ x i, subscripted b true x i = runValue (.builtin "lifetime.subscript" ⟨[x, i], []⟩) := by intro _ _; with_unfolding_all rfl) : QE T X (.Subscript a b pos) (eOpM (spO mt) fa fb) := fun pn xe W tk hp =>
  impE (pe_ixOwn (X := X.tr pn xe) tk (ha pn xe W tk hp) (hb pn xe W tk hp) hsl) fun σ H Q ⟨ex, env, h⟩ => ⟨ex, env, (trx_bind (relA X.K T) rmE h).mono fun x H1 ⟨av, env1, s1, ra, h1⟩ => ⟨ex, env1, (trx_bind (relA X.K T) rmE h1).mono fun y H2 ⟨bv, env2, s2, rb, h2⟩ =>
    trx_spec (X := X) (k := fun g => callM g [av, bv]) hm h2 (RepA.step ra s2) fun g q => trx_call q (.cons (RepA.step ra s2) (.cons rb .nil))⟩⟩
/-- -y, y an own object -/
theorem pe_negOwn {ta : TE} {W : WX} (tk : Takes X W) (ha : PE X a ta) : PE X (.UnaryOp .USub a pos) (fun σ H Q => ta σ H fun x H1 => AskS X "__neg__" (fun _ => True) x H1 fun sp => sp [x] H1 Q fun c d H' => W c d σ H') := by
  refine ⟨fun pins s σ H Q I h => ?_⟩
  refine UnaryOp_ (thn (ha.run pins s σ H _ I h) fun v s1 ⟨x, H1, I1, rx, q⟩ => ?_)
  obtain ⟨c, C, dx, fs, f, k, sp, rfl, hc, h1, h2, h3, h4, h5, F, _, q⟩ := q
  obtain rfl : v = Value.ref c := rx
  obtain ⟨mA, O, _⟩ := ins_get I1.hok hc
  obtain ⟨od, J, _⟩ := O.look
  obtain ⟨m, hF⟩ := I1.fr
  exact PySem.W.ksp_neg hF I1.ok.mod.kin J h1 h2 (wpAny_call (run_at (us := [.ref c]) (vs := [.ref c]) F (h5.mono (Nat.le_succ _)) tk I1 (.cons rfl .nil) q))
theorem qe_negO (hm : SpecOK T X "__neg__" (fun _ => True) mt) (ha : QO T X a fa) : QE T X (.UnaryOp .USub a pos) (M.bind fa (spO1 mt)) := fun pn xe W tk hp =>
  impE (pe_negOwn (X := X.tr pn xe) tk (ha pn xe W tk hp)) fun σ H Q ⟨ex, env, h⟩ => ⟨ex, env, (trx_bind (relA X.K T) rmE h).mono fun x H1 ⟨av, env1, s1, ra, h1⟩ =>
    trx_spec (X := X) (k := fun g => callM g [av]) hm h1 ra fun g q => trx_call q (.cons ra .nil)⟩
end

/-! ### class attributes, classmethods -/
section
variable {T : Tab} {X : Cx} {x f m : Str} {p pos apos : Pos} {C pr g0 : Addr} {mc u : Value} {v : V} {d : D} {k : Nat} {g : M EV} {e : Expr} {es : List Expr} {fs : M (List AV)} {pl : Sem Bool}
theorem qe_cval (hg : Gl X x) (hm : X.mg x = some (.ref C)) (r : ClX.CRead X.K C mc) (c : ClX.CVal X.K C mc f v u) (hd : ∀ ex H, Rep X.K T ex H d v) (hdb : (x == ("__debug__" : Str)) = false := by decide)
    (hb : attributeBase (.Name x p) f X.env (eval (.Name x p) X.env) = eval (.Name x p) X.env := by rfl) : QE T X (.Attribute (.Name x p) f pos) (eC d) := fun pn xe W _ _ =>
  impE (ClX.pe_cval (X := X.tr pn xe) (pe_glob (X := X.tr pn xe) (v := .ref C) hg hm rfl hdb) hb) fun σ H Q h => ⟨C, mc, v, u, rfl, r, c, trC hd h⟩
theorem pe_cmethQ {ta : TE} {t : TA} {W : WX} {sp : Sp} {o : Expr} (he : PE X o ta) (tk : Takes X W) (r : ClX.CRead X.K C mc) (c : ClX.CMet X.K C mc m pr g0) (F : FnG X.prog X.w X.K X.mg X.base k g0 sp) (hr : RG k X.A) (ha : PA X (e :: es) t)
    (hst : starEach (e :: es) X.env = (false, eval e X.env) :: starEach es X.env := by rfl) (hpl : (backTo pos (starEach es X.env)).any (·.1) = false := by rfl)
    (ht : eval (.Call (.Attribute o m apos) (e :: es) [] pos) X.env = (do
      let ov ← eval o X.env
      standAt apos.atName
      let (f, first) ← holding [ov] (getMethod ov m pl)
      callWith pos f first (backTo pos (starEach (e :: es) X.env)) (backToKw pos (keywordEach [] X.env))) := by rfl) :
    PE X (.Call (.Attribute o m apos) (e :: es) [] pos) (fun σ H Q => ta σ H fun x H1 => x = .ref C ∧ t σ H1 fun vs H2 => sp (.ref C :: vs) H2 Q fun c d H' => W c d σ H') := by
  refine ⟨fun pins s σ H Q I h => ?_⟩
  refine PySem.W.methodCall_KW (pl := pl) (thn (he.run pins s σ H _ I h) fun u s1 ⟨x, H1, I1, rx, ex, q⟩ => ?_) ht
  subst ex
  obtain rfl : u = Value.ref C := rx
  refine ClX.getmethcm_ok I1 r c fun s2 I2 => ?_
  refine ClX.callwith_cm I2 (ClX.base_none I1 (Nat.le_refl _)) c.fi (thn (ha.run pos _ s2 σ H1 _ I2 q) fun us s3 ⟨vs, H2, I3, rv, q2⟩ => ⟨⟨ClX.pin_at I3, I3.kIn⟩, ?_⟩) hst hpl
  exact thn (wpAny_call (PySem.W.method_call (ClX.pin_at I3) (run_at (us := .ref C :: us) (vs := .ref C :: vs) F hr tk I3 (.cons rfl rv) q2))) fun _ _ y => ClX.unpinE y
def eCMeth (C : Addr) (g : M EV) (fs : M (List AV)) : M EV := M.bind fs fun as => callM g (.v (.raw (.ref C)) :: as)
theorem qe_cmeth (hg : Gl X x) (hm : X.mg x = some (.ref C)) (r : ClX.CRead X.K C mc) (c : ClX.CMet X.K C mc m pr g0) (F : FnQ T X k g0 g) (hr : RG k X.A) (ha : QAs T X (e :: es) fs) (hdb : (x == ("__debug__" : Str)) = false := by decide)
    (hst : starEach (e :: es) X.env = (false, eval e X.env) :: starEach es X.env := by rfl) (hpl : (backTo pos (starEach es X.env)).any (·.1) = false := by rfl)
    (ht : eval (.Call (.Attribute (.Name x p) m apos) (e :: es) [] pos) X.env = (do
      let ov ← eval (.Name x p) X.env
      standAt apos.atName
      let (f, first) ← holding [ov] (getMethod ov m pl)
      callWith pos f first (backTo pos (starEach (e :: es) X.env)) (backToKw pos (keywordEach [] X.env))) := by rfl) : QE T X (.Call (.Attribute (.Name x p) m apos) (e :: es) [] pos) (eCMeth C g fs) := fun pn xe W tk hp =>
  impE (pe_cmethQ (X := X.tr pn xe) (pl := pl) (pe_glob (X := X.tr pn xe) (v := .ref C) hg hm rfl hdb) tk r c F hr (ha pn xe W tk hp) hst hpl ht) fun σ H Q ⟨ex, env, q⟩ => ⟨rfl, ex, env, (trx_bind (relAs X.K T) rmE q).mono fun vs H1 ⟨as, env1, s, ra, q⟩ => trx_call q (.cons rfl ra)⟩
end
/-! ### cls( *y), cls a local name -/
def eMakeSL (i : Nat) (C : Addr) (t : Nat) (g : M EV) (fa : M AV) : M EV := fun env => match env[i]? with
  | some (.val (.raw (.ref C'))) => if C' = C then eMakeS t g fa env else none
  | _ => none
section
variable {T : Tab} {X : Cx} {k t : Nat} {f C : Addr} {g : M EV} {x : Str} {p sp_ pos : Pos} {e : Expr} {fa : M AV}
theorem pe_makeQSL {te : TE} {W : WX} {sp : Sp} (i : Nat) (M : Mk X.K C f) (F : FnG X.prog X.w X.K X.mg X.base k f sp) (hr : RG (k + 1) X.A) (tk : Takes X W) (he : PE X e te) (hN : X.N[i]? = some x := by rfl) (hv : Vis X.env.scope x := by first | exact Or.inl rfl | exact Or.inr (Or.inl rfl) | exact Or.inr (Or.inr rfl))
    (hdb : (x == ("__debug__" : Str)) = false := by decide) (hcd : (x == ("__classdict__" : Str)) = false := by decide)
    (hst : starEach [.Starred e sp_] X.env = [(true, eval e X.env)] := by rfl) : PE X (.Call (.Name x p) [.Starred e sp_] [] pos) (fun σ H Q => σ[i]? = some (some (V.ref C)) ∧ te σ H fun y H1 => ∃ a vs, y = V.ref a ∧ (SqT X.K H1 a vs ∨ SqL X.K H1 a vs) ∧
      ∀ x dx, H1 x = none → H1 dx = none → dx ≠ x → sp (V.ref x :: vs) (upd (upd H1 dx (.own x)) x (.ins C dx [])) (fun v H2 => v = .non ∧ Q (.ref x) H2) fun c d H' => W c d σ H') := by
  refine ⟨fun pins s σ H Q I h => ?_⟩
  obtain ⟨hs, ht⟩ := h
  refine wpAny_Call_Name_kw (thn ((pe_var (pos := p) hN hv hdb hcd).run pins s σ H (fun v H1 => v = .ref C ∧ H1 = H) I ⟨.ref C, hs, rfl, rfl⟩) fun u s1 ⟨v, H1, I1, r1, q1⟩ => ?_)
  obtain ⟨rfl, rfl⟩ := q1
  cases r1
  refine PySem.W.callWith_S (h₀ := X.base) I.ok.mod.kin M.kp (thn (he.run pins s1 σ _ _ I1 ht) fun v s1 ⟨y, H1, I1, ry, a, xs, ey, hxs, q⟩ => ?_) hst
  subst ey
  obtain rfl : v = Value.ref a := ry
  exact StX.star_any I1 hxs fun us s2 I2 rv => ⟨I2.kIn, run_makeQ M F hr tk I2 rv q⟩
theorem qe_makeSL (i : Nat) (M : Mk X.K (T.cls t) f) (F : FnQ T X k f g) (hr : RG (k + 1) X.A) (h : QO T X e fa) (hN : X.N[i]? = some x := by rfl) (hv : Vis X.env.scope x := by first | exact Or.inl rfl | exact Or.inr (Or.inl rfl) | exact Or.inr (Or.inr rfl))
    (hdb : (x == ("__debug__" : Str)) = false := by decide) (hcd : (x == ("__classdict__" : Str)) = false := by decide)
    (hst : starEach [.Starred e sp_] X.env = [(true, eval e X.env)] := by rfl) : QE T X (.Call (.Name x p) [.Starred e sp_] [] pos) (eMakeSL i (T.cls t) t g fa) := fun pn xe W tk hp => by
  refine impE (pe_makeQSL (X := X.tr pn xe) i M F hr tk (h pn xe W tk hp) hN hv hdb hcd hst) fun σ H Q ⟨ex, env, gd, r, er, o⟩ => ?_
  unfold eMakeSL at er
  split at er
  · rename_i C' hC
    split at er
    · rename_i hcc
      subst hcc
      obtain ⟨v, e1, rv⟩ := gd.val i _ hC
      cases (show v = V.ref _ from rv)
      refine ⟨e1, ex, env, (trx_bind (relA X.K T) rmE ⟨gd, r, er, o⟩).mono fun v H1 ⟨a, env1, s, ra, q⟩ => ?_⟩
      obtain ⟨g1, r, er, o⟩ := q
      obtain ⟨d, e1, er⟩ := opt_bind er
      obtain ⟨ds, e2, er⟩ := opt_bind er
      have rd := deref_ok g1 ra e1
      cases d with
      | lst xs =>
        cases e2
        obtain ⟨b, vs, e3, h1, h2⟩ := rd
        exact ⟨b, vs, e3, .inr (SqL.of h1), fun x dx hx hdx hne => trx_make ⟨g1, r, er, o⟩ (reps_of h2) hx hdx hne⟩
      | tup xs =>
        cases e2
        obtain ⟨b, vs, e3, _, h1, h2⟩ := rd
        exact ⟨b, vs, e3, .inl (SqT.of h1), fun x dx hx hdx hne => trx_make ⟨g1, r, er, o⟩ (reps_of h2) hx hdx hne⟩
      | _ => cases e2
    · cases er
  · cases er
end
end Dt
end
section
set_option maxRecDepth 100000
set_option maxHeartbeats 4000000
/-! QX: pairs of names, list(range), dicts made, repeats. -/
namespace Dt
open PySem PySem.Spec L2
open PyProof.Rows hiding St
section
variable {K : PySem.W.Frag} {T : Tab} {np : Nat → Bool} {ex : Addr → Prop} {env env0 : Sl} {W : WX} {σ σ0 σ1 : St} {H H0 : Hp} {D : Ends}
theorem Good.storeS {v : V} {ev : EV} {i : Nat} (hi : np i = false) (s : SStep K T np ex σ0 H0 env0 σ H env) (r : RepR K T np ex σ0 env0 H0 σ env H v ev) : SStep K T np ex σ0 H0 env0 (σ.set i (some v)) H (env.set i (slotOf ev)) := by
  have g := s.gd
  by_cases hl : i < env.length
  case neg =>
    have h1 : env.set i (slotOf ev) = env := List.set_eq_of_length_le (by omega)
    have h2 : σ.set i (some v) = σ := List.set_eq_of_length_le (by rw [← g.len]; omega)
    rw [h1, h2]
    exact s
  have hσ : i < σ.length := by rw [← g.len]; exact hl
  have σi : (σ.set i (some v))[i]? = some (some v) := List.getElem?_set_self hσ
  have σj : ∀ j, j ≠ i → (σ.set i (some v))[j]? = σ[j]? := fun j h => List.getElem?_set_ne (Ne.symm h)
  have par : ∀ j, np j = true → (σ.set i (some v))[j]? = σ0[j]? := fun j h => (σj j (fun z => by rw [z, hi] at h; cases h)).trans (s.par j h)
  have ln : (σ.set i (some v)).length = σ0.length := List.length_set.trans s.ln
  have subp : ∀ (j : Nat) (c : OC), np j = true → (env.set i (slotOf ev))[j]? = some (.own c) → ∃ c', env0[j]? = some (.own c') := fun j c hj e => by
    rcases set_get e with ⟨h1, _, _⟩ | ⟨_, h⟩
    · rw [h1, hi] at hj; cases hj
    · exact s.sbp j c hj h
  cases ev with
  | v d =>
    have ow : ∀ {a}, Owns (σ.set i (some v)) (env.set i (slotOf (.v d))) a → Owns σ env a := fun ⟨j, c, e1, e2⟩ => by
      rcases set_get e1 with ⟨_, h, _⟩ | ⟨h1, h2⟩
      · cases h
      · rw [σj j h1] at e2; exact ⟨j, c, h2, e2⟩
    have mo : ∀ a o, ¬ exO ex σ env a → H a = some o → ¬ exO ex (σ.set i (some v)) (env.set i (slotOf (.v d))) a ∧ H a = some o := fun a o n e => ⟨fun z => n (z.imp id ow), e⟩
    refine ⟨s.fr, s.dm, subp, fun j c a hj e e2 => ?_, par, ln, ⟨by rw [List.length_set, List.length_set]; exact g.len, fun j d' e => ?_, fun j c e => ?_, fun j k a c c' e1 e2 e3 e4 => ?_, g.dom⟩⟩
    · rcases set_get e with ⟨_, h, _⟩ | ⟨h1, h2⟩
      · cases h
      · rw [σj j h1] at e2
        exact s.sbl j c a hj h2 e2
    · rcases set_get e with ⟨h1, h, _⟩ | ⟨h1, h2⟩
      · cases h; subst h1; exact ⟨v, σi, Rep.mono mo r⟩
      · obtain ⟨u, e1, q⟩ := g.val j d' h2
        exact ⟨u, by rw [σj j h1]; exact e1, q.mono mo⟩
    · rcases set_get e with ⟨_, h, _⟩ | ⟨h1, h2⟩
      · cases h
      · obtain ⟨a, e1, n, q⟩ := g.own j c h2
        exact ⟨a, by rw [σj j h1]; exact e1, n, q.mono rfl mo⟩
    · rcases set_get e1 with ⟨_, h, _⟩ | ⟨h1, h2⟩
      · cases h
      · rcases set_get e2 with ⟨_, h, _⟩ | ⟨h3, h4⟩
        · cases h
        · rw [σj j h1] at e3
          rw [σj k h3] at e4
          exact g.inj j k a c c' h2 h4 e3 e4
  | o c0 =>
    obtain ⟨x, ev, nex, now, nx, ro, gx⟩ := r
    subst ev
    have nox : ¬ exO ex σ env x := fun z => z.elim nex now
    have ow : ∀ {a}, Owns (σ.set i (some (.ref x))) (env.set i (slotOf (.o c0))) a → Owns σ env a ∨ a = x := fun ⟨j, c, e1, e2⟩ => by
      rcases set_get e1 with ⟨h1, _, _⟩ | ⟨h1, h2⟩
      · subst h1; rw [σi] at e2; cases e2; exact .inr rfl
      · rw [σj j h1] at e2; exact .inl ⟨j, c, h2, e2⟩
    have mo : ∀ a o, ¬ exO (fun b => ex b ∨ b = x) σ env a → H a = some o → ¬ exO ex (σ.set i (some (.ref x))) (env.set i (slotOf (.o c0))) a ∧ H a = some o := fun a o n e => ⟨fun z => n (by
      rcases z with z | z
      · exact .inl (.inl z)
      · rcases ow z with z | z
        · exact .inr z
        · exact .inl (.inr z)), e⟩
    have mo2 : ∀ a o, ¬ (exO ex σ env a ∨ a = x) → H a = some o → ¬ exO ex (σ.set i (some (.ref x))) (env.set i (slotOf (.o c0))) a ∧ H a = some o := fun a o n e => ⟨fun z => n (by
      rcases z with z | z
      · exact .inl (.inl z)
      · exact (ow z).imp .inr id), e⟩
    refine ⟨s.fr, s.dm, subp, fun j c a hj e e2 => ?_, par, ln, ⟨by rw [List.length_set, List.length_set]; exact g.len, fun j d' e => ?_, fun j c e => ?_, fun j k a c c' e1 e2 e3 e4 => ?_, g.dom⟩⟩
    · rcases set_get e with ⟨h1, _, _⟩ | ⟨h1, h2⟩
      · subst h1; rw [σi] at e2; cases e2; exact nx
      · rw [σj j h1] at e2
        exact s.sbl j c a hj h2 e2
    · rcases set_get e with ⟨_, h, _⟩ | ⟨h1, h2⟩
      · cases h
      · obtain ⟨u, e1, q⟩ := gx.val j d' h2
        exact ⟨u, by rw [σj j h1]; exact e1, q.mono mo⟩
    · rcases set_get e with ⟨h1, h, _⟩ | ⟨h1, h2⟩
      · cases h; subst h1; exact ⟨x, σi, fun z => nox (.inl z), ro.mono rfl mo2⟩
      · obtain ⟨a, e1, n, q⟩ := gx.own j c h2
        exact ⟨a, by rw [σj j h1]; exact e1, fun z => n (.inl z), q.mono rfl mo⟩
    · have nj : ∀ {j : Nat} {c : OC}, env[j]? = some (.own c) → σ[j]? ≠ some (some (V.ref x)) := fun {j c} h z => nox (.inr ⟨j, c, h, z⟩)
      rcases set_get e1 with ⟨h1, _, _⟩ | ⟨h1, h2⟩
      · subst h1
        rw [σi] at e3
        cases e3
        rcases set_get e2 with ⟨h3, _, _⟩ | ⟨h3, h4⟩
        · exact h3.symm
        · rw [σj k h3] at e4; exact absurd e4 (nj h4)
      · rw [σj j h1] at e3
        rcases set_get e2 with ⟨h3, _, _⟩ | ⟨h3, h4⟩
        · subst h3; rw [σi] at e4; cases e4; exact absurd e3 (nj h2)
        · rw [σj k h3] at e4
          exact g.inj j k a c c' h2 h4 e3 e4
end
section
variable {K : PySem.W.Frag} {T : Tab} {np : Nat → Bool} {ex : Addr → Prop} {env env' : Sl} {σ σ' : St} {H H' : Hp} {x : Addr}
theorem Step.less (s : Step K T (fun b => ex b ∨ b = x) σ H env H' env') : Step K T ex σ H env H' env' := ⟨s.fr, s.dm, s.sb, s.gd.less⟩
theorem SStep.less (s : SStep K T np (fun b => ex b ∨ b = x) σ H env σ' H' env') : SStep K T np ex σ H env σ' H' env' := ⟨s.fr, s.dm, s.sbp, s.sbl, s.par, s.ln, s.gd.less⟩
end
/-! ### x, y = a, b -/
def sPar (i j : Nat) (f g : M EV) : S := fun env => match f env with
  | some (.ok a e1) => match g e1 with
    | some (.ok b e2) => some (.nx ((e2.set j (slotOf b)).set i (slotOf a)))
    | some (.exc x e2) => some (.exc x e2)
    | none => none
  | some (.exc x e1) => some (.exc x e1)
  | none => none
section
variable {T : Tab} {X : Cx} {np : Nat → Bool} {x y : Str} {a b : Expr} {px py pt pos : Pos} {kt k2 : Nat} {pt2 : Pos} {f g : M EV}
theorem tr_par {K : PySem.W.Frag} {W : WX} {σ : St} {H : Hp} {D : Ends} {i j : Nat} (hi : np i = false) (hj : np j = false) (hij : i ≠ j) (h : trS K T np (sPar i j f g) W D σ H) :
    tr K T (relE K T) f W σ H fun v H1 => tr K T (relE K T) g W σ H1 fun w H2 => D.nx ((σ.set i (some v)).set j (some w)) H2 := by
  obtain ⟨ex, env, gd, r, er, o⟩ := h
  refine ⟨ex, env, gd, ?_⟩
  unfold sPar at er
  cases q : f env with
  | none => rw [q] at er; cases er
  | some ra =>
    rw [q] at er
    refine ⟨ra, rfl, ?_⟩
    cases ra with
    | exc x e1 => cases er; exact fun c d H' s rx => o c d σ H' s.s rx
    | ok av e1 =>
      intro v H1 s1 r1
      dsimp only at er
      cases q2 : g e1 with
      | none => rw [q2] at er; cases er
      | some rb =>
        rw [q2] at er
        cases av with
        | v d =>
          refine ⟨ex, e1, s1.gd, rb, q2, ?_⟩
          cases rb with
          | exc x e2 => cases er; exact fun c d H' s rx => o c d σ H' (s1.trans s).s rx
          | ok bv e2 =>
            cases er
            intro w H2 s2 r2
            have t2 := Good.storeS (np := np) hj (s2.s) (RepE.r s1.gd s2 r2)
            have t3 := Good.storeS (np := np) (ev := .v d) hi (s1.s.trans t2) (t2.rep (Rep.step r1 (Step.refl s1.gd)))
            rw [List.set_comm _ _ (Ne.symm hij)] at t3
            exact o _ _ t3
        | o c =>
          obtain ⟨a1, rfl, n1, ro, gx⟩ := r1
          refine ⟨_, e1, gx, rb, q2, ?_⟩
          cases rb with
          | exc x e2 =>
            cases er
            intro cc d H' s rx
            refine o cc d σ H' (s1.trans s.less).s ⟨rx.1, rx.2.imp id ?_⟩
            rintro ⟨z, ws, h1, h2, l, rr⟩
            exact ⟨z, ws, h1, h2, l, rr.mono fun b o n e => ⟨fun z => n (z.imp .inl id), e⟩⟩
          | ok bv e2 =>
            cases er
            intro w H2 s2 r2
            have t2 := Good.storeS (np := np) hj (s2.s) (RepE.r gx s2 r2)
            have ha1 : H1 a1 ≠ none := gx.dom a1 (.inr rfl)
            have na : ¬ Owns σ e1 a1 := fun z => (gx.owned z).2 (.inr rfl)
            have hk : H2 a1 = H1 a1 := by
              cases q3 : H1 a1 with
              | none => exact absurd q3 ha1
              | some oo => exact t2.fr a1 oo q3 na
            have t3 := Good.storeS (np := np) (v := .ref a1) (ev := .o c) hi (s1.s.trans t2.less) ⟨a1, rfl, fun z => gd.dom a1 z n1, fun z => (t2.gd.owned z).2 (.inr rfl), .inr n1, ro.mono hk fun b o n e => ⟨fun z => ?_, t2.fr b o e fun z => n (.inl (.inr z))⟩, t2.gd⟩
            · rw [List.set_comm _ _ (Ne.symm hij)] at t3
              exact o _ _ t3
            · rcases z with (z | z) | z
              · exact n (.inl (.inl z))
              · rcases t2.owns z with z | z
                · exact n (.inl (.inr z))
                · rw [z] at e; cases e
              · exact n (.inr z)
theorem qs_par (i j : Nat) (hc : X.calm = true) (hN : X.N.Nodup) (ha : QE T X a f) (hb : QE T X b g) (hij : i ≠ j := by decide) (hi : X.N[i]? = some x := by rfl) (hj : X.N[j]? = some y := by rfl) (hnp : np i = false := by rfl) (hnq : np j = false := by rfl)
    (hx : X.env.scope.names.lookup x = some .local := by rfl) (hy : X.env.scope.names.lookup y = some .local := by rfl)
    (hw : swappedStores [.Tuple [.Name x px, .Name y py] kt pt] (.Tuple [a, b] k2 pt2) X.env = pure (some [x, y]) := by rfl)
    (hs : swapsWithSole [.Tuple [.Name x px, .Name y py] kt pt] (.Tuple [a, b] k2 pt2) pos.line X.env = pure false := by rfl)
    (h1 : starEach [a, b] X.env = (false, eval a X.env) :: starEach [b] X.env := by rfl) (h2 : starEach [b] X.env = (false, eval b X.env) :: starEach [] X.env := by rfl) :
    QS T X np (.Assign [.Tuple [.Name x px, .Name y py] kt pt] (.Tuple [a, b] k2 pt2) pos) (sPar i j f g) := fun pn xe W tk hp =>
  impS (ps_par (X := X.tr pn xe) hc hN hi hj hij hx hy (pa_cons (ha pn xe W tk hp) (pa_cons (hb pn xe W tk hp) pa_nil h2) h1) hw hs) fun D σ H q => by
    obtain ⟨ex, env, z⟩ := tr_par hnp hnq hij q
    exact ⟨ex, env, z.mono fun v H1 ⟨ex2, env2, z2⟩ => ⟨ex2, env2, z2.mono fun w H2 k => ⟨v, w, rfl, k⟩⟩⟩
end
/-! ### x, y, z = a, b, c: values that nobody owns -/
def st3 (i j l : Nat) : Option (List D) → S
  | some [a, b, c] => fun env => some (.nx (((env.set i (.val a)).set j (.val b)).set l (.val c)))
  | _ => fun _ => none
def sPar3 (i j l : Nat) (fs : M (List AV)) : S := sE fs fun as => st3 i j l (vals as)
theorem st3_inv {i j l : Nat} {o : Option (List D)} {env : Sl} {r : SR} (h : st3 i j l o env = some r) : ∃ a b c, o = some [a, b, c] ∧ r = .nx (((env.set i (.val a)).set j (.val b)).set l (.val c)) := by
  unfold st3 at h
  split at h
  · cases h; exact ⟨_, _, _, rfl, rfl⟩
  · cases h
section
variable {T : Tab} {X : Cx} {np : Nat → Bool} {x y z : Str} {a b c : Expr} {px py pz pt pos : Pos} {kt k2 : Nat} {pt2 : Pos} {fs : M (List AV)}
theorem qs_par3 (i j l : Nat) (hc : X.calm = true) (hN : X.N.Nodup) (ha : QAs T X [a, b, c] fs) (hij : i ≠ j := by decide) (hil : i ≠ l := by decide) (hjl : j ≠ l := by decide) (hi : X.N[i]? = some x := by rfl) (hj : X.N[j]? = some y := by rfl) (hl : X.N[l]? = some z := by rfl)
    (hnp : np i = false := by rfl) (hnq : np j = false := by rfl) (hnr : np l = false := by rfl)
    (hx : X.env.scope.names.lookup x = some .local := by rfl) (hy : X.env.scope.names.lookup y = some .local := by rfl) (hz : X.env.scope.names.lookup z = some .local := by rfl)
    (hw : swappedStores [.Tuple [.Name x px, .Name y py, .Name z pz] kt pt] (.Tuple [a, b, c] k2 pt2) X.env = pure (some [x, y, z]) := by rfl)
    (hs : swapsWithSole [.Tuple [.Name x px, .Name y py, .Name z pz] kt pt] (.Tuple [a, b, c] k2 pt2) pos.line X.env = pure false := by rfl) :
    QS T X np (.Assign [.Tuple [.Name x px, .Name y py, .Name z pz] kt pt] (.Tuple [a, b, c] k2 pt2) pos) (sPar3 i j l fs) := fun pn xe W tk hp =>
  impS (ps_par3 (X := X.tr pn xe) hc hN hi hj hl hij hil hjl hx hy hz (ha pn xe W tk hp) hw hs) fun D σ H q => by
    obtain ⟨ex, env, q⟩ := trS_expr q (relAs X.K T)
    refine ⟨ex, env, q.mono fun vs H1 ⟨ex, env, H0, env1, as, g0, s1, ra, ts, o⟩ => ?_⟩
    obtain ⟨g1, r, er, oo⟩ := ts
    obtain ⟨d1, d2, d3, hv, rfl⟩ := st3_inv er
    have rl := vals_rep ra hv
    obtain ⟨u, w1, rfl, r1, rl⟩ := rl
    obtain ⟨v, w2, rfl, r2, rl⟩ := rl
    obtain ⟨w, w3, rfl, r3, rl⟩ := rl
    cases (show w3 = [] from rl)
    have t1 := Good.storeS (np := np) (ev := .v d1) hnp (SStep.refl s1.gd) r1
    have t2 := Good.storeS (np := np) (ev := .v d2) hnq t1 (t1.rep r2)
    have t3 := Good.storeS (np := np) (ev := .v d3) hnr t2 (t2.rep r3)
    exact ⟨u, v, w, rfl, oo _ _ t3⟩
end

/-! ### list(range(..)), tuple(range(..)) -/
def rgD (lo hi : Int) : List D := (List.range (hi - lo).toNat).map fun (i : Nat) => D.int (lo + (i : Int))
def rg1 (lst : Bool) : List D → Option EV
  | [.int n] => if small62 n = true then some (if lst = true then .o (.lst (rgD 0 n)) else .v (.tup (rgD 0 n))) else none
  | _ => none
def rg2 (lst : Bool) : List D → Option EV
  | [.int m, .int n] => if small62 m = true ∧ small62 n = true then some (if lst = true then .o (.lst (rgD m n)) else .v (.tup (rgD m n))) else none
  | _ => none
section
variable {T : Tab} {X : Cx} {a b : Expr} {p p2 q pos : Pos} {fa fb : M AV} {fs : M (List AV)}
theorem rg_rep {K : PySem.W.Frag} {ex : Addr → Prop} {H : Hp} (a b : Int) : RepL K T ex H (rgD a b) (rgV a b) := by
  unfold rgD rgV
  generalize (b - a).toNat = n
  generalize List.range n = l
  induction l with
  | nil => exact rfl
  | cons i l ih => exact ⟨_, _, rfl, rfl, ih⟩
theorem small_ok {a b : Int} (ha : small62 a = true) (hb : small62 b = true) : RgOk a b := by
  have h1 := of_decide_eq_true ha
  have h2 := of_decide_eq_true hb
  exact ⟨by omega, by omega, by omega, by omega, by omega⟩
theorem as_one {K : PySem.W.Frag} {ex : Addr → Prop} {σ : St} {H : Hp} {env : Sl} {W : WX} {Q : VK} {op : List D → Option EV} (h : trx K T (relE K T) ex (eB op (asCons fa asNil)) env W σ H Q) :
    trx K T (relA K T) ex fa env W σ H fun v H1 => rB K T op [v] H1 Q := by
  refine (trx_bind (relA K T) rmAs (trx_bind (relAs K T) rmE h)).mono fun v H1 ⟨av, env1, s, ra, g, rr, er, oo⟩ => ?_
  have oo2 : Out K T (relAs K T) ex env1 W σ H1 (fun vs H2 => ∃ as env2, Step K T ex σ H env H2 env2 ∧ relAs K T ex σ env2 H H2 vs as ∧ trx K T (relE K T) ex (bM op as) env2 W σ H2 Q) rr := oo
  cases er
  obtain ⟨as, env2, s2, rs, q⟩ := oo2 [v] H1 (Step.refl g) (.cons ra .nil)
  exact trx_b q rs
theorem as_two {K : PySem.W.Frag} {ex : Addr → Prop} {σ : St} {H : Hp} {env : Sl} {W : WX} {Q : VK} {op : List D → Option EV} (h : trx K T (relE K T) ex (eB op (asCons fa (asCons fb asNil))) env W σ H Q) :
    trx K T (relA K T) ex fa env W σ H fun v H1 => tr K T (relA K T) fb W σ H1 fun w H2 => rB K T op [v, w] H2 Q := by
  refine (trx_bind (relA K T) rmAs (trx_bind (relAs K T) rmE h)).mono fun v H1 ⟨av, env1, s, ra, h1⟩ => ⟨ex, env1, ?_⟩
  refine (trx_bind (relAs K T) (fun _ _ _ _ _ _ _ _ _ r => r) h1 |> fun z => ?_)
  refine (trx_bind (relA K T) rmAs z).mono fun w H2 ⟨bv, env2, s2, rb, g, rr, er, oo⟩ => ?_
  cases er
  obtain ⟨as, env3, s3, rs, g3, rr, er, oo3⟩ := oo [w] H2 (Step.refl g) (.cons rb .nil)
  cases er
  obtain ⟨as2, env4, s4, rs2, q⟩ := oo3 (v :: [w]) H2 (Step.refl g3) (.cons (RepA.step ra s3) rs)
  exact trx_b q rs2
theorem rg_new {K : PySem.W.Frag} {ex : Addr → Prop} {H : Hp} {Q : VK} {lo hi : Int} (dm : ∀ a, ex a → H a ≠ none) (k : ∀ v H', Ext H H' → RepV K T ex H H' v (.o (.lst (rgD lo hi))) → Q v H') : ∀ q, H q = none → Q (.ref q) (upd H q (.lst (rgV lo hi))) := fun q hq =>
  k _ _ (ext_new hq) ⟨q, rfl, hq, rep_newL hq (rg_rep lo hi)⟩
theorem rg_newT {K : PySem.W.Frag} {ex : Addr → Prop} {H : Hp} {Q : VK} {lo hi : Int} (dm : ∀ a, ex a → H a ≠ none) (k : ∀ v H', Ext H H' → RepV K T ex H H' v (.v (.tup (rgD lo hi))) → Q v H') : ∀ q, H q = none → Q (.ref q) (upd H q (.tup (rgV lo hi))) := fun q hq =>
  k _ _ (ext_new hq) ⟨q, _, rfl, fun z => dm q z hq, upd_same, (rg_rep lo hi).mono fun b o nb e => ⟨nb, ext_new hq b o e⟩⟩
theorem rg1_inv {l : Bool} {ds : List D} {ev : EV} (e : rg1 l ds = some ev) : ∃ n, ds = [.int n] ∧ small62 n = true ∧ ev = (if l = true then .o (.lst (rgD 0 n)) else .v (.tup (rgD 0 n))) := by
  unfold rg1 at e
  split at e
  · split at e
    · cases e; exact ⟨_, rfl, by assumption, rfl⟩
    · cases e
  · cases e
theorem rg2_inv {l : Bool} {ds : List D} {ev : EV} (e : rg2 l ds = some ev) : ∃ m n, ds = [.int m, .int n] ∧ small62 m = true ∧ small62 n = true ∧ ev = (if l = true then .o (.lst (rgD m n)) else .v (.tup (rgD m n))) := by
  unfold rg2 at e
  split at e
  · split at e
    · rename_i h; cases e; exact ⟨_, _, rfl, h.1, h.2, rfl⟩
    · cases e
  · cases e
theorem qe_listRg1 (hc : X.calm = true) (hg : Gl X "list") (hm : X.mg "list" = none) (hgr : Gl X "range") (hmr : X.mg "range" = none) (h : QO T X a fa) (na : starEach [a] X.env = (false, eval a X.env) :: starEach [] X.env := by rfl)
    (nb : starEach [.Call (.Name "range" p2) [a] [] q] X.env = (false, eval (.Call (.Name "range" p2) [a] [] q) X.env) :: starEach [] X.env := by rfl) : QE T X (.Call (.Name "list" p) [.Call (.Name "range" p2) [a] [] q] [] pos) (eB (rg1 true) (asCons fa asNil)) := fun pn xe W tk hp =>
  impE (pe_listRg (X := X.tr pn xe) hc hg hm (prg_1 (X := X.tr pn xe) hgr hmr (h pn xe W tk hp) na) nb) fun σ H Q ⟨ex, env, z⟩ => ⟨ex, env, (as_one z).mono fun v H1 ⟨ex, ds, ev, dm, r, e, k⟩ => by
    obtain ⟨n, rfl, hn, rfl⟩ := rg1_inv e
    obtain ⟨w, hw, rd⟩ := one_of r
    cases hw
    exact ⟨n, rd, small_ok (by decide) hn, rg_new dm k⟩⟩
theorem qe_tupRg1 (hc : X.calm = true) (hg : Gl X "tuple") (hm : X.mg "tuple" = none) (hgr : Gl X "range") (hmr : X.mg "range" = none) (h : QO T X a fa) (na : starEach [a] X.env = (false, eval a X.env) :: starEach [] X.env := by rfl)
    (nb : starEach [.Call (.Name "range" p2) [a] [] q] X.env = (false, eval (.Call (.Name "range" p2) [a] [] q) X.env) :: starEach [] X.env := by rfl) : QE T X (.Call (.Name "tuple" p) [.Call (.Name "range" p2) [a] [] q] [] pos) (eB (rg1 false) (asCons fa asNil)) := fun pn xe W tk hp =>
  impE (pe_tupRg (X := X.tr pn xe) hc hg hm (prg_1 (X := X.tr pn xe) hgr hmr (h pn xe W tk hp) na) nb) fun σ H Q ⟨ex, env, z⟩ => ⟨ex, env, (as_one z).mono fun v H1 ⟨ex, ds, ev, dm, r, e, k⟩ => by
    obtain ⟨n, rfl, hn, rfl⟩ := rg1_inv e
    obtain ⟨w, hw, rd⟩ := one_of r
    cases hw
    exact ⟨n, rd, small_ok (by decide) hn, rg_newT dm k⟩⟩
end
end Dt
end
section
set_option maxRecDepth 100000
set_option maxHeartbeats 4000000
/-! QY: dicts made of pairs, displayed; texts and lists repeated. -/
namespace Dt
open PySem PySem.Spec L2
open PyProof.Rows hiding St

/-! ### dict(list of pairs) -/
def pairOf : D → Option (Key × D)
  | .tup [k, d] => (keyD k).map fun k => (k, d)
  | _ => none
def pairsD : List D → Option (List (Key × D))
  | [] => some []
  | d :: ds => (pairOf d).bind fun p => (pairsD ds).map (p :: ·)
def mergeD (ks : List Key) (vs : List D) : List (Key × D) → List Key × List D
  | [] => (ks, vs)
  | p :: ps => mergeD (dicPut ks vs p.1 p.2).1 (dicPut ks vs p.1 p.2).2 ps
def dictD : List D → Option EV
  | [.lst xs] => (pairsD xs).map fun ps => .o (.dic (mergeD [] [] ps).1 (mergeD [] [] ps).2)
  | _ => none
section
variable {K : PySem.W.Frag} {T : Tab} {ex : Addr → Prop} {H : Hp}
theorem dicPut_len : ∀ {ks : List Key} {vs : List D} {k : Key} {d : D}, ks.length = vs.length → (dicPut ks vs k d).1.length = (dicPut ks vs k d).2.length
  | [], [], _, _, _ => rfl
  | [], _ :: _, _, _, h => by simp at h
  | _ :: _, [], _, _, h => by simp at h
  | a :: ks, x :: vs, k, d, h => by
    have h' : ks.length = vs.length := by simpa using h
    by_cases e : a = k
    · simp [dicPut, e, h']
    · simp [dicPut, e, dicPut_len (k := k) (d := d) h']
theorem dicPut_mem : ∀ {ks : List Key} {vs : List D} {k j : Key} {d : D}, j ∈ (dicPut ks vs k d).1 → j ∈ ks ∨ j = k
  | [], _, k, j, d, h => by simp [dicPut] at h; exact .inr h
  | a :: ks, [], k, j, d, h => by simp [dicPut] at h; exact .inr h
  | a :: ks, x :: vs, k, j, d, h => by
    by_cases e : a = k
    · simp only [dicPut, if_pos e] at h; exact .inl h
    · simp only [dicPut, if_neg e, List.mem_cons] at h
      rcases h with h | h
      · exact .inl (by rw [h]; exact List.mem_cons_self ..)
      · exact (dicPut_mem h).imp (List.mem_cons_of_mem _) id
theorem dicPut_nodup : ∀ {ks : List Key} {vs : List D} {k : Key} {d : D}, ks.length = vs.length → ks.Nodup → (dicPut ks vs k d).1.Nodup
  | [], _, k, d, _, _ => by simp [dicPut]
  | a :: ks, [], k, d, h, _ => by simp at h
  | a :: ks, x :: vs, k, d, h, nd => by
    have nd' := List.nodup_cons.mp nd
    by_cases e : a = k
    · simp only [dicPut, if_pos e]; exact nd
    · simp only [dicPut, if_neg e]
      refine List.nodup_cons.mpr ⟨fun z => ?_, dicPut_nodup (by simpa using h) nd'.2⟩
      rcases dicPut_mem z with z | z
      · exact nd'.1 z
      · exact e z
/-- the kvs of the library for our pairs -/
theorem mergeD_ok : ∀ {ps : List (Key × D)} {us : List V} {ks : List Key} {vs : List D} {ws : List V}, RepL K T ex H (ps.map (·.2)) us → RepL K T ex H vs ws → ks.length = vs.length → ks.Nodup →
    ∃ ws', mergeK (ks.zip ws) ((ps.map (·.1)).zip us) = (mergeD ks vs ps).1.zip ws' ∧ (mergeD ks vs ps).1.length = ws'.length ∧ RepL K T ex H (mergeD ks vs ps).2 ws'
  | [], us, ks, vs, ws, r, rv, hl, nd => by
    cases (show us = [] from r)
    exact ⟨ws, rfl, by rw [← rv.length]; exact hl, rv⟩
  | p :: ps, _, ks, vs, ws, ⟨u, us, e, r1, r2⟩, rv, hl, nd => by
    subst e
    obtain ⟨w1, h1, h2, h3⟩ := dicPut_put (k := p.1) rv r1 hl nd
    obtain ⟨w2, h4, h5, h6⟩ := mergeD_ok (ps := ps) r2 h3 (dicPut_len hl) (dicPut_nodup hl nd)
    refine ⟨w2, ?_, h5, h6⟩
    show mergeK (putK (ks.zip ws) p.1 u) _ = _
    rw [h1]
    exact h4
theorem mergeD_len : ∀ {ps : List (Key × D)} {ks : List Key} {vs : List D}, ks.length = vs.length → (mergeD ks vs ps).1.length = (mergeD ks vs ps).2.length
  | [], _, _, h => h
  | p :: ps, _, _, h => mergeD_len (ps := ps) (dicPut_len h)
theorem rep_newD {ks : List Key} {ds : List D} {vs : List V} {p : Addr} (hp : H p = none) (hl : ks.length = vs.length) (rl : RepL K T ex H ds vs) : RepO K T (fun b => ex b ∨ b = p) (upd H p (.dK (ks.zip vs))) p (.dic ks ds) :=
  ⟨vs, upd_same, hl, rl.mono fun b o n e => ⟨fun z => z.elim n fun z => ne_of_none e hp z, by rw [upd_ne (ne_of_none e hp)]; exact e⟩⟩
theorem keyD_v {k : D} {key : Key} {v : V} (e : keyD k = some key) (r : Rep K T ex H k v) : v = kV key := by
  cases k <;> first | (cases e; done) | (cases e; exact r)
theorem pairs_rep : ∀ {ds : List D} {ps : List (Key × D)} {vs : List V}, pairsD ds = some ps → RepL K T ex H ds vs → ∃ (as : List Addr) (us : List V), vs = as.map V.ref ∧ RepL K T ex H (ps.map (·.2)) us ∧ Paired (fun (p : Addr) (kv : Key × V) => SqT K H p [kV kv.1, kv.2]) as ((ps.map (·.1)).zip us)
  | [], ps, vs, e, r => by cases e; cases (show vs = [] from r); exact ⟨[], [], rfl, rfl, .nil⟩
  | d :: ds, _, _, e, ⟨v, w, e1, h1, h2⟩ => by
    subst e1
    unfold pairsD at e
    obtain ⟨p, e2, e⟩ := opt_bind e
    obtain ⟨ps, e3, rfl⟩ := Option.map_eq_some_iff.mp e
    obtain ⟨as, us, rfl, r3, pr⟩ := pairs_rep e3 h2
    unfold pairOf at e2
    split at e2
    · rename_i k x
      obtain ⟨key, e4, rfl⟩ := Option.map_eq_some_iff.mp e2
      obtain ⟨a, vs, rfl, _, ha, kv, r4, rfl, hk, xv, r5, rfl, hx, h5⟩ := h1
      cases (show r5 = [] from h5)
      cases keyD_v e4 hk
      exact ⟨a :: as, xv :: us, rfl, ⟨_, _, rfl, hx, r3⟩, .cons (.of ha) pr⟩
    · cases e2
end
theorem cr_dict {X : Cx} {T : Tab} (hc : X.calm = true) : CallR X (.type "dict") (rB X.K T dictD) := cr_of (call_dictP hc) fun xs H Q ⟨ex, ds, ev, dm, r, e, k⟩ => by
  unfold dictD at e
  split at e
  · obtain ⟨ps, e1, rfl⟩ := Option.map_eq_some_iff.mp e
    obtain ⟨v, rfl, a, vs, rfl, h1, h2⟩ := one_of r
    obtain ⟨as, us, rfl, r2, pr⟩ := pairs_rep e1 h2
    obtain ⟨ws, h3, h4, h5⟩ := mergeD_ok (ks := []) (vs := []) (ws := []) r2 rfl rfl List.nodup_nil
    refine ⟨a, as, _, rfl, .of h1, pr, fun p hp => ?_⟩
    rw [show mergeK [] ((ps.map (·.1)).zip us) = (mergeD [] [] ps).1.zip ws from h3]
    exact k _ _ (ext_new hp) ⟨p, rfl, hp, rep_newD hp h4 h5⟩
  · cases e

/-! ### {k: e} -/
section
variable {T : Tab} {X : Cx} {k e : Expr} {pos : Pos} {fk fv : M AV}
theorem Step.moreH {K : PySem.W.Frag} {ex : Addr → Prop} {σ : St} {H H' : Hp} {env e' : Sl} {p : Addr} {o : HO} (hn : H p = none) (s : Step K T (fun b => ex b ∨ b = p) σ (upd H p o) env H' e') : Step K T ex σ H env H' e' :=
  ⟨fun b oo q n => s.fr b oo (ext_new hn b oo q) n, fun b q => s.dm b (fun z => by
    cases q2 : H b with
    | none => exact q q2
    | some oo => rw [ext_new hn b oo q2] at z; cases z), s.sb, s.gd.less⟩
theorem RepX.less {K : PySem.W.Frag} {ex : Addr → Prop} {σ : St} {H' : Hp} {e' : Sl} {p : Addr} {cls : Value} {dd : Option Addr} {x : ExD} (rx : RepX K T (exO (fun b => ex b ∨ b = p) σ e') H' cls dd x) : RepX K T (exO ex σ e') H' cls dd x := ⟨rx.1, rx.2.imp id fun ⟨a, ws, h1, h2, l, rr⟩ => ⟨a, ws, h1, h2, l, rr.mono fun b o n e => ⟨fun z => n (z.imp .inl id), e⟩⟩⟩
def disp1 : AV → AV → M EV
  | .v k, .v d => match keyD k with
    | some key => M.ret (.o (.dic [key] [d]))
    | none => M.stuck
  | _, _ => M.stuck
theorem disp1_inv {a b : AV} {env : Sl} {r : Re EV} (h : disp1 a b env = some r) : ∃ k d key, a = .v k ∧ b = .v d ∧ keyD k = some key ∧ r = .ok (.o (.dic [key] [d])) env := by
  cases a with
  | s i => cases h
  | v k =>
    cases b with
    | s i => cases h
    | v d =>
      have h : (match keyD k with | some key => M.ret (EV.o (OC.dic [key] [d])) | none => M.stuck) env = some r := h
      cases q : keyD k with
      | none => rw [q] at h; cases h
      | some key => rw [q] at h; cases h; exact ⟨_, _, _, rfl, rfl, q, rfl⟩
theorem qe_disp1 (hk : QO T X k fk) (hv : QO T X e fv) : QE T X (.Dict [some k] [e] pos) (M.bind fk fun a => M.bind fv fun b => disp1 a b) := fun pn xe W tk hp =>
  impE (pe_disp (X := X.tr pn xe) (pps_cons (hk pn xe W tk hp) (hv pn xe W tk hp) pps_nil) rfl rfl (fun z => nomatch z) (Nat.succ_le_succ (Nat.zero_le _))) fun σ H Q ⟨ex, env, gd, r, er, o⟩ p hn => by
    have gm := gd.more hn (ext_new (o := .dK []) hn) (by rw [upd_same]; exact fun z => nomatch z)
    unfold M.bind at er
    refine ⟨_, env, gm, ?_⟩
    cases q1 : fk env with
    | none => rw [q1] at er; cases er
    | some ra =>
      rw [q1] at er
      refine ⟨ra, rfl, ?_⟩
      cases ra with
      | exc x e1 => cases er; exact fun cls dd H' s rx => o cls dd H' (Step.moreH hn s) rx.less
      | ok a e1 =>
        dsimp only at er
        intro x H1 s1 ra
        refine ⟨_, e1, s1.gd, ?_⟩
        cases q2 : fv e1 with
        | none => rw [q2] at er; cases er
        | some rb =>
          rw [q2] at er
          refine ⟨rb, rfl, ?_⟩
          cases rb with
          | exc x e2 => cases er; exact fun cls dd H' s rx => o cls dd H' (Step.moreH hn (s1.trans s)) rx.less
          | ok b e2 =>
            dsimp only at er
            obtain ⟨k, d, key, rfl, rfl, hkey, rfl⟩ := disp1_inv er
            intro y H2 s2 rb
            have rk : Rep X.K T _ H2 k x := RepA.step ra s2
            have hpn : ¬ Owns σ env p := fun z => (gm.owned z).2 (.inr rfl)
            have hp1 : H1 p = some (.dK []) := s1.fr p _ upd_same hpn
            have hpn1 : ¬ Owns σ e1 p := fun z => (s1.gd.owned z).2 (.inr rfl)
            have hp2 : H2 p = some (.dK []) := s2.fr p _ hp1 hpn1
            refine ⟨hp2, [(key, y)], by rw [keyD_v hkey rk]; rfl, by simp, ?_⟩
            have st := Step.moreH hn (s1.trans s2)
            have gx := s2.gd
            -- the dict is written
            have mo : ∀ b o, ¬ exO (fun b => ex b ∨ b = p) σ e2 b → H2 b = some o → ¬ exO (fun b => ex b ∨ b = p) σ e2 b ∧ upd H2 p (.dK [(key, y)]) b = some o := fun b o n q => ⟨n, by rw [upd_ne fun z => n (.inl (.inr z))]; exact q⟩
            have gx2 : Good X.K T (fun b => ex b ∨ b = p) σ (upd H2 p (.dK [(key, y)])) e2 := gx.chg (fun b o n q => by rw [upd_ne fun z => n (.inr z)]; exact q) (fun b h => by
              by_cases z : b = p
              · subst z; rw [upd_same]; exact fun z => nomatch z
              · rw [upd_ne z]; exact gx.dom b h)
            refine o (.ref p) _ ⟨fun b oo q n => ?_, fun b q => ?_, st.sb, gx2.less⟩ ⟨p, rfl, hn, ⟨[y], upd_same, rfl, y, [], rfl, ?_, rfl⟩, gx2⟩
            · show upd H2 p _ b = some oo
              rw [upd_ne (ne_of_none q hn)]
              exact st.fr b oo q n
            · show upd H2 p _ b ≠ none
              by_cases z : b = p
              · subst z; rw [upd_same]; exact fun z => nomatch z
              · rw [upd_ne z]; exact st.dm b q
            · have rb : Rep X.K T _ H2 d y := rb
              refine Rep.mono (fun b o n q => ⟨fun z => n ?_, (mo b o n q).2⟩) rb
              rcases z with (z | z) | z
              · exact .inl (.inl z)
              · exact .inr z
              · exact .inl (.inr z)
end

/-! ### repeats -/
def repS (s : List Nat) (n : Int) : List Nat := (List.replicate n.toNat s).flatten
def mulS : D → D → Option EV := fun x y => match x, y with
  | .str s, .int n => if (s.length ≤ 100 ∧ 1 ≤ s.length) ∧ -1000 ≤ n ∧ n ≤ 1000 then some (.v (.str (repS s n))) else none
  | _, _ => none
def mulL : D → D → Option EV := fun x y => match x, y with
  | .lst xs, .int n => if xs.length ≤ 1000 ∧ -1000 ≤ n ∧ n ≤ 1000 then some (.o (.lst (List.replicate n.toNat xs).flatten)) else none
  | _, _ => none
def mulT : D → D → Option EV := fun x y => match x, y with
  | .tup xs, .int n => if (1 ≤ xs.length ∧ xs.length ≤ 1000) ∧ 2 ≤ n ∧ n ≤ 1000 then some (.v (.tup (List.replicate n.toNat xs).flatten)) else none
  | _, _ => none
theorem mul_txt (s : List Nat) (n : Int) (h : 1 ≤ s.length) : Txt.mul (mkS s) n = mkS (repS s n) := by
  unfold Txt.mul repS
  by_cases h1 : n < 1
  · rw [if_pos h1]
    have : n.toNat = 0 := by omega
    rw [this]; rfl
  · rw [if_neg h1]
    by_cases h2 : n = 1
    · subst h2
      simp
    · have e : (n == 1 || (mkS s).length == 0) = false := by
        rw [Bool.or_eq_false_iff]
        exact ⟨beq_eq_false_iff_ne.mpr h2, beq_eq_false_iff_ne.mpr (by rw [mkS_len]; omega)⟩
      rw [if_neg (by rw [e]; exact Bool.false_ne_true)]
      have key : ∀ (k : Nat) (acc : Array Nat), (List.replicate k s.toArray).foldl (· ++ ·) acc = acc ++ ((List.replicate k s).flatten).toArray := fun k => by
        induction k with
        | zero => intro acc; simp
        | succ k ih =>
          intro acc
          rw [List.replicate_succ, List.foldl_cons, ih, List.replicate_succ, List.flatten_cons]
          simp
      show (⟨_⟩ : Str) = ⟨_⟩
      congr 1
      have := key n.toNat #[]
      simp only [Array.empty_append] at this
      exact this
section
variable {X : Cx} {T : Tab}
theorem op_mulS : OpR X (binaryOp .Mult) (rQ X.K T mulS) := by
  intro pins s σ H x y v u Q I rx ry ⟨ex, d1, d2, ev, dm, r1, r2, e, k⟩
  unfold mulS at e
  split at e
  · rename_i z n
    split at e
    · rename_i h
      cases e
      cases (show x = V.str (mkS z) from r1)
      cases (show y = V.int n from r2)
      obtain ⟨t, rfl⟩ := rx
      obtain ⟨t', rfl⟩ := ry
      have hl := mkS_len z
      refine SB.mul ⟨by rw [Bool.or_eq_false_iff]; exact ⟨decide_eq_false (by omega), decide_eq_false (by omega)⟩, fun h1 _ => ?_, fun h1 _ => ?_⟩ fun t' tk => ⟨.str (Txt.mul (mkS z) n), H, I.tok tk, ⟨_, rfl⟩, k _ H ext_refl ?_⟩
      · rw [hl]
        have : (100 : Int) ≤ (2 ^ 63 - 1) / n := by
          rw [Int.le_ediv_iff_mul_le (by omega)]
          omega
        omega
      · unfold Builtin.Str.tooLong
        rw [hl]
        have h2 : z.length * n.toNat ≤ 100 * 1000 := Nat.mul_le_mul h.1.1 (by omega)
        have := sizeLine_eq
        first
        | (simp only [decide_eq_false_iff_not]; omega)
        | (refine decide_eq_false ?_; omega)
      · show V.str _ = V.str _
        rw [mul_txt z n h.1.2]
    · cases e
  · cases e
theorem op_mulL : OpR X (binaryOp .Mult) (rQ X.K T mulL) := op_of op_rep fun x y H Q ⟨ex, d1, d2, ev, dm, r1, r2, e, k⟩ => by
  unfold mulL at e
  split at e
  · split at e
    · rename_i xs n h
      cases e
      obtain ⟨a, vs, rfl, h1, h2⟩ := r1
      have hz : vs.length * n.toNat ≤ 1000 * 1000 := Nat.mul_le_mul (by rw [← h2.length]; exact h.1) (by omega)
      refine ⟨a, n, vs, rfl, r2, h1, by omega, by omega, by rw [sizeLine_eq]; omega, fun p hp => k _ _ (ext_new hp) ⟨p, rfl, hp, rep_newL hp (h2.rep _)⟩⟩
    · cases e
  · cases e
theorem op_mulT : OpR X (binaryOp .Mult) (rQ X.K T mulT) := op_of op_repT fun x y H Q ⟨ex, d1, d2, ev, dm, r1, r2, e, k⟩ => by
  unfold mulT at e
  split at e
  · split at e
    · rename_i xs n h
      cases e
      obtain ⟨a, vs, rfl, _, h1, h2⟩ := r1
      have hl := h2.length
      refine ⟨a, n, vs, rfl, r2, .of h1, fun z => by rw [z, List.length_nil] at hl; omega, by omega, by omega, by omega, fun p hp => k _ _ (ext_new hp) ⟨p, _, rfl, fun z => dm p z hp, upd_same, (h2.rep _).mono fun b o nb e => ⟨nb, ext_new hp b o e⟩⟩⟩
    · cases e
  · cases e
theorem op_mulQ : OpR X (binaryOp .Mult) (rQ X.K T (orD mulI (orD mulS (orD mulL mulT)))) := op_or op_mulI (op_or op_mulS (op_or op_mulL op_mulT))
end
def mulD := orD mulI (orD mulS (orD mulL mulT))
end Dt
end
section
set_option maxRecDepth 100000
set_option maxHeartbeats 4000000
/-! QZ: the law's own head for promises with room for repr (our turn of the library's). -/
namespace Dt
open PySem PySem.Spec L2
open PyProof.Rows hiding St
theorem rg_caller {k : Nat} (h : Room k callerA) : RG k callerA := ⟨h, rfl⟩
theorem law_callG {P : Program} {w : World} {K : PySem.W.Frag} {mg mb : Str → Option Value} {k : Nat} {fa a : Addr} {sp : Sp} {s₁ : Shared} {vs : List Value} {ns : List Int}
    (KX : K.In s₁.heap) (hns : s₁.heap.Ns mainGlobals mg) (hb : s₁.heap.Ns builtinsNs mb) (hbb : ∀ x : Str, x ≠ "__name__" → mb x = bootBuiltins x) (hlim : s₁.heap.NoLimit) (hg : s₁.gens = #[])
    (ha : s₁.heap.get? a = some { cls := .type "list", data := .seq vs.toArray }) (hi : IntsAre vs ns) (hl : ns.length ≤ sizeLine) (hr : RG k callerA)
    (F : ∀ base : Heap, K.In base → base.Ns mainGlobals mg → FnG P w K mg base k fa sp)
    (hsp : ∀ H : Hp, Only H → SqL K H a (ns.map V.int) → sp [.ref a] H (fun v _ => v = .bl true) fun _ _ _ => False) :
    codeAny (model P w) callerA (.call (.ref fa) ⟨[.ref a], []⟩) (fun r s' => r = .ok (.ret (.bool true)) ∧ OldK s₁.heap s'.heap ∧ s'.os = s₁.os ∧ AllBare s'.gens) s₁ := by
  have rv := vals_ints hi
  have lenV := hi.length
  -- from an abstract heap in which nothing but the script may be tracked
  have core : ∀ H : Hp, Only H → SqL K H a (ns.map V.int) → HOk P w H s₁.heap → (∀ b, H b ≠ none → b = a) → (H a ≠ none → K.lookup a = none) →
      codeAny (model P w) callerA (.call (.ref fa) ⟨[.ref a], []⟩) (fun r s' => r = .ok (.ret (.bool true)) ∧ OldK s₁.heap s'.heap ∧ s'.os = s₁.os ∧ AllBare s'.gens) s₁ := by
    intro H hO hS hok hA hK
    have base_of : ∀ {b : Addr} {o : Obj}, s₁.heap.get? b = some o → H b = none → (hidT s₁.heap H).get? b = some o := fun e n => hidT_get e n
    have noA : ∀ {b : Addr} {o : Obj} {es : Array DictEntry} {ep : Nat}, s₁.heap.get? b = some o → o.data = .dict es ep → H b = none := fun {b o es ep} e d => by
      cases q : H b with
      | none => rfl
      | some u =>
        have e' : b = a := hA b (by rw [q]; simp)
        subst e'
        rw [ha] at e; cases e
        have d' : Data.seq vs.toArray _ = Data.dict es ep := d
        cases d'
    have nsK : ∀ {b : Addr} {m : Str → Option Value}, s₁.heap.Ns b m → (hidT s₁.heap H).Ns b m := fun {b m} ⟨o, es, ep, e, d, r⟩ => ⟨o, es, ep, base_of e (noA e d), d, r⟩
    have hKb : K.In (hidT s₁.heap H) := fun b o e => base_of (KX b o e) (by
      cases q : H b with
      | none => rfl
      | some u =>
        have e' : b = a := hA b (by rw [q]; simp)
        subst e'
        rw [hK (by rw [q]; simp)] at e; cases e)
    have hM : Mod K mg (hidT s₁.heap H) := ⟨hKb, nsK hns, ⟨mb, nsK hb, hbb⟩, let ⟨mc, h1, h2⟩ := hlim; ⟨mc, nsK h1, h2⟩⟩
    have e0 : Env0 P w K mg (hidT s₁.heap H) callerA [] s₁ H := ⟨rfl, hM, fun b o e => of_hidT e, Nat.le_of_eq (hidT_size _ _), trivial, fun b hb => absurd (show b ∈ ([] : List Addr) from hb) (by simp), hok, .of_eq hg⟩
    refine codeAny_mono (F _ hKb (nsK hns) callerA [] s₁ H [.ref a] [.ref a] _ _ hr e0 (.cons rfl .nil) (hsp H hO hS)) fun r s' h => ?_
    cases r with
    | error e =>
      obtain ⟨_, _, _, _, _, _, _, _, _, _, _, _, z⟩ := h
      exact z.elim
    | ok fl =>
      cases fl with
      | next => exact False.elim h
      | brk => exact False.elim h
      | cont => exact False.elim h
      | ret u =>
        obtain ⟨v, H', os, bare, un, hok', r', q⟩ := h
        have q' : v = .bl true := q
        subst q'
        obtain rfl : u = Value.bool true := r'
        refine ⟨rfl, OldK.of_keep fun b o e => ?_, os, bare⟩
        cases q : H b with
        | none => exact un.keep b o e q (by intro z; exact absurd (show b ∈ ([] : List Addr) from z) (by simp)) (by simp)
        | some u =>
          rcases hO b with z | ⟨ob, xs, z⟩
          · rw [q] at z; cases z
          · have z2 := un.frzs b ob _ z
            obtain ⟨e1, _⟩ := hok b _ z
            obtain ⟨e2, _⟩ := hok' b _ z2
            rw [e] at e1; cases e1
            exact e2
  cases hk : K.lookup a with
  | some o =>
    -- the script is one of the module's own objects
    have e := KX a o hk
    rw [ha] at e
    cases e
    refine core (fun _ => none) (fun _ => .inl rfl) (.inr ⟨_, vs.toArray, _, hk, rfl, rfl, rfl, by rw [List.size_toArray, lenV]; exact hl, by simpa using rv⟩) (fun b u z => by have z' : (none : Option HO) = some u := z; cases z') (fun b z => absurd rfl z) fun z => absurd rfl z
  | none =>
    refine core (fun b => if b = a then some (.frz { cls := .type "list", data := .seq vs.toArray } (.lst (ns.map V.int))) else none) (fun b => ?_) (.inl (.inr ⟨{ cls := .type "list", data := .seq vs.toArray }, if_pos rfl⟩)) (fun b u z => ?_) (fun b z => ?_) fun _ => hk
    · by_cases hb : b = a
      · exact .inr ⟨_, _, if_pos hb⟩
      · exact .inl (if_neg hb)
    · by_cases hb : b = a
      · have z' := (if_pos hb).symm.trans z
        cases z'
        subst hb
        exact ⟨ha, by rw [List.length_map]; exact hl, vs, _, rv, ha⟩
      · have z' := (if_neg hb).symm.trans z
        cases z'
    · by_cases hb : b = a
      · exact hb
      · exact absurd (if_neg hb) z

/-- the law's promise, from its mirror -/
theorem law_sp {K : PySem.W.Frag} {T : Tab} {g : M EV} {H : Hp} {a : Addr} {ns : List Int} (hg : ∃ e, g [.val (.scr ns)] = some (.ok (.v (.bl true)) e)) (hO : Only H) (hS : SqL K H a (ns.map V.int)) : spD K T g [.ref a] H (fun v _ => v = .bl true) fun _ _ _ => False := by
  obtain ⟨e, hg⟩ := hg
  refine ⟨fun _ => False, [.val (.scr ns)], ⟨rfl, fun i d e => ?_, fun i c e => ?_, fun i j a c c' e1 e2 e3 e4 => ?_, fun a h => h.elim⟩, _, hg, fun v H' s rv => rv⟩
  · match i, e with
    | 0, e =>
      cases e
      refine ⟨.ref a, rfl, a, rfl, ?_⟩
      rcases hS with (h | ⟨o, h⟩) | h
      · rcases hO a with z | ⟨o, xs, z⟩ <;> (rw [z] at h; cases h)
      · refine .inl ⟨fun z => ?_, o, h⟩
        rcases z with z | ⟨i, c, e1, e2⟩
        · exact z
        · match i, e1 with
          | 0, e1 => cases e1
          | i + 1, e1 => simp at e1
      · exact .inr h
    | i + 1, e => simp at e
  · match i, e with
    | 0, e => cases e
    | i + 1, e => simp at e
  · match i, e1 with
    | 0, e1 => cases e1
    | i + 1, e1 => simp at e1
theorem walkG {l : PySem.W.OpenLaw} {n k : Nat} {q : Program} {loose : List Str} {XP : (Str → Option Value) → Heap → Prop} {YP : World → Heap → Prop} {d : DefRec} {K : Params → PySem.W.Frag}
    (hn : l.most = some n) (hn2 : n ≤ sizeLine) (hdf : d.params.defaults = []) (hr : Room k callerA) (hY : ∀ (w : World) (h : Heap), YP w h → (K w.params).In h)
    (F : ∀ (w : World) (mg : Str → Option Value) (fa : Addr) (h : Heap), (K w.params).In h → h.Ns mainGlobals mg → mg d.name = some (.ref fa) →
      ∃ (T : Tab) (g : M EV), (∀ ns : List Int, ns.length ≤ n → ∃ e, g [.val (.scr ns)] = some (.ok (.v (.bl true)) e)) ∧ ∀ base : Heap, (K w.params).In base → base.Ns mainGlobals mg → FnG l.prog w (K w.params) mg base k fa (spD (K w.params) T g)) :
    PySem.W.WalkO q loose XP YP l.row.toRowW d [] (fun f vs => PySem.call f vs) := by
  refine Att.attach_call hn hdf fun w s₀ s₁ mg mb fa o pm cd doc a vs ns G Y ho hd hcd hmg hobj hints hlen hg => ?_
  have KX := hY w _ Y
  obtain ⟨T, g, hgt, hF⟩ := F w mg fa _ KX G.T.g hmg
  exact law_callG KX G.T.g G.T.b G.T.builtins G.T.nolimit hg hobj hints (Nat.le_trans hlen hn2) (rg_caller hr) hF fun H hO hS => law_sp (hgt ns hlen) hO hS
end Dt
end
section
set_option maxRecDepth 100000
set_option maxHeartbeats 4000000
/-! QW: targets assigned, -i, tables of one class. -/
namespace Dt
open PySem PySem.Spec L2
open PyProof.Rows hiding St

def sAsg (f : M EV) (t : D → Sl → Option Sl) : S := sE f fun ev env => (frz ev).bind fun d => (t d env).map .nx
section
variable {T : Tab} {X : Cx} {np : Nat → Bool} {pos : Pos} {tg e : Expr} {f : M EV} {t : D → Sl → Option Sl}
theorem qs_asg (h : QE T X e f) (hg : QG T X np tg t) (hs : swapsWithSole [tg] e pos.line X.env = pure false := by rfl) (hw : swappedStores [tg] e X.env = pure none := by rfl)
    (h1 : (assignEach [tg] X.env).map (·.2) = [assign tg X.env] := by rfl) : QS T X np (.Assign [tg] e pos) (sAsg f t) := fun pn xe W tk hp =>
  impS (ps_asg (X := X.tr pn xe) (h pn xe W tk hp) (hg pn xe) hs hw h1) fun D σ H q => by
    obtain ⟨ex, env, z⟩ := trS_expr q (relE X.K T)
    refine ⟨ex, env, z.mono fun v H1 ⟨ex, env, H0, env1, ev, g0, s1, ra, ts, o⟩ => ?_⟩
    obtain ⟨g1, r, er, oo⟩ := ts
    obtain ⟨d, e1, er⟩ := opt_bind er
    obtain ⟨env2, e2, rfl⟩ := Option.map_eq_some_iff.mp er
    exact ⟨ex, env1, d, env2, g1, RepE.frz g0 s1 ra e1, e2, fun σ' H' s => oo σ' H' s⟩
end
/-! ### -i -/
def negD : D → Option EV
  | .int i => some (.v (.int (-i)))
  | _ => none
def eNeg (fa : M AV) : M EV := M.bind fa fun a => fun env => (deref env a).bind fun d => lift (negD d) env
theorem qe_neg {T : Tab} {X : Cx} {a : Expr} {fa : M AV} {pos : Pos} (h : QO T X a fa) : QE T X (.UnaryOp .USub a pos) (eNeg fa) := fun pn xe W tk hp =>
  impE (pe_un (X := X.tr pn xe) un_neg (h pn xe W tk hp)) fun σ H Q ⟨ex, env, q⟩ => ⟨ex, env, (trx_bind (relA X.K T) rmE q).mono fun v H1 ⟨a, env1, s, ra, g, r, er, o⟩ => by
    obtain ⟨d, e1, er⟩ := opt_bind er
    cases d with
    | int i =>
      cases er
      exact ⟨i, deref_ok g ra e1, o _ H1 (Step.refl g) rfl⟩
    | _ => cases er⟩

/-! ### tables of one class -/
def one {α : Type} (t0 : Nat) (g : α) : Nat → Option α := fun t => if t = t0 then some g else none
theorem one_inv {α : Type} {t0 t : Nat} {g g' : α} (h : one t0 g t = some g') : t = t0 ∧ g' = g := by
  unfold one at h
  split at h
  · cases h; exact ⟨by assumption, rfl⟩
  · cases h
section
variable {T : Tab} {X : Cx} {m : Str} {t0 k : Nat} {f p : Addr} {g : M EV}
theorem spec_one (h1 : PySem.W.findIn X.K (.ref (T.cls t0)) m = some (some (.ref f))) (h2 : PySem.W.isFn X.K (.ref f) = true) (h3 : PySem.W.fnIn X.K f = true) (h4 : PySem.W.noSeq X.K (T.cls t0) = true) (hr : RG (k + 1) X.A) (F : FnQ T X k f g) : SpecOK T X m (fun _ => True) (one t0 g) :=
  ⟨fun t g' e => by obtain ⟨rfl, rfl⟩ := one_inv e; exact ⟨f, k, h1, h2, h3, h4, hr, F, trivial⟩⟩
theorem meth_one (h0 : m ∉ FL t0) (hc : Cls X.K (T.cls t0)) (hm : Meth X.K (T.cls t0) m f) (hr : RG k X.A) (F : FnQ T X k f g) : MethOK T X m (one t0 g) :=
  ⟨fun t g' e => by obtain ⟨rfl, rfl⟩ := one_inv e; exact ⟨h0, hc, f, k, hm, hr, F⟩⟩
theorem prop_one (hc : Cls X.K (T.cls t0)) (hp : PropOf X.K (T.cls t0) m p f) (hr : RG (k + 1) X.A) (F : FnQ T X k f g) : PropsOK T X m (one t0 g) :=
  ⟨fun t g' e => by obtain ⟨rfl, rfl⟩ := one_inv e; exact ⟨hc, p, f, k, hp, hr, F⟩⟩
theorem fld_one {K : PySem.W.Frag} {f : Str} {j0 : Nat} (h1 : (FL t0)[j0]? = some f) (hc : Cls K (T.cls t0)) (hn : NoAttr K (T.cls t0) f) : ∀ t j, one t0 j0 t = some j → (FL t)[j]? = some f ∧ Cls K (T.cls t) ∧ NoAttr K (T.cls t) f :=
  fun t j e => by obtain ⟨rfl, rfl⟩ := one_inv e; exact ⟨h1, hc, hn⟩
end
/-! ### built-in classes -/
def isInt : IsT := ⟨fun n => n == 2 || n == 1, fun _ => none⟩
def isBool : IsT := ⟨fun n => n == 1, fun _ => none⟩
def isStr : IsT := ⟨fun n => n == 3, fun _ => none⟩
def isTup : IsT := ⟨fun n => n == 4, fun _ => none⟩
def isLst : IsT := ⟨fun n => n == 5, fun _ => none⟩
def isDic : IsT := ⟨fun n => n == 6, fun _ => none⟩
theorem isok_of {K : PySem.W.Frag} {T : Tab} {I : IsT} {s : String} (h : ∀ n, n < 7 → kitB (kindT n) s = some (I.k n)) (ho : ∀ t, I.o t = none) : IsOK K T I (.type s) := ⟨fun n hn => kit_ty (h n hn), fun t b e => by rw [ho] at e; cases e⟩
theorem isok_int {K : PySem.W.Frag} {T : Tab} : IsOK K T isInt (.type "int") := isok_of (by decide +kernel) fun _ => rfl
theorem isok_bool {K : PySem.W.Frag} {T : Tab} : IsOK K T isBool (.type "bool") := isok_of (by decide +kernel) fun _ => rfl
theorem isok_str {K : PySem.W.Frag} {T : Tab} : IsOK K T isStr (.type "str") := isok_of (by decide +kernel) fun _ => rfl
theorem isok_tup {K : PySem.W.Frag} {T : Tab} : IsOK K T isTup (.type "tuple") := isok_of (by decide +kernel) fun _ => rfl
theorem isok_lst {K : PySem.W.Frag} {T : Tab} : IsOK K T isLst (.type "list") := isok_of (by decide +kernel) fun _ => rfl
/-- a def of the text, with its function object left open -/
structure Fx (K : PySem.W.Frag) (x qual : Str) (st : Stmt) (f : Addr) : Prop where
  kp : PySem.W.keepIn K (.ref f) = true
  ex : ∃ fd, Fun K x qual st f fd
theorem fx_of {K : PySem.W.Frag} {x qual : Str} {st : Stmt} {f : Addr} (h : ∃ (oc : Value) (od an : Option Addr) (sl : Array (Option Value)) (kV dc pm cd ct : Value), K.lookup f = some ⟨oc, od, .func (PySem.W.fnOf x qual (defArgs st) (defBody st) (defScope st) .none kV dc pm an cd ct), sl⟩ ∧ PySem.W.codeIn K cd qual = true)
    (k : PySem.W.keepIn K (.ref f) = true) : ∃ fd, Fun K x qual st f fd := by
  obtain ⟨oc, od, an, sl, kV, dc, pm, cd, ct, l, c⟩ := h
  exact ⟨_, fun_mk l c k⟩
/-- an error of the class at C is one of the class at S -/
theorem exm_of {K : PySem.W.Frag} {C S : Addr} (h1 : PySem.W.subIn K (.ref S) (.type "BaseException") = some true) (h2 : PySem.W.isClsIn K S = true) (h3 : PySem.W.typeIn K (.ref S) = some (.type "type")) (h4 : PySem.W.subIn K (.ref C) (.ref S) = some true) :
    PySem.W.exmOne K (.ref C) (.ref S) = some true := by
  have e1 : (PySem.W.subIn K (.ref S) (.type "BaseException") == some true) = true := by rw [h1] <;> rfl
  have e2 : ((PySem.W.clsIn K S).isSome && PySem.W.typeIn K (.ref S) == some (.type "type")) = true := by
    have h2' : (PySem.W.clsIn K S).isSome = true := h2
    rw [h2', h3] <;> rfl
  show (if (PySem.W.subIn K (.ref S) (.type "BaseException") == some true) = true then (if ((PySem.W.clsIn K S).isSome && PySem.W.typeIn K (.ref S) == some (.type "type")) = true then PySem.W.subIn K (.ref C) (.ref S) else none) else none) = some true
  rw [if_pos e1, if_pos e2]
  exact h4
/-- the room of a body -/
theorem RG.u64 {k : Nat} {A : Around} (h : RG k A) : A.units + 64 < cLine := by have := h.r.un; omega
theorem RG.u1 {k : Nat} {A : Around} (h : RG k A) : A.units + 1 < cLine := by have := h.r.un; omega
end Dt
end
section
set_option maxRecDepth 100000
set_option maxHeartbeats 4000000
/-! MA: loops and comprehensions computed. -/
namespace Dt
open PySem
/-- a loop that runs through -/
theorem forL_ex {t : D → Sl → Option Sl} {body : S} (I : Nat → Sl → Prop) : ∀ (ds : List D) (k : Nat) (e : Sl), I k e → (∀ j e d, ds[j]? = some d → I (k + j) e → ∃ e1 e2, t d e = some e1 ∧ body e1 = some (.nx e2) ∧ I (k + j + 1) e2) →
    ∃ e', forL t body ds e = some (.nx e') ∧ I (k + ds.length) e'
  | [], k, e, h, _ => ⟨e, rfl, h⟩
  | d :: ds, k, e, h, st => by
    obtain ⟨e1, e2, h1, h2, h3⟩ := st 0 e d rfl h
    obtain ⟨e', h4, h5⟩ := forL_ex I ds (k + 1) e2 h3 fun j e d' hd hi => by
      have := st (j + 1) e d' (by simpa using hd) (by rwa [show k + (j + 1) = k + 1 + j by omega])
      rwa [show k + (j + 1) + 1 = k + 1 + j + 1 by omega] at this
    refine ⟨e', ?_, by rwa [List.length_cons, show k + (ds.length + 1) = k + 1 + ds.length by omega]⟩
    unfold forL
    rw [h1]
    simp only [h2, h4]
/-- the same with an invariant of the slots alone -/
theorem forL_inv {t : D → Sl → Option Sl} {body : S} (I : Sl → Prop) (ds : List D) (e : Sl) (h : I e) (st : ∀ e d, d ∈ ds → I e → ∃ e1 e2, t d e = some e1 ∧ body e1 = some (.nx e2) ∧ I e2) : ∃ e', forL t body ds e = some (.nx e') ∧ I e' :=
  forL_ex (fun _ => I) ds 0 e h fun j e d hd hi => st e d (List.mem_of_getElem? hd) hi
/-- a loop as a fold: the slots by a state -/
theorem forL_fold {α : Type} {t : D → Sl → Option Sl} {body : S} (F : α → Sl) (step : α → D → α) : ∀ (ds : List D) (s : α), (∀ s d, d ∈ ds → ∃ e1, t d (F s) = some e1 ∧ body e1 = some (.nx (F (step s d)))) → forL t body ds (F s) = some (.nx (F (ds.foldl step s)))
  | [], s, _ => rfl
  | d :: ds, s, h => by
    obtain ⟨e1, h1, h2⟩ := h s d (List.mem_cons_self ..)
    unfold forL
    rw [h1]
    simp only [h2]
    exact forL_fold F step ds _ fun s d hd => h s d (List.mem_cons_of_mem _ hd)
section
variable {vs : List Nat} {t : D → Sl → Option Sl} {c : M Bool} {f : M EV}
theorem compL_cons {d : D} {ds acc : List D} {e : Sl} : compL vs t c f (d :: ds) acc e = (compL vs t c f [d] acc e).bind fun p => compL vs t c f ds p.1 p.2 := by
  simp only [compL]
  cases t d e with
  | none => rfl
  | some e1 =>
    dsimp only
    cases c e1 with
    | none => rfl
    | some r =>
      cases r with
      | exc x e2 => rfl
      | ok b e2 =>
        cases b with
        | false => rfl
        | true =>
          dsimp only
          cases f e2 with
          | none => rfl
          | some r =>
            cases r with
            | exc x e3 => rfl
            | ok v e3 =>
              dsimp only
              cases frz v with
              | none => rfl
              | some x => rfl
/-- one turn -/
theorem compL_one {d x : D} {acc : List D} {e e1 e2 e3 : Sl} {v : EV} (h1 : t d e = some e1) (h2 : c e1 = some (.ok true e2)) (h3 : f e2 = some (.ok v e3)) (h4 : frz v = some x) : compL vs t c f [d] acc e = some (acc ++ [x], wipeE e3 vs) := by
  simp only [compL, h1, h2, h3, h4]
theorem compL_no {d : D} {acc : List D} {e e1 e2 : Sl} (h1 : t d e = some e1) (h2 : c e1 = some (.ok false e2)) : compL vs t c f [d] acc e = some (acc, wipeE e2 vs) := by
  simp only [compL, h1, h2]
/-- a comprehension without effects: what is left of the items, each with its value -/
theorem compL_pure (p : D → Bool) (g : D → D) {e : Sl} : ∀ (ds acc : List D), (∀ acc d, d ∈ ds → compL vs t c f [d] acc e = some (acc ++ (if p d = true then [g d] else []), e)) → compL vs t c f ds acc e = some (acc ++ (ds.filter p).map g, e)
  | [], acc, _ => by simp [compL]
  | d :: ds, acc, h => by
    rw [compL_cons, h acc d (List.mem_cons_self ..)]
    show compL vs t c f ds _ e = _
    rw [compL_pure p g ds _ fun acc d hd => h acc d (List.mem_cons_of_mem _ hd)]
    by_cases q : p d = true
    · simp [q]
    · simp [q]
/-- .. with effects: an invariant of the slots, P of the items kept -/
theorem compL_inv (I : Sl → Prop) (P : D → Prop) : ∀ (ds acc : List D) (e : Sl), I e → (∀ acc e d, d ∈ ds → I e → ∃ xs e', compL vs t c f [d] acc e = some (acc ++ xs, e') ∧ I e' ∧ ∀ x ∈ xs, P x) →
    ∃ xs e', compL vs t c f ds acc e = some (acc ++ xs, e') ∧ I e' ∧ ∀ x ∈ xs, P x
  | [], acc, e, h, _ => ⟨[], e, by simp [compL], h, fun _ h => by cases h⟩
  | d :: ds, acc, e, h, st => by
    obtain ⟨xs, e1, h1, h2, h3⟩ := st acc e d (List.mem_cons_self ..) h
    obtain ⟨ys, e2, h4, h5, h6⟩ := compL_inv I P ds (acc ++ xs) e1 h2 fun acc e d hd hi => st acc e d (List.mem_cons_of_mem _ hd) hi
    refine ⟨xs ++ ys, e2, ?_, h5, fun x hx => (List.mem_append.mp hx).elim (h3 x) (h6 x)⟩
    rw [compL_cons, h1]
    show compL vs t c f ds _ _ = _
    rw [h4, List.append_assoc]
end
theorem forL_is {t : D → Sl → Option Sl} {body : S} {ds : List D} {e : Sl} {r : Option SR} (I : Nat → Sl → Prop) (h : forL t body ds e = r) (h0 : I 0 e) (st : ∀ j e d, ds[j]? = some d → I j e → ∃ e1 e2, t d e = some e1 ∧ body e1 = some (.nx e2) ∧ I (j + 1) e2) : ∃ e', r = some (.nx e') ∧ I ds.length e' := by
  obtain ⟨e', h1, h2⟩ := forL_ex (t := t) (body := body) I ds 0 e h0 fun j e d hd hi => by simpa using st j e d hd (by simpa using hi)
  exact ⟨e', h ▸ h1, by simpa using h2⟩
theorem compL_is {vs : List Nat} {t : D → Sl → Option Sl} {c : M Bool} {f : M EV} {ds : List D} {e : Sl} {r : Option (List D × Sl)} (p : D → Bool) (g : D → D) (h : compL vs t c f ds [] e = r) (st : ∀ acc d, d ∈ ds → compL vs t c f [d] acc e = some (acc ++ (if p d = true then [g d] else []), e)) : r = some ((ds.filter p).map g, e) := by
  rw [← h]; simpa using compL_pure p g ds [] st
theorem compL_in {vs : List Nat} {t : D → Sl → Option Sl} {c : M Bool} {f : M EV} {ds : List D} {e : Sl} {r : Option (List D × Sl)} (I : Sl → Prop) (P : D → Prop) (h : compL vs t c f ds [] e = r) (h0 : I e) (st : ∀ acc e d, d ∈ ds → I e → ∃ xs e', compL vs t c f [d] acc e = some (acc ++ xs, e') ∧ I e' ∧ ∀ x ∈ xs, P x) : ∃ xs e', r = some (xs, e') ∧ I e' ∧ ∀ x ∈ xs, P x := by
  obtain ⟨xs, e', h1, h2⟩ := compL_inv I P ds [] e h0 st
  exact ⟨xs, e', h ▸ by simpa using h1, h2⟩
theorem mutM_of {op : List D → List D → Option (D × List D)} {i : Nat} {fs : M (List AV)} {env env' : Sl} {as : List AV} {xs ds ys : List D} {d : D} (h0 : ownLst env[i]? = true) (h1 : fs env = some (.ok as env')) (h2 : env'[i]? = some (.own (.lst xs))) (h3 : vals as = some ds) (h4 : op xs ds = some (d, ys)) : mutM op i fs env = some (.ok (.v d) (env'.set i (.own (.lst ys)))) := by
  unfold mutM
  rw [if_pos h0]
  simp only [M.bind, h1, h2, h3, h4, Option.bind]
theorem asCons_of {f : M AV} {g : M (List AV)} {env e1 e2 : Sl} {a : AV} {as : List AV} (h1 : f env = some (.ok a e1)) (h2 : g e1 = some (.ok as e2)) : asCons f g env = some (.ok (a :: as) e2) := by
  simp only [asCons, M.bind, h1, h2, M.ret]
theorem toA_of {f : M EV} {env e1 : Sl} {d : D} (h1 : f env = some (.ok (.v d) e1)) : toA f env = some (.ok (.v d) e1) := by
  simp only [toA, M.bind, h1, frz, M.ret]
theorem toA_own {f : M EV} {env e1 : Sl} {c : OC} {d : D} (h1 : f env = some (.ok (.o c) e1)) (h2 : frzC c = some d) : toA f env = some (.ok (.v d) e1) := by
  simp only [toA, M.bind, h1, frz, h2, M.ret]
theorem sExpr_of {f : M EV} {env e1 : Sl} {v : EV} (h1 : f env = some (.ok v e1)) : sExpr f env = some (.nx e1) := by
  simp only [sExpr, sE, h1]
/-- strings as data -/
abbrev strL (ss : List (List Nat)) : List D := ss.map D.str
@[simp] theorem strsOf_map (ss : List (List Nat)) : strsOf (ss.map D.str) = some ss := by
  induction ss with
  | nil => rfl
  | cons s ss ih => simp [strsOf, ih]
@[simp] theorem toPL_strs (ss : List (List Nat)) : toPL (ss.map D.str) = some (ss.map fun s => .str (mkS s)) := by
  induction ss with
  | nil => simp [toPL]
  | cons s ss ih => simp [toPL, toP, ih]
@[simp] theorem blsOf_map (bs : List Bool) : blsOf (bs.map D.bl) = some bs := by
  induction bs with
  | nil => rfl
  | cons s ss ih => simp [blsOf, ih]
@[simp] theorem intsOf_map (bs : List Int) : intsOf (bs.map D.int) = some bs := by
  induction bs with
  | nil => rfl
  | cons s ss ih => simp [intsOf, ih]
end Dt
end
section
set_option maxRecDepth 100000
set_option maxHeartbeats 4000000
/-! the law's defs: printed by gen.py from the law's text. -/
namespace Lw
open PySem PySem.Spec L2 Dt
open PyProof.Rows hiding St
def top (i : Nat) : Stmt := PySem.Challenge.pw_quotaboard_k03_rows_of_boards_by_their_s.main.body.getD i (.Pass ⟨0, 0, 0, 0⟩)
abbrev st__law_source : Stmt := top 15
abbrev st__law_cell : Stmt := top 14
abbrev st__law_draw : Stmt := top 16
abbrev st__law_all_rows : Stmt := top 19
abbrev st__law_choose : Stmt := top 17
abbrev st__law_mixed : Stmt := top 20
abbrev st__law_rows : Stmt := top 21
abbrev st_is_answers : Stmt := top 9
abbrev st_are_rows : Stmt := top 10
abbrev st_Board___init__ : Stmt := inClass (top 11) 1
abbrev st_Board_read : Stmt := inClass (top 11) 4
abbrev st__law_is_equal : Stmt := top 18
abbrev st_Board___contains__ : Stmt := inClass (top 11) 7
abbrev st_is_integer : Stmt := top 8
abbrev st_Board___getitem__ : Stmt := inClass (top 11) 9
abbrev st__law_at : Stmt := top 22
abbrev st__law_is_right : Stmt := top 23
abbrev st_law : Stmt := top 24
/-- where all stands -/
structure Ad where
  (C_QuotaError C_RowsError C_TextError C_NumberError C_Board f__law_source f__law_cell f__law_draw f__law_all_rows f__law_choose f__law_mixed f__law_rows f_is_answers f_are_rows f_Board___init__ f_Board_read f__law_is_equal f_Board___contains__ f_is_integer f_Board___getitem__ f__law_at f__law_is_right f_law p_Board_read : Addr)
def tab (a : Ad) : Tab := ⟨fun t => match t with
  | 20 => a.C_QuotaError
  | 21 => a.C_RowsError
  | 22 => a.C_TextError
  | 24 => a.C_NumberError
  | _ => a.C_Board⟩
/-- what the top has written -/
structure Hd (K : PySem.W.Frag) (mg : Str → Option Value) (a : Ad) : Prop where
  z_all : mg "all" = none
  z_bool : mg "bool" = none
  z_dict : mg "dict" = none
  z_int : mg "int" = none
  z_isinstance : mg "isinstance" = none
  z_len : mg "len" = none
  z_list : mg "list" = none
  z_max : mg "max" = none
  z_min : mg "min" = none
  z_range : mg "range" = none
  z_repr : mg "repr" = none
  z_set : mg "set" = none
  z_sorted : mg "sorted" = none
  z_str : mg "str" = none
  z_tuple : mg "tuple" = none
  g_QuotaError : mg "QuotaError" = some (.ref a.C_QuotaError)
  g_RowsError : mg "RowsError" = some (.ref a.C_RowsError)
  g_TextError : mg "TextError" = some (.ref a.C_TextError)
  g_NumberError : mg "NumberError" = some (.ref a.C_NumberError)
  g_Board : mg "Board" = some (.ref a.C_Board)
  g__law_source : mg "_law_source" = some (.ref a.f__law_source)
  F__law_source : Fx K "_law_source" "_law_source" st__law_source a.f__law_source
  g__law_cell : mg "_law_cell" = some (.ref a.f__law_cell)
  F__law_cell : Fx K "_law_cell" "_law_cell" st__law_cell a.f__law_cell
  g__law_draw : mg "_law_draw" = some (.ref a.f__law_draw)
  F__law_draw : Fx K "_law_draw" "_law_draw" st__law_draw a.f__law_draw
  g__law_all_rows : mg "_law_all_rows" = some (.ref a.f__law_all_rows)
  F__law_all_rows : Fx K "_law_all_rows" "_law_all_rows" st__law_all_rows a.f__law_all_rows
  g__law_choose : mg "_law_choose" = some (.ref a.f__law_choose)
  F__law_choose : Fx K "_law_choose" "_law_choose" st__law_choose a.f__law_choose
  g__law_mixed : mg "_law_mixed" = some (.ref a.f__law_mixed)
  F__law_mixed : Fx K "_law_mixed" "_law_mixed" st__law_mixed a.f__law_mixed
  g__law_rows : mg "_law_rows" = some (.ref a.f__law_rows)
  F__law_rows : Fx K "_law_rows" "_law_rows" st__law_rows a.f__law_rows
  g_is_answers : mg "is_answers" = some (.ref a.f_is_answers)
  F_is_answers : Fx K "is_answers" "is_answers" st_is_answers a.f_is_answers
  g_are_rows : mg "are_rows" = some (.ref a.f_are_rows)
  F_are_rows : Fx K "are_rows" "are_rows" st_are_rows a.f_are_rows
  F_Board___init__ : Fx K "__init__" "Board.__init__" st_Board___init__ a.f_Board___init__
  F_Board_read : Fx K "read" "Board.read" st_Board_read a.f_Board_read
  g__law_is_equal : mg "_law_is_equal" = some (.ref a.f__law_is_equal)
  F__law_is_equal : Fx K "_law_is_equal" "_law_is_equal" st__law_is_equal a.f__law_is_equal
  F_Board___contains__ : Fx K "__contains__" "Board.__contains__" st_Board___contains__ a.f_Board___contains__
  g_is_integer : mg "is_integer" = some (.ref a.f_is_integer)
  F_is_integer : Fx K "is_integer" "is_integer" st_is_integer a.f_is_integer
  F_Board___getitem__ : Fx K "__getitem__" "Board.__getitem__" st_Board___getitem__ a.f_Board___getitem__
  g__law_at : mg "_law_at" = some (.ref a.f__law_at)
  F__law_at : Fx K "_law_at" "_law_at" st__law_at a.f__law_at
  g__law_is_right : mg "_law_is_right" = some (.ref a.f__law_is_right)
  F__law_is_right : Fx K "_law_is_right" "_law_is_right" st__law_is_right a.f__law_is_right
  g_law : mg "law" = some (.ref a.f_law)
  F_law : Fx K "law" "law" st_law a.f_law
  cl_Board : Cls K a.C_Board
  ns_Board : PySem.W.noSeq K a.C_Board = true
  cm_Board_read : ClX.CMet K a.C_Board (.type "type") "read" a.p_Board_read a.f_Board_read
  cr_Board : ClX.CRead K a.C_Board (.type "type")
  cv_MOST : ∃ u, ClX.CVal K a.C_Board (.type "type") "MOST" (.int 6) u
  n_Board_known : NoAttr K a.C_Board "known"
  mk_Board : Mk K a.C_Board a.f_Board___init__
  m_Board___contains__ : Meth K a.C_Board "__contains__" a.f_Board___contains__
  fi_Board___contains__ : PySem.W.fnIn K a.f_Board___contains__ = true
  m_Board___getitem__ : Meth K a.C_Board "__getitem__" a.f_Board___getitem__
  fi_Board___getitem__ : PySem.W.fnIn K a.f_Board___getitem__ = true
  x_QuotaError : PySem.W.excIn K a.C_QuotaError [.type "ValueError", .type "Exception", .type "BaseException", .type "object"] "ValueError.__new__" = true
  k_QuotaError : PySem.W.keepIn K (.ref a.C_QuotaError) = true
  b_QuotaError : PySem.W.subIn K (.ref a.C_QuotaError) (.type "BaseException") = some true
  t_QuotaError : PySem.W.typeIn K (.ref a.C_QuotaError) = some (.type "type")
  x_RowsError : PySem.W.excIn K a.C_RowsError [.type "ValueError", .type "Exception", .type "BaseException", .type "object"] "ValueError.__new__" = true
  k_RowsError : PySem.W.keepIn K (.ref a.C_RowsError) = true
  b_RowsError : PySem.W.subIn K (.ref a.C_RowsError) (.type "BaseException") = some true
  t_RowsError : PySem.W.typeIn K (.ref a.C_RowsError) = some (.type "type")
  x_TextError : PySem.W.excIn K a.C_TextError [.type "ValueError", .type "Exception", .type "BaseException", .type "object"] "ValueError.__new__" = true
  k_TextError : PySem.W.keepIn K (.ref a.C_TextError) = true
  b_TextError : PySem.W.subIn K (.ref a.C_TextError) (.type "BaseException") = some true
  t_TextError : PySem.W.typeIn K (.ref a.C_TextError) = some (.type "type")
  x_NumberError : PySem.W.excIn K a.C_NumberError [.type "ValueError", .type "Exception", .type "BaseException", .type "object"] "ValueError.__new__" = true
  k_NumberError : PySem.W.keepIn K (.ref a.C_NumberError) = true
  b_NumberError : PySem.W.subIn K (.ref a.C_NumberError) (.type "BaseException") = some true
  t_NumberError : PySem.W.typeIn K (.ref a.C_NumberError) = some (.type "type")
  e_NumberError_NumberError : PySem.W.exmOne K (.ref a.C_NumberError) (.ref a.C_NumberError) = some true
  e_QuotaError_QuotaError : PySem.W.exmOne K (.ref a.C_QuotaError) (.ref a.C_QuotaError) = some true
section
variable {P : Program} {w : World} {K : PySem.W.Frag} {mg : Str → Option Value} {base : Heap} {a : Ad}
theorem sc__law_source : FnScope ["_law_cell_here"] ["_law_cell_here"] (defScope st__law_source) := ⟨rfl, rfl, rfl, by decide +kernel, rfl, by decide +kernel, by decide +kernel⟩
def bd__law_source : S := (sRet (eLst (asCons (toA (eB maxI (asCons (toA (eC (.int 0))) (asCons (toA (eOp subD (oName 0) (toA (eOp powD (toA (eC (.int 10))) (toA (eC (.int 18))))))) asNil)))) (asCons (toA (eOp addD (toA (eOp modD (oName 0) (toA (eC (.int 2147483629))))) (toA (eC (.int 1))))) (asCons (toA (eC (.int 0))) asNil)))))
def sem__law_source : M EV := funD 1 1 (bd__law_source)
theorem ok__law_source (h : Hd K mg a) : FnG P w K mg base 1 a.f__law_source (spD K (tab a) (sem__law_source)) := by
  obtain ⟨fd, F⟩ := h.F__law_source.ex
  exact Dt.Fun.q F sc__law_source (F.binds (ps := ["_law_cell_here"]) fun _ _ _ _ _ _ us hl => match us, hl with | [_], _ => rfl) fun cdv A outer s H E hr =>
    (qss_one (qs_ret (qe_lst (qas_cons (qo_of (qe_callB (fun _ _ => cr_max2 rfl) (by rfl) h.z_max PyProof.Rows.boot_max (qas_cons (qo_of qe_int) (qas_cons (qo_of (qe_op (fun _ _ => op_subD) (qo_name 0) (qo_of (qe_op (fun _ _ => op_powD) (qo_of qe_int) (qo_of qe_int))))) qas_nil)))) (qas_cons (qo_of (qe_op (fun _ _ => op_addD) (qo_of (qe_op (fun _ _ => op_modD) (qo_name 0) (qo_of qe_int))) (qo_of qe_int))) (qas_cons (qo_of qe_int) qas_nil))))))
theorem sc__law_cell : FnScope ["_law_script", "_law_index"] ["_law_script", "_law_index"] (defScope st__law_cell) := ⟨rfl, rfl, rfl, by decide +kernel, rfl, by decide +kernel, by decide +kernel⟩
def bd__law_cell : S := (sSeq (sIf (toB (eOp ltD (oName 1) (toA (eB lenD (asCons (oName 0) asNil))))) (sRet (eOp ixD (oName 0) (oName 1))) sNil)
    (sRet (eC (.int 0))))
def sem__law_cell : M EV := funD 2 2 (bd__law_cell)
theorem ok__law_cell (h : Hd K mg a) : FnG P w K mg base 1 a.f__law_cell (spD K (tab a) (sem__law_cell)) := by
  obtain ⟨fd, F⟩ := h.F__law_cell.ex
  exact Dt.Fun.q F sc__law_cell (F.binds (ps := ["_law_script", "_law_index"]) fun _ _ _ _ _ _ us hl => match us, hl with | [_, _], _ => rfl) fun cdv A outer s H E hr =>
    (qss_cons (qs_if (qt_cmp (fun _ _ => op_ltQ) (qo_name 1) (qo_of (qe_callB (fun _ _ => cr_len) (by rfl) h.z_len PySem.boot_len (qas_cons (qo_name 0) qas_nil)))) (qss_one (qs_ret (qe_ix (qo_name 0) (qo_name 1)))) qss_nil)
    (qss_one (qs_ret qe_int)))
theorem sc__law_draw : FnScope ["_law_source_here", "_law_many", "_law_found", "_law_mixed_here"] ["_law_source_here", "_law_many"] (defScope st__law_draw) := ⟨rfl, rfl, rfl, by decide +kernel, rfl, by decide +kernel, by decide +kernel⟩
def bd__law_draw : S := (sSeq (sIf (toB (eOp gtI (toA (eOp ixD (oName 0) (toA (eC (.int 0))))) (toA (eC (.int 0))))) (sSeq (sSet 2 (eOp modD (toA (eOp ixD (oName 0) (toA (eC (.int 0))))) (oName 1)))
    (sSeq (sSetL 0 (toA (eOp divD (toA (eOp ixD (oName 0) (toA (eC (.int 0))))) (oName 1))) (toA (eC (.int 0))))
    (sRetV (lt 2) 2))) sNil)
    (sSeq (sSetL 0 (toA (eOp addD (toA (eOp ixD (oName 0) (toA (eC (.int 2))))) (toA (eC (.int 1))))) (toA (eC (.int 2))))
    (sSeq (sSetL 0 (toA (eOp modD (toA (eOp addD (toA (eOp addD (toA (eOp mulD (toA (eOp ixD (oName 0) (toA (eC (.int 1))))) (toA (eC (.int 48271))))) (toA (eOp mulD (toA (eC (.int 1009))) (toA (eOp ixD (oName 0) (toA (eC (.int 2))))))))) (toA (eC (.int 7))))) (toA (eC (.int 2147483647))))) (toA (eC (.int 1))))
    (sSeq (sSet 3 (eOp modD (toA (eOp addD (toA (eOp addD (toA (eOp mulD (toA (eOp ixD (oName 0) (toA (eC (.int 1))))) (toA (eOp ixD (oName 0) (toA (eC (.int 1))))))) (toA (eOp mulD (toA (eC (.int 69621))) (toA (eOp ixD (oName 0) (toA (eC (.int 1))))))))) (toA (eC (.int 11))))) (toA (eC (.int 2147483629)))))
    (sSeq (sSet 3 (eOp modD (toA (eOp addD (toA (eOp mulD (oName 3) (oName 3))) (toA (eOp mulD (toA (eC (.int 40014))) (oName 3))))) (toA (eC (.int 2147483587)))))
    (sRet (eOp modD (toA (eOp divD (oName 3) (toA (eC (.int 16))))) (oName 1))))))))
def sem__law_draw : M EV := funD 4 2 (bd__law_draw)
theorem ok__law_draw (h : Hd K mg a) : FnG P w K mg base 1 a.f__law_draw (spD K (tab a) (sem__law_draw)) := by
  obtain ⟨fd, F⟩ := h.F__law_draw.ex
  exact Dt.Fun.q F sc__law_draw (F.binds (ps := ["_law_source_here", "_law_many"]) fun _ _ _ _ _ _ us hl => match us, hl with | [_, _], _ => rfl) fun cdv A outer s H E hr =>
    (qss_cons (qs_if (qt_cmp (fun _ _ => op_gtI) (qo_of (qe_ix (qo_name 0) (qo_of qe_int))) (qo_of qe_int)) (qss_cons (qs_set 2 sc__law_draw.nd (qe_op (fun _ _ => op_modD) (qo_of (qe_ix (qo_name 0) (qo_of qe_int))) (qo_name 1)))
    (qss_cons (qs_setL 0 (qo_of (qe_op (fun _ _ => op_divD) (qo_of (qe_ix (qo_name 0) (qo_of qe_int))) (qo_name 1))) (qo_of qe_int))
    (qss_one (qs_retV 2)))) qss_nil)
    (qss_cons (qs_setL 0 (qo_of (qe_op (fun _ _ => op_addD) (qo_of (qe_ix (qo_name 0) (qo_of qe_int))) (qo_of qe_int))) (qo_of qe_int))
    (qss_cons (qs_setL 0 (qo_of (qe_op (fun _ _ => op_modD) (qo_of (qe_op (fun _ _ => op_addD) (qo_of (qe_op (fun _ _ => op_addD) (qo_of (qe_op (fun _ _ => op_mulQ) (qo_of (qe_ix (qo_name 0) (qo_of qe_int))) (qo_of qe_int))) (qo_of (qe_op (fun _ _ => op_mulQ) (qo_of qe_int) (qo_of (qe_ix (qo_name 0) (qo_of qe_int))))))) (qo_of qe_int))) (qo_of qe_int))) (qo_of qe_int))
    (qss_cons (qs_set 3 sc__law_draw.nd (qe_op (fun _ _ => op_modD) (qo_of (qe_op (fun _ _ => op_addD) (qo_of (qe_op (fun _ _ => op_addD) (qo_of (qe_op (fun _ _ => op_mulQ) (qo_of (qe_ix (qo_name 0) (qo_of qe_int))) (qo_of (qe_ix (qo_name 0) (qo_of qe_int))))) (qo_of (qe_op (fun _ _ => op_mulQ) (qo_of qe_int) (qo_of (qe_ix (qo_name 0) (qo_of qe_int))))))) (qo_of qe_int))) (qo_of qe_int)))
    (qss_cons (qs_set 3 sc__law_draw.nd (qe_op (fun _ _ => op_modD) (qo_of (qe_op (fun _ _ => op_addD) (qo_of (qe_op (fun _ _ => op_mulQ) (qo_name 3) (qo_name 3))) (qo_of (qe_op (fun _ _ => op_mulQ) (qo_of qe_int) (qo_name 3))))) (qo_of qe_int)))
    (qss_one (qs_ret (qe_op (fun _ _ => op_modD) (qo_of (qe_op (fun _ _ => op_divD) (qo_name 3) (qo_of qe_int))) (qo_name 1)))))))))
theorem sc__law_all_rows : FnScope ["_law_many", "_law_found", "_law_issue", "_law_longer", "_law_row"] ["_law_many"] (defScope st__law_all_rows) := ⟨rfl, rfl, rfl, by decide +kernel, rfl, by decide +kernel, by decide +kernel⟩
def lp__law_all_rows_0 : S := (sExpr (mutM opExtend 3 (asCons (toA (eLst (asCons (toA (eOp addD (oName 4) (toA (eC (.str [48]))))) (asCons (toA (eOp addD (oName 4) (toA (eC (.str [49]))))) asNil)))) asNil)))
def lp__law_all_rows_1 : S := (sSeq (sSet 3 (eLst asNil))
    (sSeq (sFor (iOf (eName 1)) (gN 4) lp__law_all_rows_0)
    (sSet 1 (eName 3))))
def bd__law_all_rows : S := (sSeq (sSet 1 (eLst (asCons (toA (eC (.str []))) asNil)))
    (sSeq (sFor (iRange1 (asCons (oName 0) asNil)) (gN 2) lp__law_all_rows_1)
    (sRetV (lt 1) 1)))
def sem__law_all_rows : M EV := funD 5 1 (bd__law_all_rows)
theorem ok__law_all_rows (h : Hd K mg a) : FnG P w K mg base 1 a.f__law_all_rows (spD K (tab a) (sem__law_all_rows)) := by
  obtain ⟨fd, F⟩ := h.F__law_all_rows.ex
  exact Dt.Fun.q F sc__law_all_rows (F.binds (ps := ["_law_many"]) fun _ _ _ _ _ _ us hl => match us, hl with | [_], _ => rfl) fun cdv A outer s H E hr =>
    (qss_cons (qs_set 1 sc__law_all_rows.nd (qe_lst (qas_cons (qo_of (qe_str [])) qas_nil)))
    (qss_cons (qs_for rfl (qi_range1 (by rfl) h.z_range (qas_cons (qo_name 0) qas_nil)) (qg_name 2 sc__law_all_rows.nd) (qss_cons (qs_set 3 sc__law_all_rows.nd (qe_lst qas_nil))
    (qss_cons (qs_for rfl (qi_of (qe_name 1)) (qg_name 4 sc__law_all_rows.nd) (qss_one (qs_expr (qe_mut 3 PySem.F.slot_list_extend PySem.F.type_list_extend (fun _ _ => mt_extend) muts_extend (qas_cons (qo_of (qe_lst (qas_cons (qo_of (qe_op (fun _ _ => op_addD) (qo_name 4) (qo_of (qe_str [48])))) (qas_cons (qo_of (qe_op (fun _ _ => op_addD) (qo_name 4) (qo_of (qe_str [49])))) qas_nil)))) qas_nil)))))
    (qss_one (qs_set 1 sc__law_all_rows.nd (qe_name 3))))))
    (qss_one (qs_retV 1))))
theorem sc__law_choose : FnScope ["_law_source_here", "_law_values"] ["_law_source_here", "_law_values"] (defScope st__law_choose) := ⟨rfl, rfl, rfl, by decide +kernel, rfl, by decide +kernel, by decide +kernel⟩
def bd__law_choose : S := (sRet (eOp ixD (oName 1) (toA (eCall sem__law_draw (asCons (oName 0) (asCons (toA (eB lenD (asCons (oName 1) asNil))) asNil))))))
def sem__law_choose : M EV := funD 2 2 (bd__law_choose)
theorem ok__law_choose (h : Hd K mg a) : FnG P w K mg base 2 a.f__law_choose (spD K (tab a) (sem__law_choose)) := by
  obtain ⟨fd, F⟩ := h.F__law_choose.ex
  exact Dt.Fun.q F sc__law_choose (F.binds (ps := ["_law_source_here", "_law_values"]) fun _ _ _ _ _ _ us hl => match us, hl with | [_, _], _ => rfl) fun cdv A outer s H E hr =>
    (qss_one (qs_ret (qe_ix (qo_name 1) (qo_of (qe_call (ok__law_draw h) (hr.mono (by decide : 1 ≤ 1)) (by rfl) h.g__law_draw h.F__law_draw.kp (qas_cons (qo_name 0) (qas_cons (qo_of (qe_callB (fun _ _ => cr_len) (by rfl) h.z_len PySem.boot_len (qas_cons (qo_name 1) qas_nil))) qas_nil)))))))
theorem sc__law_mixed : FnScope ["_law_source_here", "_law_values", "_law_left", "_law_found", "_law_lap"] ["_law_source_here", "_law_values"] (defScope st__law_mixed) := ⟨rfl, rfl, rfl, by decide +kernel, rfl, by decide +kernel, by decide +kernel⟩
def lp__law_mixed_0 : S := (sExpr (mutM opAppend 3 (asCons (toA (mutM opPop 2 (asCons (toA (eCall sem__law_draw (asCons (oName 0) (asCons (toA (eB lenD (asCons (oName 2) asNil))) asNil)))) asNil))) asNil)))
def bd__law_mixed : S := (sSeq (sPar 2 3 (eB listD (asCons (oName 1) asNil)) (eLst asNil))
    (sSeq (sFor (iRange1 (asCons (toA (eB lenD (asCons (oName 1) asNil))) asNil)) (gN 4) lp__law_mixed_0)
    (sRetV (lt 2) 3)))
def sem__law_mixed : M EV := funD 5 2 (bd__law_mixed)
theorem ok__law_mixed (h : Hd K mg a) : FnG P w K mg base 2 a.f__law_mixed (spD K (tab a) (sem__law_mixed)) := by
  obtain ⟨fd, F⟩ := h.F__law_mixed.ex
  exact Dt.Fun.q F sc__law_mixed (F.binds (ps := ["_law_source_here", "_law_values"]) fun _ _ _ _ _ _ us hl => match us, hl with | [_, _], _ => rfl) fun cdv A outer s H E hr =>
    (qss_cons (qs_par 2 3 rfl sc__law_mixed.nd (qe_callTy (fun _ _ => cr_list) (by rfl) h.z_list PyProof.Rows.boot_list (qas_cons (qo_name 1) qas_nil)) (qe_lst qas_nil))
    (qss_cons (qs_for rfl (qi_range1 (by rfl) h.z_range (qas_cons (qo_of (qe_callB (fun _ _ => cr_len) (by rfl) h.z_len PySem.boot_len (qas_cons (qo_name 1) qas_nil))) qas_nil)) (qg_name 4 sc__law_mixed.nd) (qss_one (qs_expr (qe_mut 3 PySem.F.slot_list_append PySem.F.type_list_append (fun _ _ => mt_append) muts_append (qas_cons (qo_of (qe_mut 2 PySem.F.slot_list_pop PySem.F.type_list_pop (fun _ _ => mt_popB) muts_pop (qas_cons (qo_of (qe_call (ok__law_draw h) (hr.mono (by decide : 1 ≤ 1)) (by rfl) h.g__law_draw h.F__law_draw.kp (qas_cons (qo_name 0) (qas_cons (qo_of (qe_callB (fun _ _ => cr_len) (by rfl) h.z_len PySem.boot_len (qas_cons (qo_name 2) qas_nil))) qas_nil)))) qas_nil))) qas_nil)))))
    (qss_one (qs_retV 3))))
theorem sc__law_rows : FnScope ["_law_source_here", "_law_most", "_law_many", "_law_way", "_law_every", "_law_found", "_law_share", "_law_kept", "_law_row", "_law_lap"] ["_law_source_here", "_law_most"] (defScope st__law_rows) := ⟨rfl, rfl, rfl, by decide +kernel, rfl, by decide +kernel, by decide +kernel⟩
def lp__law_rows_0 : M Bool := (toB (eOp eqD (toA (eOp modD (toA (eBM isStrD countD (oName 8) (asCons (toA (eC (.str [49]))) asNil))) (toA (eC (.int 2))))) (toA (eC (.int 0)))))
def lp__law_rows_1 : M EV := (eName 8)
def lp__law_rows_2 : M Bool := (toB (eOp eqD (toA (eOp eqD (toA (eOp ixD (oName 8) (toA (eNeg (toA (eC (.int 1))))))) (toA (eC (.str [49]))))) (toA (eOp ninD (toA (eC (.str [48]))) (toA (eSlice (oName 8) pNo (pYes (toA (eNeg (toA (eC (.int 1))))))))))))
def lp__law_rows_3 : M EV := (eName 8)
def lp__law_rows_4 : M EV := (eCall sem__law_choose (asCons (oName 0) (asCons (oName 4) asNil)))
def lp__law_rows_5 : M Bool := (toB (eOp ltD (toA (eCall sem__law_draw (asCons (oName 0) (asCons (toA (eC (.int 5))) asNil)))) (oName 6)))
def lp__law_rows_6 : M EV := (eName 8)
def lp__law_rows_7 : M EV := (eTup (asCons (oName 8) (asCons (toA (eC (.bl true))) asNil)))
def bd__law_rows : S := (sSeq (sPar 2 3 (eOp addD (toA (eC (.int 1))) (toA (eCall sem__law_draw (asCons (oName 0) (asCons (oName 1) asNil))))) (eCall sem__law_draw (asCons (oName 0) (asCons (toA (eC (.int 6))) asNil))))
    (sSeq (sSet 4 (eCall sem__law_all_rows (asCons (oName 2) asNil)))
    (sSeq (sSet 5 (eLst (asCons (toA (eLst (asCons (toA (eCall sem__law_choose (asCons (oName 0) (asCons (oName 4) asNil)))) asNil))) (asCons (oName 4) (asCons (toA (eComp [8] (iOf (eName 4)) (gN 8) lp__law_rows_0 lp__law_rows_1)) asNil)))))
    (sSeq (sExpr (mutM opAppend 5 (asCons (toA (eComp [8] (iOf (eName 4)) (gN 8) lp__law_rows_2 lp__law_rows_3)) asNil)))
    (sSeq (sExpr (mutM opAppend 5 (asCons (toA (eComp [9] (iRange1 (asCons (toA (eOp addD (toA (eC (.int 1))) (toA (eCall sem__law_draw (asCons (oName 0) (asCons (toA (eC (.int 5))) asNil)))))) asNil)) (gN 9) bYes lp__law_rows_4)) asNil)))
    (sSeq (sSet 6 (eOp addD (toA (eC (.int 1))) (toA (eCall sem__law_draw (asCons (oName 0) (asCons (toA (eC (.int 4))) asNil))))))
    (sSeq (sExpr (mutM opAppend 5 (asCons (toA (eOp addD (toA (eComp [8] (iOf (eName 4)) (gN 8) lp__law_rows_5 lp__law_rows_6)) (toA (eLst (asCons (toA (eCall sem__law_choose (asCons (oName 0) (asCons (oName 4) asNil)))) asNil))))) asNil)))
    (sSeq (sSet 7 (eB sortD (asCons (toA (eB dictD (asCons (toA (eComp [8] (iOf (eOp ixD (oName 5) (oName 3))) (gN 8) bYes lp__law_rows_7)) asNil))) asNil)))
    (sRet (eCall sem__law_mixed (asCons (oName 0) (asCons (oName 7) asNil))))))))))))
def sem__law_rows : M EV := funD 10 2 (bd__law_rows)
theorem ok__law_rows (h : Hd K mg a) : FnG P w K mg base 3 a.f__law_rows (spD K (tab a) (sem__law_rows)) := by
  obtain ⟨fd, F⟩ := h.F__law_rows.ex
  exact Dt.Fun.q F sc__law_rows (F.binds (ps := ["_law_source_here", "_law_most"]) fun _ _ _ _ _ _ us hl => match us, hl with | [_, _], _ => rfl) fun cdv A outer s H E hr =>
    (qss_cons (qs_par 2 3 rfl sc__law_rows.nd (qe_op (fun _ _ => op_addD) (qo_of qe_int) (qo_of (qe_call (ok__law_draw h) (hr.mono (by decide : 1 ≤ 2)) (by rfl) h.g__law_draw h.F__law_draw.kp (qas_cons (qo_name 0) (qas_cons (qo_name 1) qas_nil))))) (qe_call (ok__law_draw h) (hr.mono (by decide : 1 ≤ 2)) (by rfl) h.g__law_draw h.F__law_draw.kp (qas_cons (qo_name 0) (qas_cons (qo_of qe_int) qas_nil))))
    (qss_cons (qs_set 4 sc__law_rows.nd (qe_call (ok__law_all_rows h) (hr.mono (by decide : 1 ≤ 2)) (by rfl) h.g__law_all_rows h.F__law_all_rows.kp (qas_cons (qo_name 2) qas_nil)))
    (qss_cons (qs_set 5 sc__law_rows.nd (qe_lst (qas_cons (qo_of (qe_lst (qas_cons (qo_of (qe_call (ok__law_choose h) (hr.mono (by decide : 2 ≤ 2)) (by rfl) h.g__law_choose h.F__law_choose.kp (qas_cons (qo_name 0) (qas_cons (qo_name 4) qas_nil)))) qas_nil))) (qas_cons (qo_name 4) (qas_cons (qo_of (qe_comp (own := [("_law_row", 8)]) rfl sc__law_rows.nd (qi_of (qe_name 4)) (blkOk_by (N := ["_law_source_here", "_law_most", "_law_many", "_law_way", "_law_every", "_law_found", "_law_share", "_law_kept", "_law_row", "_law_lap"]) (sc := defScope st__law_rows) (by decide +kernel)) (fun _ _ _ _ _ => (qg_name 8 sc__law_rows.nd)) (fun _ _ _ _ _ => (qts_one (qt_cmp (fun _ _ => op_eqQ hr.u64) (qo_of (qe_op (fun _ _ => op_modD) (qo_of (qe_count (qo_name 8) (qas_cons (qo_of (qe_str [49])) qas_nil))) (qo_of qe_int))) (qo_of qe_int)))) (fun _ _ _ _ _ => (qe_name 8)))) qas_nil)))))
    (qss_cons (qs_expr (qe_mut 5 PySem.F.slot_list_append PySem.F.type_list_append (fun _ _ => mt_append) muts_append (qas_cons (qo_of (qe_comp (own := [("_law_row", 8)]) rfl sc__law_rows.nd (qi_of (qe_name 4)) (blkOk_by (N := ["_law_source_here", "_law_most", "_law_many", "_law_way", "_law_every", "_law_found", "_law_share", "_law_kept", "_law_row", "_law_lap"]) (sc := defScope st__law_rows) (by decide +kernel)) (fun _ _ _ _ _ => (qg_name 8 sc__law_rows.nd)) (fun _ _ _ _ _ => (qts_one (qt_cmp (fun _ _ => op_eqQ hr.u64) (qo_of (qe_cmp (fun _ _ => op_eqQ hr.u64) (qo_of (qe_ix (qo_name 8) (qo_of (qe_neg (qo_of qe_int))))) (qo_of (qe_str [49])))) (qo_of (qe_cmp (fun _ _ => op_notInQ) (qo_of (qe_str [48])) (qo_of (qe_slice (qo_name 8) qpo_no (qpo_yes (qo_of (qe_neg (qo_of qe_int))))))))))) (fun _ _ _ _ _ => (qe_name 8)))) qas_nil)))
    (qss_cons (qs_expr (qe_mut 5 PySem.F.slot_list_append PySem.F.type_list_append (fun _ _ => mt_append) muts_append (qas_cons (qo_of (qe_comp (own := [("_law_lap", 9)]) rfl sc__law_rows.nd (qi_range1 (by rfl) h.z_range (qas_cons (qo_of (qe_op (fun _ _ => op_addD) (qo_of qe_int) (qo_of (qe_call (ok__law_draw h) (hr.mono (by decide : 1 ≤ 2)) (by rfl) h.g__law_draw h.F__law_draw.kp (qas_cons (qo_name 0) (qas_cons (qo_of qe_int) qas_nil)))))) qas_nil)) (blkOk_by (N := ["_law_source_here", "_law_most", "_law_many", "_law_way", "_law_every", "_law_found", "_law_share", "_law_kept", "_law_row", "_law_lap"]) (sc := defScope st__law_rows) (by decide +kernel)) (fun _ _ _ _ _ => (qg_name 9 sc__law_rows.nd)) (fun _ _ _ _ _ => qts_nil) (fun _ _ _ _ _ => (qe_call (ok__law_choose h) (hr.mono (by decide : 2 ≤ 2)) (by rfl) h.g__law_choose h.F__law_choose.kp (qas_cons (qo_name 0) (qas_cons (qo_name 4) qas_nil)))))) qas_nil)))
    (qss_cons (qs_set 6 sc__law_rows.nd (qe_op (fun _ _ => op_addD) (qo_of qe_int) (qo_of (qe_call (ok__law_draw h) (hr.mono (by decide : 1 ≤ 2)) (by rfl) h.g__law_draw h.F__law_draw.kp (qas_cons (qo_name 0) (qas_cons (qo_of qe_int) qas_nil))))))
    (qss_cons (qs_expr (qe_mut 5 PySem.F.slot_list_append PySem.F.type_list_append (fun _ _ => mt_append) muts_append (qas_cons (qo_of (qe_op (fun _ _ => op_addD) (qo_of (qe_comp (own := [("_law_row", 8)]) rfl sc__law_rows.nd (qi_of (qe_name 4)) (blkOk_by (N := ["_law_source_here", "_law_most", "_law_many", "_law_way", "_law_every", "_law_found", "_law_share", "_law_kept", "_law_row", "_law_lap"]) (sc := defScope st__law_rows) (by decide +kernel)) (fun _ _ _ _ _ => (qg_name 8 sc__law_rows.nd)) (fun _ _ _ _ _ => (qts_one (qt_cmp (fun _ _ => op_ltQ) (qo_of (qe_call (ok__law_draw h) (hr.mono (by decide : 1 ≤ 2)) (by rfl) h.g__law_draw h.F__law_draw.kp (qas_cons (qo_name 0) (qas_cons (qo_of qe_int) qas_nil)))) (qo_name 6)))) (fun _ _ _ _ _ => (qe_name 8)))) (qo_of (qe_lst (qas_cons (qo_of (qe_call (ok__law_choose h) (hr.mono (by decide : 2 ≤ 2)) (by rfl) h.g__law_choose h.F__law_choose.kp (qas_cons (qo_name 0) (qas_cons (qo_name 4) qas_nil)))) qas_nil))))) qas_nil)))
    (qss_cons (qs_set 7 sc__law_rows.nd (qe_callB (fun _ _ => cr_sorted rfl hr.u64) (by rfl) h.z_sorted PyProof.Rows.boot_sorted (qas_cons (qo_of (qe_callTy (fun _ _ => cr_dict rfl) (by rfl) h.z_dict PyProof.Rows.boot_dict (qas_cons (qo_of (qe_comp (own := [("_law_row", 8)]) rfl sc__law_rows.nd (qi_of (qe_ix (qo_name 5) (qo_name 3))) (blkOk_by (N := ["_law_source_here", "_law_most", "_law_many", "_law_way", "_law_every", "_law_found", "_law_share", "_law_kept", "_law_row", "_law_lap"]) (sc := defScope st__law_rows) (by decide +kernel)) (fun _ _ _ _ _ => (qg_name 8 sc__law_rows.nd)) (fun _ _ _ _ _ => qts_nil) (fun _ _ _ _ _ => (qe_tup (qas_cons (qo_name 8) (qas_cons (qo_of qe_bl) qas_nil)))))) qas_nil))) qas_nil)))
    (qss_one (qs_ret (qe_call (ok__law_mixed h) (hr.mono (by decide : 2 ≤ 2)) (by rfl) h.g__law_mixed h.F__law_mixed.kp (qas_cons (qo_name 0) (qas_cons (qo_name 7) qas_nil)))))))))))))
theorem sc_is_answers : FnScope ["thing", "many", "sign"] ["thing", "many"] (defScope st_is_answers) := ⟨rfl, rfl, rfl, by decide +kernel, rfl, by decide +kernel, by decide +kernel⟩
def lp_is_answers_0 : M EV := (eOp inD (oName 2) (toA (eC (.str [48, 49]))))
def bd_is_answers : S := (sRet (eAnd (eIsi isStr (oName 0)) (eAnd (eOp eqD (toA (eB lenD (asCons (oName 0) asNil))) (oName 1)) (eB allD (asCons (toA (eComp [2] (iOf (eName 0)) (gN 2) bYes lp_is_answers_0)) asNil)))))
def sem_is_answers : M EV := funD 3 2 (bd_is_answers)
theorem ok_is_answers (h : Hd K mg a) : FnG P w K mg base 1 a.f_is_answers (spD K (tab a) (sem_is_answers)) := by
  obtain ⟨fd, F⟩ := h.F_is_answers.ex
  exact Dt.Fun.q F sc_is_answers (F.binds (ps := ["thing", "many"]) fun _ _ _ _ _ _ us hl => match us, hl with | [_, _], _ => rfl) fun cdv A outer s H E hr =>
    (qss_one (qs_ret (qe_and (qe_isi (by rfl) h.z_isinstance isok_str (.ty "str") (isi_bi (by rfl) h.z_str PyProof.Rows.boot_str) (qo_name 0)) (qe_and (qe_cmp (fun _ _ => op_eqQ hr.u64) (qo_of (qe_callB (fun _ _ => cr_len) (by rfl) h.z_len PySem.boot_len (qas_cons (qo_name 0) qas_nil))) (qo_name 1)) (qe_one (qe_callB (fun _ _ => cr_allQ rfl) (by rfl) h.z_all PyProof.Rows.boot_all (qas_cons (qo_of (qe_comp (own := [("sign", 2)]) rfl sc_is_answers.nd (qi_of (qe_name 0)) (blkOk_by (N := ["thing", "many", "sign"]) (sc := defScope st_is_answers) (by decide +kernel)) (fun _ _ _ _ _ => (qg_name 2 sc_is_answers.nd)) (fun _ _ _ _ _ => qts_nil) (fun _ _ _ _ _ => (qe_cmp (fun _ _ => op_inQ) (qo_name 2) (qo_of (qe_str [48, 49])))))) qas_nil)))))))
theorem sc_are_rows : FnScope ["rows", "row"] ["rows"] (defScope st_are_rows) := ⟨rfl, rfl, rfl, by decide +kernel, rfl, by decide +kernel, by decide +kernel⟩
def lp_are_rows_0 : M EV := (eCall sem_is_answers (asCons (oName 1) (asCons (toA (eB lenD (asCons (toA (eOp ixD (oName 0) (toA (eC (.int 0))))) asNil))) asNil)))
def bd_are_rows : S := (sSeq (sIf (bOr (toB (eOp eqD (toA (eB lenD (asCons (oName 0) asNil))) (toA (eC (.int 0))))) (bOr (bNot (toB (eIsi isStr (toA (eOp ixD (oName 0) (toA (eC (.int 0)))))))) (bNot (toB (eChain leI leI (toA (eC (.int 1))) (toA (eB lenD (asCons (toA (eOp ixD (oName 0) (toA (eC (.int 0))))) asNil))) (toA (eC (.int 6)))))))) (sRet (eC (.bl false))) sNil)
    (sSeq (sIf (bNot (toB (eB allD (asCons (toA (eComp [1] (iOf (eName 0)) (gN 1) bYes lp_are_rows_0)) asNil)))) (sRet (eC (.bl false))) sNil)
    (sRet (eOp eqD (toA (eB lenSetD (asCons (oName 0) asNil))) (toA (eB lenD (asCons (oName 0) asNil)))))))
def sem_are_rows : M EV := funD 2 1 (bd_are_rows)
theorem ok_are_rows (h : Hd K mg a) : FnG P w K mg base 2 a.f_are_rows (spD K (tab a) (sem_are_rows)) := by
  obtain ⟨fd, F⟩ := h.F_are_rows.ex
  obtain ⟨uM, cvM⟩ := h.cv_MOST
  exact Dt.Fun.q F sc_are_rows (F.binds (ps := ["rows"]) fun _ _ _ _ _ _ us hl => match us, hl with | [_], _ => rfl) fun cdv A outer s H E hr =>
    (qss_cons (qs_if (qt_w (qw_or (qt_cmp (fun _ _ => op_eqQ hr.u64) (qo_of (qe_callB (fun _ _ => cr_len) (by rfl) h.z_len PySem.boot_len (qas_cons (qo_name 0) qas_nil))) (qo_of qe_int)) (qw_or (qt_not (qt_val (qe_isi (by rfl) h.z_isinstance isok_str (.ty "str") (isi_bi (by rfl) h.z_str PyProof.Rows.boot_str) (qo_of (qe_ix (qo_name 0) (qo_of qe_int)))))) (qw_or1 (qt_not (qt_chain (fun _ _ => op_leI) (fun _ _ => op_leI) (qo_of qe_int) (qo_of (qe_callB (fun _ _ => cr_len) (by rfl) h.z_len PySem.boot_len (qas_cons (qo_of (qe_ix (qo_name 0) (qo_of qe_int))) qas_nil))) (qo_of (qe_cval (by rfl) h.g_Board h.cr_Board cvM (d := .int 6) (fun _ _ => by exact rfl))))))))) (qss_one (qs_ret qe_bl)) qss_nil)
    (qss_cons (qs_if (qt_not (qt_val (qe_callB (fun _ _ => cr_allQ rfl) (by rfl) h.z_all PyProof.Rows.boot_all (qas_cons (qo_of (qe_comp (own := [("row", 1)]) rfl sc_are_rows.nd (qi_of (qe_name 0)) (blkOk_by (N := ["rows", "row"]) (sc := defScope st_are_rows) (by decide +kernel)) (fun _ _ _ _ _ => (qg_name 1 sc_are_rows.nd)) (fun _ _ _ _ _ => qts_nil) (fun _ _ _ _ _ => (qe_call (ok_is_answers h) (hr.mono (by decide : 1 ≤ 1)) (by rfl) h.g_is_answers h.F_is_answers.kp (qas_cons (qo_name 1) (qas_cons (qo_of (qe_callB (fun _ _ => cr_len) (by rfl) h.z_len PySem.boot_len (qas_cons (qo_of (qe_ix (qo_name 0) (qo_of qe_int))) qas_nil))) qas_nil)))))) qas_nil)))) (qss_one (qs_ret qe_bl)) qss_nil)
    (qss_one (qs_ret (qe_cmp (fun _ _ => op_eqQ hr.u64) (qo_of (qe_lenSet rfl (by rfl) h.z_len (by rfl) h.z_set (qo_name 0))) (qo_of (qe_callB (fun _ _ => cr_len) (by rfl) h.z_len PySem.boot_len (qas_cons (qo_name 0) qas_nil))))))))
theorem sc_Board___init__ : FnScope ["self", "rows"] ["self", "rows"] (defScope st_Board___init__) := ⟨rfl, rfl, rfl, by decide +kernel, rfl, by decide +kernel, by decide +kernel⟩
def bd_Board___init__ : S := (sSeq (sIf (bNot (toB (eCall sem_are_rows (asCons (oName 1) asNil)))) (sRaise 21) sNil)
    (sSetF 0 (one 0 0) (toA (eB tupD (asCons (toA (eB sortD (asCons (oName 1) asNil))) asNil)))))
def sem_Board___init__ : M EV := funV 2 (bd_Board___init__)
theorem ok_Board___init__ (h : Hd K mg a) : FnG P w K mg base 3 a.f_Board___init__ (spD K (tab a) (sem_Board___init__)) := by
  obtain ⟨fd, F⟩ := h.F_Board___init__.ex
  exact Dt.Fun.qV F sc_Board___init__ (fun _ _ _ _ _ _ _ rest _ => match rest with | [] => rfl | _ :: _ => rfl) fun cdv A outer s H E hr =>
    (qss_cons (qs_if (qt_not (qt_val (qe_call (ok_are_rows h) (hr.mono (by decide : 2 ≤ 2)) (by rfl) h.g_are_rows h.F_are_rows.kp (qas_cons (qo_name 1) qas_nil)))) (qss_one (qs_raise rfl PySem.F.excBase_ValueError h.x_RowsError h.g_RowsError h.k_RowsError (raises_own h.b_RowsError h.t_RowsError) (by rfl))) qss_nil)
    (qss_one (qs_setF 0 (qo_of (qe_callTy (fun _ _ => cr_tup) (by rfl) h.z_tuple PyProof.Rows.boot_tuple (qas_cons (qo_of (qe_callB (fun _ _ => cr_sorted rfl hr.u64) (by rfl) h.z_sorted PyProof.Rows.boot_sorted (qas_cons (qo_name 1) qas_nil))) qas_nil))) (fld_one rfl h.cl_Board h.n_Board_known))))
theorem sc_Board_read : FnScope ["cls", "text", "rows"] ["cls", "text"] (defScope st_Board_read) := ⟨rfl, rfl, rfl, by decide +kernel, rfl, by decide +kernel, by decide +kernel⟩
def bd_Board_read (C0 : Addr) : S := (sSeq (sIf (bNot (toB (eIsi isStr (oName 1)))) (sRaise 22) sNil)
    (sSeq (sSet 2 (eBM isStrD splitD (oName 1) (asCons (toA (eC (.str [32]))) asNil)))
    (sSeq (sIf (bNot (toB (eCall sem_are_rows (asCons (oName 2) asNil)))) (sRaise 22) sNil)
    (sRet (eMakeSL 0 C0 0 sem_Board___init__ (oName 2))))))
def sem_Board_read (C0 : Addr) : M EV := funD 3 2 (bd_Board_read C0)
theorem ok_Board_read (h : Hd K mg a) : FnG P w K mg base 5 a.f_Board_read (spD K (tab a) (sem_Board_read a.C_Board)) := by
  obtain ⟨fd, F⟩ := h.F_Board_read.ex
  exact Dt.Fun.q F sc_Board_read (F.binds (ps := ["cls", "text"]) fun _ _ _ _ _ _ us hl => match us, hl with | [_, _], _ => rfl) fun cdv A outer s H E hr =>
    (qss_cons (qs_if (qt_not (qt_val (qe_isi (by rfl) h.z_isinstance isok_str (.ty "str") (isi_bi (by rfl) h.z_str PyProof.Rows.boot_str) (qo_name 1)))) (qss_one (qs_raise rfl PySem.F.excBase_ValueError h.x_TextError h.g_TextError h.k_TextError (raises_own h.b_TextError h.t_TextError) (by rfl))) qss_nil)
    (qss_cons (qs_set 2 sc_Board_read.nd (qe_split (qo_name 1) (qas_cons (qo_of (qe_str [32])) qas_nil)))
    (qss_cons (qs_if (qt_not (qt_val (qe_call (ok_are_rows h) (hr.mono (by decide : 2 ≤ 4)) (by rfl) h.g_are_rows h.F_are_rows.kp (qas_cons (qo_name 2) qas_nil)))) (qss_one (qs_raise rfl PySem.F.excBase_ValueError h.x_TextError h.g_TextError h.k_TextError (raises_own h.b_TextError h.t_TextError) (by rfl))) qss_nil)
    (qss_one (qs_ret (qe_makeSL (t := 0) 0 h.mk_Board (ok_Board___init__ h) (hr.mono (by decide : 4 ≤ 4)) (qo_name 2)))))))
theorem sc__law_is_equal : FnScope ["_law_actual", "_law_expected"] ["_law_actual", "_law_expected"] (defScope st__law_is_equal) := ⟨rfl, rfl, rfl, by decide +kernel, rfl, by decide +kernel, by decide +kernel⟩
def bd__law_is_equal : S := (sRet (eOp eqD (toA (eB reprD (asCons (oName 0) asNil))) (toA (eB reprD (asCons (oName 1) asNil)))))
def sem__law_is_equal : M EV := funD 2 2 (bd__law_is_equal)
theorem ok__law_is_equal (h : Hd K mg a) : FnG P w K mg base 1 a.f__law_is_equal (spD K (tab a) (sem__law_is_equal)) := by
  obtain ⟨fd, F⟩ := h.F__law_is_equal.ex
  exact Dt.Fun.q F sc__law_is_equal (F.binds (ps := ["_law_actual", "_law_expected"]) fun _ _ _ _ _ _ us hl => match us, hl with | [_, _], _ => rfl) fun cdv A outer s H E hr =>
    (qss_one (qs_ret (qe_cmp (fun _ _ => op_eqQ hr.u64) (qo_of (qe_callB (fun _ _ => cr_repr hr.g hr.u64) (by rfl) h.z_repr PyProof.Rows.boot_repr (qas_cons (qo_name 0) qas_nil))) (qo_of (qe_callB (fun _ _ => cr_repr hr.g hr.u64) (by rfl) h.z_repr PyProof.Rows.boot_repr (qas_cons (qo_name 1) qas_nil))))))
theorem sc_Board___contains__ : FnScope ["self", "thing"] ["self", "thing"] (defScope st_Board___contains__) := ⟨rfl, rfl, rfl, by decide +kernel, rfl, by decide +kernel, by decide +kernel⟩
def bd_Board___contains__ : S := (sRet (eAnd (eIsi isStr (oName 1)) (eOp inD (oName 1) (toA (eFld (one 0 0) (oName 0))))))
def sem_Board___contains__ : M EV := funD 2 2 (bd_Board___contains__)
theorem ok_Board___contains__ (h : Hd K mg a) : FnG P w K mg base 1 a.f_Board___contains__ (spD K (tab a) (sem_Board___contains__)) := by
  obtain ⟨fd, F⟩ := h.F_Board___contains__.ex
  exact Dt.Fun.q F sc_Board___contains__ (F.binds (ps := ["self", "thing"]) fun _ _ _ _ _ _ us hl => match us, hl with | [_, _], _ => rfl) fun cdv A outer s H E hr =>
    (qss_one (qs_ret (qe_and (qe_isi (by rfl) h.z_isinstance isok_str (.ty "str") (isi_bi (by rfl) h.z_str PyProof.Rows.boot_str) (qo_name 1)) (qe_one (qe_cmp (fun _ _ => op_inQ) (qo_name 1) (qo_of (qe_fld (qo_name 0) (fld_one rfl h.cl_Board h.n_Board_known))))))))
theorem sc_is_integer : FnScope ["thing"] ["thing"] (defScope st_is_integer) := ⟨rfl, rfl, rfl, by decide +kernel, rfl, by decide +kernel, by decide +kernel⟩
def bd_is_integer : S := (sRet (eAnd (eIsi isInt (oName 0)) (eNot (eIsi isBool (oName 0)))))
def sem_is_integer : M EV := funD 1 1 (bd_is_integer)
theorem ok_is_integer (h : Hd K mg a) : FnG P w K mg base 1 a.f_is_integer (spD K (tab a) (sem_is_integer)) := by
  obtain ⟨fd, F⟩ := h.F_is_integer.ex
  exact Dt.Fun.q F sc_is_integer (F.binds (ps := ["thing"]) fun _ _ _ _ _ _ us hl => match us, hl with | [_], _ => rfl) fun cdv A outer s H E hr =>
    (qss_one (qs_ret (qe_and (qe_isi (by rfl) h.z_isinstance isok_int (.ty "int") (isi_bi (by rfl) h.z_int PyProof.Rows.boot_int) (qo_name 0)) (qe_one (qe_not (qe_isi (by rfl) h.z_isinstance isok_bool (.ty "bool") (isi_bi (by rfl) h.z_bool PyProof.Rows.boot_bool) (qo_name 0)))))))
theorem sc_Board___getitem__ : FnScope ["self", "k"] ["self", "k"] (defScope st_Board___getitem__) := ⟨rfl, rfl, rfl, by decide +kernel, rfl, by decide +kernel, by decide +kernel⟩
def bd_Board___getitem__ : S := (sSeq (sIf (bOr (bNot (toB (eCall sem_is_integer (asCons (oName 1) asNil)))) (bNot (toB (eChain leI ltD (toA (eC (.int 0))) (oName 1) (toA (eB lenD (asCons (toA (eFld (one 0 0) (oName 0))) asNil))))))) (sRaise 24) sNil)
    (sRet (eOp ixD (toA (eFld (one 0 0) (oName 0))) (oName 1))))
def sem_Board___getitem__ : M EV := funD 2 2 (bd_Board___getitem__)
theorem ok_Board___getitem__ (h : Hd K mg a) : FnG P w K mg base 2 a.f_Board___getitem__ (spD K (tab a) (sem_Board___getitem__)) := by
  obtain ⟨fd, F⟩ := h.F_Board___getitem__.ex
  exact Dt.Fun.q F sc_Board___getitem__ (F.binds (ps := ["self", "k"]) fun _ _ _ _ _ _ us hl => match us, hl with | [_, _], _ => rfl) fun cdv A outer s H E hr =>
    (qss_cons (qs_if (qt_w (qw_or (qt_not (qt_val (qe_call (ok_is_integer h) (hr.mono (by decide : 1 ≤ 1)) (by rfl) h.g_is_integer h.F_is_integer.kp (qas_cons (qo_name 1) qas_nil)))) (qw_or1 (qt_not (qt_chain (fun _ _ => op_leI) (fun _ _ => op_ltQ) (qo_of qe_int) (qo_name 1) (qo_of (qe_callB (fun _ _ => cr_len) (by rfl) h.z_len PySem.boot_len (qas_cons (qo_of (qe_fld (qo_name 0) (fld_one rfl h.cl_Board h.n_Board_known))) qas_nil)))))))) (qss_one (qs_raise rfl PySem.F.excBase_ValueError h.x_NumberError h.g_NumberError h.k_NumberError (raises_own h.b_NumberError h.t_NumberError) (by rfl))) qss_nil)
    (qss_one (qs_ret (qe_ix (qo_of (qe_fld (qo_name 0) (fld_one rfl h.cl_Board h.n_Board_known))) (qo_name 1)))))
theorem sc__law_at : FnScope ["_law_board", "_law_k"] ["_law_board", "_law_k"] (defScope st__law_at) := ⟨rfl, rfl, rfl, by decide +kernel, rfl, by decide +kernel, by decide +kernel⟩
def bd__law_at : S := (sTry (sRet (eOpM (spO (one 0 sem_Board___getitem__)) (oName 0) (oName 1))) (one 24 true) (sRet (eC (.str [110, 117, 109, 98, 101, 114]))))
def sem__law_at : M EV := funD 2 2 (bd__law_at)
theorem ok__law_at (h : Hd K mg a) : FnG P w K mg base 4 a.f__law_at (spD K (tab a) (sem__law_at)) := by
  obtain ⟨fd, F⟩ := h.F__law_at.ex
  exact Dt.Fun.q F sc__law_at (F.binds (ps := ["_law_board", "_law_k"]) fun _ _ _ _ _ _ us hl => match us, hl with | [_, _], _ => rfl) fun cdv A outer s H E hr =>
    (qss_one (qs_try (sb := (one 24 true)) rfl rfl ⟨rfl, by decide, Or.inl h.g_NumberError⟩ (qss_one (qs_ret (qe_ixO (spec_one h.m_Board___getitem__.at_ h.m_Board___getitem__.fn h.fi_Board___getitem__ h.ns_Board (hr.mono (by decide : 3 ≤ 3)) (ok_Board___getitem__ h)) (qo_name 0) (qo_name 1)))) (fun t b e => by obtain ⟨rfl, rfl⟩ := one_inv e; exact h.e_NumberError_NumberError) (fun _ _ _ => (qss_one (qs_ret (qe_str [110, 117, 109, 98, 101, 114]))))))
theorem sc__law_is_right : FnScope ["_law_source_here", "_law_rows_here", "_law_board", "_law_kept", "_law_row", "_law_due", "_law_one", "_law_odd", "_law_wrong", "_law_value", "_law_k"] ["_law_source_here"] (defScope st__law_is_right) := ⟨rfl, rfl, rfl, by decide +kernel, rfl, by decide +kernel, by decide +kernel⟩
def lp__law_is_right_0 : S := (sSeq (sSet 5 (eOp inD (oName 4) (oName 3)))
    (sIf (bNot (toB (eCall sem__law_is_equal (asCons (toA (eLst (asCons (toA (eOpM (inO false (one 0 sem_Board___contains__)) (oName 4) (oName 2))) (asCons (toA (eOpM (inO false (one 0 sem_Board___contains__)) (oName 4) (oName 2))) (asCons (toA (eOpM (inO true (one 0 sem_Board___contains__)) (oName 4) (oName 2))) asNil))))) (asCons (toA (eLst (asCons (oName 5) (asCons (oName 5) (asCons (toA (eNot (eName 5))) asNil))))) asNil))))) (sRet (eC (.bl false))) sNil))
def lp__law_is_right_1 : M Bool := (toB (eOpM (inO false (one 0 sem_Board___contains__)) (oName 9) (oName 2)))
def lp__law_is_right_2 : M EV := (eName 9)
def lp__law_is_right_3 : M EV := (eCall sem__law_at (asCons (oName 2) (asCons (oName 10) asNil)))
def lp__law_is_right_4 : M EV := (eCall sem__law_at (asCons (oName 2) (asCons (oName 10) asNil)))
def bd__law_is_right (C0 : Addr) : S := (sSeq (sSet 1 (eCall sem__law_rows (asCons (oName 0) (asCons (toA (eC (.int 6))) asNil))))
    (sSeq (sAsg (eTup (asCons (toA (eCMeth C0 (sem_Board_read C0) (asCons (toA (eBM isStrD joinD (toA (eC (.str [32]))) (asCons (oName 1) asNil))) asNil))) (asCons (toA (eB sortD (asCons (oName 1) asNil))) asNil))) (gT (gsCons (gN 2) (gsCons (gN 3) gsNil))))
    (sSeq (sFor (iOf (eCall sem__law_all_rows (asCons (toA (eB lenD (asCons (toA (eOp ixD (oName 1) (toA (eC (.int 0))))) asNil))) asNil))) (gN 4) lp__law_is_right_0)
    (sSeq (sSet 6 (eOp ixD (oName 3) (toA (eC (.int 0)))))
    (sSeq (sSet 7 (eLst (asCons (toA (eC .non)) (asCons (toA (eC (.int 0))) (asCons (toA (eC (.int 1))) (asCons (toA (eC (.bl true))) (asCons (toA (eC (.str []))) (asCons (toA (eOp mulD (toA (eC (.str [48]))) (toA (eOp addD (toA (eB lenD (asCons (oName 6) asNil))) (toA (eC (.int 1))))))) (asCons (toA (eOp addD (oName 6) (oName 6))) (asCons (toA (eSlice (oName 6) (pYes (toA (eC (.int 1)))) pNo)) (asCons (toA (eTup (asCons (oName 6) asNil))) (asCons (toA (eLst (asCons (oName 6) asNil))) (asCons (toA (M.bind (oName 6) fun a => M.bind (toA (eC (.int 1))) fun b => disp1 a b)) (asCons (toA (eC (.str [120]))) (asCons (toA (eOp addD (oName 6) (toA (eC (.str [32]))))) asNil)))))))))))))))
    (sSeq (sIf (toB (eOp neD (toA (eComp [9] (iOf (eName 7)) (gN 9) lp__law_is_right_1 lp__law_is_right_2)) (toA (eLst asNil)))) (sRet (eC (.bl false))) sNil)
    (sSeq (sIf (bNot (toB (eCall sem__law_is_equal (asCons (toA (eComp [10] (iRange1 (asCons (toA (eB lenD (asCons (oName 3) asNil))) asNil)) (gN 10) bYes lp__law_is_right_3)) (asCons (oName 3) asNil))))) (sRet (eC (.bl false))) sNil)
    (sSeq (sSet 8 (eLst (asCons (toA (eNeg (toA (eC (.int 1))))) (asCons (toA (eB lenD (asCons (oName 3) asNil))) (asCons (toA (eOp powD (toA (eC (.int 10))) (toA (eC (.int 12))))) (asCons (toA (eC .non)) (asCons (toA (eC (.bl true))) (asCons (toA (eC (.bl false))) (asCons (toA (eC (.str [48]))) (asCons (toA (eC (.str []))) (asCons (toA (eTup (asCons (toA (eC (.int 0))) asNil))) (asCons (toA (eLst (asCons (toA (eC (.int 0))) asNil))) (asCons (toA eDict0) (asCons (oName 6) asNil))))))))))))))
    (sRet (eOp eqD (toA (eComp [10] (iOf (eName 8)) (gN 10) bYes lp__law_is_right_4)) (toA (eOp mulD (toA (eLst (asCons (toA (eC (.str [110, 117, 109, 98, 101, 114]))) asNil))) (toA (eB lenD (asCons (oName 8) asNil)))))))))))))))
def sem__law_is_right (C0 : Addr) : M EV := funD 11 1 (bd__law_is_right C0)
theorem ok__law_is_right (h : Hd K mg a) : FnG P w K mg base 6 a.f__law_is_right (spD K (tab a) (sem__law_is_right a.C_Board)) := by
  obtain ⟨fd, F⟩ := h.F__law_is_right.ex
  exact Dt.Fun.q F sc__law_is_right (F.binds (ps := ["_law_source_here"]) fun _ _ _ _ _ _ us hl => match us, hl with | [_], _ => rfl) fun cdv A outer s H E hr =>
    (qss_cons (qs_set 1 sc__law_is_right.nd (qe_call (ok__law_rows h) (hr.mono (by decide : 3 ≤ 5)) (by rfl) h.g__law_rows h.F__law_rows.kp (qas_cons (qo_name 0) (qas_cons (qo_of qe_int) qas_nil))))
    (qss_cons (qs_asg (qe_tup (qas_cons (qo_of (qe_cmeth (by rfl) h.g_Board h.cr_Board h.cm_Board_read (ok_Board_read h) (hr.mono (by decide : 5 ≤ 5)) (qas_cons (qo_of (qe_join (qo_of (qe_str [32])) (qas_cons (qo_name 1) qas_nil))) qas_nil))) (qas_cons (qo_of (qe_callB (fun _ _ => cr_sorted rfl hr.u64) (by rfl) h.z_sorted PyProof.Rows.boot_sorted (qas_cons (qo_name 1) qas_nil))) qas_nil))) (qg_tup rfl (qgs_cons (qg_name 2 sc__law_is_right.nd) (qgs_cons (qg_name 3 sc__law_is_right.nd) qgs_nil))))
    (qss_cons (qs_for rfl (qi_of (qe_call (ok__law_all_rows h) (hr.mono (by decide : 1 ≤ 5)) (by rfl) h.g__law_all_rows h.F__law_all_rows.kp (qas_cons (qo_of (qe_callB (fun _ _ => cr_len) (by rfl) h.z_len PySem.boot_len (qas_cons (qo_of (qe_ix (qo_name 1) (qo_of qe_int))) qas_nil))) qas_nil))) (qg_name 4 sc__law_is_right.nd) (qss_cons (qs_set 5 sc__law_is_right.nd (qe_cmp (fun _ _ => op_inQ) (qo_name 4) (qo_name 3)))
    (qss_one (qs_if (qt_not (qt_val (qe_call (ok__law_is_equal h) (hr.mono (by decide : 1 ≤ 5)) (by rfl) h.g__law_is_equal h.F__law_is_equal.kp (qas_cons (qo_of (qe_lst (qas_cons (qo_of (qe_inO (spec_one h.m_Board___contains__.at_ h.m_Board___contains__.fn h.fi_Board___contains__ h.ns_Board (hr.mono (by decide : 2 ≤ 5)) (ok_Board___contains__ h)) (qo_name 4) (qo_name 2))) (qas_cons (qo_of (qe_inO (spec_one h.m_Board___contains__.at_ h.m_Board___contains__.fn h.fi_Board___contains__ h.ns_Board (hr.mono (by decide : 2 ≤ 5)) (ok_Board___contains__ h)) (qo_name 4) (qo_name 2))) (qas_cons (qo_of (qe_ninO (spec_one h.m_Board___contains__.at_ h.m_Board___contains__.fn h.fi_Board___contains__ h.ns_Board (hr.mono (by decide : 2 ≤ 5)) (ok_Board___contains__ h)) (qo_name 4) (qo_name 2))) qas_nil))))) (qas_cons (qo_of (qe_lst (qas_cons (qo_name 5) (qas_cons (qo_name 5) (qas_cons (qo_of (qe_not (qe_name 5))) qas_nil))))) qas_nil))))) (qss_one (qs_ret qe_bl)) qss_nil))))
    (qss_cons (qs_set 6 sc__law_is_right.nd (qe_ix (qo_name 3) (qo_of qe_int)))
    (qss_cons (qs_set 7 sc__law_is_right.nd (qe_lst (qas_cons (qo_of qe_non) (qas_cons (qo_of qe_int) (qas_cons (qo_of qe_int) (qas_cons (qo_of qe_bl) (qas_cons (qo_of (qe_str [])) (qas_cons (qo_of (qe_op (fun _ _ => op_mulQ) (qo_of (qe_str [48])) (qo_of (qe_op (fun _ _ => op_addD) (qo_of (qe_callB (fun _ _ => cr_len) (by rfl) h.z_len PySem.boot_len (qas_cons (qo_name 6) qas_nil))) (qo_of qe_int))))) (qas_cons (qo_of (qe_op (fun _ _ => op_addD) (qo_name 6) (qo_name 6))) (qas_cons (qo_of (qe_slice (qo_name 6) (qpo_yes (qo_of qe_int)) qpo_no)) (qas_cons (qo_of (qe_tup (qas_cons (qo_name 6) qas_nil))) (qas_cons (qo_of (qe_lst (qas_cons (qo_name 6) qas_nil))) (qas_cons (qo_of (qe_disp1 (qo_name 6) (qo_of qe_int))) (qas_cons (qo_of (qe_str [120])) (qas_cons (qo_of (qe_op (fun _ _ => op_addD) (qo_name 6) (qo_of (qe_str [32])))) qas_nil)))))))))))))))
    (qss_cons (qs_if (qt_cmp (fun _ _ => op_neQ hr.u64) (qo_of (qe_comp (own := [("_law_value", 9)]) rfl sc__law_is_right.nd (qi_of (qe_name 7)) (blkOk_by (N := ["_law_source_here", "_law_rows_here", "_law_board", "_law_kept", "_law_row", "_law_due", "_law_one", "_law_odd", "_law_wrong", "_law_value", "_law_k"]) (sc := defScope st__law_is_right) (by decide +kernel)) (fun _ _ _ _ _ => (qg_name 9 sc__law_is_right.nd)) (fun _ _ _ _ _ => (qts_one (qt_inO (spec_one h.m_Board___contains__.at_ h.m_Board___contains__.fn h.fi_Board___contains__ h.ns_Board (hr.mono (by decide : 2 ≤ 5)) (ok_Board___contains__ h)) (qo_name 9) (qo_name 2)))) (fun _ _ _ _ _ => (qe_name 9)))) (qo_of (qe_lst qas_nil))) (qss_one (qs_ret qe_bl)) qss_nil)
    (qss_cons (qs_if (qt_not (qt_val (qe_call (ok__law_is_equal h) (hr.mono (by decide : 1 ≤ 5)) (by rfl) h.g__law_is_equal h.F__law_is_equal.kp (qas_cons (qo_of (qe_comp (own := [("_law_k", 10)]) rfl sc__law_is_right.nd (qi_range1 (by rfl) h.z_range (qas_cons (qo_of (qe_callB (fun _ _ => cr_len) (by rfl) h.z_len PySem.boot_len (qas_cons (qo_name 3) qas_nil))) qas_nil)) (blkOk_by (N := ["_law_source_here", "_law_rows_here", "_law_board", "_law_kept", "_law_row", "_law_due", "_law_one", "_law_odd", "_law_wrong", "_law_value", "_law_k"]) (sc := defScope st__law_is_right) (by decide +kernel)) (fun _ _ _ _ _ => (qg_name 10 sc__law_is_right.nd)) (fun _ _ _ _ _ => qts_nil) (fun _ _ _ _ _ => (qe_call (ok__law_at h) (hr.mono (by decide : 4 ≤ 5)) (by rfl) h.g__law_at h.F__law_at.kp (qas_cons (qo_name 2) (qas_cons (qo_name 10) qas_nil)))))) (qas_cons (qo_name 3) qas_nil))))) (qss_one (qs_ret qe_bl)) qss_nil)
    (qss_cons (qs_set 8 sc__law_is_right.nd (qe_lst (qas_cons (qo_of (qe_neg (qo_of qe_int))) (qas_cons (qo_of (qe_callB (fun _ _ => cr_len) (by rfl) h.z_len PySem.boot_len (qas_cons (qo_name 3) qas_nil))) (qas_cons (qo_of (qe_op (fun _ _ => op_powD) (qo_of qe_int) (qo_of qe_int))) (qas_cons (qo_of qe_non) (qas_cons (qo_of qe_bl) (qas_cons (qo_of qe_bl) (qas_cons (qo_of (qe_str [48])) (qas_cons (qo_of (qe_str [])) (qas_cons (qo_of (qe_tup (qas_cons (qo_of qe_int) qas_nil))) (qas_cons (qo_of (qe_lst (qas_cons (qo_of qe_int) qas_nil))) (qas_cons (qo_of qe_dict0) (qas_cons (qo_name 6) qas_nil))))))))))))))
    (qss_one (qs_ret (qe_cmp (fun _ _ => op_eqQ hr.u64) (qo_of (qe_comp (own := [("_law_k", 10)]) rfl sc__law_is_right.nd (qi_of (qe_name 8)) (blkOk_by (N := ["_law_source_here", "_law_rows_here", "_law_board", "_law_kept", "_law_row", "_law_due", "_law_one", "_law_odd", "_law_wrong", "_law_value", "_law_k"]) (sc := defScope st__law_is_right) (by decide +kernel)) (fun _ _ _ _ _ => (qg_name 10 sc__law_is_right.nd)) (fun _ _ _ _ _ => qts_nil) (fun _ _ _ _ _ => (qe_call (ok__law_at h) (hr.mono (by decide : 4 ≤ 5)) (by rfl) h.g__law_at h.F__law_at.kp (qas_cons (qo_name 2) (qas_cons (qo_name 10) qas_nil)))))) (qo_of (qe_op (fun _ _ => op_mulQ) (qo_of (qe_lst (qas_cons (qo_of (qe_str [110, 117, 109, 98, 101, 114])) qas_nil))) (qo_of (qe_callB (fun _ _ => cr_len) (by rfl) h.z_len PySem.boot_len (qas_cons (qo_name 8) qas_nil))))))))))))))))
theorem sc_law : FnScope ["_law_script", "_law_k", "_law_source_here", "_law_lap"] ["_law_script"] (defScope st_law) := ⟨rfl, rfl, rfl, by decide +kernel, rfl, by decide +kernel, by decide +kernel⟩
def lp_law_0 (C0 : Addr) : S := (sIf (bNot (toB (eCall (sem__law_is_right C0) (asCons (oName 2) asNil)))) (sRet (eC (.bl false))) sNil)
def lp_law_1 (C0 : Addr) : S := (sSeq (sSet 2 (eCall sem__law_source (asCons (toA (eCall sem__law_cell (asCons (oName 0) (asCons (oName 1) asNil)))) asNil)))
    (sFor (iRange1 (asCons (toA (eC (.int 6))) asNil)) (gN 3) (lp_law_0 C0)))
def bd_law (C0 : Addr) : S := (sTry (sSeq (sFor (iRange1 (asCons (toA (eB maxI (asCons (toA (eC (.int 1))) (asCons (toA (eB minI (asCons (toA (eB lenD (asCons (oName 0) asNil))) (asCons (toA (eC (.int 4))) asNil)))) asNil)))) asNil)) (gN 1) (lp_law_1 C0))
    (sRet (eC (.bl true)))) (one 20 true) (sRet (eC (.bl false))))
def sem_law (C0 : Addr) : M EV := funD 4 1 (bd_law C0)
theorem ok_law (h : Hd K mg a) : FnG P w K mg base 7 a.f_law (spD K (tab a) (sem_law a.C_Board)) := by
  obtain ⟨fd, F⟩ := h.F_law.ex
  exact Dt.Fun.q F sc_law (F.binds (ps := ["_law_script"]) fun _ _ _ _ _ _ us hl => match us, hl with | [_], _ => rfl) fun cdv A outer s H E hr =>
    (qss_one (qs_try (sb := (one 20 true)) rfl rfl ⟨rfl, by decide, Or.inl h.g_QuotaError⟩ (qss_cons (qs_for rfl (qi_range1 (by rfl) h.z_range (qas_cons (qo_of (qe_callB (fun _ _ => cr_max2 rfl) (by rfl) h.z_max PyProof.Rows.boot_max (qas_cons (qo_of qe_int) (qas_cons (qo_of (qe_callB (fun _ _ => cr_min2 rfl) (by rfl) h.z_min PyProof.Rows.boot_min (qas_cons (qo_of (qe_callB (fun _ _ => cr_len) (by rfl) h.z_len PySem.boot_len (qas_cons (qo_name 0) qas_nil))) (qas_cons (qo_of qe_int) qas_nil)))) qas_nil)))) qas_nil)) (qg_name 1 sc_law.nd) (qss_cons (qs_set 2 sc_law.nd (qe_call (ok__law_source h) (hr.mono (by decide : 1 ≤ 6)) (by rfl) h.g__law_source h.F__law_source.kp (qas_cons (qo_of (qe_call (ok__law_cell h) (hr.mono (by decide : 1 ≤ 6)) (by rfl) h.g__law_cell h.F__law_cell.kp (qas_cons (qo_name 0) (qas_cons (qo_name 1) qas_nil)))) qas_nil)))
    (qss_one (qs_for rfl (qi_range1 (by rfl) h.z_range (qas_cons (qo_of qe_int) qas_nil)) (qg_name 3 sc_law.nd) (qss_one (qs_if (qt_not (qt_val (qe_call (ok__law_is_right h) (hr.mono (by decide : 6 ≤ 6)) (by rfl) h.g__law_is_right h.F__law_is_right.kp (qas_cons (qo_name 2) qas_nil)))) (qss_one (qs_ret qe_bl)) qss_nil))))))
    (qss_one (qs_ret qe_bl))) (fun t b e => by obtain ⟨rfl, rfl⟩ := one_inv e; exact h.e_QuotaError_QuotaError) (fun _ _ _ => (qss_one (qs_ret qe_bl)))))
end
theorem hd_of {K : PySem.W.Frag} {h : Heap} {mg : Str → Option Value} {C_QuotaError C_RowsError C_TextError C_NumberError C_Board f__law_source f__law_cell f__law_draw f__law_all_rows f__law_choose f__law_mixed f__law_rows f_is_answers f_are_rows f_Board___init__ f_Board_read f__law_is_equal f_Board___contains__ f_is_integer f_Board___getitem__ f__law_at f__law_is_right f_law p_Board_read : Addr} (X : K.In h) (G : h.Ns mainGlobals mg)
    (z_all : PySem.W.nsIn K mainGlobals "all" = some none)
    (z_bool : PySem.W.nsIn K mainGlobals "bool" = some none)
    (z_dict : PySem.W.nsIn K mainGlobals "dict" = some none)
    (z_int : PySem.W.nsIn K mainGlobals "int" = some none)
    (z_isinstance : PySem.W.nsIn K mainGlobals "isinstance" = some none)
    (z_len : PySem.W.nsIn K mainGlobals "len" = some none)
    (z_list : PySem.W.nsIn K mainGlobals "list" = some none)
    (z_max : PySem.W.nsIn K mainGlobals "max" = some none)
    (z_min : PySem.W.nsIn K mainGlobals "min" = some none)
    (z_range : PySem.W.nsIn K mainGlobals "range" = some none)
    (z_repr : PySem.W.nsIn K mainGlobals "repr" = some none)
    (z_set : PySem.W.nsIn K mainGlobals "set" = some none)
    (z_sorted : PySem.W.nsIn K mainGlobals "sorted" = some none)
    (z_str : PySem.W.nsIn K mainGlobals "str" = some none)
    (z_tuple : PySem.W.nsIn K mainGlobals "tuple" = some none)
    (g_QuotaError : PySem.W.nsIn K mainGlobals "QuotaError" = some (some (.ref C_QuotaError)))
    (g_RowsError : PySem.W.nsIn K mainGlobals "RowsError" = some (some (.ref C_RowsError)))
    (g_TextError : PySem.W.nsIn K mainGlobals "TextError" = some (some (.ref C_TextError)))
    (g_NumberError : PySem.W.nsIn K mainGlobals "NumberError" = some (some (.ref C_NumberError)))
    (g_Board : PySem.W.nsIn K mainGlobals "Board" = some (some (.ref C_Board)))
    (g__law_source : PySem.W.nsIn K mainGlobals "_law_source" = some (some (.ref f__law_source)))
    {oc__law_source kV__law_source dc__law_source pm__law_source cd__law_source ct__law_source : Value} {od__law_source an__law_source : Option Addr} {sl__law_source : Array (Option Value)} (l__law_source : K.lookup f__law_source = some ⟨oc__law_source, od__law_source, .func (PySem.W.fnOf "_law_source" "_law_source" (defArgs st__law_source) (defBody st__law_source) (defScope st__law_source) .none kV__law_source dc__law_source pm__law_source an__law_source cd__law_source ct__law_source), sl__law_source⟩)
    (c__law_source : PySem.W.codeIn K cd__law_source "_law_source" = true)
    (k__law_source : PySem.W.keepIn K (.ref f__law_source) = true)
    (g__law_cell : PySem.W.nsIn K mainGlobals "_law_cell" = some (some (.ref f__law_cell)))
    {oc__law_cell kV__law_cell dc__law_cell pm__law_cell cd__law_cell ct__law_cell : Value} {od__law_cell an__law_cell : Option Addr} {sl__law_cell : Array (Option Value)} (l__law_cell : K.lookup f__law_cell = some ⟨oc__law_cell, od__law_cell, .func (PySem.W.fnOf "_law_cell" "_law_cell" (defArgs st__law_cell) (defBody st__law_cell) (defScope st__law_cell) .none kV__law_cell dc__law_cell pm__law_cell an__law_cell cd__law_cell ct__law_cell), sl__law_cell⟩)
    (c__law_cell : PySem.W.codeIn K cd__law_cell "_law_cell" = true)
    (k__law_cell : PySem.W.keepIn K (.ref f__law_cell) = true)
    (g__law_draw : PySem.W.nsIn K mainGlobals "_law_draw" = some (some (.ref f__law_draw)))
    {oc__law_draw kV__law_draw dc__law_draw pm__law_draw cd__law_draw ct__law_draw : Value} {od__law_draw an__law_draw : Option Addr} {sl__law_draw : Array (Option Value)} (l__law_draw : K.lookup f__law_draw = some ⟨oc__law_draw, od__law_draw, .func (PySem.W.fnOf "_law_draw" "_law_draw" (defArgs st__law_draw) (defBody st__law_draw) (defScope st__law_draw) .none kV__law_draw dc__law_draw pm__law_draw an__law_draw cd__law_draw ct__law_draw), sl__law_draw⟩)
    (c__law_draw : PySem.W.codeIn K cd__law_draw "_law_draw" = true)
    (k__law_draw : PySem.W.keepIn K (.ref f__law_draw) = true)
    (g__law_all_rows : PySem.W.nsIn K mainGlobals "_law_all_rows" = some (some (.ref f__law_all_rows)))
    {oc__law_all_rows kV__law_all_rows dc__law_all_rows pm__law_all_rows cd__law_all_rows ct__law_all_rows : Value} {od__law_all_rows an__law_all_rows : Option Addr} {sl__law_all_rows : Array (Option Value)} (l__law_all_rows : K.lookup f__law_all_rows = some ⟨oc__law_all_rows, od__law_all_rows, .func (PySem.W.fnOf "_law_all_rows" "_law_all_rows" (defArgs st__law_all_rows) (defBody st__law_all_rows) (defScope st__law_all_rows) .none kV__law_all_rows dc__law_all_rows pm__law_all_rows an__law_all_rows cd__law_all_rows ct__law_all_rows), sl__law_all_rows⟩)
    (c__law_all_rows : PySem.W.codeIn K cd__law_all_rows "_law_all_rows" = true)
    (k__law_all_rows : PySem.W.keepIn K (.ref f__law_all_rows) = true)
    (g__law_choose : PySem.W.nsIn K mainGlobals "_law_choose" = some (some (.ref f__law_choose)))
    {oc__law_choose kV__law_choose dc__law_choose pm__law_choose cd__law_choose ct__law_choose : Value} {od__law_choose an__law_choose : Option Addr} {sl__law_choose : Array (Option Value)} (l__law_choose : K.lookup f__law_choose = some ⟨oc__law_choose, od__law_choose, .func (PySem.W.fnOf "_law_choose" "_law_choose" (defArgs st__law_choose) (defBody st__law_choose) (defScope st__law_choose) .none kV__law_choose dc__law_choose pm__law_choose an__law_choose cd__law_choose ct__law_choose), sl__law_choose⟩)
    (c__law_choose : PySem.W.codeIn K cd__law_choose "_law_choose" = true)
    (k__law_choose : PySem.W.keepIn K (.ref f__law_choose) = true)
    (g__law_mixed : PySem.W.nsIn K mainGlobals "_law_mixed" = some (some (.ref f__law_mixed)))
    {oc__law_mixed kV__law_mixed dc__law_mixed pm__law_mixed cd__law_mixed ct__law_mixed : Value} {od__law_mixed an__law_mixed : Option Addr} {sl__law_mixed : Array (Option Value)} (l__law_mixed : K.lookup f__law_mixed = some ⟨oc__law_mixed, od__law_mixed, .func (PySem.W.fnOf "_law_mixed" "_law_mixed" (defArgs st__law_mixed) (defBody st__law_mixed) (defScope st__law_mixed) .none kV__law_mixed dc__law_mixed pm__law_mixed an__law_mixed cd__law_mixed ct__law_mixed), sl__law_mixed⟩)
    (c__law_mixed : PySem.W.codeIn K cd__law_mixed "_law_mixed" = true)
    (k__law_mixed : PySem.W.keepIn K (.ref f__law_mixed) = true)
    (g__law_rows : PySem.W.nsIn K mainGlobals "_law_rows" = some (some (.ref f__law_rows)))
    {oc__law_rows kV__law_rows dc__law_rows pm__law_rows cd__law_rows ct__law_rows : Value} {od__law_rows an__law_rows : Option Addr} {sl__law_rows : Array (Option Value)} (l__law_rows : K.lookup f__law_rows = some ⟨oc__law_rows, od__law_rows, .func (PySem.W.fnOf "_law_rows" "_law_rows" (defArgs st__law_rows) (defBody st__law_rows) (defScope st__law_rows) .none kV__law_rows dc__law_rows pm__law_rows an__law_rows cd__law_rows ct__law_rows), sl__law_rows⟩)
    (c__law_rows : PySem.W.codeIn K cd__law_rows "_law_rows" = true)
    (k__law_rows : PySem.W.keepIn K (.ref f__law_rows) = true)
    (g_is_answers : PySem.W.nsIn K mainGlobals "is_answers" = some (some (.ref f_is_answers)))
    {oc_is_answers kV_is_answers dc_is_answers pm_is_answers cd_is_answers ct_is_answers : Value} {od_is_answers an_is_answers : Option Addr} {sl_is_answers : Array (Option Value)} (l_is_answers : K.lookup f_is_answers = some ⟨oc_is_answers, od_is_answers, .func (PySem.W.fnOf "is_answers" "is_answers" (defArgs st_is_answers) (defBody st_is_answers) (defScope st_is_answers) .none kV_is_answers dc_is_answers pm_is_answers an_is_answers cd_is_answers ct_is_answers), sl_is_answers⟩)
    (c_is_answers : PySem.W.codeIn K cd_is_answers "is_answers" = true)
    (k_is_answers : PySem.W.keepIn K (.ref f_is_answers) = true)
    (g_are_rows : PySem.W.nsIn K mainGlobals "are_rows" = some (some (.ref f_are_rows)))
    {oc_are_rows kV_are_rows dc_are_rows pm_are_rows cd_are_rows ct_are_rows : Value} {od_are_rows an_are_rows : Option Addr} {sl_are_rows : Array (Option Value)} (l_are_rows : K.lookup f_are_rows = some ⟨oc_are_rows, od_are_rows, .func (PySem.W.fnOf "are_rows" "are_rows" (defArgs st_are_rows) (defBody st_are_rows) (defScope st_are_rows) .none kV_are_rows dc_are_rows pm_are_rows an_are_rows cd_are_rows ct_are_rows), sl_are_rows⟩)
    (c_are_rows : PySem.W.codeIn K cd_are_rows "are_rows" = true)
    (k_are_rows : PySem.W.keepIn K (.ref f_are_rows) = true)
    {oc_Board___init__ kV_Board___init__ dc_Board___init__ pm_Board___init__ cd_Board___init__ ct_Board___init__ : Value} {od_Board___init__ an_Board___init__ : Option Addr} {sl_Board___init__ : Array (Option Value)} (l_Board___init__ : K.lookup f_Board___init__ = some ⟨oc_Board___init__, od_Board___init__, .func (PySem.W.fnOf "__init__" "Board.__init__" (defArgs st_Board___init__) (defBody st_Board___init__) (defScope st_Board___init__) .none kV_Board___init__ dc_Board___init__ pm_Board___init__ an_Board___init__ cd_Board___init__ ct_Board___init__), sl_Board___init__⟩)
    (c_Board___init__ : PySem.W.codeIn K cd_Board___init__ "Board.__init__" = true)
    (k_Board___init__ : PySem.W.keepIn K (.ref f_Board___init__) = true)
    {oc_Board_read kV_Board_read dc_Board_read pm_Board_read cd_Board_read ct_Board_read : Value} {od_Board_read an_Board_read : Option Addr} {sl_Board_read : Array (Option Value)} (l_Board_read : K.lookup f_Board_read = some ⟨oc_Board_read, od_Board_read, .func (PySem.W.fnOf "read" "Board.read" (defArgs st_Board_read) (defBody st_Board_read) (defScope st_Board_read) .none kV_Board_read dc_Board_read pm_Board_read an_Board_read cd_Board_read ct_Board_read), sl_Board_read⟩)
    (c_Board_read : PySem.W.codeIn K cd_Board_read "Board.read" = true)
    (k_Board_read : PySem.W.keepIn K (.ref f_Board_read) = true)
    (g__law_is_equal : PySem.W.nsIn K mainGlobals "_law_is_equal" = some (some (.ref f__law_is_equal)))
    {oc__law_is_equal kV__law_is_equal dc__law_is_equal pm__law_is_equal cd__law_is_equal ct__law_is_equal : Value} {od__law_is_equal an__law_is_equal : Option Addr} {sl__law_is_equal : Array (Option Value)} (l__law_is_equal : K.lookup f__law_is_equal = some ⟨oc__law_is_equal, od__law_is_equal, .func (PySem.W.fnOf "_law_is_equal" "_law_is_equal" (defArgs st__law_is_equal) (defBody st__law_is_equal) (defScope st__law_is_equal) .none kV__law_is_equal dc__law_is_equal pm__law_is_equal an__law_is_equal cd__law_is_equal ct__law_is_equal), sl__law_is_equal⟩)
    (c__law_is_equal : PySem.W.codeIn K cd__law_is_equal "_law_is_equal" = true)
    (k__law_is_equal : PySem.W.keepIn K (.ref f__law_is_equal) = true)
    {oc_Board___contains__ kV_Board___contains__ dc_Board___contains__ pm_Board___contains__ cd_Board___contains__ ct_Board___contains__ : Value} {od_Board___contains__ an_Board___contains__ : Option Addr} {sl_Board___contains__ : Array (Option Value)} (l_Board___contains__ : K.lookup f_Board___contains__ = some ⟨oc_Board___contains__, od_Board___contains__, .func (PySem.W.fnOf "__contains__" "Board.__contains__" (defArgs st_Board___contains__) (defBody st_Board___contains__) (defScope st_Board___contains__) .none kV_Board___contains__ dc_Board___contains__ pm_Board___contains__ an_Board___contains__ cd_Board___contains__ ct_Board___contains__), sl_Board___contains__⟩)
    (c_Board___contains__ : PySem.W.codeIn K cd_Board___contains__ "Board.__contains__" = true)
    (k_Board___contains__ : PySem.W.keepIn K (.ref f_Board___contains__) = true)
    (g_is_integer : PySem.W.nsIn K mainGlobals "is_integer" = some (some (.ref f_is_integer)))
    {oc_is_integer kV_is_integer dc_is_integer pm_is_integer cd_is_integer ct_is_integer : Value} {od_is_integer an_is_integer : Option Addr} {sl_is_integer : Array (Option Value)} (l_is_integer : K.lookup f_is_integer = some ⟨oc_is_integer, od_is_integer, .func (PySem.W.fnOf "is_integer" "is_integer" (defArgs st_is_integer) (defBody st_is_integer) (defScope st_is_integer) .none kV_is_integer dc_is_integer pm_is_integer an_is_integer cd_is_integer ct_is_integer), sl_is_integer⟩)
    (c_is_integer : PySem.W.codeIn K cd_is_integer "is_integer" = true)
    (k_is_integer : PySem.W.keepIn K (.ref f_is_integer) = true)
    {oc_Board___getitem__ kV_Board___getitem__ dc_Board___getitem__ pm_Board___getitem__ cd_Board___getitem__ ct_Board___getitem__ : Value} {od_Board___getitem__ an_Board___getitem__ : Option Addr} {sl_Board___getitem__ : Array (Option Value)} (l_Board___getitem__ : K.lookup f_Board___getitem__ = some ⟨oc_Board___getitem__, od_Board___getitem__, .func (PySem.W.fnOf "__getitem__" "Board.__getitem__" (defArgs st_Board___getitem__) (defBody st_Board___getitem__) (defScope st_Board___getitem__) .none kV_Board___getitem__ dc_Board___getitem__ pm_Board___getitem__ an_Board___getitem__ cd_Board___getitem__ ct_Board___getitem__), sl_Board___getitem__⟩)
    (c_Board___getitem__ : PySem.W.codeIn K cd_Board___getitem__ "Board.__getitem__" = true)
    (k_Board___getitem__ : PySem.W.keepIn K (.ref f_Board___getitem__) = true)
    (g__law_at : PySem.W.nsIn K mainGlobals "_law_at" = some (some (.ref f__law_at)))
    {oc__law_at kV__law_at dc__law_at pm__law_at cd__law_at ct__law_at : Value} {od__law_at an__law_at : Option Addr} {sl__law_at : Array (Option Value)} (l__law_at : K.lookup f__law_at = some ⟨oc__law_at, od__law_at, .func (PySem.W.fnOf "_law_at" "_law_at" (defArgs st__law_at) (defBody st__law_at) (defScope st__law_at) .none kV__law_at dc__law_at pm__law_at an__law_at cd__law_at ct__law_at), sl__law_at⟩)
    (c__law_at : PySem.W.codeIn K cd__law_at "_law_at" = true)
    (k__law_at : PySem.W.keepIn K (.ref f__law_at) = true)
    (g__law_is_right : PySem.W.nsIn K mainGlobals "_law_is_right" = some (some (.ref f__law_is_right)))
    {oc__law_is_right kV__law_is_right dc__law_is_right pm__law_is_right cd__law_is_right ct__law_is_right : Value} {od__law_is_right an__law_is_right : Option Addr} {sl__law_is_right : Array (Option Value)} (l__law_is_right : K.lookup f__law_is_right = some ⟨oc__law_is_right, od__law_is_right, .func (PySem.W.fnOf "_law_is_right" "_law_is_right" (defArgs st__law_is_right) (defBody st__law_is_right) (defScope st__law_is_right) .none kV__law_is_right dc__law_is_right pm__law_is_right an__law_is_right cd__law_is_right ct__law_is_right), sl__law_is_right⟩)
    (c__law_is_right : PySem.W.codeIn K cd__law_is_right "_law_is_right" = true)
    (k__law_is_right : PySem.W.keepIn K (.ref f__law_is_right) = true)
    (g_law : PySem.W.nsIn K mainGlobals "law" = some (some (.ref f_law)))
    {oc_law kV_law dc_law pm_law cd_law ct_law : Value} {od_law an_law : Option Addr} {sl_law : Array (Option Value)} (l_law : K.lookup f_law = some ⟨oc_law, od_law, .func (PySem.W.fnOf "law" "law" (defArgs st_law) (defBody st_law) (defScope st_law) .none kV_law dc_law pm_law an_law cd_law ct_law), sl_law⟩)
    (c_law : PySem.W.codeIn K cd_law "law" = true)
    (k_law : PySem.W.keepIn K (.ref f_law) = true)
    (pg_Board : PySem.W.plainGet K C_Board Str.empty = true)
    (hd_Board : PySem.W.hasDictIn K C_Board = true)
    (po_Board : PySem.W.plainOver K C_Board = true)
    (sa_Board : PySem.W.findIn K (.ref C_Board) "__setattr__" = some (some (.builtin "object.__setattr__")))
    (ns_Board : PySem.W.noSeq K C_Board = true)
    (ca_Board_read : PySem.W.findCls K (.ref C_Board) (.type "type") "read" = some (.get (.builtin "classmethod.__get__") (.ref p_Board_read) .none (.ref C_Board)))
    {rs_Board_read : List Value} (cb_Board_read : PySem.W.recIn K p_Board_read "classmethod" = some (.ref f_Board_read :: rs_Board_read))
    (cf_Board_read : PySem.W.fnIn K f_Board_read = true)
    (cra_Board : PySem.W.readsIn K C_Board (.type "type") = true)
    (crb_Board : PySem.W.specialIn K (.ref C_Board) "__getattribute__" = some (some (.builtin "type.__getattribute__")))
    {tk_MOST : Tok} (cv_MOST : PySem.W.findCls K (.ref C_Board) (.type "type") "MOST" = some (.val (.int 6 tk_MOST)))
    (n_Board_known : PySem.W.findIn K (.ref C_Board) "known" = some none)
    (mk_Board : PySem.W.makesIn K C_Board = true)
    (mi_Board : PySem.W.findIn K (.ref C_Board) "__init__" = some (some (.ref f_Board___init__)))
    (mf_Board : PySem.W.isFn K (.ref f_Board___init__) = true)
    (mk2_Board : PySem.W.keepIn K (.ref C_Board) = true)
    (ma_Board___contains__ : PySem.W.findIn K (.ref C_Board) "__contains__" = some (some (.ref f_Board___contains__)))
    (mb_Board___contains__ : PySem.W.isFn K (.ref f_Board___contains__) = true)
    (mc_Board___contains__ : PySem.W.keepIn K (.ref f_Board___contains__) = true)
    (fi_Board___contains__ : PySem.W.fnIn K f_Board___contains__ = true)
    (ma_Board___getitem__ : PySem.W.findIn K (.ref C_Board) "__getitem__" = some (some (.ref f_Board___getitem__)))
    (mb_Board___getitem__ : PySem.W.isFn K (.ref f_Board___getitem__) = true)
    (mc_Board___getitem__ : PySem.W.keepIn K (.ref f_Board___getitem__) = true)
    (fi_Board___getitem__ : PySem.W.fnIn K f_Board___getitem__ = true)
    (x_QuotaError : PySem.W.excIn K C_QuotaError [.type "ValueError", .type "Exception", .type "BaseException", .type "object"] "ValueError.__new__" = true)
    (k_QuotaError : PySem.W.keepIn K (.ref C_QuotaError) = true)
    (b_QuotaError : PySem.W.subIn K (.ref C_QuotaError) (.type "BaseException") = some true)
    (t_QuotaError : PySem.W.typeIn K (.ref C_QuotaError) = some (.type "type"))
    (x_RowsError : PySem.W.excIn K C_RowsError [.type "ValueError", .type "Exception", .type "BaseException", .type "object"] "ValueError.__new__" = true)
    (k_RowsError : PySem.W.keepIn K (.ref C_RowsError) = true)
    (b_RowsError : PySem.W.subIn K (.ref C_RowsError) (.type "BaseException") = some true)
    (t_RowsError : PySem.W.typeIn K (.ref C_RowsError) = some (.type "type"))
    (x_TextError : PySem.W.excIn K C_TextError [.type "ValueError", .type "Exception", .type "BaseException", .type "object"] "ValueError.__new__" = true)
    (k_TextError : PySem.W.keepIn K (.ref C_TextError) = true)
    (b_TextError : PySem.W.subIn K (.ref C_TextError) (.type "BaseException") = some true)
    (t_TextError : PySem.W.typeIn K (.ref C_TextError) = some (.type "type"))
    (x_NumberError : PySem.W.excIn K C_NumberError [.type "ValueError", .type "Exception", .type "BaseException", .type "object"] "ValueError.__new__" = true)
    (k_NumberError : PySem.W.keepIn K (.ref C_NumberError) = true)
    (b_NumberError : PySem.W.subIn K (.ref C_NumberError) (.type "BaseException") = some true)
    (t_NumberError : PySem.W.typeIn K (.ref C_NumberError) = some (.type "type"))
    (ei_NumberError_NumberError : PySem.W.isClsIn K C_NumberError = true)
    (es_NumberError_NumberError : PySem.W.subIn K (.ref C_NumberError) (.ref C_NumberError) = some true)
    (ei_QuotaError_QuotaError : PySem.W.isClsIn K C_QuotaError = true)
    (es_QuotaError_QuotaError : PySem.W.subIn K (.ref C_QuotaError) (.ref C_QuotaError) = some true)
    : Hd K mg ⟨C_QuotaError, C_RowsError, C_TextError, C_NumberError, C_Board, f__law_source, f__law_cell, f__law_draw, f__law_all_rows, f__law_choose, f__law_mixed, f__law_rows, f_is_answers, f_are_rows, f_Board___init__, f_Board_read, f__law_is_equal, f_Board___contains__, f_is_integer, f_Board___getitem__, f__law_at, f__law_is_right, f_law, p_Board_read⟩ where
  z_all := PySem.W.mg_none_of X G z_all
  z_bool := PySem.W.mg_none_of X G z_bool
  z_dict := PySem.W.mg_none_of X G z_dict
  z_int := PySem.W.mg_none_of X G z_int
  z_isinstance := PySem.W.mg_none_of X G z_isinstance
  z_len := PySem.W.mg_none_of X G z_len
  z_list := PySem.W.mg_none_of X G z_list
  z_max := PySem.W.mg_none_of X G z_max
  z_min := PySem.W.mg_none_of X G z_min
  z_range := PySem.W.mg_none_of X G z_range
  z_repr := PySem.W.mg_none_of X G z_repr
  z_set := PySem.W.mg_none_of X G z_set
  z_sorted := PySem.W.mg_none_of X G z_sorted
  z_str := PySem.W.mg_none_of X G z_str
  z_tuple := PySem.W.mg_none_of X G z_tuple
  g_QuotaError := PySem.W.mg_of X G g_QuotaError
  g_RowsError := PySem.W.mg_of X G g_RowsError
  g_TextError := PySem.W.mg_of X G g_TextError
  g_NumberError := PySem.W.mg_of X G g_NumberError
  g_Board := PySem.W.mg_of X G g_Board
  g__law_source := PySem.W.mg_of X G g__law_source
  F__law_source := ⟨k__law_source, fx_of ⟨_, _, _, _, _, _, _, _, _, l__law_source, c__law_source⟩ k__law_source⟩
  g__law_cell := PySem.W.mg_of X G g__law_cell
  F__law_cell := ⟨k__law_cell, fx_of ⟨_, _, _, _, _, _, _, _, _, l__law_cell, c__law_cell⟩ k__law_cell⟩
  g__law_draw := PySem.W.mg_of X G g__law_draw
  F__law_draw := ⟨k__law_draw, fx_of ⟨_, _, _, _, _, _, _, _, _, l__law_draw, c__law_draw⟩ k__law_draw⟩
  g__law_all_rows := PySem.W.mg_of X G g__law_all_rows
  F__law_all_rows := ⟨k__law_all_rows, fx_of ⟨_, _, _, _, _, _, _, _, _, l__law_all_rows, c__law_all_rows⟩ k__law_all_rows⟩
  g__law_choose := PySem.W.mg_of X G g__law_choose
  F__law_choose := ⟨k__law_choose, fx_of ⟨_, _, _, _, _, _, _, _, _, l__law_choose, c__law_choose⟩ k__law_choose⟩
  g__law_mixed := PySem.W.mg_of X G g__law_mixed
  F__law_mixed := ⟨k__law_mixed, fx_of ⟨_, _, _, _, _, _, _, _, _, l__law_mixed, c__law_mixed⟩ k__law_mixed⟩
  g__law_rows := PySem.W.mg_of X G g__law_rows
  F__law_rows := ⟨k__law_rows, fx_of ⟨_, _, _, _, _, _, _, _, _, l__law_rows, c__law_rows⟩ k__law_rows⟩
  g_is_answers := PySem.W.mg_of X G g_is_answers
  F_is_answers := ⟨k_is_answers, fx_of ⟨_, _, _, _, _, _, _, _, _, l_is_answers, c_is_answers⟩ k_is_answers⟩
  g_are_rows := PySem.W.mg_of X G g_are_rows
  F_are_rows := ⟨k_are_rows, fx_of ⟨_, _, _, _, _, _, _, _, _, l_are_rows, c_are_rows⟩ k_are_rows⟩
  F_Board___init__ := ⟨k_Board___init__, fx_of ⟨_, _, _, _, _, _, _, _, _, l_Board___init__, c_Board___init__⟩ k_Board___init__⟩
  F_Board_read := ⟨k_Board_read, fx_of ⟨_, _, _, _, _, _, _, _, _, l_Board_read, c_Board_read⟩ k_Board_read⟩
  g__law_is_equal := PySem.W.mg_of X G g__law_is_equal
  F__law_is_equal := ⟨k__law_is_equal, fx_of ⟨_, _, _, _, _, _, _, _, _, l__law_is_equal, c__law_is_equal⟩ k__law_is_equal⟩
  F_Board___contains__ := ⟨k_Board___contains__, fx_of ⟨_, _, _, _, _, _, _, _, _, l_Board___contains__, c_Board___contains__⟩ k_Board___contains__⟩
  g_is_integer := PySem.W.mg_of X G g_is_integer
  F_is_integer := ⟨k_is_integer, fx_of ⟨_, _, _, _, _, _, _, _, _, l_is_integer, c_is_integer⟩ k_is_integer⟩
  F_Board___getitem__ := ⟨k_Board___getitem__, fx_of ⟨_, _, _, _, _, _, _, _, _, l_Board___getitem__, c_Board___getitem__⟩ k_Board___getitem__⟩
  g__law_at := PySem.W.mg_of X G g__law_at
  F__law_at := ⟨k__law_at, fx_of ⟨_, _, _, _, _, _, _, _, _, l__law_at, c__law_at⟩ k__law_at⟩
  g__law_is_right := PySem.W.mg_of X G g__law_is_right
  F__law_is_right := ⟨k__law_is_right, fx_of ⟨_, _, _, _, _, _, _, _, _, l__law_is_right, c__law_is_right⟩ k__law_is_right⟩
  g_law := PySem.W.mg_of X G g_law
  F_law := ⟨k_law, fx_of ⟨_, _, _, _, _, _, _, _, _, l_law, c_law⟩ k_law⟩
  cl_Board := ⟨pg_Board, hd_Board, po_Board, sa_Board⟩
  ns_Board := ns_Board
  cm_Board_read := ⟨ca_Board_read, ⟨_, cb_Board_read⟩, cf_Board_read⟩
  cr_Board := ⟨cra_Board, crb_Board⟩
  cv_MOST := ⟨_, cv_MOST, _, rfl⟩
  n_Board_known := n_Board_known
  mk_Board := ⟨mk_Board, mi_Board, mf_Board, mk2_Board⟩
  m_Board___contains__ := ⟨ma_Board___contains__, mb_Board___contains__, mc_Board___contains__⟩
  fi_Board___contains__ := fi_Board___contains__
  m_Board___getitem__ := ⟨ma_Board___getitem__, mb_Board___getitem__, mc_Board___getitem__⟩
  fi_Board___getitem__ := fi_Board___getitem__
  x_QuotaError := x_QuotaError
  k_QuotaError := k_QuotaError
  b_QuotaError := b_QuotaError
  t_QuotaError := t_QuotaError
  x_RowsError := x_RowsError
  k_RowsError := k_RowsError
  b_RowsError := b_RowsError
  t_RowsError := t_RowsError
  x_TextError := x_TextError
  k_TextError := k_TextError
  b_TextError := b_TextError
  t_TextError := t_TextError
  x_NumberError := x_NumberError
  k_NumberError := k_NumberError
  b_NumberError := b_NumberError
  t_NumberError := t_NumberError
  e_NumberError_NumberError := (exm_of b_NumberError ei_NumberError_NumberError t_NumberError es_NumberError_NumberError)
  e_QuotaError_QuotaError := (exm_of b_QuotaError ei_QuotaError_QuotaError t_QuotaError es_QuotaError_QuotaError)
end Lw
end
section
set_option maxRecDepth 100000
set_option maxHeartbeats 4000000
namespace Lw
open PySem Dt
/-- the source of numbers -/
def Src (s : List D) : Prop := ∃ a b c : Int, s = [.int a, .int b, .int c]
theorem draw_ok {s : List D} (hs : Src s) {m : Int} (h1 : 0 < m) (h2 : m < 1073741824) : ∃ r s', Src s' ∧ 0 ≤ r ∧ r < m ∧ sem__law_draw [.own (.lst s), .val (.int m)] = some (.ok (.v (.int r)) [.own (.lst s'), .val (.int m)]) := by
  obtain ⟨a, b, c, rfl⟩ := hs
  by_cases h : 0 < a
  · refine ⟨a % m, [.int (a / m), .int b, .int c], ⟨_, _, _, rfl⟩, Int.emod_nonneg _ (by omega), Int.emod_lt_of_pos _ h1, ?_⟩
    simp [↓funD, ↓funV, ↓callM, ↓argsOf, ↓argOf, ↓argS, ↓back, ↓put1, ↓isOwn, ↓sidx, ↓eCall, ↓sSeq, ↓sIf, ↓sE, ↓toB, ↓M.bind, ↓eOp, ↓opM, ↓toA, ↓oName, ↓eName, ↓eC, ↓M.ret, ↓M.stuck, ↓lift, ↓deref, ↓rdS, ↓frz, ↓frzC, ↓eB, ↓bM, ↓asCons, ↓asNil, ↓derefs, ↓vals, ↓eTup, ↓eLst, ↓sRet, ↓sRetV, ↓sSet, ↓slotOf, ↓sExpr, ↓sNil, ↓sBreak, ↓sCont, ↓sRetN, ↓orD, ↓orB, ↓opI2, ↓yes2, ↓okMul, ↓okDiv, ↓okMod, ↓okPow, ↓ltI, ↓leI, ↓gtI, ↓geI, ↓addI, ↓addS, ↓addL, ↓addT, ↓subD, ↓mulI, ↓mulD, ↓mulS, ↓mulL, ↓mulT, ↓divD, ↓modD, ↓powD, ↓ltD, ↓ltS, ↓addD, ↓vB, ↓vI, ↓sSetL, ↓sSetD, ↓atV, ↓grd, ↓setLM, ↓setDM, ↓ixD, ↓seqD, ↓lenD, ↓sPar, ↓eAnd, ↓eOr, ↓eNot, ↓eIf, ↓bAnd, ↓bOr, ↓bNot, ↓eNeg, ↓negD, ↓eChain, ↓eqD, ↓eqS, ↓neD, ↓neS, ↓scalD, ↓scEq, ↓isD, ↓isB, ↓isNon, ↓inD, ↓ninD, ↓inC, ↓inL, ↓flatD, ↓flEq, ↓eBM, ↓tyM, ↓isStrD, ↓isLstD, ↓mutM, ↓ownLst, ↓opAppend, ↓opExtend, ↓opPop, ↓eSlice, ↓pNo, ↓pYes, ↓sliceD, ↓eIsi, ↓eIsi.objIs, ↓isiB, ↓kindN, ↓isInt, ↓isBool, ↓isStr, ↓isTup, ↓isLst, ↓isDic, ↓objOf, ↓objS, ↓listD, ↓tupD, ↓maxI, ↓minI, ↓absD, ↓intD, ↓allD, ↓anyD, ↓sumD, ↓iOf, ↓iRange1, ↓iRange2, ↓itemsOf, ↓gN, ↓bYes, ↓sFor, ↓sTry, ↓sRaise, ↓eFld, ↓sSetF, ↓setFM, ↓one, ↓eMakeS, ↓eMakeSL, ↓starD, ↓makeM, ↓eMake, ↓eCMeth, ↓eProp, ↓eMeth, ↓eOpM, ↓inO, ↓spO, ↓spO1, ↓rg1, ↓rg2, ↓lenSetD, ↓splitD, ↓joinD, ↓countD, ↓sortD, ↓sortItems, ↓dictD, ↓reprD, ↓eDict0, ↓disp1, ↓keyD, ↓FL, ↓sAsg, ↓gT, ↓gsCons, ↓gsNil, ↓sPar3, ↓st3, ↓valsOf, ↓lt, sem__law_draw,  bd__law_draw,  h,  h1,  h2,  L2.atI,  L2.ixN]
  · obtain ⟨b', hb'⟩ : ∃ b', b' = (b * 48271 + 1009 * (c + 1) + 7) % 2147483647 := ⟨_, rfl⟩
    obtain ⟨x, hx⟩ : ∃ x, x = (b' * b' + 69621 * b' + 11) % 2147483629 := ⟨_, rfl⟩
    obtain ⟨y, hy⟩ : ∃ y, y = (x * x + 40014 * x) % 2147483587 := ⟨_, rfl⟩
    refine ⟨y / 16 % m, [.int a, .int b', .int (c + 1)], ⟨_, _, _, rfl⟩, Int.emod_nonneg _ (by omega), Int.emod_lt_of_pos _ h1, ?_⟩
    have k1 : -(18446744073709551616 : Int) < b' ∧ b' < 18446744073709551616 := by omega
    have k2 : -(18446744073709551616 : Int) < x ∧ x < 18446744073709551616 := by omega
    simp [↓funD, ↓funV, ↓callM, ↓argsOf, ↓argOf, ↓argS, ↓back, ↓put1, ↓isOwn, ↓sidx, ↓eCall, ↓sSeq, ↓sIf, ↓sE, ↓toB, ↓M.bind, ↓eOp, ↓opM, ↓toA, ↓oName, ↓eName, ↓eC, ↓M.ret, ↓M.stuck, ↓lift, ↓deref, ↓rdS, ↓frz, ↓frzC, ↓eB, ↓bM, ↓asCons, ↓asNil, ↓derefs, ↓vals, ↓eTup, ↓eLst, ↓sRet, ↓sRetV, ↓sSet, ↓slotOf, ↓sExpr, ↓sNil, ↓sBreak, ↓sCont, ↓sRetN, ↓orD, ↓orB, ↓opI2, ↓yes2, ↓okMul, ↓okDiv, ↓okMod, ↓okPow, ↓ltI, ↓leI, ↓gtI, ↓geI, ↓addI, ↓addS, ↓addL, ↓addT, ↓subD, ↓mulI, ↓mulD, ↓mulS, ↓mulL, ↓mulT, ↓divD, ↓modD, ↓powD, ↓ltD, ↓ltS, ↓addD, ↓vB, ↓vI, ↓sSetL, ↓sSetD, ↓atV, ↓grd, ↓setLM, ↓setDM, ↓ixD, ↓seqD, ↓lenD, ↓sPar, ↓eAnd, ↓eOr, ↓eNot, ↓eIf, ↓bAnd, ↓bOr, ↓bNot, ↓eNeg, ↓negD, ↓eChain, ↓eqD, ↓eqS, ↓neD, ↓neS, ↓scalD, ↓scEq, ↓isD, ↓isB, ↓isNon, ↓inD, ↓ninD, ↓inC, ↓inL, ↓flatD, ↓flEq, ↓eBM, ↓tyM, ↓isStrD, ↓isLstD, ↓mutM, ↓ownLst, ↓opAppend, ↓opExtend, ↓opPop, ↓eSlice, ↓pNo, ↓pYes, ↓sliceD, ↓eIsi, ↓eIsi.objIs, ↓isiB, ↓kindN, ↓isInt, ↓isBool, ↓isStr, ↓isTup, ↓isLst, ↓isDic, ↓objOf, ↓objS, ↓listD, ↓tupD, ↓maxI, ↓minI, ↓absD, ↓intD, ↓allD, ↓anyD, ↓sumD, ↓iOf, ↓iRange1, ↓iRange2, ↓itemsOf, ↓gN, ↓bYes, ↓sFor, ↓sTry, ↓sRaise, ↓eFld, ↓sSetF, ↓setFM, ↓one, ↓eMakeS, ↓eMakeSL, ↓starD, ↓makeM, ↓eMake, ↓eCMeth, ↓eProp, ↓eMeth, ↓eOpM, ↓inO, ↓spO, ↓spO1, ↓rg1, ↓rg2, ↓lenSetD, ↓splitD, ↓joinD, ↓countD, ↓sortD, ↓sortItems, ↓dictD, ↓reprD, ↓eDict0, ↓disp1, ↓keyD, ↓FL, ↓sAsg, ↓gT, ↓gsCons, ↓gsNil, ↓sPar3, ↓st3, ↓valsOf, ↓lt, sem__law_draw,  bd__law_draw,  h,  h1,  h2,  L2.atI,  L2.ixN,  ← hb',  ← hx,  ← hy,  k1.1,  k1.2,  k2.1,  k2.2]
theorem cell_ok (ns : List Int) (i : Nat) : ∃ c : Int, sem__law_cell [.val (.scr ns), .val (.int i)] = some (.ok (.v (.int c)) [.val (.scr ns), .val (.int i)]) := by
  by_cases h : i < ns.length
  · refine ⟨ns[i], ?_⟩
    simp [↓funD, ↓funV, ↓callM, ↓argsOf, ↓argOf, ↓argS, ↓back, ↓put1, ↓isOwn, ↓sidx, ↓eCall, ↓sSeq, ↓sIf, ↓sE, ↓toB, ↓M.bind, ↓eOp, ↓opM, ↓toA, ↓oName, ↓eName, ↓eC, ↓M.ret, ↓M.stuck, ↓lift, ↓deref, ↓rdS, ↓frz, ↓frzC, ↓eB, ↓bM, ↓asCons, ↓asNil, ↓derefs, ↓vals, ↓eTup, ↓eLst, ↓sRet, ↓sRetV, ↓sSet, ↓slotOf, ↓sExpr, ↓sNil, ↓sBreak, ↓sCont, ↓sRetN, ↓orD, ↓orB, ↓opI2, ↓yes2, ↓okMul, ↓okDiv, ↓okMod, ↓okPow, ↓ltI, ↓leI, ↓gtI, ↓geI, ↓addI, ↓addS, ↓addL, ↓addT, ↓subD, ↓mulI, ↓mulD, ↓mulS, ↓mulL, ↓mulT, ↓divD, ↓modD, ↓powD, ↓ltD, ↓ltS, ↓addD, ↓vB, ↓vI, ↓sSetL, ↓sSetD, ↓atV, ↓grd, ↓setLM, ↓setDM, ↓ixD, ↓seqD, ↓lenD, ↓sPar, ↓eAnd, ↓eOr, ↓eNot, ↓eIf, ↓bAnd, ↓bOr, ↓bNot, ↓eNeg, ↓negD, ↓eChain, ↓eqD, ↓eqS, ↓neD, ↓neS, ↓scalD, ↓scEq, ↓isD, ↓isB, ↓isNon, ↓inD, ↓ninD, ↓inC, ↓inL, ↓flatD, ↓flEq, ↓eBM, ↓tyM, ↓isStrD, ↓isLstD, ↓mutM, ↓ownLst, ↓opAppend, ↓opExtend, ↓opPop, ↓eSlice, ↓pNo, ↓pYes, ↓sliceD, ↓eIsi, ↓eIsi.objIs, ↓isiB, ↓kindN, ↓isInt, ↓isBool, ↓isStr, ↓isTup, ↓isLst, ↓isDic, ↓objOf, ↓objS, ↓listD, ↓tupD, ↓maxI, ↓minI, ↓absD, ↓intD, ↓allD, ↓anyD, ↓sumD, ↓iOf, ↓iRange1, ↓iRange2, ↓itemsOf, ↓gN, ↓bYes, ↓sFor, ↓sTry, ↓sRaise, ↓eFld, ↓sSetF, ↓setFM, ↓one, ↓eMakeS, ↓eMakeSL, ↓starD, ↓makeM, ↓eMake, ↓eCMeth, ↓eProp, ↓eMeth, ↓eOpM, ↓inO, ↓spO, ↓spO1, ↓rg1, ↓rg2, ↓lenSetD, ↓splitD, ↓joinD, ↓countD, ↓sortD, ↓sortItems, ↓dictD, ↓reprD, ↓eDict0, ↓disp1, ↓keyD, ↓FL, ↓sAsg, ↓gT, ↓gsCons, ↓gsNil, ↓sPar3, ↓st3, ↓valsOf, ↓lt, sem__law_cell,  bd__law_cell,  h,  L2.atI,  L2.ixN]
  · refine ⟨0, ?_⟩
    simp [↓funD, ↓funV, ↓callM, ↓argsOf, ↓argOf, ↓argS, ↓back, ↓put1, ↓isOwn, ↓sidx, ↓eCall, ↓sSeq, ↓sIf, ↓sE, ↓toB, ↓M.bind, ↓eOp, ↓opM, ↓toA, ↓oName, ↓eName, ↓eC, ↓M.ret, ↓M.stuck, ↓lift, ↓deref, ↓rdS, ↓frz, ↓frzC, ↓eB, ↓bM, ↓asCons, ↓asNil, ↓derefs, ↓vals, ↓eTup, ↓eLst, ↓sRet, ↓sRetV, ↓sSet, ↓slotOf, ↓sExpr, ↓sNil, ↓sBreak, ↓sCont, ↓sRetN, ↓orD, ↓orB, ↓opI2, ↓yes2, ↓okMul, ↓okDiv, ↓okMod, ↓okPow, ↓ltI, ↓leI, ↓gtI, ↓geI, ↓addI, ↓addS, ↓addL, ↓addT, ↓subD, ↓mulI, ↓mulD, ↓mulS, ↓mulL, ↓mulT, ↓divD, ↓modD, ↓powD, ↓ltD, ↓ltS, ↓addD, ↓vB, ↓vI, ↓sSetL, ↓sSetD, ↓atV, ↓grd, ↓setLM, ↓setDM, ↓ixD, ↓seqD, ↓lenD, ↓sPar, ↓eAnd, ↓eOr, ↓eNot, ↓eIf, ↓bAnd, ↓bOr, ↓bNot, ↓eNeg, ↓negD, ↓eChain, ↓eqD, ↓eqS, ↓neD, ↓neS, ↓scalD, ↓scEq, ↓isD, ↓isB, ↓isNon, ↓inD, ↓ninD, ↓inC, ↓inL, ↓flatD, ↓flEq, ↓eBM, ↓tyM, ↓isStrD, ↓isLstD, ↓mutM, ↓ownLst, ↓opAppend, ↓opExtend, ↓opPop, ↓eSlice, ↓pNo, ↓pYes, ↓sliceD, ↓eIsi, ↓eIsi.objIs, ↓isiB, ↓kindN, ↓isInt, ↓isBool, ↓isStr, ↓isTup, ↓isLst, ↓isDic, ↓objOf, ↓objS, ↓listD, ↓tupD, ↓maxI, ↓minI, ↓absD, ↓intD, ↓allD, ↓anyD, ↓sumD, ↓iOf, ↓iRange1, ↓iRange2, ↓itemsOf, ↓gN, ↓bYes, ↓sFor, ↓sTry, ↓sRaise, ↓eFld, ↓sSetF, ↓setFM, ↓one, ↓eMakeS, ↓eMakeSL, ↓starD, ↓makeM, ↓eMake, ↓eCMeth, ↓eProp, ↓eMeth, ↓eOpM, ↓inO, ↓spO, ↓spO1, ↓rg1, ↓rg2, ↓lenSetD, ↓splitD, ↓joinD, ↓countD, ↓sortD, ↓sortItems, ↓dictD, ↓reprD, ↓eDict0, ↓disp1, ↓keyD, ↓FL, ↓sAsg, ↓gT, ↓gsCons, ↓gsNil, ↓sPar3, ↓st3, ↓valsOf, ↓lt, sem__law_cell,  bd__law_cell,  h]
theorem source_ok (c : Int) : ∃ s, Src s ∧ sem__law_source [.val (.int c)] = some (.ok (.o (.lst s)) [.val (.int c)]) := by
  refine ⟨[.int (if 1000000000000000000 < c then c - 1000000000000000000 else 0), .int (c % 2147483629 + 1), .int 0], ⟨_, _, _, rfl⟩, ?_⟩
  simp [↓funD, ↓funV, ↓callM, ↓argsOf, ↓argOf, ↓argS, ↓back, ↓put1, ↓isOwn, ↓sidx, ↓eCall, ↓sSeq, ↓sIf, ↓sE, ↓toB, ↓M.bind, ↓eOp, ↓opM, ↓toA, ↓oName, ↓eName, ↓eC, ↓M.ret, ↓M.stuck, ↓lift, ↓deref, ↓rdS, ↓frz, ↓frzC, ↓eB, ↓bM, ↓asCons, ↓asNil, ↓derefs, ↓vals, ↓eTup, ↓eLst, ↓sRet, ↓sRetV, ↓sSet, ↓slotOf, ↓sExpr, ↓sNil, ↓sBreak, ↓sCont, ↓sRetN, ↓orD, ↓orB, ↓opI2, ↓yes2, ↓okMul, ↓okDiv, ↓okMod, ↓okPow, ↓ltI, ↓leI, ↓gtI, ↓geI, ↓addI, ↓addS, ↓addL, ↓addT, ↓subD, ↓mulI, ↓mulD, ↓mulS, ↓mulL, ↓mulT, ↓divD, ↓modD, ↓powD, ↓ltD, ↓ltS, ↓addD, ↓vB, ↓vI, ↓sSetL, ↓sSetD, ↓atV, ↓grd, ↓setLM, ↓setDM, ↓ixD, ↓seqD, ↓lenD, ↓sPar, ↓eAnd, ↓eOr, ↓eNot, ↓eIf, ↓bAnd, ↓bOr, ↓bNot, ↓eNeg, ↓negD, ↓eChain, ↓eqD, ↓eqS, ↓neD, ↓neS, ↓scalD, ↓scEq, ↓isD, ↓isB, ↓isNon, ↓inD, ↓ninD, ↓inC, ↓inL, ↓flatD, ↓flEq, ↓eBM, ↓tyM, ↓isStrD, ↓isLstD, ↓mutM, ↓ownLst, ↓opAppend, ↓opExtend, ↓opPop, ↓eSlice, ↓pNo, ↓pYes, ↓sliceD, ↓eIsi, ↓eIsi.objIs, ↓isiB, ↓kindN, ↓isInt, ↓isBool, ↓isStr, ↓isTup, ↓isLst, ↓isDic, ↓objOf, ↓objS, ↓listD, ↓tupD, ↓maxI, ↓minI, ↓absD, ↓intD, ↓allD, ↓anyD, ↓sumD, ↓iOf, ↓iRange1, ↓iRange2, ↓itemsOf, ↓gN, ↓bYes, ↓sFor, ↓sTry, ↓sRaise, ↓eFld, ↓sSetF, ↓setFM, ↓one, ↓eMakeS, ↓eMakeSL, ↓starD, ↓makeM, ↓eMake, ↓eCMeth, ↓eProp, ↓eMeth, ↓eOpM, ↓inO, ↓spO, ↓spO1, ↓rg1, ↓rg2, ↓lenSetD, ↓splitD, ↓joinD, ↓countD, ↓sortD, ↓sortItems, ↓dictD, ↓reprD, ↓eDict0, ↓disp1, ↓keyD, ↓FL, ↓sAsg, ↓gT, ↓gsCons, ↓gsNil, ↓sPar3, ↓st3, ↓valsOf, ↓lt, sem__law_source,  bd__law_source]

end Lw
end
section
set_option maxRecDepth 100000
set_option maxHeartbeats 4000000
namespace Lw
open PySem Dt
/-- the rows with n signs, in order -/
def dbl : List (List Nat) → List (List Nat)
  | [] => []
  | r :: l => (r ++ [48]) :: (r ++ [49]) :: dbl l
def allR : Nat → List (List Nat)
  | 0 => [[]]
  | n + 1 => dbl (allR n)
theorem dbl_app : ∀ (l m : List (List Nat)), dbl (l ++ m) = dbl l ++ dbl m
  | [], m => rfl
  | r :: l, m => by simp [dbl, dbl_app l m]
theorem len_dbl : ∀ (l : List (List Nat)), (dbl l).length = 2 * l.length
  | [] => rfl
  | r :: l => by simp [dbl, len_dbl l]; omega
theorem mem_dbl {x : List Nat} : ∀ {l : List (List Nat)}, x ∈ dbl l ↔ ∃ r ∈ l, x = r ++ [48] ∨ x = r ++ [49]
  | [] => by simp [dbl]
  | r :: l => by simp [dbl, mem_dbl (l := l), or_assoc]
theorem len_allR : ∀ n, (allR n).length = 2 ^ n
  | 0 => rfl
  | n + 1 => by rw [allR, len_dbl, len_allR n, Nat.pow_succ]; omega
theorem mem_allR {r : List Nat} : ∀ {n}, r ∈ allR n ↔ r.length = n ∧ ∀ c ∈ r, c = 48 ∨ c = 49
  | 0 => by simp [allR]; rintro rfl; simp
  | n + 1 => by
    simp only [allR, mem_dbl, mem_allR (n := n)]
    constructor
    · rintro ⟨s, ⟨h1, h2⟩, rfl | rfl⟩
      · exact ⟨by simp [h1], fun c hc => (List.mem_append.mp hc).elim (h2 c) fun q => .inl (by simpa using q)⟩
      · exact ⟨by simp [h1], fun c hc => (List.mem_append.mp hc).elim (h2 c) fun q => .inr (by simpa using q)⟩
    · rintro ⟨h1, h2⟩
      have hne : r ≠ [] := by rintro rfl; simp at h1
      refine ⟨r.dropLast, ⟨by simp [h1], fun c hc => h2 c (List.dropLast_subset _ hc)⟩, ?_⟩
      have := h2 _ (List.getLast_mem hne)
      have e := List.dropLast_concat_getLast hne
      rcases this with q | q
      · exact .inl (by rw [q] at e; exact e.symm)
      · exact .inr (by rw [q] at e; exact e.symm)
theorem nodup_dbl : ∀ {l : List (List Nat)}, l.Nodup → (dbl l).Nodup
  | [], _ => List.nodup_nil
  | r :: l, h => by
    obtain ⟨h1, h2⟩ := List.nodup_cons.mp h
    refine List.nodup_cons.mpr ⟨?_, List.nodup_cons.mpr ⟨?_, nodup_dbl h2⟩⟩
    · simp only [List.mem_cons, mem_dbl, not_or]
      refine ⟨by simp, ?_⟩
      rintro ⟨s, hs, q | q⟩
      · exact h1 ((List.append_inj_left' q rfl) ▸ hs)
      · simp at q
    · simp only [mem_dbl]
      rintro ⟨s, hs, q | q⟩
      · simp at q
      · exact h1 ((List.append_inj_left' q rfl) ▸ hs)
theorem nodup_allR : ∀ n, (allR n).Nodup
  | 0 => by simp [allR]
  | n + 1 => nodup_dbl (nodup_allR n)
theorem rangeD_len (n : Nat) : (rangeD 0 (n : Int)).length = n := by simp [rangeD]
theorem small_of {n : Nat} (h : n < 1000000) : small62 (n : Int) = true := by simp [small62]; omega
theorem rangeD_lt {n j : Nat} {d : D} (h : (rangeD 0 (n : Int))[j]? = some d) : j < n := by
  have := (List.getElem?_eq_some_iff.mp h).1
  simpa [rangeD] using this
theorem all_rows_ok (n : Nat) (h0 : 1 ≤ n) (hn : n ≤ 6) : sem__law_all_rows [.val (.int n)] = some (.ok (.v (.lst (strL (allR n)))) [.val (.int n)]) := by
  have h62 := small_of (show n < 1000000 by omega)
  have hne : ¬ n = 0 := by omega
  simp [↓funD, ↓funV, ↓callM, ↓argsOf, ↓argOf, ↓argS, ↓back, ↓put1, ↓isOwn, ↓sidx, ↓eCall, ↓sSeq, ↓sIf, ↓sE, ↓toB, ↓M.bind, ↓eOp, ↓opM, ↓toA, ↓oName, ↓eName, ↓eC, ↓M.ret, ↓M.stuck, ↓lift, ↓deref, ↓rdS, ↓frz, ↓frzC, ↓eB, ↓bM, ↓asCons, ↓asNil, ↓derefs, ↓vals, ↓eTup, ↓eLst, ↓sRet, ↓sRetV, ↓sSet, ↓slotOf, ↓sExpr, ↓sNil, ↓sBreak, ↓sCont, ↓sRetN, ↓orD, ↓orB, ↓opI2, ↓yes2, ↓okMul, ↓okDiv, ↓okMod, ↓okPow, ↓ltI, ↓leI, ↓gtI, ↓geI, ↓addI, ↓addS, ↓addL, ↓addT, ↓subD, ↓mulI, ↓mulD, ↓mulS, ↓mulL, ↓mulT, ↓divD, ↓modD, ↓powD, ↓ltD, ↓ltS, ↓addD, ↓vB, ↓vI, ↓sSetL, ↓sSetD, ↓atV, ↓grd, ↓setLM, ↓setDM, ↓ixD, ↓seqD, ↓lenD, ↓sPar, ↓eAnd, ↓eOr, ↓eNot, ↓eIf, ↓bAnd, ↓bOr, ↓bNot, ↓eNeg, ↓negD, ↓eChain, ↓eqD, ↓eqS, ↓neD, ↓neS, ↓scalD, ↓scEq, ↓isD, ↓isB, ↓isNon, ↓inD, ↓ninD, ↓inC, ↓inL, ↓flatD, ↓flEq, ↓eBM, ↓tyM, ↓isStrD, ↓isLstD, ↓mutM, ↓ownLst, ↓opAppend, ↓opExtend, ↓opPop, ↓eSlice, ↓pNo, ↓pYes, ↓sliceD, ↓eIsi, ↓eIsi.objIs, ↓isiB, ↓kindN, ↓isInt, ↓isBool, ↓isStr, ↓isTup, ↓isLst, ↓isDic, ↓objOf, ↓objS, ↓listD, ↓tupD, ↓maxI, ↓minI, ↓absD, ↓intD, ↓allD, ↓anyD, ↓sumD, ↓iOf, ↓iRange1, ↓iRange2, ↓itemsOf, ↓gN, ↓bYes, ↓sFor, ↓sTry, ↓sRaise, ↓eFld, ↓sSetF, ↓setFM, ↓one, ↓eMakeS, ↓eMakeSL, ↓starD, ↓makeM, ↓eMake, ↓eCMeth, ↓eProp, ↓eMeth, ↓eOpM, ↓inO, ↓spO, ↓spO1, ↓rg1, ↓rg2, ↓lenSetD, ↓splitD, ↓joinD, ↓countD, ↓sortD, ↓sortItems, ↓dictD, ↓reprD, ↓eDict0, ↓disp1, ↓keyD, ↓FL, ↓sAsg, ↓gT, ↓gsCons, ↓gsNil, ↓sPar3, ↓st3, ↓valsOf, ↓lt, sem__law_all_rows,  bd__law_all_rows,  h62]
  generalize h : forL _ _ _ _ = r
  obtain ⟨e', rfl, x, y, z, rfl⟩ := forL_is (fun k e => ∃ x y z, e = [.val (.int n), (if k = 0 then .own (.lst (strL (allR k))) else .val (.lst (strL (allR k)))), x, y, z]) h ⟨_, _, _, rfl⟩ (by
    intro j e d hd ⟨x, y, z, he⟩
    subst he
    have hj := rangeD_lt hd
    have hl : (allR j).length ≤ 64 := by rw [len_allR]; exact Nat.pow_le_pow_right (by omega) (show j ≤ 6 by omega)
    have hrun : ∀ r, forL (gN 4) lp__law_all_rows_0 (strL (allR j)) [Slot.val (D.int ↑n), Slot.val (D.lst (strL (allR j))), Slot.val d, Slot.own (OC.lst []), z] = r → ∃ z', r = some (.nx [.val (.int n), .val (.lst (strL (allR j))), .val d, .own (.lst (strL (dbl (allR j)))), z']) := by
      intro r h
      obtain ⟨e', rfl, z', rfl⟩ := forL_is (fun k e => ∃ z, e = [.val (.int n), .val (.lst (strL (allR j))), .val d, .own (.lst (strL (dbl ((allR j).take k)))), z]) h ⟨z, by simp [dbl]⟩ (by
        intro i e r hr ⟨z, he⟩
        subst he
        obtain ⟨r, hr', rfl⟩ : ∃ r', (allR j)[i]? = some r' ∧ D.str r' = r := by simpa [strL] using hr
        have h1 : r.length ≤ 999999 := by have := (mem_allR.mp (List.mem_of_getElem? hr')).1; omega
        have h2 : (dbl ((allR j).take i)).length ≤ 999998 := by
          rw [len_dbl, List.length_take]; omega
        simp [↓funD, ↓funV, ↓callM, ↓argsOf, ↓argOf, ↓argS, ↓back, ↓put1, ↓isOwn, ↓sidx, ↓eCall, ↓sSeq, ↓sIf, ↓sE, ↓toB, ↓M.bind, ↓eOp, ↓opM, ↓toA, ↓oName, ↓eName, ↓eC, ↓M.ret, ↓M.stuck, ↓lift, ↓deref, ↓rdS, ↓frz, ↓frzC, ↓eB, ↓bM, ↓asCons, ↓asNil, ↓derefs, ↓vals, ↓eTup, ↓eLst, ↓sRet, ↓sRetV, ↓sSet, ↓slotOf, ↓sExpr, ↓sNil, ↓sBreak, ↓sCont, ↓sRetN, ↓orD, ↓orB, ↓opI2, ↓yes2, ↓okMul, ↓okDiv, ↓okMod, ↓okPow, ↓ltI, ↓leI, ↓gtI, ↓geI, ↓addI, ↓addS, ↓addL, ↓addT, ↓subD, ↓mulI, ↓mulD, ↓mulS, ↓mulL, ↓mulT, ↓divD, ↓modD, ↓powD, ↓ltD, ↓ltS, ↓addD, ↓vB, ↓vI, ↓sSetL, ↓sSetD, ↓atV, ↓grd, ↓setLM, ↓setDM, ↓ixD, ↓seqD, ↓lenD, ↓sPar, ↓eAnd, ↓eOr, ↓eNot, ↓eIf, ↓bAnd, ↓bOr, ↓bNot, ↓eNeg, ↓negD, ↓eChain, ↓eqD, ↓eqS, ↓neD, ↓neS, ↓scalD, ↓scEq, ↓isD, ↓isB, ↓isNon, ↓inD, ↓ninD, ↓inC, ↓inL, ↓flatD, ↓flEq, ↓eBM, ↓tyM, ↓isStrD, ↓isLstD, ↓mutM, ↓ownLst, ↓opAppend, ↓opExtend, ↓opPop, ↓eSlice, ↓pNo, ↓pYes, ↓sliceD, ↓eIsi, ↓eIsi.objIs, ↓isiB, ↓kindN, ↓isInt, ↓isBool, ↓isStr, ↓isTup, ↓isLst, ↓isDic, ↓objOf, ↓objS, ↓listD, ↓tupD, ↓maxI, ↓minI, ↓absD, ↓intD, ↓allD, ↓anyD, ↓sumD, ↓iOf, ↓iRange1, ↓iRange2, ↓itemsOf, ↓gN, ↓bYes, ↓sFor, ↓sTry, ↓sRaise, ↓eFld, ↓sSetF, ↓setFM, ↓one, ↓eMakeS, ↓eMakeSL, ↓starD, ↓makeM, ↓eMake, ↓eCMeth, ↓eProp, ↓eMeth, ↓eOpM, ↓inO, ↓spO, ↓spO1, ↓rg1, ↓rg2, ↓lenSetD, ↓splitD, ↓joinD, ↓countD, ↓sortD, ↓sortItems, ↓dictD, ↓reprD, ↓eDict0, ↓disp1, ↓keyD, ↓FL, ↓sAsg, ↓gT, ↓gsCons, ↓gsNil, ↓sPar3, ↓st3, ↓valsOf, ↓lt, lp__law_all_rows_0,  strL,  List.take_add_one,  hr',  h1,  h2,  big,  dbl_app,  dbl])
      simp only [strL, List.length_map, List.take_length]
      exact ⟨_, rfl⟩
    by_cases hj0 : j = 0
    · subst hj0
      simp [↓funD, ↓funV, ↓callM, ↓argsOf, ↓argOf, ↓argS, ↓back, ↓put1, ↓isOwn, ↓sidx, ↓eCall, ↓sSeq, ↓sIf, ↓sE, ↓toB, ↓M.bind, ↓eOp, ↓opM, ↓toA, ↓oName, ↓eName, ↓eC, ↓M.ret, ↓M.stuck, ↓lift, ↓deref, ↓rdS, ↓frz, ↓frzC, ↓eB, ↓bM, ↓asCons, ↓asNil, ↓derefs, ↓vals, ↓eTup, ↓eLst, ↓sRet, ↓sRetV, ↓sSet, ↓slotOf, ↓sExpr, ↓sNil, ↓sBreak, ↓sCont, ↓sRetN, ↓orD, ↓orB, ↓opI2, ↓yes2, ↓okMul, ↓okDiv, ↓okMod, ↓okPow, ↓ltI, ↓leI, ↓gtI, ↓geI, ↓addI, ↓addS, ↓addL, ↓addT, ↓subD, ↓mulI, ↓mulD, ↓mulS, ↓mulL, ↓mulT, ↓divD, ↓modD, ↓powD, ↓ltD, ↓ltS, ↓addD, ↓vB, ↓vI, ↓sSetL, ↓sSetD, ↓atV, ↓grd, ↓setLM, ↓setDM, ↓ixD, ↓seqD, ↓lenD, ↓sPar, ↓eAnd, ↓eOr, ↓eNot, ↓eIf, ↓bAnd, ↓bOr, ↓bNot, ↓eNeg, ↓negD, ↓eChain, ↓eqD, ↓eqS, ↓neD, ↓neS, ↓scalD, ↓scEq, ↓isD, ↓isB, ↓isNon, ↓inD, ↓ninD, ↓inC, ↓inL, ↓flatD, ↓flEq, ↓eBM, ↓tyM, ↓isStrD, ↓isLstD, ↓mutM, ↓ownLst, ↓opAppend, ↓opExtend, ↓opPop, ↓eSlice, ↓pNo, ↓pYes, ↓sliceD, ↓eIsi, ↓eIsi.objIs, ↓isiB, ↓kindN, ↓isInt, ↓isBool, ↓isStr, ↓isTup, ↓isLst, ↓isDic, ↓objOf, ↓objS, ↓listD, ↓tupD, ↓maxI, ↓minI, ↓absD, ↓intD, ↓allD, ↓anyD, ↓sumD, ↓iOf, ↓iRange1, ↓iRange2, ↓itemsOf, ↓gN, ↓bYes, ↓sFor, ↓sTry, ↓sRaise, ↓eFld, ↓sSetF, ↓setFM, ↓one, ↓eMakeS, ↓eMakeSL, ↓starD, ↓makeM, ↓eMake, ↓eCMeth, ↓eProp, ↓eMeth, ↓eOpM, ↓inO, ↓spO, ↓spO1, ↓rg1, ↓rg2, ↓lenSetD, ↓splitD, ↓joinD, ↓countD, ↓sortD, ↓sortItems, ↓dictD, ↓reprD, ↓eDict0, ↓disp1, ↓keyD, ↓FL, ↓sAsg, ↓gT, ↓gsCons, ↓gsNil, ↓sPar3, ↓st3, ↓valsOf, ↓lt, lp__law_all_rows_1]
      obtain ⟨z', h⟩ := hrun _ rfl
      simp only [show strL (allR 0) = [D.str []] from rfl] at h
      simp [↓funD, ↓funV, ↓callM, ↓argsOf, ↓argOf, ↓argS, ↓back, ↓put1, ↓isOwn, ↓sidx, ↓eCall, ↓sSeq, ↓sIf, ↓sE, ↓toB, ↓M.bind, ↓eOp, ↓opM, ↓toA, ↓oName, ↓eName, ↓eC, ↓M.ret, ↓M.stuck, ↓lift, ↓deref, ↓rdS, ↓frz, ↓frzC, ↓eB, ↓bM, ↓asCons, ↓asNil, ↓derefs, ↓vals, ↓eTup, ↓eLst, ↓sRet, ↓sRetV, ↓sSet, ↓slotOf, ↓sExpr, ↓sNil, ↓sBreak, ↓sCont, ↓sRetN, ↓orD, ↓orB, ↓opI2, ↓yes2, ↓okMul, ↓okDiv, ↓okMod, ↓okPow, ↓ltI, ↓leI, ↓gtI, ↓geI, ↓addI, ↓addS, ↓addL, ↓addT, ↓subD, ↓mulI, ↓mulD, ↓mulS, ↓mulL, ↓mulT, ↓divD, ↓modD, ↓powD, ↓ltD, ↓ltS, ↓addD, ↓vB, ↓vI, ↓sSetL, ↓sSetD, ↓atV, ↓grd, ↓setLM, ↓setDM, ↓ixD, ↓seqD, ↓lenD, ↓sPar, ↓eAnd, ↓eOr, ↓eNot, ↓eIf, ↓bAnd, ↓bOr, ↓bNot, ↓eNeg, ↓negD, ↓eChain, ↓eqD, ↓eqS, ↓neD, ↓neS, ↓scalD, ↓scEq, ↓isD, ↓isB, ↓isNon, ↓inD, ↓ninD, ↓inC, ↓inL, ↓flatD, ↓flEq, ↓eBM, ↓tyM, ↓isStrD, ↓isLstD, ↓mutM, ↓ownLst, ↓opAppend, ↓opExtend, ↓opPop, ↓eSlice, ↓pNo, ↓pYes, ↓sliceD, ↓eIsi, ↓eIsi.objIs, ↓isiB, ↓kindN, ↓isInt, ↓isBool, ↓isStr, ↓isTup, ↓isLst, ↓isDic, ↓objOf, ↓objS, ↓listD, ↓tupD, ↓maxI, ↓minI, ↓absD, ↓intD, ↓allD, ↓anyD, ↓sumD, ↓iOf, ↓iRange1, ↓iRange2, ↓itemsOf, ↓gN, ↓bYes, ↓sFor, ↓sTry, ↓sRaise, ↓eFld, ↓sSetF, ↓setFM, ↓one, ↓eMakeS, ↓eMakeSL, ↓starD, ↓makeM, ↓eMake, ↓eCMeth, ↓eProp, ↓eMeth, ↓eOpM, ↓inO, ↓spO, ↓spO1, ↓rg1, ↓rg2, ↓lenSetD, ↓splitD, ↓joinD, ↓countD, ↓sortD, ↓sortItems, ↓dictD, ↓reprD, ↓eDict0, ↓disp1, ↓keyD, ↓FL, ↓sAsg, ↓gT, ↓gsCons, ↓gsNil, ↓sPar3, ↓st3, ↓valsOf, ↓lt, h,  allR,  show strL (allR 0) = [D.str []] from rfl]
    · simp [↓funD, ↓funV, ↓callM, ↓argsOf, ↓argOf, ↓argS, ↓back, ↓put1, ↓isOwn, ↓sidx, ↓eCall, ↓sSeq, ↓sIf, ↓sE, ↓toB, ↓M.bind, ↓eOp, ↓opM, ↓toA, ↓oName, ↓eName, ↓eC, ↓M.ret, ↓M.stuck, ↓lift, ↓deref, ↓rdS, ↓frz, ↓frzC, ↓eB, ↓bM, ↓asCons, ↓asNil, ↓derefs, ↓vals, ↓eTup, ↓eLst, ↓sRet, ↓sRetV, ↓sSet, ↓slotOf, ↓sExpr, ↓sNil, ↓sBreak, ↓sCont, ↓sRetN, ↓orD, ↓orB, ↓opI2, ↓yes2, ↓okMul, ↓okDiv, ↓okMod, ↓okPow, ↓ltI, ↓leI, ↓gtI, ↓geI, ↓addI, ↓addS, ↓addL, ↓addT, ↓subD, ↓mulI, ↓mulD, ↓mulS, ↓mulL, ↓mulT, ↓divD, ↓modD, ↓powD, ↓ltD, ↓ltS, ↓addD, ↓vB, ↓vI, ↓sSetL, ↓sSetD, ↓atV, ↓grd, ↓setLM, ↓setDM, ↓ixD, ↓seqD, ↓lenD, ↓sPar, ↓eAnd, ↓eOr, ↓eNot, ↓eIf, ↓bAnd, ↓bOr, ↓bNot, ↓eNeg, ↓negD, ↓eChain, ↓eqD, ↓eqS, ↓neD, ↓neS, ↓scalD, ↓scEq, ↓isD, ↓isB, ↓isNon, ↓inD, ↓ninD, ↓inC, ↓inL, ↓flatD, ↓flEq, ↓eBM, ↓tyM, ↓isStrD, ↓isLstD, ↓mutM, ↓ownLst, ↓opAppend, ↓opExtend, ↓opPop, ↓eSlice, ↓pNo, ↓pYes, ↓sliceD, ↓eIsi, ↓eIsi.objIs, ↓isiB, ↓kindN, ↓isInt, ↓isBool, ↓isStr, ↓isTup, ↓isLst, ↓isDic, ↓objOf, ↓objS, ↓listD, ↓tupD, ↓maxI, ↓minI, ↓absD, ↓intD, ↓allD, ↓anyD, ↓sumD, ↓iOf, ↓iRange1, ↓iRange2, ↓itemsOf, ↓gN, ↓bYes, ↓sFor, ↓sTry, ↓sRaise, ↓eFld, ↓sSetF, ↓setFM, ↓one, ↓eMakeS, ↓eMakeSL, ↓starD, ↓makeM, ↓eMake, ↓eCMeth, ↓eProp, ↓eMeth, ↓eOpM, ↓inO, ↓spO, ↓spO1, ↓rg1, ↓rg2, ↓lenSetD, ↓splitD, ↓joinD, ↓countD, ↓sortD, ↓sortItems, ↓dictD, ↓reprD, ↓eDict0, ↓disp1, ↓keyD, ↓FL, ↓sAsg, ↓gT, ↓gsCons, ↓gsNil, ↓sPar3, ↓st3, ↓valsOf, ↓lt, lp__law_all_rows_1,  hj0]
      obtain ⟨z', h⟩ := hrun _ rfl
      simp [↓funD, ↓funV, ↓callM, ↓argsOf, ↓argOf, ↓argS, ↓back, ↓put1, ↓isOwn, ↓sidx, ↓eCall, ↓sSeq, ↓sIf, ↓sE, ↓toB, ↓M.bind, ↓eOp, ↓opM, ↓toA, ↓oName, ↓eName, ↓eC, ↓M.ret, ↓M.stuck, ↓lift, ↓deref, ↓rdS, ↓frz, ↓frzC, ↓eB, ↓bM, ↓asCons, ↓asNil, ↓derefs, ↓vals, ↓eTup, ↓eLst, ↓sRet, ↓sRetV, ↓sSet, ↓slotOf, ↓sExpr, ↓sNil, ↓sBreak, ↓sCont, ↓sRetN, ↓orD, ↓orB, ↓opI2, ↓yes2, ↓okMul, ↓okDiv, ↓okMod, ↓okPow, ↓ltI, ↓leI, ↓gtI, ↓geI, ↓addI, ↓addS, ↓addL, ↓addT, ↓subD, ↓mulI, ↓mulD, ↓mulS, ↓mulL, ↓mulT, ↓divD, ↓modD, ↓powD, ↓ltD, ↓ltS, ↓addD, ↓vB, ↓vI, ↓sSetL, ↓sSetD, ↓atV, ↓grd, ↓setLM, ↓setDM, ↓ixD, ↓seqD, ↓lenD, ↓sPar, ↓eAnd, ↓eOr, ↓eNot, ↓eIf, ↓bAnd, ↓bOr, ↓bNot, ↓eNeg, ↓negD, ↓eChain, ↓eqD, ↓eqS, ↓neD, ↓neS, ↓scalD, ↓scEq, ↓isD, ↓isB, ↓isNon, ↓inD, ↓ninD, ↓inC, ↓inL, ↓flatD, ↓flEq, ↓eBM, ↓tyM, ↓isStrD, ↓isLstD, ↓mutM, ↓ownLst, ↓opAppend, ↓opExtend, ↓opPop, ↓eSlice, ↓pNo, ↓pYes, ↓sliceD, ↓eIsi, ↓eIsi.objIs, ↓isiB, ↓kindN, ↓isInt, ↓isBool, ↓isStr, ↓isTup, ↓isLst, ↓isDic, ↓objOf, ↓objS, ↓listD, ↓tupD, ↓maxI, ↓minI, ↓absD, ↓intD, ↓allD, ↓anyD, ↓sumD, ↓iOf, ↓iRange1, ↓iRange2, ↓itemsOf, ↓gN, ↓bYes, ↓sFor, ↓sTry, ↓sRaise, ↓eFld, ↓sSetF, ↓setFM, ↓one, ↓eMakeS, ↓eMakeSL, ↓starD, ↓makeM, ↓eMake, ↓eCMeth, ↓eProp, ↓eMeth, ↓eOpM, ↓inO, ↓spO, ↓spO1, ↓rg1, ↓rg2, ↓lenSetD, ↓splitD, ↓joinD, ↓countD, ↓sortD, ↓sortItems, ↓dictD, ↓reprD, ↓eDict0, ↓disp1, ↓keyD, ↓FL, ↓sAsg, ↓gT, ↓gsCons, ↓gsNil, ↓sPar3, ↓st3, ↓valsOf, ↓lt, h,  allR])
  simp [↓funD, ↓funV, ↓callM, ↓argsOf, ↓argOf, ↓argS, ↓back, ↓put1, ↓isOwn, ↓sidx, ↓eCall, ↓sSeq, ↓sIf, ↓sE, ↓toB, ↓M.bind, ↓eOp, ↓opM, ↓toA, ↓oName, ↓eName, ↓eC, ↓M.ret, ↓M.stuck, ↓lift, ↓deref, ↓rdS, ↓frz, ↓frzC, ↓eB, ↓bM, ↓asCons, ↓asNil, ↓derefs, ↓vals, ↓eTup, ↓eLst, ↓sRet, ↓sRetV, ↓sSet, ↓slotOf, ↓sExpr, ↓sNil, ↓sBreak, ↓sCont, ↓sRetN, ↓orD, ↓orB, ↓opI2, ↓yes2, ↓okMul, ↓okDiv, ↓okMod, ↓okPow, ↓ltI, ↓leI, ↓gtI, ↓geI, ↓addI, ↓addS, ↓addL, ↓addT, ↓subD, ↓mulI, ↓mulD, ↓mulS, ↓mulL, ↓mulT, ↓divD, ↓modD, ↓powD, ↓ltD, ↓ltS, ↓addD, ↓vB, ↓vI, ↓sSetL, ↓sSetD, ↓atV, ↓grd, ↓setLM, ↓setDM, ↓ixD, ↓seqD, ↓lenD, ↓sPar, ↓eAnd, ↓eOr, ↓eNot, ↓eIf, ↓bAnd, ↓bOr, ↓bNot, ↓eNeg, ↓negD, ↓eChain, ↓eqD, ↓eqS, ↓neD, ↓neS, ↓scalD, ↓scEq, ↓isD, ↓isB, ↓isNon, ↓inD, ↓ninD, ↓inC, ↓inL, ↓flatD, ↓flEq, ↓eBM, ↓tyM, ↓isStrD, ↓isLstD, ↓mutM, ↓ownLst, ↓opAppend, ↓opExtend, ↓opPop, ↓eSlice, ↓pNo, ↓pYes, ↓sliceD, ↓eIsi, ↓eIsi.objIs, ↓isiB, ↓kindN, ↓isInt, ↓isBool, ↓isStr, ↓isTup, ↓isLst, ↓isDic, ↓objOf, ↓objS, ↓listD, ↓tupD, ↓maxI, ↓minI, ↓absD, ↓intD, ↓allD, ↓anyD, ↓sumD, ↓iOf, ↓iRange1, ↓iRange2, ↓itemsOf, ↓gN, ↓bYes, ↓sFor, ↓sTry, ↓sRaise, ↓eFld, ↓sSetF, ↓setFM, ↓one, ↓eMakeS, ↓eMakeSL, ↓starD, ↓makeM, ↓eMake, ↓eCMeth, ↓eProp, ↓eMeth, ↓eOpM, ↓inO, ↓spO, ↓spO1, ↓rg1, ↓rg2, ↓lenSetD, ↓splitD, ↓joinD, ↓countD, ↓sortD, ↓sortItems, ↓dictD, ↓reprD, ↓eDict0, ↓disp1, ↓keyD, ↓FL, ↓sAsg, ↓gT, ↓gsCons, ↓gsNil, ↓sPar3, ↓st3, ↓valsOf, ↓lt, rangeD_len,  hne]
theorem choose_ok {s : List D} (hs : Src s) {ds : List D} (h0 : ds ≠ []) (h1 : ds.length < 1000000) (sl : Slot) (hsl : sl = .val (.lst ds) ∨ sl = .own (.lst ds)) : ∃ d s', d ∈ ds ∧ Src s' ∧ sem__law_choose [.own (.lst s), sl] = some (.ok (.v d) [.own (.lst s'), sl]) := by
  have hl : 0 < ds.length := List.length_pos_iff.mpr h0
  obtain ⟨r, s', h2, h3, h4, h5⟩ := draw_ok hs (m := ds.length) (by omega) (by omega)
  obtain ⟨k, rfl⟩ : ∃ k : Nat, r = k := ⟨r.toNat, by omega⟩
  have hk : k < ds.length := by omega
  refine ⟨ds[k], s', List.getElem_mem hk, h2, ?_⟩
  rcases hsl with rfl | rfl
  · simp [↓funD, ↓funV, ↓callM, ↓argsOf, ↓argOf, ↓argS, ↓back, ↓put1, ↓isOwn, ↓sidx, ↓eCall, ↓sSeq, ↓sIf, ↓sE, ↓toB, ↓M.bind, ↓eOp, ↓opM, ↓toA, ↓oName, ↓eName, ↓eC, ↓M.ret, ↓M.stuck, ↓lift, ↓deref, ↓rdS, ↓frz, ↓frzC, ↓eB, ↓bM, ↓asCons, ↓asNil, ↓derefs, ↓vals, ↓eTup, ↓eLst, ↓sRet, ↓sRetV, ↓sSet, ↓slotOf, ↓sExpr, ↓sNil, ↓sBreak, ↓sCont, ↓sRetN, ↓orD, ↓orB, ↓opI2, ↓yes2, ↓okMul, ↓okDiv, ↓okMod, ↓okPow, ↓ltI, ↓leI, ↓gtI, ↓geI, ↓addI, ↓addS, ↓addL, ↓addT, ↓subD, ↓mulI, ↓mulD, ↓mulS, ↓mulL, ↓mulT, ↓divD, ↓modD, ↓powD, ↓ltD, ↓ltS, ↓addD, ↓vB, ↓vI, ↓sSetL, ↓sSetD, ↓atV, ↓grd, ↓setLM, ↓setDM, ↓ixD, ↓seqD, ↓lenD, ↓sPar, ↓eAnd, ↓eOr, ↓eNot, ↓eIf, ↓bAnd, ↓bOr, ↓bNot, ↓eNeg, ↓negD, ↓eChain, ↓eqD, ↓eqS, ↓neD, ↓neS, ↓scalD, ↓scEq, ↓isD, ↓isB, ↓isNon, ↓inD, ↓ninD, ↓inC, ↓inL, ↓flatD, ↓flEq, ↓eBM, ↓tyM, ↓isStrD, ↓isLstD, ↓mutM, ↓ownLst, ↓opAppend, ↓opExtend, ↓opPop, ↓eSlice, ↓pNo, ↓pYes, ↓sliceD, ↓eIsi, ↓eIsi.objIs, ↓isiB, ↓kindN, ↓isInt, ↓isBool, ↓isStr, ↓isTup, ↓isLst, ↓isDic, ↓objOf, ↓objS, ↓listD, ↓tupD, ↓maxI, ↓minI, ↓absD, ↓intD, ↓allD, ↓anyD, ↓sumD, ↓iOf, ↓iRange1, ↓iRange2, ↓itemsOf, ↓gN, ↓bYes, ↓sFor, ↓sTry, ↓sRaise, ↓eFld, ↓sSetF, ↓setFM, ↓one, ↓eMakeS, ↓eMakeSL, ↓starD, ↓makeM, ↓eMake, ↓eCMeth, ↓eProp, ↓eMeth, ↓eOpM, ↓inO, ↓spO, ↓spO1, ↓rg1, ↓rg2, ↓lenSetD, ↓splitD, ↓joinD, ↓countD, ↓sortD, ↓sortItems, ↓dictD, ↓reprD, ↓eDict0, ↓disp1, ↓keyD, ↓FL, ↓sAsg, ↓gT, ↓gsCons, ↓gsNil, ↓sPar3, ↓st3, ↓valsOf, ↓lt, sem__law_choose,  bd__law_choose,  h5,  hk,  L2.atI,  L2.ixN]
  · simp [↓funD, ↓funV, ↓callM, ↓argsOf, ↓argOf, ↓argS, ↓back, ↓put1, ↓isOwn, ↓sidx, ↓eCall, ↓sSeq, ↓sIf, ↓sE, ↓toB, ↓M.bind, ↓eOp, ↓opM, ↓toA, ↓oName, ↓eName, ↓eC, ↓M.ret, ↓M.stuck, ↓lift, ↓deref, ↓rdS, ↓frz, ↓frzC, ↓eB, ↓bM, ↓asCons, ↓asNil, ↓derefs, ↓vals, ↓eTup, ↓eLst, ↓sRet, ↓sRetV, ↓sSet, ↓slotOf, ↓sExpr, ↓sNil, ↓sBreak, ↓sCont, ↓sRetN, ↓orD, ↓orB, ↓opI2, ↓yes2, ↓okMul, ↓okDiv, ↓okMod, ↓okPow, ↓ltI, ↓leI, ↓gtI, ↓geI, ↓addI, ↓addS, ↓addL, ↓addT, ↓subD, ↓mulI, ↓mulD, ↓mulS, ↓mulL, ↓mulT, ↓divD, ↓modD, ↓powD, ↓ltD, ↓ltS, ↓addD, ↓vB, ↓vI, ↓sSetL, ↓sSetD, ↓atV, ↓grd, ↓setLM, ↓setDM, ↓ixD, ↓seqD, ↓lenD, ↓sPar, ↓eAnd, ↓eOr, ↓eNot, ↓eIf, ↓bAnd, ↓bOr, ↓bNot, ↓eNeg, ↓negD, ↓eChain, ↓eqD, ↓eqS, ↓neD, ↓neS, ↓scalD, ↓scEq, ↓isD, ↓isB, ↓isNon, ↓inD, ↓ninD, ↓inC, ↓inL, ↓flatD, ↓flEq, ↓eBM, ↓tyM, ↓isStrD, ↓isLstD, ↓mutM, ↓ownLst, ↓opAppend, ↓opExtend, ↓opPop, ↓eSlice, ↓pNo, ↓pYes, ↓sliceD, ↓eIsi, ↓eIsi.objIs, ↓isiB, ↓kindN, ↓isInt, ↓isBool, ↓isStr, ↓isTup, ↓isLst, ↓isDic, ↓objOf, ↓objS, ↓listD, ↓tupD, ↓maxI, ↓minI, ↓absD, ↓intD, ↓allD, ↓anyD, ↓sumD, ↓iOf, ↓iRange1, ↓iRange2, ↓itemsOf, ↓gN, ↓bYes, ↓sFor, ↓sTry, ↓sRaise, ↓eFld, ↓sSetF, ↓setFM, ↓one, ↓eMakeS, ↓eMakeSL, ↓starD, ↓makeM, ↓eMake, ↓eCMeth, ↓eProp, ↓eMeth, ↓eOpM, ↓inO, ↓spO, ↓spO1, ↓rg1, ↓rg2, ↓lenSetD, ↓splitD, ↓joinD, ↓countD, ↓sortD, ↓sortItems, ↓dictD, ↓reprD, ↓eDict0, ↓disp1, ↓keyD, ↓FL, ↓sAsg, ↓gT, ↓gsCons, ↓gsNil, ↓sPar3, ↓st3, ↓valsOf, ↓lt, sem__law_choose,  bd__law_choose,  h5,  hk,  L2.atI,  L2.ixN]
theorem erase_perm : ∀ {l : List D} {k : Nat} (hk : k < l.length), (l[k] :: l.eraseIdx k).Perm l
  | a :: l, 0, _ => by simp
  | a :: l, k + 1, hk => by
    simp only [List.getElem_cons_succ, List.eraseIdx_cons_succ]
    exact (List.Perm.swap ..).trans (List.Perm.cons _ (erase_perm (by simpa using hk)))
theorem opPop_at {xs : List D} {k : Nat} (hk : k < xs.length) (hkb : k < 1000000) : opPop xs [.int (k : Int)] = some (xs[k], xs.eraseIdx k) := by
  show (if 0 ≤ (k : Int) ∧ (k : Int) < 1000000 then xs[(k : Int).toNat]?.map fun d => (d, xs.eraseIdx (k : Int).toNat) else none) = _
  rw [if_pos ⟨by omega, by omega⟩, Int.toNat_natCast, List.getElem?_eq_getElem hk]
  rfl
theorem opAppend_at {xs : List D} {d : D} (h : xs.length < 1000000) : opAppend xs [d] = some (.non, xs ++ [d]) := if_pos h
theorem mixed_arg {s s' rest : List D} {t u d} {k : Nat} (h5 : sem__law_draw [Slot.own (OC.lst s), Slot.val (D.int ↑rest.length)] =
    some (Re.ok (EV.v (D.int ↑k)) [Slot.own (OC.lst s'), Slot.val (D.int ↑rest.length)])) : (asCons (toA (eCall sem__law_draw (asCons (oName 0) (asCons (toA (eB lenD (asCons (oName 2) asNil))) asNil)))) asNil) [.own (.lst s), u, .own (.lst rest), t, d] = some (.ok [.v (.int k)] [.own (.lst s'), u, .own (.lst rest), t, d]) := by
  simp [↓funD, ↓funV, ↓callM, ↓argsOf, ↓argOf, ↓argS, ↓back, ↓put1, ↓isOwn, ↓sidx, ↓eCall, ↓sSeq, ↓sIf, ↓sE, ↓toB, ↓M.bind, ↓eOp, ↓opM, ↓toA, ↓oName, ↓eName, ↓eC, ↓M.ret, ↓M.stuck, ↓lift, ↓deref, ↓rdS, ↓frz, ↓frzC, ↓eB, ↓bM, ↓asCons, ↓asNil, ↓derefs, ↓vals, ↓eTup, ↓eLst, ↓sRet, ↓sRetV, ↓sSet, ↓slotOf, ↓sExpr, ↓sNil, ↓sBreak, ↓sCont, ↓sRetN, ↓orD, ↓orB, ↓opI2, ↓yes2, ↓okMul, ↓okDiv, ↓okMod, ↓okPow, ↓ltI, ↓leI, ↓gtI, ↓geI, ↓addI, ↓addS, ↓addL, ↓addT, ↓subD, ↓mulI, ↓mulD, ↓mulS, ↓mulL, ↓mulT, ↓divD, ↓modD, ↓powD, ↓ltD, ↓ltS, ↓addD, ↓vB, ↓vI, ↓sSetL, ↓sSetD, ↓atV, ↓grd, ↓setLM, ↓setDM, ↓ixD, ↓seqD, ↓lenD, ↓sPar, ↓eAnd, ↓eOr, ↓eNot, ↓eIf, ↓bAnd, ↓bOr, ↓bNot, ↓eNeg, ↓negD, ↓eChain, ↓eqD, ↓eqS, ↓neD, ↓neS, ↓scalD, ↓scEq, ↓isD, ↓isB, ↓isNon, ↓inD, ↓ninD, ↓inC, ↓inL, ↓flatD, ↓flEq, ↓eBM, ↓tyM, ↓isStrD, ↓isLstD, ↓mutM, ↓ownLst, ↓opAppend, ↓opExtend, ↓opPop, ↓eSlice, ↓pNo, ↓pYes, ↓sliceD, ↓eIsi, ↓eIsi.objIs, ↓isiB, ↓kindN, ↓isInt, ↓isBool, ↓isStr, ↓isTup, ↓isLst, ↓isDic, ↓objOf, ↓objS, ↓listD, ↓tupD, ↓maxI, ↓minI, ↓absD, ↓intD, ↓allD, ↓anyD, ↓sumD, ↓iOf, ↓iRange1, ↓iRange2, ↓itemsOf, ↓gN, ↓bYes, ↓sFor, ↓sTry, ↓sRaise, ↓eFld, ↓sSetF, ↓setFM, ↓one, ↓eMakeS, ↓eMakeSL, ↓starD, ↓makeM, ↓eMake, ↓eCMeth, ↓eProp, ↓eMeth, ↓eOpM, ↓inO, ↓spO, ↓spO1, ↓rg1, ↓rg2, ↓lenSetD, ↓splitD, ↓joinD, ↓countD, ↓sortD, ↓sortItems, ↓dictD, ↓reprD, ↓eDict0, ↓disp1, ↓keyD, ↓FL, ↓sAsg, ↓gT, ↓gsCons, ↓gsNil, ↓sPar3, ↓st3, ↓valsOf, ↓lt, h5]
theorem mixed_step {s s' rest got ds : List D} {d : D} {k : Nat} (h5 : sem__law_draw [Slot.own (OC.lst s), Slot.val (D.int ↑rest.length)] =
    some (Re.ok (EV.v (D.int ↑k)) [Slot.own (OC.lst s'), Slot.val (D.int ↑rest.length)])) (hk : k < rest.length) (hkb : k < 1000000) (hgb : got.length < 1000000) : lp__law_mixed_0 [.own (.lst s), .own (.lst ds), .own (.lst rest), .own (.lst got), .val d] = some (.nx [.own (.lst s'), .own (.lst ds), .own (.lst (rest.eraseIdx k)), .own (.lst (got ++ [rest[k]])), .val d]) := by
  have h8 := mutM_of (op := opPop) (i := 2) (env := [.own (.lst s), .own (.lst ds), .own (.lst rest), .own (.lst got), .val d]) rfl (mixed_arg h5) rfl rfl (opPop_at hk hkb)
  have h10 := mutM_of (op := opAppend) (i := 3) (xs := got) (ds := [rest[k]]) rfl (asCons_of (g := asNil) (as := []) (toA_of h8) rfl) rfl rfl (opAppend_at hgb)
  exact sExpr_of h10
theorem mixed_ok {s : List D} (hs : Src s) {ds : List D} (h1 : ds.length < 4000) : ∃ xs s', xs.Perm ds ∧ Src s' ∧ sem__law_mixed [.own (.lst s), .own (.lst ds)] = some (.ok (.o (.lst xs)) [.own (.lst s'), .own (.lst ds)]) := by
  have h62 := small_of (show ds.length < 1000000 by omega)
  have hrun : ∀ r, forL (gN 4) lp__law_mixed_0 (rangeD 0 ↑ds.length) [Slot.own (OC.lst s), Slot.own (OC.lst ds), Slot.own (OC.lst ds), Slot.own (OC.lst []), Slot.emp] = r → ∃ s' rest got z, Src s' ∧ got.Perm ds ∧ r = some (.nx [.own (.lst s'), .own (.lst ds), .own (.lst rest), .own (.lst got), z]) := by
    intro r h
    obtain ⟨e', rfl, s', rest, got, z, hs', hp, hl, rfl⟩ := forL_is (fun k e => ∃ s rest got z, Src s ∧ (got ++ rest).Perm ds ∧ got.length = k ∧ e = [.own (.lst s), .own (.lst ds), .own (.lst rest), .own (.lst got), z]) h ⟨_, _, _, _, hs, by simp, rfl, rfl⟩ (by
      intro j e d hd ⟨s, rest, got, z, hs, hp, hl, he⟩
      subst he
      have hj := rangeD_lt hd
      have hpl := hp.length_eq
      rw [List.length_append] at hpl
      obtain ⟨r, s', h2, h3, h4, h5⟩ := draw_ok hs (m := rest.length) (by omega) (by omega)
      obtain ⟨k, rfl⟩ : ∃ k : Nat, r = k := ⟨r.toNat, by omega⟩
      have hk : k < rest.length := by omega
      refine ⟨_, _, rfl, mixed_step h5 hk (by omega) (by omega), s', rest.eraseIdx k, got ++ [rest[k]], _, h2, ?_, by simp [hl], rfl⟩
      refine List.Perm.trans ?_ hp
      rw [List.append_assoc]
      exact List.Perm.append_left _ (erase_perm hk))
    rw [rangeD_len] at hl
    have hpl := hp.length_eq
    rw [List.length_append] at hpl
    have : rest = [] := List.length_eq_zero_iff.mp (by omega)
    subst this
    exact ⟨s', _, got, z, hs', by simpa using hp, rfl⟩
  obtain ⟨s', rest, got, z, h2, h3, h4⟩ := hrun _ rfl
  refine ⟨got, s', h3, h2, ?_⟩
  simp [↓funD, ↓funV, ↓callM, ↓argsOf, ↓argOf, ↓argS, ↓back, ↓put1, ↓isOwn, ↓sidx, ↓eCall, ↓sSeq, ↓sIf, ↓sE, ↓toB, ↓M.bind, ↓eOp, ↓opM, ↓toA, ↓oName, ↓eName, ↓eC, ↓M.ret, ↓M.stuck, ↓lift, ↓deref, ↓rdS, ↓frz, ↓frzC, ↓eB, ↓bM, ↓asCons, ↓asNil, ↓derefs, ↓vals, ↓eTup, ↓eLst, ↓sRet, ↓sRetV, ↓sSet, ↓slotOf, ↓sExpr, ↓sNil, ↓sBreak, ↓sCont, ↓sRetN, ↓orD, ↓orB, ↓opI2, ↓yes2, ↓okMul, ↓okDiv, ↓okMod, ↓okPow, ↓ltI, ↓leI, ↓gtI, ↓geI, ↓addI, ↓addS, ↓addL, ↓addT, ↓subD, ↓mulI, ↓mulD, ↓mulS, ↓mulL, ↓mulT, ↓divD, ↓modD, ↓powD, ↓ltD, ↓ltS, ↓addD, ↓vB, ↓vI, ↓sSetL, ↓sSetD, ↓atV, ↓grd, ↓setLM, ↓setDM, ↓ixD, ↓seqD, ↓lenD, ↓sPar, ↓eAnd, ↓eOr, ↓eNot, ↓eIf, ↓bAnd, ↓bOr, ↓bNot, ↓eNeg, ↓negD, ↓eChain, ↓eqD, ↓eqS, ↓neD, ↓neS, ↓scalD, ↓scEq, ↓isD, ↓isB, ↓isNon, ↓inD, ↓ninD, ↓inC, ↓inL, ↓flatD, ↓flEq, ↓eBM, ↓tyM, ↓isStrD, ↓isLstD, ↓mutM, ↓ownLst, ↓opAppend, ↓opExtend, ↓opPop, ↓eSlice, ↓pNo, ↓pYes, ↓sliceD, ↓eIsi, ↓eIsi.objIs, ↓isiB, ↓kindN, ↓isInt, ↓isBool, ↓isStr, ↓isTup, ↓isLst, ↓isDic, ↓objOf, ↓objS, ↓listD, ↓tupD, ↓maxI, ↓minI, ↓absD, ↓intD, ↓allD, ↓anyD, ↓sumD, ↓iOf, ↓iRange1, ↓iRange2, ↓itemsOf, ↓gN, ↓bYes, ↓sFor, ↓sTry, ↓sRaise, ↓eFld, ↓sSetF, ↓setFM, ↓one, ↓eMakeS, ↓eMakeSL, ↓starD, ↓makeM, ↓eMake, ↓eCMeth, ↓eProp, ↓eMeth, ↓eOpM, ↓inO, ↓spO, ↓spO1, ↓rg1, ↓rg2, ↓lenSetD, ↓splitD, ↓joinD, ↓countD, ↓sortD, ↓sortItems, ↓dictD, ↓reprD, ↓eDict0, ↓disp1, ↓keyD, ↓FL, ↓sAsg, ↓gT, ↓gsCons, ↓gsNil, ↓sPar3, ↓st3, ↓valsOf, ↓lt, sem__law_mixed,  bd__law_mixed,  h62,  h4]
end Lw
end
section
set_option maxRecDepth 100000
set_option maxHeartbeats 4000000
namespace Lw
open PySem Dt
theorem okSort_strs (l : List (List Nat)) : okSort (l.map fun s => PyData.str (mkS s)) = true := by
  simp [okSort]
  exact ⟨⟨fun x _ y _ => rfl, .inr fun x _ => rfl⟩, fun x _ => by simp [PyData.depth]⟩
def unS : D → List Nat
  | .str s => s
  | _ => []
theorem perm_strL {xs : List D} {l : List (List Nat)} (h : xs.Perm (strL l)) : ∃ l' : List (List Nat), l'.Perm l ∧ xs = strL l' := by
  refine ⟨xs.map unS, ?_, ?_⟩
  · have := h.map unS
    simpa [strL, unS, Function.comp_def] using this
  · rw [strL, List.map_map]
    refine (List.map_id' xs).symm.trans (List.map_congr_left fun x hx => ?_)
    obtain ⟨s, _, rfl⟩ := List.mem_map.mp (h.mem_iff.mp hx)
    rfl
theorem sort_ex (l : List (List Nat)) (h : l.length ≤ big) : ∃ l' : List (List Nat), l'.Perm l ∧ sortD [.lst (strL l)] = some (.o (.lst (strL l'))) ∧ ∀ ks vs, ks.map keyOf = strL l → sortD [.dic ks vs] = some (.o (.lst (strL l'))) := by
  have hp : (sortL (strL l) (l.map fun s => PyData.str (mkS s))).Perm (strL l) := by
    unfold sortL
    refine ((List.mergeSort_perm ..).map _).trans ?_
    rw [List.map_fst_zip (by simp [strL])]
  obtain ⟨l', h1, h2⟩ := perm_strL hp
  refine ⟨l', h1, ?_, fun ks vs e => ?_⟩
  · simp only [sortD, sortItems, Option.bind, toPL_strs, okSort_strs, List.length_map, h, h2, and_self, if_true]
  · simp only [sortD, sortItems, Option.bind, e, toPL_strs, okSort_strs, List.length_map, h, h2, and_self, if_true]
/-- what a dict of pairs keeps of its keys -/
theorem put_keys : ∀ {ks : List L2.Key} {vs : List D} {k : L2.Key} {d : D}, ks.length = vs.length → (dicPut ks vs k d).1.length = (dicPut ks vs k d).2.length ∧ (∀ x, x ∈ (dicPut ks vs k d).1 ↔ x ∈ ks ∨ x = k) ∧ (ks.Nodup → (dicPut ks vs k d).1.Nodup)
  | [], [], _, _, _ => by simp [dicPut]
  | [], _ :: _, _, _, h => by simp at h
  | _ :: _, [], _, _, h => by simp at h
  | a :: ks, x :: vs, k, d, h => by
    have h' : ks.length = vs.length := by simpa using h
    obtain ⟨i1, i2, i3⟩ := put_keys (k := k) (d := d) h'
    by_cases e : a = k
    · subst e
      refine ⟨by simp [dicPut, h'], fun x => ?_, fun n => by simpa [dicPut] using n⟩
      simp only [dicPut, if_true, List.mem_cons]
      constructor
      · rintro (q | q) <;> simp [q]
      · rintro ((q | q) | q) <;> simp [q]
    · refine ⟨by simp [dicPut, e, i1], fun x => ?_, fun n => ?_⟩
      · simp only [dicPut, e, if_false, List.mem_cons, i2, or_assoc]
      · obtain ⟨n1, n2⟩ := List.nodup_cons.mp n
        simp only [dicPut, e, if_false]
        refine List.nodup_cons.mpr ⟨fun q => ?_, i3 n2⟩
        rcases (i2 a).mp q with q | q
        · exact n1 q
        · exact e q
theorem merge_keys : ∀ {ps : List (L2.Key × D)} {ks : List L2.Key} {vs : List D}, ks.length = vs.length → (∀ x, x ∈ (mergeD ks vs ps).1 ↔ x ∈ ks ∨ x ∈ ps.map (·.1)) ∧ (ks.Nodup → (mergeD ks vs ps).1.Nodup)
  | [], _, _, h => by simp [mergeD]
  | p :: ps, ks, vs, h => by
    obtain ⟨i1, i2, i3⟩ := put_keys (k := p.1) (d := p.2) h
    obtain ⟨j1, j2⟩ := merge_keys (ps := ps) i1
    refine ⟨fun x => ?_, fun n => j2 (i3 n)⟩
    simp only [mergeD, j1, i2, List.map_cons, List.mem_cons, or_assoc]
theorem pairs_strs (l : List (List Nat)) : pairsD (l.map fun s => .tup [.str s, .bl true]) = some (l.map fun s => (.inr (mkS s), .bl true)) := by
  induction l with
  | nil => rfl
  | cons s l ih => simp only [List.map_cons, pairsD, ih, pairOf, keyD, Option.bind, Option.map]
theorem dict_ex (l : List (List Nat)) : ∃ l' : List (List Nat), l'.Nodup ∧ (∀ x, x ∈ l' ↔ x ∈ l) ∧ ∃ ks vs, ks.map keyOf = strL l' ∧ dictD [.lst (l.map fun s => .tup [.str s, .bl true])] = some (.o (.dic ks vs)) := by
  obtain ⟨h1, h2⟩ := merge_keys (ps := l.map fun s => ((.inr (mkS s) : L2.Key), D.bl true)) (ks := []) (vs := []) rfl
  have h2 := h2 List.nodup_nil
  generalize hm : mergeD [] [] (l.map fun s => ((.inr (mkS s) : L2.Key), D.bl true)) = kv at h1 h2
  have hk : ∀ k ∈ kv.1, ∃ s ∈ l, k = .inr (mkS s) := fun k hk => by
    have := (h1 k).mp hk
    simp at this
    obtain ⟨s, q, r⟩ := this
    exact ⟨s, q, r.symm⟩
  have hk' : kv.1.map (fun k => unS (keyOf k)) = kv.1.map fun k => unS (keyOf k) := rfl
  refine ⟨kv.1.map fun k => unS (keyOf k), ?_, fun x => ?_, kv.1, kv.2, ?_, ?_⟩
  · refine List.Pairwise.map _ (fun a b => ?_) (List.Pairwise.and_mem.mp h2)
    rintro ⟨ha, hb, hab⟩ q
    obtain ⟨s, _, rfl⟩ := hk _ ha
    obtain ⟨t, _, rfl⟩ := hk _ hb
    simp only [keyOf, unS, mkS_cps] at q
    exact hab (by rw [q])
  · constructor
    · intro hx
      obtain ⟨k, q, r⟩ := List.mem_map.mp hx
      obtain ⟨s, hs, rfl⟩ := hk _ q
      simp only [keyOf, unS, mkS_cps] at r
      exact r ▸ hs
    · intro hx
      exact List.mem_map.mpr ⟨.inr (mkS x), (h1 _).mpr (by simp; exact ⟨x, hx, rfl⟩), by simp only [keyOf, unS, mkS_cps]⟩
  · rw [strL, List.map_map]
    refine List.map_congr_left fun k q => ?_
    obtain ⟨s, hs, rfl⟩ := hk _ q
    rfl
  · simp only [dictD, pairs_strs, Option.map, hm]
end Lw
end
section
set_option maxRecDepth 100000
set_option maxHeartbeats 4000000
namespace Lw
open PySem Dt
section
variable {vs : List Nat} {t : D → Sl → Option Sl} {c : M Bool} {f : M EV}
theorem comp_turn {b : Bool} {d x : D} {acc : List D} {e e1 e2 e3 : Sl} {v : EV} (h1 : t d e = some e1) (h2 : c e1 = some (.ok b e2)) (h3 : f e2 = some (.ok v e3)) (h4 : frz v = some x) (h5 : wipeE e3 vs = e) (h6 : wipeE e2 vs = e) : compL vs t c f [d] acc e = some (acc ++ (if b = true then [x] else []), e) := by
  cases b with
  | true => rw [compL_one h1 h2 h3 h4, h5]; rfl
  | false => rw [compL_no h1 h2, h6]; simp
theorem comp_strs (p : List Nat → Bool) (g : List Nat → D) {e : Sl} : ∀ (l : List (List Nat)) (acc : List D), (∀ acc r, r ∈ l → compL vs t c f [.str r] acc e = some (acc ++ (if p r = true then [g r] else []), e)) → compL vs t c f (strL l) acc e = some (acc ++ (l.filter p).map g, e)
  | [], acc, _ => by simp [compL]
  | d :: ds, acc, h => by
    show compL vs t c f (.str d :: strL ds) acc e = _
    rw [compL_cons, h acc d (List.mem_cons_self ..)]
    show compL vs t c f (strL ds) _ e = _
    rw [comp_strs p g ds _ fun acc d hd => h acc d (List.mem_cons_of_mem _ hd)]
    by_cases q : p d = true
    · simp [q]
    · simp [q]
end
def even1 (r : List Nat) : Bool := ((Txt.count (mkS r) (mkS [49]) : Int) % 2) == 0
def last1 (r : List Nat) : Bool := (r.getLast? == some 49) == !decide (48 ∈ r.dropLast)
variable {s0 s1 s2 s3 s4 s5 s6 s7 s9 : Dt.Slot}
theorem c0 {r : List Nat} (hr : r.length ≤ big) : lp__law_rows_0 [s0, s1, s2, s3, s4, s5, s6, s7, .val (.str r), s9] = some (.ok (even1 r) [s0, s1, s2, s3, s4, s5, s6, s7, .val (.str r), s9]) := by
  simp [↓funD, ↓funV, ↓callM, ↓argsOf, ↓argOf, ↓argS, ↓back, ↓put1, ↓isOwn, ↓sidx, ↓eCall, ↓sSeq, ↓sIf, ↓sE, ↓toB, ↓M.bind, ↓eOp, ↓opM, ↓toA, ↓oName, ↓eName, ↓eC, ↓M.ret, ↓M.stuck, ↓lift, ↓deref, ↓rdS, ↓frz, ↓frzC, ↓eB, ↓bM, ↓asCons, ↓asNil, ↓derefs, ↓vals, ↓eTup, ↓eLst, ↓sRet, ↓sRetV, ↓sSet, ↓slotOf, ↓sExpr, ↓sNil, ↓sBreak, ↓sCont, ↓sRetN, ↓orD, ↓orB, ↓opI2, ↓yes2, ↓okMul, ↓okDiv, ↓okMod, ↓okPow, ↓ltI, ↓leI, ↓gtI, ↓geI, ↓addI, ↓addS, ↓addL, ↓addT, ↓subD, ↓mulI, ↓mulD, ↓mulS, ↓mulL, ↓mulT, ↓divD, ↓modD, ↓powD, ↓ltD, ↓ltS, ↓addD, ↓vB, ↓vI, ↓sSetL, ↓sSetD, ↓atV, ↓grd, ↓setLM, ↓setDM, ↓ixD, ↓seqD, ↓lenD, ↓sPar, ↓eAnd, ↓eOr, ↓eNot, ↓eIf, ↓bAnd, ↓bOr, ↓bNot, ↓eNeg, ↓negD, ↓eChain, ↓eqD, ↓eqS, ↓neD, ↓neS, ↓scalD, ↓scEq, ↓isD, ↓isB, ↓isNon, ↓inD, ↓ninD, ↓inC, ↓inL, ↓flatD, ↓flEq, ↓eBM, ↓tyM, ↓isStrD, ↓isLstD, ↓mutM, ↓ownLst, ↓opAppend, ↓opExtend, ↓opPop, ↓eSlice, ↓pNo, ↓pYes, ↓sliceD, ↓eIsi, ↓eIsi.objIs, ↓isiB, ↓kindN, ↓isInt, ↓isBool, ↓isStr, ↓isTup, ↓isLst, ↓isDic, ↓objOf, ↓objS, ↓listD, ↓tupD, ↓maxI, ↓minI, ↓absD, ↓intD, ↓allD, ↓anyD, ↓sumD, ↓iOf, ↓iRange1, ↓iRange2, ↓itemsOf, ↓gN, ↓bYes, ↓sFor, ↓sTry, ↓sRaise, ↓eFld, ↓sSetF, ↓setFM, ↓one, ↓eMakeS, ↓eMakeSL, ↓starD, ↓makeM, ↓eMake, ↓eCMeth, ↓eProp, ↓eMeth, ↓eOpM, ↓inO, ↓spO, ↓spO1, ↓rg1, ↓rg2, ↓lenSetD, ↓splitD, ↓joinD, ↓countD, ↓sortD, ↓sortItems, ↓dictD, ↓reprD, ↓eDict0, ↓disp1, ↓keyD, ↓FL, ↓sAsg, ↓gT, ↓gsCons, ↓gsNil, ↓sPar3, ↓st3, ↓valsOf, ↓lt, lp__law_rows_0,  hr,  even1]
theorem ix_last {r : List Nat} (h0 : r ≠ []) (hr : r.length ≤ big) : ixD (.str r) (.int (-1)) = some (.v (.str [r.getLast h0])) := by
  have hl : 0 < r.length := List.length_pos_iff.mpr h0
  have e : L2.atI r (-1) = some (r.getLast h0) := by
    have e1 : L2.ixN r.length (-1) = some (r.length - 1) := by
      unfold L2.ixN
      rw [if_neg (by omega), if_pos (by omega)]
      congr 1
      omega
    unfold L2.atI
    rw [e1]
    show r[r.length - 1]? = _
    rw [← List.getLast?_eq_getElem?, List.getLast?_eq_some_getLast h0]
  simp only [ixD, hr, if_true, e, Option.map]
theorem slice_init {r : List Nat} (hr : r.length ≤ big) : sliceD (.str r) none (some (-1)) = some (.v (.str r.dropLast)) := by
  have e : cutD r none (some (-1)) = r.dropLast := by
    simp [cutD, HT.sIx, List.dropLast_eq_take]
    omega
  simp only [sliceD, hr, if_true, e]
theorem c2 {r : List Nat} (h0 : r ≠ []) (hr : r.length ≤ big) : lp__law_rows_2 [s0, s1, s2, s3, s4, s5, s6, s7, .val (.str r), s9] = some (.ok (last1 r) [s0, s1, s2, s3, s4, s5, s6, s7, .val (.str r), s9]) := by
  have h1 := ix_last h0 hr
  have h2 := slice_init hr
  simp [↓funD, ↓funV, ↓callM, ↓argsOf, ↓argOf, ↓argS, ↓back, ↓put1, ↓isOwn, ↓sidx, ↓eCall, ↓sSeq, ↓sIf, ↓sE, ↓toB, ↓M.bind, ↓eOp, ↓opM, ↓toA, ↓oName, ↓eName, ↓eC, ↓M.ret, ↓M.stuck, ↓lift, ↓deref, ↓rdS, ↓frz, ↓frzC, ↓eB, ↓bM, ↓asCons, ↓asNil, ↓derefs, ↓vals, ↓eTup, ↓eLst, ↓sRet, ↓sRetV, ↓sSet, ↓slotOf, ↓sExpr, ↓sNil, ↓sBreak, ↓sCont, ↓sRetN, ↓orD, ↓orB, ↓opI2, ↓yes2, ↓okMul, ↓okDiv, ↓okMod, ↓okPow, ↓ltI, ↓leI, ↓gtI, ↓geI, ↓addI, ↓addS, ↓addL, ↓addT, ↓subD, ↓mulI, ↓mulD, ↓mulS, ↓mulL, ↓mulT, ↓divD, ↓modD, ↓powD, ↓ltD, ↓ltS, ↓addD, ↓vB, ↓vI, ↓sSetL, ↓sSetD, ↓atV, ↓grd, ↓setLM, ↓setDM, ↓seqD, ↓lenD, ↓sPar, ↓eAnd, ↓eOr, ↓eNot, ↓eIf, ↓bAnd, ↓bOr, ↓bNot, ↓eNeg, ↓negD, ↓eChain, ↓eqD, ↓eqS, ↓neD, ↓neS, ↓scalD, ↓scEq, ↓isD, ↓isB, ↓isNon, ↓inD, ↓ninD, ↓inC, ↓inL, ↓flatD, ↓flEq, ↓eBM, ↓tyM, ↓isStrD, ↓isLstD, ↓mutM, ↓ownLst, ↓opAppend, ↓opExtend, ↓opPop, ↓eSlice, ↓pNo, ↓pYes, ↓eIsi, ↓eIsi.objIs, ↓isiB, ↓kindN, ↓isInt, ↓isBool, ↓isStr, ↓isTup, ↓isLst, ↓isDic, ↓objOf, ↓objS, ↓listD, ↓tupD, ↓maxI, ↓minI, ↓absD, ↓intD, ↓allD, ↓anyD, ↓sumD, ↓iOf, ↓iRange1, ↓iRange2, ↓itemsOf, ↓gN, ↓bYes, ↓sFor, ↓sTry, ↓sRaise, ↓eFld, ↓sSetF, ↓setFM, ↓one, ↓eMakeS, ↓eMakeSL, ↓starD, ↓makeM, ↓eMake, ↓eCMeth, ↓eProp, ↓eMeth, ↓eOpM, ↓inO, ↓spO, ↓spO1, ↓rg1, ↓rg2, ↓lenSetD, ↓splitD, ↓joinD, ↓countD, ↓sortD, ↓sortItems, ↓dictD, ↓reprD, ↓eDict0, ↓disp1, ↓keyD, ↓FL, ↓sAsg, ↓gT, ↓gsCons, ↓gsNil, ↓sPar3, ↓st3, ↓valsOf, ↓lt, lp__law_rows_2,  h1,  h2,  last1]
  simp [List.getLast?_eq_some_getLast h0]
/-- the comprehensions of _law_rows -/
theorem comp0 {l : List (List Nat)} (hl : ∀ r ∈ l, r.length ≤ big) : compL [8] (gN 8) lp__law_rows_0 lp__law_rows_1 (strL l) [] [s0, s1, s2, s3, s4, s5, s6, s7, .emp, s9] = some (strL (l.filter even1), [s0, s1, s2, s3, s4, s5, s6, s7, .emp, s9]) :=
  comp_strs even1 .str l [] fun acc r hr => comp_turn (e1 := [s0, s1, s2, s3, s4, s5, s6, s7, .val (.str r), s9]) rfl (c0 (hl r hr)) (show lp__law_rows_1 [s0, s1, s2, s3, s4, s5, s6, s7, .val (.str r), s9] = some (Re.ok (EV.v (.str r)) [s0, s1, s2, s3, s4, s5, s6, s7, .val (.str r), s9]) by simp [↓funD, ↓funV, ↓callM, ↓argsOf, ↓argOf, ↓argS, ↓back, ↓put1, ↓isOwn, ↓sidx, ↓eCall, ↓sSeq, ↓sIf, ↓sE, ↓toB, ↓M.bind, ↓eOp, ↓opM, ↓toA, ↓oName, ↓eName, ↓eC, ↓M.ret, ↓M.stuck, ↓lift, ↓deref, ↓rdS, ↓frz, ↓frzC, ↓eB, ↓bM, ↓asCons, ↓asNil, ↓derefs, ↓vals, ↓eTup, ↓eLst, ↓sRet, ↓sRetV, ↓sSet, ↓slotOf, ↓sExpr, ↓sNil, ↓sBreak, ↓sCont, ↓sRetN, ↓orD, ↓orB, ↓opI2, ↓yes2, ↓okMul, ↓okDiv, ↓okMod, ↓okPow, ↓ltI, ↓leI, ↓gtI, ↓geI, ↓addI, ↓addS, ↓addL, ↓addT, ↓subD, ↓mulI, ↓mulD, ↓mulS, ↓mulL, ↓mulT, ↓divD, ↓modD, ↓powD, ↓ltD, ↓ltS, ↓addD, ↓vB, ↓vI, ↓sSetL, ↓sSetD, ↓atV, ↓grd, ↓setLM, ↓setDM, ↓ixD, ↓seqD, ↓lenD, ↓sPar, ↓eAnd, ↓eOr, ↓eNot, ↓eIf, ↓bAnd, ↓bOr, ↓bNot, ↓eNeg, ↓negD, ↓eChain, ↓eqD, ↓eqS, ↓neD, ↓neS, ↓scalD, ↓scEq, ↓isD, ↓isB, ↓isNon, ↓inD, ↓ninD, ↓inC, ↓inL, ↓flatD, ↓flEq, ↓eBM, ↓tyM, ↓isStrD, ↓isLstD, ↓mutM, ↓ownLst, ↓opAppend, ↓opExtend, ↓opPop, ↓eSlice, ↓pNo, ↓pYes, ↓sliceD, ↓eIsi, ↓eIsi.objIs, ↓isiB, ↓kindN, ↓isInt, ↓isBool, ↓isStr, ↓isTup, ↓isLst, ↓isDic, ↓objOf, ↓objS, ↓listD, ↓tupD, ↓maxI, ↓minI, ↓absD, ↓intD, ↓allD, ↓anyD, ↓sumD, ↓iOf, ↓iRange1, ↓iRange2, ↓itemsOf, ↓gN, ↓bYes, ↓sFor, ↓sTry, ↓sRaise, ↓eFld, ↓sSetF, ↓setFM, ↓one, ↓eMakeS, ↓eMakeSL, ↓starD, ↓makeM, ↓eMake, ↓eCMeth, ↓eProp, ↓eMeth, ↓eOpM, ↓inO, ↓spO, ↓spO1, ↓rg1, ↓rg2, ↓lenSetD, ↓splitD, ↓joinD, ↓countD, ↓sortD, ↓sortItems, ↓dictD, ↓reprD, ↓eDict0, ↓disp1, ↓keyD, ↓FL, ↓sAsg, ↓gT, ↓gsCons, ↓gsNil, ↓sPar3, ↓st3, ↓valsOf, ↓lt, lp__law_rows_1]) rfl rfl rfl
theorem comp2 {l : List (List Nat)} (h0 : ∀ r ∈ l, r ≠ []) (hl : ∀ r ∈ l, r.length ≤ big) : compL [8] (gN 8) lp__law_rows_2 lp__law_rows_3 (strL l) [] [s0, s1, s2, s3, s4, s5, s6, s7, .emp, s9] = some (strL (l.filter last1), [s0, s1, s2, s3, s4, s5, s6, s7, .emp, s9]) :=
  comp_strs last1 .str l [] fun acc r hr => comp_turn (e1 := [s0, s1, s2, s3, s4, s5, s6, s7, .val (.str r), s9]) rfl (c2 (h0 r hr) (hl r hr)) (show lp__law_rows_3 [s0, s1, s2, s3, s4, s5, s6, s7, .val (.str r), s9] = some (Re.ok (EV.v (.str r)) [s0, s1, s2, s3, s4, s5, s6, s7, .val (.str r), s9]) by simp [↓funD, ↓funV, ↓callM, ↓argsOf, ↓argOf, ↓argS, ↓back, ↓put1, ↓isOwn, ↓sidx, ↓eCall, ↓sSeq, ↓sIf, ↓sE, ↓toB, ↓M.bind, ↓eOp, ↓opM, ↓toA, ↓oName, ↓eName, ↓eC, ↓M.ret, ↓M.stuck, ↓lift, ↓deref, ↓rdS, ↓frz, ↓frzC, ↓eB, ↓bM, ↓asCons, ↓asNil, ↓derefs, ↓vals, ↓eTup, ↓eLst, ↓sRet, ↓sRetV, ↓sSet, ↓slotOf, ↓sExpr, ↓sNil, ↓sBreak, ↓sCont, ↓sRetN, ↓orD, ↓orB, ↓opI2, ↓yes2, ↓okMul, ↓okDiv, ↓okMod, ↓okPow, ↓ltI, ↓leI, ↓gtI, ↓geI, ↓addI, ↓addS, ↓addL, ↓addT, ↓subD, ↓mulI, ↓mulD, ↓mulS, ↓mulL, ↓mulT, ↓divD, ↓modD, ↓powD, ↓ltD, ↓ltS, ↓addD, ↓vB, ↓vI, ↓sSetL, ↓sSetD, ↓atV, ↓grd, ↓setLM, ↓setDM, ↓ixD, ↓seqD, ↓lenD, ↓sPar, ↓eAnd, ↓eOr, ↓eNot, ↓eIf, ↓bAnd, ↓bOr, ↓bNot, ↓eNeg, ↓negD, ↓eChain, ↓eqD, ↓eqS, ↓neD, ↓neS, ↓scalD, ↓scEq, ↓isD, ↓isB, ↓isNon, ↓inD, ↓ninD, ↓inC, ↓inL, ↓flatD, ↓flEq, ↓eBM, ↓tyM, ↓isStrD, ↓isLstD, ↓mutM, ↓ownLst, ↓opAppend, ↓opExtend, ↓opPop, ↓eSlice, ↓pNo, ↓pYes, ↓sliceD, ↓eIsi, ↓eIsi.objIs, ↓isiB, ↓kindN, ↓isInt, ↓isBool, ↓isStr, ↓isTup, ↓isLst, ↓isDic, ↓objOf, ↓objS, ↓listD, ↓tupD, ↓maxI, ↓minI, ↓absD, ↓intD, ↓allD, ↓anyD, ↓sumD, ↓iOf, ↓iRange1, ↓iRange2, ↓itemsOf, ↓gN, ↓bYes, ↓sFor, ↓sTry, ↓sRaise, ↓eFld, ↓sSetF, ↓setFM, ↓one, ↓eMakeS, ↓eMakeSL, ↓starD, ↓makeM, ↓eMake, ↓eCMeth, ↓eProp, ↓eMeth, ↓eOpM, ↓inO, ↓spO, ↓spO1, ↓rg1, ↓rg2, ↓lenSetD, ↓splitD, ↓joinD, ↓countD, ↓sortD, ↓sortItems, ↓dictD, ↓reprD, ↓eDict0, ↓disp1, ↓keyD, ↓FL, ↓sAsg, ↓gT, ↓gsCons, ↓gsNil, ↓sPar3, ↓st3, ↓valsOf, ↓lt, lp__law_rows_3]) rfl rfl rfl
theorem comp7 {l : List (List Nat)} : compL [8] (gN 8) bYes lp__law_rows_7 (strL l) [] [s0, s1, s2, s3, s4, s5, s6, s7, .emp, s9] = some (l.map fun s => .tup [.str s, .bl true], [s0, s1, s2, s3, s4, s5, s6, s7, .emp, s9]) := by
  have := comp_strs (vs := [8]) (t := gN 8) (c := bYes) (f := lp__law_rows_7) (e := [s0, s1, s2, s3, s4, s5, s6, s7, .emp, s9]) (fun _ => true) (fun s => .tup [.str s, .bl true]) l [] fun acc r hr => comp_turn (e1 := [s0, s1, s2, s3, s4, s5, s6, s7, .val (.str r), s9]) rfl rfl (show lp__law_rows_7 [s0, s1, s2, s3, s4, s5, s6, s7, .val (.str r), s9] = some (Re.ok (EV.v (.tup [.str r, .bl true])) [s0, s1, s2, s3, s4, s5, s6, s7, .val (.str r), s9]) by simp [↓funD, ↓funV, ↓callM, ↓argsOf, ↓argOf, ↓argS, ↓back, ↓put1, ↓isOwn, ↓sidx, ↓eCall, ↓sSeq, ↓sIf, ↓sE, ↓toB, ↓M.bind, ↓eOp, ↓opM, ↓toA, ↓oName, ↓eName, ↓eC, ↓M.ret, ↓M.stuck, ↓lift, ↓deref, ↓rdS, ↓frz, ↓frzC, ↓eB, ↓bM, ↓asCons, ↓asNil, ↓derefs, ↓vals, ↓eTup, ↓eLst, ↓sRet, ↓sRetV, ↓sSet, ↓slotOf, ↓sExpr, ↓sNil, ↓sBreak, ↓sCont, ↓sRetN, ↓orD, ↓orB, ↓opI2, ↓yes2, ↓okMul, ↓okDiv, ↓okMod, ↓okPow, ↓ltI, ↓leI, ↓gtI, ↓geI, ↓addI, ↓addS, ↓addL, ↓addT, ↓subD, ↓mulI, ↓mulD, ↓mulS, ↓mulL, ↓mulT, ↓divD, ↓modD, ↓powD, ↓ltD, ↓ltS, ↓addD, ↓vB, ↓vI, ↓sSetL, ↓sSetD, ↓atV, ↓grd, ↓setLM, ↓setDM, ↓ixD, ↓seqD, ↓lenD, ↓sPar, ↓eAnd, ↓eOr, ↓eNot, ↓eIf, ↓bAnd, ↓bOr, ↓bNot, ↓eNeg, ↓negD, ↓eChain, ↓eqD, ↓eqS, ↓neD, ↓neS, ↓scalD, ↓scEq, ↓isD, ↓isB, ↓isNon, ↓inD, ↓ninD, ↓inC, ↓inL, ↓flatD, ↓flEq, ↓eBM, ↓tyM, ↓isStrD, ↓isLstD, ↓mutM, ↓ownLst, ↓opAppend, ↓opExtend, ↓opPop, ↓eSlice, ↓pNo, ↓pYes, ↓sliceD, ↓eIsi, ↓eIsi.objIs, ↓isiB, ↓kindN, ↓isInt, ↓isBool, ↓isStr, ↓isTup, ↓isLst, ↓isDic, ↓objOf, ↓objS, ↓listD, ↓tupD, ↓maxI, ↓minI, ↓absD, ↓intD, ↓allD, ↓anyD, ↓sumD, ↓iOf, ↓iRange1, ↓iRange2, ↓itemsOf, ↓gN, ↓bYes, ↓sFor, ↓sTry, ↓sRaise, ↓eFld, ↓sSetF, ↓setFM, ↓one, ↓eMakeS, ↓eMakeSL, ↓starD, ↓makeM, ↓eMake, ↓eCMeth, ↓eProp, ↓eMeth, ↓eOpM, ↓inO, ↓spO, ↓spO1, ↓rg1, ↓rg2, ↓lenSetD, ↓splitD, ↓joinD, ↓countD, ↓sortD, ↓sortItems, ↓dictD, ↓reprD, ↓eDict0, ↓disp1, ↓keyD, ↓FL, ↓sAsg, ↓gT, ↓gsCons, ↓gsNil, ↓sPar3, ↓st3, ↓valsOf, ↓lt, lp__law_rows_7]) rfl rfl rfl
  rw [List.filter_eq_self.mpr fun _ _ => rfl] at this
  exact this
theorem strs_of_all {P : List Nat → Prop} : ∀ {xs : List D}, (∀ x ∈ xs, ∃ r, P r ∧ x = .str r) → ∃ l : List (List Nat), xs = strL l ∧ ∀ r ∈ l, P r
  | [], _ => ⟨[], rfl, fun _ h => by cases h⟩
  | x :: xs, h => by
    obtain ⟨r, hr, rfl⟩ := h x (List.mem_cons_self ..)
    obtain ⟨l, rfl, hl⟩ := strs_of_all fun x hx => h x (List.mem_cons_of_mem _ hx)
    exact ⟨r :: l, rfl, fun q hq => (List.mem_cons.mp hq).elim (fun e => e ▸ hr) (hl q)⟩
theorem mem_strL {d : D} {l : List (List Nat)} : d ∈ strL l → ∃ r, r ∈ l ∧ d = .str r := fun h => by
  obtain ⟨r, h, rfl⟩ := List.mem_map.mp h
  exact ⟨r, by assumption, rfl⟩
theorem compL_len {vs : List Nat} {t : D → Sl → Option Sl} {c : M Bool} {f : M EV} : ∀ {ds acc xs : List D} {e e' : Sl}, compL vs t c f ds acc e = some (xs, e') → xs.length ≤ acc.length + ds.length
  | [], acc, xs, e, e', h => by cases h; simp
  | d :: ds, acc, xs, e, e', h => by
    rw [compL_cons] at h
    obtain ⟨p, h1, h2⟩ := Option.bind_eq_some_iff.mp h
    have h3 := compL_len h2
    have h4 : p.1.length ≤ acc.length + 1 := by
      simp only [compL] at h1
      split at h1
      · cases h1
      · split at h1
        · split at h1
          · split at h1
            · cases h1; simp
            · cases h1
          · cases h1
        · cases h1; simp
        · cases h1
    simp only [List.length_cons]; omega
/-- some rows, chosen -/
theorem comp4 {l : List (List Nat)} (h0 : l ≠ []) (h1 : l.length < 1000000) {s : List D} (hs : Src s) (ds : List D) : ∃ xs s', Src s' ∧ (∀ r ∈ xs, r ∈ l) ∧ xs.length = ds.length ∧ compL [9] (gN 9) bYes lp__law_rows_4 ds [] [.own (.lst s), s1, s2, s3, .val (.lst (strL l)), s5, s6, s7, s9, .emp] = some (strL xs, [.own (.lst s'), s1, s2, s3, .val (.lst (strL l)), s5, s6, s7, s9, .emp]) := by
  have key : ∀ (ds acc : List D) (s : List D), Src s → ∃ xs s', Src s' ∧ (∀ r ∈ xs, r ∈ l) ∧ xs.length = ds.length ∧ compL [9] (gN 9) bYes lp__law_rows_4 ds acc [.own (.lst s), s1, s2, s3, .val (.lst (strL l)), s5, s6, s7, s9, .emp] = some (acc ++ strL xs, [.own (.lst s'), s1, s2, s3, .val (.lst (strL l)), s5, s6, s7, s9, .emp]) := by
    intro ds
    induction ds with
    | nil => exact fun acc s hs => ⟨[], s, hs, by simp, rfl, by simp [compL]⟩
    | cons d ds ih =>
      intro acc s hs
      obtain ⟨x, s', hx, h2, h3⟩ := choose_ok hs (ds := strL l) (by simpa [strL] using h0) (by simpa [strL] using h1) (.val (.lst (strL l))) (.inl rfl)
      obtain ⟨r, hr, rfl⟩ := mem_strL hx
      have hf : lp__law_rows_4 [.own (.lst s), s1, s2, s3, .val (.lst (strL l)), s5, s6, s7, s9, .val d] = some (.ok (.v (.str r)) [.own (.lst s'), s1, s2, s3, .val (.lst (strL l)), s5, s6, s7, s9, .val d]) := by
        simp [↓funD, ↓funV, ↓callM, ↓argsOf, ↓argOf, ↓argS, ↓back, ↓put1, ↓isOwn, ↓sidx, ↓eCall, ↓sSeq, ↓sIf, ↓sE, ↓toB, ↓M.bind, ↓eOp, ↓opM, ↓toA, ↓oName, ↓eName, ↓eC, ↓M.ret, ↓M.stuck, ↓lift, ↓deref, ↓rdS, ↓frz, ↓frzC, ↓eB, ↓bM, ↓asCons, ↓asNil, ↓derefs, ↓vals, ↓eTup, ↓eLst, ↓sRet, ↓sRetV, ↓sSet, ↓slotOf, ↓sExpr, ↓sNil, ↓sBreak, ↓sCont, ↓sRetN, ↓orD, ↓orB, ↓opI2, ↓yes2, ↓okMul, ↓okDiv, ↓okMod, ↓okPow, ↓ltI, ↓leI, ↓gtI, ↓geI, ↓addI, ↓addS, ↓addL, ↓addT, ↓subD, ↓mulI, ↓mulD, ↓mulS, ↓mulL, ↓mulT, ↓divD, ↓modD, ↓powD, ↓ltD, ↓ltS, ↓addD, ↓vB, ↓vI, ↓sSetL, ↓sSetD, ↓atV, ↓grd, ↓setLM, ↓setDM, ↓ixD, ↓seqD, ↓lenD, ↓sPar, ↓eAnd, ↓eOr, ↓eNot, ↓eIf, ↓bAnd, ↓bOr, ↓bNot, ↓eNeg, ↓negD, ↓eChain, ↓eqD, ↓eqS, ↓neD, ↓neS, ↓scalD, ↓scEq, ↓isD, ↓isB, ↓isNon, ↓inD, ↓ninD, ↓inC, ↓inL, ↓flatD, ↓flEq, ↓eBM, ↓tyM, ↓isStrD, ↓isLstD, ↓mutM, ↓ownLst, ↓opAppend, ↓opExtend, ↓opPop, ↓eSlice, ↓pNo, ↓pYes, ↓sliceD, ↓eIsi, ↓eIsi.objIs, ↓isiB, ↓kindN, ↓isInt, ↓isBool, ↓isStr, ↓isTup, ↓isLst, ↓isDic, ↓objOf, ↓objS, ↓listD, ↓tupD, ↓maxI, ↓minI, ↓absD, ↓intD, ↓allD, ↓anyD, ↓sumD, ↓iOf, ↓iRange1, ↓iRange2, ↓itemsOf, ↓gN, ↓bYes, ↓sFor, ↓sTry, ↓sRaise, ↓eFld, ↓sSetF, ↓setFM, ↓one, ↓eMakeS, ↓eMakeSL, ↓starD, ↓makeM, ↓eMake, ↓eCMeth, ↓eProp, ↓eMeth, ↓eOpM, ↓inO, ↓spO, ↓spO1, ↓rg1, ↓rg2, ↓lenSetD, ↓splitD, ↓joinD, ↓countD, ↓sortD, ↓sortItems, ↓dictD, ↓reprD, ↓eDict0, ↓disp1, ↓keyD, ↓FL, ↓sAsg, ↓gT, ↓gsCons, ↓gsNil, ↓sPar3, ↓st3, ↓valsOf, ↓lt, lp__law_rows_4,  h3]
      obtain ⟨xs, s2, j1, j2, j3, j4⟩ := ih (acc ++ [.str r]) s' h2
      refine ⟨r :: xs, s2, j1, fun q hq => (List.mem_cons.mp hq).elim (fun e => e ▸ hr) (j2 q), by simp [j3], ?_⟩
      rw [compL_cons, compL_one rfl rfl hf rfl]
      exact j4.trans (by simp)
  simpa using key ds [] s hs
theorem comp5 {l : List (List Nat)} {s : List D} (hs : Src s) (k : Int) : ∃ xs s', Src s' ∧ (∀ r ∈ xs, r ∈ l) ∧ (xs.length ≤ l.length) ∧ compL [8] (gN 8) lp__law_rows_5 lp__law_rows_6 (strL l) [] [.own (.lst s), s1, s2, s3, s4, s5, .val (.int k), s7, .emp, s9] = some (strL xs, [.own (.lst s'), s1, s2, s3, s4, s5, .val (.int k), s7, .emp, s9]) := by
  obtain ⟨xs, e', h1, ⟨s', hs', rfl⟩, h3⟩ := compL_in (vs := [8]) (t := gN 8) (c := lp__law_rows_5) (f := lp__law_rows_6) (ds := strL l) (e := [.own (.lst s), s1, s2, s3, s4, s5, .val (.int k), s7, .emp, s9]) (fun e => ∃ s', Src s' ∧ e = [.own (.lst s'), s1, s2, s3, s4, s5, .val (.int k), s7, .emp, s9]) (fun d => ∃ r, r ∈ l ∧ d = .str r) rfl ⟨s, hs, rfl⟩ (by
    rintro acc e d hd ⟨s, hs, rfl⟩
    obtain ⟨r, hr, rfl⟩ := mem_strL hd
    obtain ⟨v, s', h2, h3, h4, h5⟩ := draw_ok hs (m := 5) (by omega) (by omega)
    have hc : lp__law_rows_5 [.own (.lst s), s1, s2, s3, s4, s5, .val (.int k), s7, .val (.str r), s9] = some (.ok (decide (v < k)) [.own (.lst s'), s1, s2, s3, s4, s5, .val (.int k), s7, .val (.str r), s9]) := by
      simp [↓funD, ↓funV, ↓callM, ↓argsOf, ↓argOf, ↓argS, ↓back, ↓put1, ↓isOwn, ↓sidx, ↓eCall, ↓sSeq, ↓sIf, ↓sE, ↓toB, ↓M.bind, ↓eOp, ↓opM, ↓toA, ↓oName, ↓eName, ↓eC, ↓M.ret, ↓M.stuck, ↓lift, ↓deref, ↓rdS, ↓frz, ↓frzC, ↓eB, ↓bM, ↓asCons, ↓asNil, ↓derefs, ↓vals, ↓eTup, ↓eLst, ↓sRet, ↓sRetV, ↓sSet, ↓slotOf, ↓sExpr, ↓sNil, ↓sBreak, ↓sCont, ↓sRetN, ↓orD, ↓orB, ↓opI2, ↓yes2, ↓okMul, ↓okDiv, ↓okMod, ↓okPow, ↓ltI, ↓leI, ↓gtI, ↓geI, ↓addI, ↓addS, ↓addL, ↓addT, ↓subD, ↓mulI, ↓mulD, ↓mulS, ↓mulL, ↓mulT, ↓divD, ↓modD, ↓powD, ↓ltD, ↓ltS, ↓addD, ↓vB, ↓vI, ↓sSetL, ↓sSetD, ↓atV, ↓grd, ↓setLM, ↓setDM, ↓ixD, ↓seqD, ↓lenD, ↓sPar, ↓eAnd, ↓eOr, ↓eNot, ↓eIf, ↓bAnd, ↓bOr, ↓bNot, ↓eNeg, ↓negD, ↓eChain, ↓eqD, ↓eqS, ↓neD, ↓neS, ↓scalD, ↓scEq, ↓isD, ↓isB, ↓isNon, ↓inD, ↓ninD, ↓inC, ↓inL, ↓flatD, ↓flEq, ↓eBM, ↓tyM, ↓isStrD, ↓isLstD, ↓mutM, ↓ownLst, ↓opAppend, ↓opExtend, ↓opPop, ↓eSlice, ↓pNo, ↓pYes, ↓sliceD, ↓eIsi, ↓eIsi.objIs, ↓isiB, ↓kindN, ↓isInt, ↓isBool, ↓isStr, ↓isTup, ↓isLst, ↓isDic, ↓objOf, ↓objS, ↓listD, ↓tupD, ↓maxI, ↓minI, ↓absD, ↓intD, ↓allD, ↓anyD, ↓sumD, ↓iOf, ↓iRange1, ↓iRange2, ↓itemsOf, ↓gN, ↓bYes, ↓sFor, ↓sTry, ↓sRaise, ↓eFld, ↓sSetF, ↓setFM, ↓one, ↓eMakeS, ↓eMakeSL, ↓starD, ↓makeM, ↓eMake, ↓eCMeth, ↓eProp, ↓eMeth, ↓eOpM, ↓inO, ↓spO, ↓spO1, ↓rg1, ↓rg2, ↓lenSetD, ↓splitD, ↓joinD, ↓countD, ↓sortD, ↓sortItems, ↓dictD, ↓reprD, ↓eDict0, ↓disp1, ↓keyD, ↓FL, ↓sAsg, ↓gT, ↓gsCons, ↓gsNil, ↓sPar3, ↓st3, ↓valsOf, ↓lt, lp__law_rows_5,  h5]
    have hf : lp__law_rows_6 [.own (.lst s'), s1, s2, s3, s4, s5, .val (.int k), s7, .val (.str r), s9] = some (.ok (.v (.str r)) [.own (.lst s'), s1, s2, s3, s4, s5, .val (.int k), s7, .val (.str r), s9]) := by
      simp [↓funD, ↓funV, ↓callM, ↓argsOf, ↓argOf, ↓argS, ↓back, ↓put1, ↓isOwn, ↓sidx, ↓eCall, ↓sSeq, ↓sIf, ↓sE, ↓toB, ↓M.bind, ↓eOp, ↓opM, ↓toA, ↓oName, ↓eName, ↓eC, ↓M.ret, ↓M.stuck, ↓lift, ↓deref, ↓rdS, ↓frz, ↓frzC, ↓eB, ↓bM, ↓asCons, ↓asNil, ↓derefs, ↓vals, ↓eTup, ↓eLst, ↓sRet, ↓sRetV, ↓sSet, ↓slotOf, ↓sExpr, ↓sNil, ↓sBreak, ↓sCont, ↓sRetN, ↓orD, ↓orB, ↓opI2, ↓yes2, ↓okMul, ↓okDiv, ↓okMod, ↓okPow, ↓ltI, ↓leI, ↓gtI, ↓geI, ↓addI, ↓addS, ↓addL, ↓addT, ↓subD, ↓mulI, ↓mulD, ↓mulS, ↓mulL, ↓mulT, ↓divD, ↓modD, ↓powD, ↓ltD, ↓ltS, ↓addD, ↓vB, ↓vI, ↓sSetL, ↓sSetD, ↓atV, ↓grd, ↓setLM, ↓setDM, ↓ixD, ↓seqD, ↓lenD, ↓sPar, ↓eAnd, ↓eOr, ↓eNot, ↓eIf, ↓bAnd, ↓bOr, ↓bNot, ↓eNeg, ↓negD, ↓eChain, ↓eqD, ↓eqS, ↓neD, ↓neS, ↓scalD, ↓scEq, ↓isD, ↓isB, ↓isNon, ↓inD, ↓ninD, ↓inC, ↓inL, ↓flatD, ↓flEq, ↓eBM, ↓tyM, ↓isStrD, ↓isLstD, ↓mutM, ↓ownLst, ↓opAppend, ↓opExtend, ↓opPop, ↓eSlice, ↓pNo, ↓pYes, ↓sliceD, ↓eIsi, ↓eIsi.objIs, ↓isiB, ↓kindN, ↓isInt, ↓isBool, ↓isStr, ↓isTup, ↓isLst, ↓isDic, ↓objOf, ↓objS, ↓listD, ↓tupD, ↓maxI, ↓minI, ↓absD, ↓intD, ↓allD, ↓anyD, ↓sumD, ↓iOf, ↓iRange1, ↓iRange2, ↓itemsOf, ↓gN, ↓bYes, ↓sFor, ↓sTry, ↓sRaise, ↓eFld, ↓sSetF, ↓setFM, ↓one, ↓eMakeS, ↓eMakeSL, ↓starD, ↓makeM, ↓eMake, ↓eCMeth, ↓eProp, ↓eMeth, ↓eOpM, ↓inO, ↓spO, ↓spO1, ↓rg1, ↓rg2, ↓lenSetD, ↓splitD, ↓joinD, ↓countD, ↓sortD, ↓sortItems, ↓dictD, ↓reprD, ↓eDict0, ↓disp1, ↓keyD, ↓FL, ↓sAsg, ↓gT, ↓gsCons, ↓gsNil, ↓sPar3, ↓st3, ↓valsOf, ↓lt, lp__law_rows_6]
    by_cases hv : v < k
    · rw [decide_eq_true hv] at hc
      exact ⟨[.str r], _, compL_one rfl hc hf rfl, ⟨s', h2, rfl⟩, by simpa using hr⟩
    · rw [decide_eq_false hv] at hc
      exact ⟨[], _, by rw [compL_no rfl hc, List.append_nil]; rfl, ⟨s', h2, rfl⟩, by simp⟩)
  obtain ⟨ys, rfl, h4⟩ := strs_of_all h3
  refine ⟨ys, s', hs', h4, ?_, h1⟩
  have := compL_len h1
  simpa using this
end Lw
end
section
set_option maxRecDepth 100000
set_option maxHeartbeats 4000000
namespace Lw
open PySem Dt
theorem sSeq_of {f g : S} {env e1 : Sl} {r : Option SR} (h : f env = some (.nx e1)) (h2 : g e1 = r) : sSeq f g env = r := by
  simp only [sSeq, h, h2]
theorem funD_rt {n np : Nat} {body : S} {args e : Sl} {v : EV} (h0 : args.length = np) (h : body (args ++ List.replicate (n - np) .emp) = some (.rt v e)) : funD n np body args = some (.ok v (e.take np)) := by
  unfold funD
  rw [if_pos h0, h]
/-- rows that fit: some, all of n signs -/
def Fit (n : Nat) (l : List (List Nat)) : Prop := l ≠ [] ∧ l.length ≤ 70 ∧ ∀ r ∈ l, r ∈ allR n
theorem allR_len {n : Nat} (hn : n ≤ 6) : (allR n).length ≤ 64 := by rw [len_allR]; exact Nat.pow_le_pow_right (by omega) hn
theorem zeros_mem (n : Nat) : List.replicate n 48 ∈ allR n := mem_allR.mpr ⟨by simp, fun c hc => .inl (List.eq_of_mem_replicate hc)⟩
theorem fit_even {n : Nat} (h1 : 1 ≤ n) (hn : n ≤ 6) : Fit n ((allR n).filter even1) := by
  refine ⟨fun e => ?_, Nat.le_trans (List.length_filter_le ..) (by have := allR_len hn; omega), fun r hr => (List.mem_filter.mp hr).1⟩
  have := List.filter_eq_nil_iff.mp e _ (zeros_mem n)
  apply this
  have : n = 1 ∨ n = 2 ∨ n = 3 ∨ n = 4 ∨ n = 5 ∨ n = 6 := by omega
  rcases this with rfl | rfl | rfl | rfl | rfl | rfl <;> decide +kernel
theorem fit_last {n : Nat} (h1 : 1 ≤ n) (hn : n ≤ 6) : Fit n ((allR n).filter last1) := by
  have : n = 1 ∨ n = 2 ∨ n = 3 ∨ n = 4 ∨ n = 5 ∨ n = 6 := by omega
  refine ⟨fun e => ?_, Nat.le_trans (List.length_filter_le ..) (by have := allR_len hn; omega), fun r hr => (List.mem_filter.mp hr).1⟩
  rcases this with rfl | rfl | rfl | rfl | rfl | rfl <;> exact absurd e (by decide +kernel)
abbrev En (s : List D) (a2 a3 a4 a5 a6 a7 : Dt.Slot) : Sl := [.own (.lst s), .val (.int 6), a2, a3, a4, a5, a6, a7, .emp, .emp]
variable {s : List D} {a2 a3 a4 a5 a6 a7 : Dt.Slot}
theorem r1 (hs : Src s) : ∃ (m w : Nat) (s' : List D), Src s' ∧ 1 ≤ m ∧ m ≤ 6 ∧ w < 6 ∧ (sPar 2 3 (eOp addD (toA (eC (.int 1))) (toA (eCall sem__law_draw (asCons (oName 0) (asCons (oName 1) asNil))))) (eCall sem__law_draw (asCons (oName 0) (asCons (toA (eC (.int 6))) asNil)))) (En s .emp .emp a4 a5 a6 a7) = some (.nx (En s' (.val (.int m)) (.val (.int w)) a4 a5 a6 a7)) := by
  obtain ⟨r, s', h2, h3, h4, h5⟩ := draw_ok hs (m := 6) (by omega) (by omega)
  obtain ⟨r', s2, i2, i3, i4, i5⟩ := draw_ok h2 (m := 6) (by omega) (by omega)
  refine ⟨(1 + r).toNat, r'.toNat, s2, i2, by omega, by omega, by omega, ?_⟩
  have e1 : ((1 + r).toNat : Int) = 1 + r := by omega
  have e2 : (r'.toNat : Int) = r' := by omega
  rw [e1, e2]
  simp [↓funD, ↓funV, ↓callM, ↓argsOf, ↓argOf, ↓argS, ↓back, ↓put1, ↓isOwn, ↓sidx, ↓eCall, ↓sSeq, ↓sIf, ↓sE, ↓toB, ↓M.bind, ↓eOp, ↓opM, ↓toA, ↓oName, ↓eName, ↓eC, ↓M.ret, ↓M.stuck, ↓lift, ↓deref, ↓rdS, ↓frz, ↓frzC, ↓eB, ↓bM, ↓asCons, ↓asNil, ↓derefs, ↓vals, ↓eTup, ↓eLst, ↓sRet, ↓sRetV, ↓sSet, ↓slotOf, ↓sExpr, ↓sNil, ↓sBreak, ↓sCont, ↓sRetN, ↓orD, ↓orB, ↓opI2, ↓yes2, ↓okMul, ↓okDiv, ↓okMod, ↓okPow, ↓ltI, ↓leI, ↓gtI, ↓geI, ↓addI, ↓addS, ↓addL, ↓addT, ↓subD, ↓mulI, ↓mulD, ↓mulS, ↓mulL, ↓mulT, ↓divD, ↓modD, ↓powD, ↓ltD, ↓ltS, ↓addD, ↓vB, ↓vI, ↓sSetL, ↓sSetD, ↓atV, ↓grd, ↓setLM, ↓setDM, ↓ixD, ↓seqD, ↓lenD, ↓sPar, ↓eAnd, ↓eOr, ↓eNot, ↓eIf, ↓bAnd, ↓bOr, ↓bNot, ↓eNeg, ↓negD, ↓eChain, ↓eqD, ↓eqS, ↓neD, ↓neS, ↓scalD, ↓scEq, ↓isD, ↓isB, ↓isNon, ↓inD, ↓ninD, ↓inC, ↓inL, ↓flatD, ↓flEq, ↓eBM, ↓tyM, ↓isStrD, ↓isLstD, ↓mutM, ↓ownLst, ↓opAppend, ↓opExtend, ↓opPop, ↓eSlice, ↓pNo, ↓pYes, ↓sliceD, ↓eIsi, ↓eIsi.objIs, ↓isiB, ↓kindN, ↓isInt, ↓isBool, ↓isStr, ↓isTup, ↓isLst, ↓isDic, ↓objOf, ↓objS, ↓listD, ↓tupD, ↓maxI, ↓minI, ↓absD, ↓intD, ↓allD, ↓anyD, ↓sumD, ↓iOf, ↓iRange1, ↓iRange2, ↓itemsOf, ↓gN, ↓sFor, ↓sTry, ↓sRaise, ↓eFld, ↓sSetF, ↓setFM, ↓one, ↓eMakeS, ↓eMakeSL, ↓starD, ↓makeM, ↓eMake, ↓eCMeth, ↓eProp, ↓eMeth, ↓eOpM, ↓inO, ↓spO, ↓spO1, ↓rg1, ↓rg2, ↓lenSetD, ↓splitD, ↓joinD, ↓countD, ↓sortD, ↓sortItems, ↓dictD, ↓reprD, ↓eDict0, ↓disp1, ↓keyD, ↓FL, ↓sAsg, ↓gT, ↓gsCons, ↓gsNil, ↓sPar3, ↓st3, ↓valsOf, ↓lt, ↓eComp, ↓wipeE, En,  h5,  i5]
theorem r2 {m : Nat} (h1 : 1 ≤ m) (hm : m ≤ 6) : (sSet 4 (eCall sem__law_all_rows (asCons (oName 2) asNil))) (En s (.val (.int m)) a3 a4 a5 a6 a7) = some (.nx (En s (.val (.int m)) a3 (.val (.lst (strL (allR m)))) a5 a6 a7)) := by
  have h := all_rows_ok m h1 hm
  simp [↓funD, ↓funV, ↓callM, ↓argsOf, ↓argOf, ↓argS, ↓back, ↓put1, ↓isOwn, ↓sidx, ↓eCall, ↓sSeq, ↓sIf, ↓sE, ↓toB, ↓M.bind, ↓eOp, ↓opM, ↓toA, ↓oName, ↓eName, ↓eC, ↓M.ret, ↓M.stuck, ↓lift, ↓deref, ↓rdS, ↓frz, ↓frzC, ↓eB, ↓bM, ↓asCons, ↓asNil, ↓derefs, ↓vals, ↓eTup, ↓eLst, ↓sRet, ↓sRetV, ↓sSet, ↓slotOf, ↓sExpr, ↓sNil, ↓sBreak, ↓sCont, ↓sRetN, ↓orD, ↓orB, ↓opI2, ↓yes2, ↓okMul, ↓okDiv, ↓okMod, ↓okPow, ↓ltI, ↓leI, ↓gtI, ↓geI, ↓addI, ↓addS, ↓addL, ↓addT, ↓subD, ↓mulI, ↓mulD, ↓mulS, ↓mulL, ↓mulT, ↓divD, ↓modD, ↓powD, ↓ltD, ↓ltS, ↓addD, ↓vB, ↓vI, ↓sSetL, ↓sSetD, ↓atV, ↓grd, ↓setLM, ↓setDM, ↓ixD, ↓seqD, ↓lenD, ↓sPar, ↓eAnd, ↓eOr, ↓eNot, ↓eIf, ↓bAnd, ↓bOr, ↓bNot, ↓eNeg, ↓negD, ↓eChain, ↓eqD, ↓eqS, ↓neD, ↓neS, ↓scalD, ↓scEq, ↓isD, ↓isB, ↓isNon, ↓inD, ↓ninD, ↓inC, ↓inL, ↓flatD, ↓flEq, ↓eBM, ↓tyM, ↓isStrD, ↓isLstD, ↓mutM, ↓ownLst, ↓opAppend, ↓opExtend, ↓opPop, ↓eSlice, ↓pNo, ↓pYes, ↓sliceD, ↓eIsi, ↓eIsi.objIs, ↓isiB, ↓kindN, ↓isInt, ↓isBool, ↓isStr, ↓isTup, ↓isLst, ↓isDic, ↓objOf, ↓objS, ↓listD, ↓tupD, ↓maxI, ↓minI, ↓absD, ↓intD, ↓allD, ↓anyD, ↓sumD, ↓iOf, ↓iRange1, ↓iRange2, ↓itemsOf, ↓gN, ↓sFor, ↓sTry, ↓sRaise, ↓eFld, ↓sSetF, ↓setFM, ↓one, ↓eMakeS, ↓eMakeSL, ↓starD, ↓makeM, ↓eMake, ↓eCMeth, ↓eProp, ↓eMeth, ↓eOpM, ↓inO, ↓spO, ↓spO1, ↓rg1, ↓rg2, ↓lenSetD, ↓splitD, ↓joinD, ↓countD, ↓sortD, ↓sortItems, ↓dictD, ↓reprD, ↓eDict0, ↓disp1, ↓keyD, ↓FL, ↓sAsg, ↓gT, ↓gsCons, ↓gsNil, ↓sPar3, ↓st3, ↓valsOf, ↓lt, ↓eComp, ↓wipeE, En,  h]
abbrev dL (l : List (List Nat)) : D := .lst (strL l)
theorem allR_ne {m : Nat} : allR m ≠ [] := fun e => by have := zeros_mem m; rw [e] at this; cases this
theorem r3 (hs : Src s) {m : Nat} (h1 : 1 ≤ m) (hm : m ≤ 6) : ∃ r s', Src s' ∧ r ∈ allR m ∧ (sSet 5 (eLst (asCons (toA (eLst (asCons (toA (eCall sem__law_choose (asCons (oName 0) (asCons (oName 4) asNil)))) asNil))) (asCons (oName 4) (asCons (toA (eComp [8] (iOf (eName 4)) (gN 8) lp__law_rows_0 lp__law_rows_1)) asNil))))) (En s a2 a3 (.val (dL (allR m))) a5 a6 a7) = some (.nx (En s' a2 a3 (.val (dL (allR m))) (.own (.lst [dL [r], dL (allR m), dL ((allR m).filter even1)])) a6 a7)) := by
  have hl := allR_len hm
  obtain ⟨x, s', hx, h2, h3⟩ := choose_ok hs (ds := strL (allR m)) (by simpa [strL] using allR_ne) (by simp [strL]; omega) (.val (.lst (strL (allR m)))) (.inl rfl)
  obtain ⟨r, hr, rfl⟩ := mem_strL hx
  have hc := comp0 (s0 := .own (.lst s')) (s1 := .val (.int 6)) (s2 := a2) (s3 := a3) (s4 := .val (dL (allR m))) (s5 := a5) (s6 := a6) (s7 := a7) (s9 := .emp) (l := allR m) fun r hr => by have := (mem_allR.mp hr).1; unfold big; omega
  refine ⟨r, s', h2, hr, ?_⟩
  simp [↓funD, ↓funV, ↓callM, ↓argsOf, ↓argOf, ↓argS, ↓back, ↓put1, ↓isOwn, ↓sidx, ↓eCall, ↓sSeq, ↓sIf, ↓sE, ↓toB, ↓M.bind, ↓eOp, ↓opM, ↓toA, ↓oName, ↓eName, ↓eC, ↓M.ret, ↓M.stuck, ↓lift, ↓deref, ↓rdS, ↓frz, ↓frzC, ↓eB, ↓bM, ↓asCons, ↓asNil, ↓derefs, ↓vals, ↓eTup, ↓eLst, ↓sRet, ↓sRetV, ↓sSet, ↓slotOf, ↓sExpr, ↓sNil, ↓sBreak, ↓sCont, ↓sRetN, ↓orD, ↓orB, ↓opI2, ↓yes2, ↓okMul, ↓okDiv, ↓okMod, ↓okPow, ↓ltI, ↓leI, ↓gtI, ↓geI, ↓addI, ↓addS, ↓addL, ↓addT, ↓subD, ↓mulI, ↓mulD, ↓mulS, ↓mulL, ↓mulT, ↓divD, ↓modD, ↓powD, ↓ltD, ↓ltS, ↓addD, ↓vB, ↓vI, ↓sSetL, ↓sSetD, ↓atV, ↓grd, ↓setLM, ↓setDM, ↓ixD, ↓seqD, ↓lenD, ↓sPar, ↓eAnd, ↓eOr, ↓eNot, ↓eIf, ↓bAnd, ↓bOr, ↓bNot, ↓eNeg, ↓negD, ↓eChain, ↓eqD, ↓eqS, ↓neD, ↓neS, ↓scalD, ↓scEq, ↓isD, ↓isB, ↓isNon, ↓inD, ↓ninD, ↓inC, ↓inL, ↓flatD, ↓flEq, ↓eBM, ↓tyM, ↓isStrD, ↓isLstD, ↓mutM, ↓ownLst, ↓opAppend, ↓opExtend, ↓opPop, ↓eSlice, ↓pNo, ↓pYes, ↓sliceD, ↓eIsi, ↓eIsi.objIs, ↓isiB, ↓kindN, ↓isInt, ↓isBool, ↓isStr, ↓isTup, ↓isLst, ↓isDic, ↓objOf, ↓objS, ↓listD, ↓tupD, ↓maxI, ↓minI, ↓absD, ↓intD, ↓allD, ↓anyD, ↓sumD, ↓iOf, ↓iRange1, ↓iRange2, ↓itemsOf, ↓gN, ↓sFor, ↓sTry, ↓sRaise, ↓eFld, ↓sSetF, ↓setFM, ↓one, ↓eMakeS, ↓eMakeSL, ↓starD, ↓makeM, ↓eMake, ↓eCMeth, ↓eProp, ↓eMeth, ↓eOpM, ↓inO, ↓spO, ↓spO1, ↓rg1, ↓rg2, ↓lenSetD, ↓splitD, ↓joinD, ↓countD, ↓sortD, ↓sortItems, ↓dictD, ↓reprD, ↓eDict0, ↓disp1, ↓keyD, ↓FL, ↓sAsg, ↓gT, ↓gsCons, ↓gsNil, ↓sPar3, ↓st3, ↓valsOf, ↓lt, ↓eComp, ↓wipeE, En,  h3,  hc]
theorem append_of {i : Nat} {f : M EV} {env e1 : Sl} {ds xs : List D} (h0 : ownLst env[i]? = true) (h : f env = some (.ok (.o (.lst ds)) e1)) (h2 : e1[i]? = some (.own (.lst xs))) (h3 : xs.length < 1000000) : sExpr (mutM opAppend i (asCons (toA f) asNil)) env = some (.nx (e1.set i (.own (.lst (xs ++ [.lst ds]))))) :=
  sExpr_of (mutM_of h0 (asCons_of (g := asNil) (as := []) (toA_own (d := .lst ds) h rfl) rfl) h2 rfl (opAppend_at h3))
theorem r4 {m : Nat} (h1 : 1 ≤ m) (hm : m ≤ 6) {F : List D} (hF : F.length < 10) : (sExpr (mutM opAppend 5 (asCons (toA (eComp [8] (iOf (eName 4)) (gN 8) lp__law_rows_2 lp__law_rows_3)) asNil))) (En s a2 a3 (.val (dL (allR m))) (.own (.lst F)) a6 a7) = some (.nx (En s a2 a3 (.val (dL (allR m))) (.own (.lst (F ++ [dL ((allR m).filter last1)]))) a6 a7)) := by
  have hc := comp2 (s0 := .own (.lst s)) (s1 := .val (.int 6)) (s2 := a2) (s3 := a3) (s4 := .val (dL (allR m))) (s5 := .own (.lst F)) (s6 := a6) (s7 := a7) (s9 := .emp) (l := allR m) (fun r hr e => by have := (mem_allR.mp hr).1; subst e; simp at this; omega) fun r hr => by have := (mem_allR.mp hr).1; unfold big; omega
  have h : (eComp [8] (iOf (eName 4)) (gN 8) lp__law_rows_2 lp__law_rows_3) (En s a2 a3 (.val (dL (allR m))) (.own (.lst F)) a6 a7) = some (.ok (.o (.lst (strL ((allR m).filter last1)))) (En s a2 a3 (.val (dL (allR m))) (.own (.lst F)) a6 a7)) := by
    simp [↓funD, ↓funV, ↓callM, ↓argsOf, ↓argOf, ↓argS, ↓back, ↓put1, ↓isOwn, ↓sidx, ↓eCall, ↓sSeq, ↓sIf, ↓sE, ↓toB, ↓M.bind, ↓eOp, ↓opM, ↓toA, ↓oName, ↓eName, ↓eC, ↓M.ret, ↓M.stuck, ↓lift, ↓deref, ↓rdS, ↓frz, ↓frzC, ↓eB, ↓bM, ↓asCons, ↓asNil, ↓derefs, ↓vals, ↓eTup, ↓eLst, ↓sRet, ↓sRetV, ↓sSet, ↓slotOf, ↓sExpr, ↓sNil, ↓sBreak, ↓sCont, ↓sRetN, ↓orD, ↓orB, ↓opI2, ↓yes2, ↓okMul, ↓okDiv, ↓okMod, ↓okPow, ↓ltI, ↓leI, ↓gtI, ↓geI, ↓addI, ↓addS, ↓addL, ↓addT, ↓subD, ↓mulI, ↓mulD, ↓mulS, ↓mulL, ↓mulT, ↓divD, ↓modD, ↓powD, ↓ltD, ↓ltS, ↓addD, ↓vB, ↓vI, ↓sSetL, ↓sSetD, ↓atV, ↓grd, ↓setLM, ↓setDM, ↓ixD, ↓seqD, ↓lenD, ↓sPar, ↓eAnd, ↓eOr, ↓eNot, ↓eIf, ↓bAnd, ↓bOr, ↓bNot, ↓eNeg, ↓negD, ↓eChain, ↓eqD, ↓eqS, ↓neD, ↓neS, ↓scalD, ↓scEq, ↓isD, ↓isB, ↓isNon, ↓inD, ↓ninD, ↓inC, ↓inL, ↓flatD, ↓flEq, ↓eBM, ↓tyM, ↓isStrD, ↓isLstD, ↓mutM, ↓ownLst, ↓opAppend, ↓opExtend, ↓opPop, ↓eSlice, ↓pNo, ↓pYes, ↓sliceD, ↓eIsi, ↓eIsi.objIs, ↓isiB, ↓kindN, ↓isInt, ↓isBool, ↓isStr, ↓isTup, ↓isLst, ↓isDic, ↓objOf, ↓objS, ↓listD, ↓tupD, ↓maxI, ↓minI, ↓absD, ↓intD, ↓allD, ↓anyD, ↓sumD, ↓iOf, ↓iRange1, ↓iRange2, ↓itemsOf, ↓gN, ↓sFor, ↓sTry, ↓sRaise, ↓eFld, ↓sSetF, ↓setFM, ↓one, ↓eMakeS, ↓eMakeSL, ↓starD, ↓makeM, ↓eMake, ↓eCMeth, ↓eProp, ↓eMeth, ↓eOpM, ↓inO, ↓spO, ↓spO1, ↓rg1, ↓rg2, ↓lenSetD, ↓splitD, ↓joinD, ↓countD, ↓sortD, ↓sortItems, ↓dictD, ↓reprD, ↓eDict0, ↓disp1, ↓keyD, ↓FL, ↓sAsg, ↓gT, ↓gsCons, ↓gsNil, ↓sPar3, ↓st3, ↓valsOf, ↓lt, ↓eComp, ↓wipeE, En,  hc]
  exact append_of rfl h rfl (by omega)
theorem r5 (hs : Src s) {m : Nat} (h1 : 1 ≤ m) (hm : m ≤ 6) {F : List D} (hF : F.length < 10) : ∃ l s', Src s' ∧ Fit m l ∧ (sExpr (mutM opAppend 5 (asCons (toA (eComp [9] (iRange1 (asCons (toA (eOp addD (toA (eC (.int 1))) (toA (eCall sem__law_draw (asCons (oName 0) (asCons (toA (eC (.int 5))) asNil)))))) asNil)) (gN 9) bYes lp__law_rows_4)) asNil))) (En s a2 a3 (.val (dL (allR m))) (.own (.lst F)) a6 a7) = some (.nx (En s' a2 a3 (.val (dL (allR m))) (.own (.lst (F ++ [dL l]))) a6 a7)) := by
  obtain ⟨r, s', h2, h3, h4, h5⟩ := draw_ok hs (m := 5) (by omega) (by omega)
  obtain ⟨k, hk⟩ : ∃ k : Nat, (k : Int) = 1 + r := ⟨(1 + r).toNat, by omega⟩
  have h62 := small_of (show k < 1000000 by omega)
  have hl := allR_len hm
  obtain ⟨l, s2, i1, i2, i3, hc⟩ := comp4 (l := allR m) allR_ne (by omega) h2 (s1 := .val (.int 6)) (s2 := a2) (s3 := a3) (s5 := .own (.lst F)) (s6 := a6) (s7 := a7) (s9 := .emp) (rangeD 0 k)
  rw [rangeD_len] at i3
  have h : (eComp [9] (iRange1 (asCons (toA (eOp addD (toA (eC (.int 1))) (toA (eCall sem__law_draw (asCons (oName 0) (asCons (toA (eC (.int 5))) asNil)))))) asNil)) (gN 9) bYes lp__law_rows_4) (En s a2 a3 (.val (dL (allR m))) (.own (.lst F)) a6 a7) = some (.ok (.o (.lst (strL l))) (En s2 a2 a3 (.val (dL (allR m))) (.own (.lst F)) a6 a7)) := by
    simp [↓funD, ↓funV, ↓callM, ↓argsOf, ↓argOf, ↓argS, ↓back, ↓put1, ↓isOwn, ↓sidx, ↓eCall, ↓sSeq, ↓sIf, ↓sE, ↓toB, ↓M.bind, ↓eOp, ↓opM, ↓toA, ↓oName, ↓eName, ↓eC, ↓M.ret, ↓M.stuck, ↓lift, ↓deref, ↓rdS, ↓frz, ↓frzC, ↓eB, ↓bM, ↓asCons, ↓asNil, ↓derefs, ↓vals, ↓eTup, ↓eLst, ↓sRet, ↓sRetV, ↓sSet, ↓slotOf, ↓sExpr, ↓sNil, ↓sBreak, ↓sCont, ↓sRetN, ↓orD, ↓orB, ↓opI2, ↓yes2, ↓okMul, ↓okDiv, ↓okMod, ↓okPow, ↓ltI, ↓leI, ↓gtI, ↓geI, ↓addI, ↓addS, ↓addL, ↓addT, ↓subD, ↓mulI, ↓mulD, ↓mulS, ↓mulL, ↓mulT, ↓divD, ↓modD, ↓powD, ↓ltD, ↓ltS, ↓addD, ↓vB, ↓vI, ↓sSetL, ↓sSetD, ↓atV, ↓grd, ↓setLM, ↓setDM, ↓ixD, ↓seqD, ↓lenD, ↓sPar, ↓eAnd, ↓eOr, ↓eNot, ↓eIf, ↓bAnd, ↓bOr, ↓bNot, ↓eNeg, ↓negD, ↓eChain, ↓eqD, ↓eqS, ↓neD, ↓neS, ↓scalD, ↓scEq, ↓isD, ↓isB, ↓isNon, ↓inD, ↓ninD, ↓inC, ↓inL, ↓flatD, ↓flEq, ↓eBM, ↓tyM, ↓isStrD, ↓isLstD, ↓mutM, ↓ownLst, ↓opAppend, ↓opExtend, ↓opPop, ↓eSlice, ↓pNo, ↓pYes, ↓sliceD, ↓eIsi, ↓eIsi.objIs, ↓isiB, ↓kindN, ↓isInt, ↓isBool, ↓isStr, ↓isTup, ↓isLst, ↓isDic, ↓objOf, ↓objS, ↓listD, ↓tupD, ↓maxI, ↓minI, ↓absD, ↓intD, ↓allD, ↓anyD, ↓sumD, ↓iOf, ↓iRange1, ↓iRange2, ↓itemsOf, ↓gN, ↓sFor, ↓sTry, ↓sRaise, ↓eFld, ↓sSetF, ↓setFM, ↓one, ↓eMakeS, ↓eMakeSL, ↓starD, ↓makeM, ↓eMake, ↓eCMeth, ↓eProp, ↓eMeth, ↓eOpM, ↓inO, ↓spO, ↓spO1, ↓rg1, ↓rg2, ↓lenSetD, ↓splitD, ↓joinD, ↓countD, ↓sortD, ↓sortItems, ↓dictD, ↓reprD, ↓eDict0, ↓disp1, ↓keyD, ↓FL, ↓sAsg, ↓gT, ↓gsCons, ↓gsNil, ↓sPar3, ↓st3, ↓valsOf, ↓lt, ↓eComp, ↓wipeE, En,  h5,  ← hk,  h62,  hc]
  exact ⟨l, s2, i1, ⟨fun e => by subst e; simp at i3; omega, by omega, i2⟩, append_of rfl h rfl (by omega)⟩
theorem r6 (hs : Src s) : ∃ (k : Int) (s' : List D), Src s' ∧ (sSet 6 (eOp addD (toA (eC (.int 1))) (toA (eCall sem__law_draw (asCons (oName 0) (asCons (toA (eC (.int 4))) asNil)))))) (En s a2 a3 a4 a5 a6 a7) = some (.nx (En s' a2 a3 a4 a5 (.val (.int k)) a7)) := by
  obtain ⟨r, s', h2, h3, h4, h5⟩ := draw_ok hs (m := 4) (by omega) (by omega)
  refine ⟨1 + r, s', h2, ?_⟩
  simp [↓funD, ↓funV, ↓callM, ↓argsOf, ↓argOf, ↓argS, ↓back, ↓put1, ↓isOwn, ↓sidx, ↓eCall, ↓sSeq, ↓sIf, ↓sE, ↓toB, ↓M.bind, ↓eOp, ↓opM, ↓toA, ↓oName, ↓eName, ↓eC, ↓M.ret, ↓M.stuck, ↓lift, ↓deref, ↓rdS, ↓frz, ↓frzC, ↓eB, ↓bM, ↓asCons, ↓asNil, ↓derefs, ↓vals, ↓eTup, ↓eLst, ↓sRet, ↓sRetV, ↓sSet, ↓slotOf, ↓sExpr, ↓sNil, ↓sBreak, ↓sCont, ↓sRetN, ↓orD, ↓orB, ↓opI2, ↓yes2, ↓okMul, ↓okDiv, ↓okMod, ↓okPow, ↓ltI, ↓leI, ↓gtI, ↓geI, ↓addI, ↓addS, ↓addL, ↓addT, ↓subD, ↓mulI, ↓mulD, ↓mulS, ↓mulL, ↓mulT, ↓divD, ↓modD, ↓powD, ↓ltD, ↓ltS, ↓addD, ↓vB, ↓vI, ↓sSetL, ↓sSetD, ↓atV, ↓grd, ↓setLM, ↓setDM, ↓ixD, ↓seqD, ↓lenD, ↓sPar, ↓eAnd, ↓eOr, ↓eNot, ↓eIf, ↓bAnd, ↓bOr, ↓bNot, ↓eNeg, ↓negD, ↓eChain, ↓eqD, ↓eqS, ↓neD, ↓neS, ↓scalD, ↓scEq, ↓isD, ↓isB, ↓isNon, ↓inD, ↓ninD, ↓inC, ↓inL, ↓flatD, ↓flEq, ↓eBM, ↓tyM, ↓isStrD, ↓isLstD, ↓mutM, ↓ownLst, ↓opAppend, ↓opExtend, ↓opPop, ↓eSlice, ↓pNo, ↓pYes, ↓sliceD, ↓eIsi, ↓eIsi.objIs, ↓isiB, ↓kindN, ↓isInt, ↓isBool, ↓isStr, ↓isTup, ↓isLst, ↓isDic, ↓objOf, ↓objS, ↓listD, ↓tupD, ↓maxI, ↓minI, ↓absD, ↓intD, ↓allD, ↓anyD, ↓sumD, ↓iOf, ↓iRange1, ↓iRange2, ↓itemsOf, ↓gN, ↓sFor, ↓sTry, ↓sRaise, ↓eFld, ↓sSetF, ↓setFM, ↓one, ↓eMakeS, ↓eMakeSL, ↓starD, ↓makeM, ↓eMake, ↓eCMeth, ↓eProp, ↓eMeth, ↓eOpM, ↓inO, ↓spO, ↓spO1, ↓rg1, ↓rg2, ↓lenSetD, ↓splitD, ↓joinD, ↓countD, ↓sortD, ↓sortItems, ↓dictD, ↓reprD, ↓eDict0, ↓disp1, ↓keyD, ↓FL, ↓sAsg, ↓gT, ↓gsCons, ↓gsNil, ↓sPar3, ↓st3, ↓valsOf, ↓lt, ↓eComp, ↓wipeE, En,  h5]
theorem r7 (hs : Src s) {m : Nat} (h1 : 1 ≤ m) (hm : m ≤ 6) {F : List D} (hF : F.length < 10) {k : Int} : ∃ l s', Src s' ∧ Fit m l ∧ (sExpr (mutM opAppend 5 (asCons (toA (eOp addD (toA (eComp [8] (iOf (eName 4)) (gN 8) lp__law_rows_5 lp__law_rows_6)) (toA (eLst (asCons (toA (eCall sem__law_choose (asCons (oName 0) (asCons (oName 4) asNil)))) asNil))))) asNil))) (En s a2 a3 (.val (dL (allR m))) (.own (.lst F)) (.val (.int k)) a7) = some (.nx (En s' a2 a3 (.val (dL (allR m))) (.own (.lst (F ++ [dL l]))) (.val (.int k)) a7)) := by
  have hl := allR_len hm
  obtain ⟨l, s', i1, i2, i3, hc⟩ := comp5 (l := allR m) hs (s1 := .val (.int 6)) (s2 := a2) (s3 := a3) (s4 := .val (dL (allR m))) (s5 := .own (.lst F)) (s7 := a7) (s9 := .emp) k
  obtain ⟨x, s2, hx, h2, h3⟩ := choose_ok i1 (ds := strL (allR m)) (by simpa [strL] using allR_ne) (by simp [strL]; omega) (.val (.lst (strL (allR m)))) (.inl rfl)
  obtain ⟨r, hr, rfl⟩ := mem_strL hx
  have hb : l.length + 1 ≤ big := by unfold big; omega
  have h : (eOp addD (toA (eComp [8] (iOf (eName 4)) (gN 8) lp__law_rows_5 lp__law_rows_6)) (toA (eLst (asCons (toA (eCall sem__law_choose (asCons (oName 0) (asCons (oName 4) asNil)))) asNil)))) (En s a2 a3 (.val (dL (allR m))) (.own (.lst F)) (.val (.int k)) a7) = some (.ok (.o (.lst (strL (l ++ [r])))) (En s2 a2 a3 (.val (dL (allR m))) (.own (.lst F)) (.val (.int k)) a7)) := by
    simp [↓funD, ↓funV, ↓callM, ↓argsOf, ↓argOf, ↓argS, ↓back, ↓put1, ↓isOwn, ↓sidx, ↓eCall, ↓sSeq, ↓sIf, ↓sE, ↓toB, ↓M.bind, ↓eOp, ↓opM, ↓toA, ↓oName, ↓eName, ↓eC, ↓M.ret, ↓M.stuck, ↓lift, ↓deref, ↓rdS, ↓frz, ↓frzC, ↓eB, ↓bM, ↓asCons, ↓asNil, ↓derefs, ↓vals, ↓eTup, ↓eLst, ↓sRet, ↓sRetV, ↓sSet, ↓slotOf, ↓sExpr, ↓sNil, ↓sBreak, ↓sCont, ↓sRetN, ↓orD, ↓orB, ↓opI2, ↓yes2, ↓okMul, ↓okDiv, ↓okMod, ↓okPow, ↓ltI, ↓leI, ↓gtI, ↓geI, ↓addI, ↓addS, ↓addL, ↓addT, ↓subD, ↓mulI, ↓mulD, ↓mulS, ↓mulL, ↓mulT, ↓divD, ↓modD, ↓powD, ↓ltD, ↓ltS, ↓addD, ↓vB, ↓vI, ↓sSetL, ↓sSetD, ↓atV, ↓grd, ↓setLM, ↓setDM, ↓ixD, ↓seqD, ↓lenD, ↓sPar, ↓eAnd, ↓eOr, ↓eNot, ↓eIf, ↓bAnd, ↓bOr, ↓bNot, ↓eNeg, ↓negD, ↓eChain, ↓eqD, ↓eqS, ↓neD, ↓neS, ↓scalD, ↓scEq, ↓isD, ↓isB, ↓isNon, ↓inD, ↓ninD, ↓inC, ↓inL, ↓flatD, ↓flEq, ↓eBM, ↓tyM, ↓isStrD, ↓isLstD, ↓mutM, ↓ownLst, ↓opAppend, ↓opExtend, ↓opPop, ↓eSlice, ↓pNo, ↓pYes, ↓sliceD, ↓eIsi, ↓eIsi.objIs, ↓isiB, ↓kindN, ↓isInt, ↓isBool, ↓isStr, ↓isTup, ↓isLst, ↓isDic, ↓objOf, ↓objS, ↓listD, ↓tupD, ↓maxI, ↓minI, ↓absD, ↓intD, ↓allD, ↓anyD, ↓sumD, ↓iOf, ↓iRange1, ↓iRange2, ↓itemsOf, ↓gN, ↓sFor, ↓sTry, ↓sRaise, ↓eFld, ↓sSetF, ↓setFM, ↓one, ↓eMakeS, ↓eMakeSL, ↓starD, ↓makeM, ↓eMake, ↓eCMeth, ↓eProp, ↓eMeth, ↓eOpM, ↓inO, ↓spO, ↓spO1, ↓rg1, ↓rg2, ↓lenSetD, ↓splitD, ↓joinD, ↓countD, ↓sortD, ↓sortItems, ↓dictD, ↓reprD, ↓eDict0, ↓disp1, ↓keyD, ↓FL, ↓sAsg, ↓gT, ↓gsCons, ↓gsNil, ↓sPar3, ↓st3, ↓valsOf, ↓lt, ↓eComp, ↓wipeE, En,  h3,  hc,  hb]
  exact ⟨l ++ [r], s2, h2, ⟨by simp, by simp; omega, fun q hq => (List.mem_append.mp hq).elim (i2 q) fun e => by rw [List.mem_singleton.mp e]; exact hr⟩, append_of rfl h rfl (by omega)⟩
theorem r8 {w : Nat} {F : List D} {ls : List (List Nat)} (hw : F[w]? = some (dL ls)) (hl : ls.length ≤ 70) : ∃ kept : List (List Nat), kept.Nodup ∧ (∀ r, r ∈ kept ↔ r ∈ ls) ∧ (sSet 7 (eB sortD (asCons (toA (eB dictD (asCons (toA (eComp [8] (iOf (eOp ixD (oName 5) (oName 3))) (gN 8) bYes lp__law_rows_7)) asNil))) asNil))) (En s a2 (.val (.int w)) a4 (.own (.lst F)) a6 a7) = some (.nx (En s a2 (.val (.int w)) a4 (.own (.lst F)) a6 (.own (.lst (strL kept))))) := by
  obtain ⟨l1, h1, h2, ks, vs, h3, h4⟩ := dict_ex ls
  have hlen : l1.length ≤ 70 := by
    have : l1 ⊆ ls := fun x hx => (h2 x).mp hx
    exact Nat.le_trans (h1.length_le_of_subset this) hl
  obtain ⟨l2, i1, _, i2⟩ := sort_ex l1 (by unfold big; omega)
  have i2 := i2 ks vs h3
  have hc := comp7 (s0 := .own (.lst s)) (s1 := .val (.int 6)) (s2 := a2) (s3 := .val (.int w)) (s4 := a4) (s5 := .own (.lst F)) (s6 := a6) (s7 := a7) (s9 := .emp) (l := ls)
  have hw1 : w < F.length := (List.getElem?_eq_some_iff.mp hw).1
  have hw2 : L2.atI F w = some (dL ls) := by
    simp [L2.atI, L2.ixN, hw1]
    simpa [hw1] using hw
  refine ⟨l2, i1.symm.nodup h1, fun r => i1.mem_iff.trans (h2 r), ?_⟩
  simp [↓funD, ↓funV, ↓callM, ↓argsOf, ↓argOf, ↓argS, ↓back, ↓put1, ↓isOwn, ↓sidx, ↓eCall, ↓sSeq, ↓sIf, ↓sE, ↓toB, ↓M.bind, ↓eOp, ↓opM, ↓toA, ↓oName, ↓eName, ↓eC, ↓M.ret, ↓M.stuck, ↓lift, ↓deref, ↓rdS, ↓frz, ↓frzC, ↓eB, ↓bM, ↓asCons, ↓asNil, ↓derefs, ↓vals, ↓eTup, ↓eLst, ↓sRet, ↓sRetV, ↓sSet, ↓slotOf, ↓sExpr, ↓sNil, ↓sBreak, ↓sCont, ↓sRetN, ↓orD, ↓orB, ↓opI2, ↓yes2, ↓okMul, ↓okDiv, ↓okMod, ↓okPow, ↓ltI, ↓leI, ↓gtI, ↓geI, ↓addI, ↓addS, ↓addL, ↓addT, ↓subD, ↓mulI, ↓mulD, ↓mulS, ↓mulL, ↓mulT, ↓divD, ↓modD, ↓powD, ↓ltD, ↓ltS, ↓addD, ↓vB, ↓vI, ↓sSetL, ↓sSetD, ↓atV, ↓grd, ↓setLM, ↓setDM, ↓ixD, ↓seqD, ↓lenD, ↓sPar, ↓eAnd, ↓eOr, ↓eNot, ↓eIf, ↓bAnd, ↓bOr, ↓bNot, ↓eNeg, ↓negD, ↓eChain, ↓eqD, ↓eqS, ↓neD, ↓neS, ↓scalD, ↓scEq, ↓isD, ↓isB, ↓isNon, ↓inD, ↓ninD, ↓inC, ↓inL, ↓flatD, ↓flEq, ↓eBM, ↓tyM, ↓isStrD, ↓isLstD, ↓mutM, ↓ownLst, ↓opAppend, ↓opExtend, ↓opPop, ↓eSlice, ↓pNo, ↓pYes, ↓sliceD, ↓eIsi, ↓eIsi.objIs, ↓isiB, ↓kindN, ↓isInt, ↓isBool, ↓isStr, ↓isTup, ↓isLst, ↓isDic, ↓objOf, ↓objS, ↓listD, ↓tupD, ↓maxI, ↓minI, ↓absD, ↓intD, ↓allD, ↓anyD, ↓sumD, ↓iOf, ↓iRange1, ↓iRange2, ↓itemsOf, ↓gN, ↓sFor, ↓sTry, ↓sRaise, ↓eFld, ↓sSetF, ↓setFM, ↓one, ↓eMakeS, ↓eMakeSL, ↓starD, ↓makeM, ↓eMake, ↓eCMeth, ↓eProp, ↓eMeth, ↓eOpM, ↓inO, ↓spO, ↓spO1, ↓rg1, ↓rg2, ↓lenSetD, ↓splitD, ↓joinD, ↓countD, ↓sortItems, ↓reprD, ↓eDict0, ↓disp1, ↓keyD, ↓FL, ↓sAsg, ↓gT, ↓gsCons, ↓gsNil, ↓sPar3, ↓st3, ↓valsOf, ↓lt, ↓eComp, ↓wipeE, En,  hw2,  hc,  h4,  i2]
theorem r9 (hs : Src s) {kept : List (List Nat)} (h1 : kept.length < 4000) : ∃ (rs : List (List Nat)) (s' : List D), rs.Perm kept ∧ Src s' ∧ (sRet (eCall sem__law_mixed (asCons (oName 0) (asCons (oName 7) asNil)))) (En s a2 a3 a4 a5 a6 (.own (.lst (strL kept)))) = some (.rt (.o (.lst (strL rs))) (En s' a2 a3 a4 a5 a6 (.own (.lst (strL kept))))) := by
  obtain ⟨xs, s', h2, h3, h4⟩ := mixed_ok hs (ds := strL kept) (by simpa [strL] using h1)
  obtain ⟨rs, h5, rfl⟩ := perm_strL h2
  refine ⟨rs, s', h5, h3, ?_⟩
  simp [↓funD, ↓funV, ↓callM, ↓argsOf, ↓argOf, ↓argS, ↓back, ↓put1, ↓isOwn, ↓sidx, ↓eCall, ↓sSeq, ↓sIf, ↓sE, ↓toB, ↓M.bind, ↓eOp, ↓opM, ↓toA, ↓oName, ↓eName, ↓eC, ↓M.ret, ↓M.stuck, ↓lift, ↓deref, ↓rdS, ↓frz, ↓frzC, ↓eB, ↓bM, ↓asCons, ↓asNil, ↓derefs, ↓vals, ↓eTup, ↓eLst, ↓sRet, ↓sRetV, ↓sSet, ↓slotOf, ↓sExpr, ↓sNil, ↓sBreak, ↓sCont, ↓sRetN, ↓orD, ↓orB, ↓opI2, ↓yes2, ↓okMul, ↓okDiv, ↓okMod, ↓okPow, ↓ltI, ↓leI, ↓gtI, ↓geI, ↓addI, ↓addS, ↓addL, ↓addT, ↓subD, ↓mulI, ↓mulD, ↓mulS, ↓mulL, ↓mulT, ↓divD, ↓modD, ↓powD, ↓ltD, ↓ltS, ↓addD, ↓vB, ↓vI, ↓sSetL, ↓sSetD, ↓atV, ↓grd, ↓setLM, ↓setDM, ↓ixD, ↓seqD, ↓lenD, ↓sPar, ↓eAnd, ↓eOr, ↓eNot, ↓eIf, ↓bAnd, ↓bOr, ↓bNot, ↓eNeg, ↓negD, ↓eChain, ↓eqD, ↓eqS, ↓neD, ↓neS, ↓scalD, ↓scEq, ↓isD, ↓isB, ↓isNon, ↓inD, ↓ninD, ↓inC, ↓inL, ↓flatD, ↓flEq, ↓eBM, ↓tyM, ↓isStrD, ↓isLstD, ↓mutM, ↓ownLst, ↓opAppend, ↓opExtend, ↓opPop, ↓eSlice, ↓pNo, ↓pYes, ↓sliceD, ↓eIsi, ↓eIsi.objIs, ↓isiB, ↓kindN, ↓isInt, ↓isBool, ↓isStr, ↓isTup, ↓isLst, ↓isDic, ↓objOf, ↓objS, ↓listD, ↓tupD, ↓maxI, ↓minI, ↓absD, ↓intD, ↓allD, ↓anyD, ↓sumD, ↓iOf, ↓iRange1, ↓iRange2, ↓itemsOf, ↓gN, ↓sFor, ↓sTry, ↓sRaise, ↓eFld, ↓sSetF, ↓setFM, ↓one, ↓eMakeS, ↓eMakeSL, ↓starD, ↓makeM, ↓eMake, ↓eCMeth, ↓eProp, ↓eMeth, ↓eOpM, ↓inO, ↓spO, ↓spO1, ↓rg1, ↓rg2, ↓lenSetD, ↓splitD, ↓joinD, ↓countD, ↓sortD, ↓sortItems, ↓dictD, ↓reprD, ↓eDict0, ↓disp1, ↓keyD, ↓FL, ↓sAsg, ↓gT, ↓gsCons, ↓gsNil, ↓sPar3, ↓st3, ↓valsOf, ↓lt, ↓eComp, ↓wipeE, En,  h4]
theorem rows_ok (hs : Src s) : ∃ (m : Nat) (rs : List (List Nat)) (s' : List D), Src s' ∧ 1 ≤ m ∧ m ≤ 6 ∧ Fit m rs ∧ rs.Nodup ∧ sem__law_rows [.own (.lst s), .val (.int 6)] = some (.ok (.o (.lst (strL rs))) [.own (.lst s'), .val (.int 6)]) := by
  obtain ⟨m, w, s1, hs1, h1, hm, hw, e1⟩ := r1 (a4 := .emp) (a5 := .emp) (a6 := .emp) (a7 := .emp) hs
  have e2 := r2 (s := s1) (a3 := .val (.int w)) (a4 := .emp) (a5 := .emp) (a6 := .emp) (a7 := .emp) h1 hm
  obtain ⟨r, s2, hs2, hr, e3⟩ := r3 (a2 := .val (.int m)) (a3 := .val (.int w)) (a5 := .emp) (a6 := .emp) (a7 := .emp) hs1 h1 hm
  have e4 := r4 (s := s2) (a2 := .val (.int m)) (a3 := .val (.int w)) (a6 := .emp) (a7 := .emp) h1 hm (F := [dL [r], dL (allR m), dL ((allR m).filter even1)]) (by simp)
  obtain ⟨l4, s3, hs3, f4, e5⟩ := r5 (a2 := .val (.int m)) (a3 := .val (.int w)) (a6 := .emp) (a7 := .emp) hs2 h1 hm (F := [dL [r], dL (allR m), dL ((allR m).filter even1)] ++ [dL ((allR m).filter last1)]) (by simp)
  obtain ⟨k, s4, hs4, e6⟩ := r6 (a2 := .val (.int m)) (a3 := .val (.int w)) (a4 := .val (dL (allR m))) (a5 := .own (.lst ([dL [r], dL (allR m), dL ((allR m).filter even1)] ++ [dL ((allR m).filter last1)] ++ [dL l4]))) (a6 := .emp) (a7 := .emp) hs3
  obtain ⟨l5, s5, hs5, f5, e7⟩ := r7 (a2 := .val (.int m)) (a3 := .val (.int w)) (a7 := .emp) hs4 h1 hm (F := [dL [r], dL (allR m), dL ((allR m).filter even1)] ++ [dL ((allR m).filter last1)] ++ [dL l4]) (by simp) (k := k)
  obtain ⟨ls, hls, fls⟩ : ∃ ls, ([dL [r], dL (allR m), dL ((allR m).filter even1)] ++ [dL ((allR m).filter last1)] ++ [dL l4] ++ [dL l5])[w]? = some (dL ls) ∧ Fit m ls := by
    have : w = 0 ∨ w = 1 ∨ w = 2 ∨ w = 3 ∨ w = 4 ∨ w = 5 := by omega
    rcases this with rfl | rfl | rfl | rfl | rfl | rfl
    · exact ⟨_, rfl, by simp, by simp, by simpa using hr⟩
    · exact ⟨_, rfl, allR_ne, by have := allR_len hm; omega, fun _ h => h⟩
    · exact ⟨_, rfl, fit_even h1 hm⟩
    · exact ⟨_, rfl, fit_last h1 hm⟩
    · exact ⟨_, rfl, f4⟩
    · exact ⟨_, rfl, f5⟩
  obtain ⟨kept, k1, k2, e8⟩ := r8 (s := s5) (a2 := .val (.int m)) (a4 := .val (dL (allR m))) (a6 := .val (.int k)) (a7 := .emp) hls fls.2.1
  have k3 : kept.length ≤ 70 := Nat.le_trans (k1.length_le_of_subset fun x hx => (k2 x).mp hx) fls.2.1
  obtain ⟨rs, s6, p1, hs6, e9⟩ := r9 (a2 := .val (.int m)) (a3 := .val (.int w)) (a4 := .val (dL (allR m))) (a5 := .own (.lst ([dL [r], dL (allR m), dL ((allR m).filter even1)] ++ [dL ((allR m).filter last1)] ++ [dL l4] ++ [dL l5]))) (a6 := .val (.int k)) hs5 (kept := kept) (by omega)
  refine ⟨m, rs, s6, hs6, h1, hm, ⟨fun e => ?_, by rw [p1.length_eq]; exact k3, fun q hq => fls.2.2 q ((k2 q).mp (p1.mem_iff.mp hq))⟩, p1.symm.nodup k1, ?_⟩
  · subst e
    have := p1.symm.eq_nil
    subst this
    exact fls.1 (List.eq_nil_iff_forall_not_mem.mpr fun x hx => by have := (k2 x).mpr hx; cases this)
  · have hb := sSeq_of e1 (sSeq_of e2 (sSeq_of e3 (sSeq_of e4 (sSeq_of e5 (sSeq_of e6 (sSeq_of e7 (sSeq_of e8 e9)))))))
    exact funD_rt (n := 10) (np := 2) (body := bd__law_rows) (args := [.own (.lst s), .val (.int 6)]) rfl hb
end Lw
end
section
set_option maxRecDepth 100000
set_option maxHeartbeats 4000000
namespace Lw
open PySem Dt
theorem sum_le {n : Nat} : ∀ {l : List (List Nat)}, (∀ r ∈ l, r.length ≤ n) → (l.map (·.length)).sum ≤ l.length * n
  | [], _ => by simp
  | r :: l, h => by
    have h1 := h r (List.mem_cons_self ..)
    have h2 := sum_le fun r hr => h r (List.mem_cons_of_mem _ hr)
    simp only [List.map_cons, List.sum_cons, List.length_cons, Nat.succ_mul]
    omega
theorem read_back {m : Nat} (hm : m ≤ 6) {rs : List (List Nat)} (f : Fit m rs) : ∃ t, joinD [.str [32], .lst (strL rs)] = some (.v (.str t)) ∧ splitD [.str t, .str [32]] = some (.o (.lst (strL rs))) := by
  obtain ⟨f1, f2, f3⟩ := f
  have hs : (rs.map (·.length)).sum ≤ rs.length * 6 := sum_le fun r hr => by have := (mem_allR.mp (f3 r hr)).1; omega
  have hj : joinD [.str [32], .lst (strL rs)] = some (.v (.str (joinS [32] rs))) := by
    simp only [joinD, strsOf_map, Option.bind]
    rw [if_pos (by unfold big; simp only [List.length_cons, List.length_nil]; omega)]
  refine ⟨joinS [32] rs, hj, ?_⟩
  have hlen : (joinS [32] rs).length ≤ big := by
    have h := StrLaws.join_length_le (mkS [32]) (rs.map mkS)
    rw [← TL.join_eq] at h
    have e : (joinS [32] rs).length = (Txt.join (mkS [32]) (rs.map mkS)).length := by
      show (Txt.join (mkS [32]) (rs.map mkS)).cps.toList.length = (Txt.join (mkS [32]) (rs.map mkS)).cps.size
      simp
    rw [List.map_map, List.length_map] at h
    have e2 : (rs.map ((fun x => x.length) ∘ mkS)) = rs.map (·.length) := List.map_congr_left fun r _ => mkS_len r
    rw [e2, mkS_len] at h
    simp only [List.length_cons, List.length_nil] at h
    unfold big
    omega
  have hsp : splitS (joinS [32] rs) [32] = rs := by
    unfold splitS joinS
    have e : mkS (Txt.join (mkS [32]) (rs.map mkS)).cps.toList = Txt.join (mkS [32]) (rs.map mkS) := by simp [mkS]
    rw [e, TL.split_join (y := mkS [32]) (s := 32) (S := []) rfl (by decide +kernel) (by simpa using f1)]
    · rw [List.map_map]
      refine (List.map_congr_left fun r _ => ?_).trans (List.map_id rs)
      simp [mkS]
    · intro p hp
      obtain ⟨r, hr, rfl⟩ := List.mem_map.mp hp
      intro h
      have h' : (32 : Nat) ∈ r := by simpa [TL.tl, mkS] using h
      have := (mem_allR.mp (f3 r hr)).2 32 h'
      omega
  simp only [splitD]
  rw [if_pos ⟨by simp, hlen⟩, hsp]
theorem met_nodup {l : List (List Nat)} (h : l.Nodup) : DtS.met l = l := by
  have key : ∀ (l σ : List (List Nat)), (σ ++ l).Nodup → l.foldl DtS.stepM σ = σ ++ l := by
    intro l
    induction l with
    | nil => intro σ _; simp
    | cons x l ih =>
      intro σ h
      have hx : σ.any (· == x) = false := by
        rw [List.any_eq_false]
        intro y hy e
        have e := eq_of_beq e
        subst e
        have := (List.nodup_append.mp h).2.2 y hy y (List.mem_cons_self ..)
        exact this rfl
      rw [List.foldl_cons]
      have e : DtS.stepM σ x = σ ++ [x] := by unfold DtS.stepM; rw [hx]; rfl
      rw [e, ih _ (by simpa using h)]
      simp
  exact (key l [] (by simpa using h)).trans (by simp)
end Lw
end
section
set_option maxRecDepth 100000
set_option maxHeartbeats 4000000
namespace Lw
open PySem Dt
/-- a comprehension that only tests -/
theorem comp_test {vs : List Nat} {t : D → Sl → Option Sl} {f : M EV} {e : Sl} : ∀ (ds acc : List D), (∀ d ∈ ds, ∃ e1 e3, t d e = some e1 ∧ f e1 = some (.ok (.v (.bl true)) e3) ∧ wipeE e3 vs = e) → compL vs t bYes f ds acc e = some (acc ++ List.replicate ds.length (.bl true), e)
  | [], acc, _ => by simp [compL]
  | d :: ds, acc, h => by
    obtain ⟨e1, e3, h1, h2, h3⟩ := h d (List.mem_cons_self ..)
    rw [compL_cons, compL_one h1 rfl h2 rfl, h3]
    show compL vs t bYes f ds _ _ = _
    rw [comp_test ds _ fun d hd => h d (List.mem_cons_of_mem _ hd)]
    simp [List.replicate_succ]
theorem all_true (n : Nat) : allD [.lst (List.replicate n (.bl true))] = some (.v (.bl true)) := by
  have : (List.replicate n (D.bl true)) = (List.replicate n true).map D.bl := by simp
  simp only [allD, this, blsOf_map, Option.map]
  simp [vB]
theorem is_answers_ok {m : Nat} (hm : m ≤ 6) {r : List Nat} (hr : r ∈ allR m) : sem_is_answers [.val (.str r), .val (.int m)] = some (.ok (.v (.bl true)) [.val (.str r), .val (.int m)]) := by
  obtain ⟨h1, h2⟩ := mem_allR.mp hr
  subst h1
  have hb : r.length ≤ 1000000 := by omega
  have hb' : r.length ≤ big := hb
  have hc := comp_test (vs := [2]) (t := gN 2) (f := lp_is_answers_0) (e := [.val (.str r), .val (.int r.length), .emp]) (r.map fun c => .str [c]) [] (by
    intro d hd
    obtain ⟨c, hc, rfl⟩ := List.mem_map.mp hd
    refine ⟨[.val (.str r), .val (.int r.length), .val (.str [c])], [.val (.str r), .val (.int r.length), .val (.str [c])], rfl, ?_, rfl⟩
    have : c = 48 ∨ c = 49 := h2 c hc
    simp [↓funD, ↓funV, ↓callM, ↓argsOf, ↓argOf, ↓argS, ↓back, ↓put1, ↓isOwn, ↓sidx, ↓eCall, ↓sSeq, ↓sIf, ↓sE, ↓toB, ↓M.bind, ↓eOp, ↓opM, ↓toA, ↓oName, ↓eName, ↓eC, ↓M.ret, ↓M.stuck, ↓lift, ↓deref, ↓rdS, ↓frz, ↓frzC, ↓eB, ↓bM, ↓asCons, ↓asNil, ↓derefs, ↓vals, ↓eTup, ↓eLst, ↓sRet, ↓sRetV, ↓sSet, ↓slotOf, ↓sExpr, ↓sNil, ↓sBreak, ↓sCont, ↓sRetN, ↓orD, ↓orB, ↓opI2, ↓yes2, ↓okMul, ↓okDiv, ↓okMod, ↓okPow, ↓ltI, ↓leI, ↓gtI, ↓geI, ↓addI, ↓addS, ↓addL, ↓addT, ↓subD, ↓mulI, ↓mulD, ↓mulS, ↓mulL, ↓mulT, ↓divD, ↓modD, ↓powD, ↓ltD, ↓ltS, ↓addD, ↓vB, ↓vI, ↓sSetL, ↓sSetD, ↓atV, ↓grd, ↓setLM, ↓setDM, ↓ixD, ↓seqD, ↓lenD, ↓sPar, ↓eAnd, ↓eOr, ↓eNot, ↓eIf, ↓bAnd, ↓bOr, ↓bNot, ↓eNeg, ↓negD, ↓eChain, ↓eqD, ↓eqS, ↓neD, ↓neS, ↓scalD, ↓scEq, ↓isD, ↓isB, ↓isNon, ↓inD, ↓ninD, ↓inC, ↓inL, ↓flatD, ↓flEq, ↓eBM, ↓tyM, ↓isStrD, ↓isLstD, ↓mutM, ↓ownLst, ↓opAppend, ↓opExtend, ↓opPop, ↓eSlice, ↓pNo, ↓pYes, ↓sliceD, ↓eIsi, ↓eIsi.objIs, ↓isiB, ↓kindN, ↓isInt, ↓isBool, ↓isStr, ↓isTup, ↓isLst, ↓isDic, ↓objOf, ↓objS, ↓listD, ↓tupD, ↓maxI, ↓minI, ↓absD, ↓intD, ↓allD, ↓anyD, ↓sumD, ↓iOf, ↓iRange1, ↓iRange2, ↓itemsOf, ↓gN, ↓sFor, ↓sTry, ↓sRaise, ↓eFld, ↓sSetF, ↓setFM, ↓one, ↓eMakeS, ↓eMakeSL, ↓starD, ↓makeM, ↓eMake, ↓eCMeth, ↓eProp, ↓eMeth, ↓eOpM, ↓inO, ↓spO, ↓spO1, ↓rg1, ↓rg2, ↓lenSetD, ↓splitD, ↓joinD, ↓countD, ↓sortD, ↓sortItems, ↓dictD, ↓reprD, ↓eDict0, ↓disp1, ↓keyD, ↓FL, ↓sAsg, ↓gT, ↓gsCons, ↓gsNil, ↓sPar3, ↓st3, ↓valsOf, ↓lt, ↓eComp, ↓wipeE, lp_is_answers_0,  this])
  simp only [List.nil_append, List.length_map] at hc
  simp [↓funD, ↓funV, ↓callM, ↓argsOf, ↓argOf, ↓argS, ↓back, ↓put1, ↓isOwn, ↓sidx, ↓eCall, ↓sSeq, ↓sIf, ↓sE, ↓toB, ↓M.bind, ↓eOp, ↓opM, ↓toA, ↓oName, ↓eName, ↓eC, ↓M.ret, ↓M.stuck, ↓lift, ↓deref, ↓rdS, ↓frz, ↓frzC, ↓eB, ↓bM, ↓asCons, ↓asNil, ↓derefs, ↓vals, ↓eTup, ↓eLst, ↓sRet, ↓sRetV, ↓sSet, ↓slotOf, ↓sExpr, ↓sNil, ↓sBreak, ↓sCont, ↓sRetN, ↓orD, ↓orB, ↓opI2, ↓yes2, ↓okMul, ↓okDiv, ↓okMod, ↓okPow, ↓ltI, ↓leI, ↓gtI, ↓geI, ↓addI, ↓addS, ↓addL, ↓addT, ↓subD, ↓mulI, ↓mulD, ↓mulS, ↓mulL, ↓mulT, ↓divD, ↓modD, ↓powD, ↓ltD, ↓ltS, ↓addD, ↓vB, ↓vI, ↓sSetL, ↓sSetD, ↓atV, ↓grd, ↓setLM, ↓setDM, ↓ixD, ↓seqD, ↓lenD, ↓sPar, ↓eAnd, ↓eOr, ↓eNot, ↓eIf, ↓bAnd, ↓bOr, ↓bNot, ↓eNeg, ↓negD, ↓eChain, ↓eqD, ↓eqS, ↓neD, ↓neS, ↓scalD, ↓scEq, ↓isD, ↓isB, ↓isNon, ↓inD, ↓ninD, ↓inC, ↓inL, ↓flatD, ↓flEq, ↓eBM, ↓tyM, ↓isStrD, ↓isLstD, ↓mutM, ↓ownLst, ↓opAppend, ↓opExtend, ↓opPop, ↓eSlice, ↓pNo, ↓pYes, ↓sliceD, ↓eIsi, ↓eIsi.objIs, ↓isiB, ↓kindN, ↓isInt, ↓isBool, ↓isStr, ↓isTup, ↓isLst, ↓isDic, ↓objOf, ↓objS, ↓listD, ↓tupD, ↓maxI, ↓minI, ↓absD, ↓intD, ↓anyD, ↓sumD, ↓iOf, ↓iRange1, ↓iRange2, ↓itemsOf, ↓gN, ↓sFor, ↓sTry, ↓sRaise, ↓eFld, ↓sSetF, ↓setFM, ↓one, ↓eMakeS, ↓eMakeSL, ↓starD, ↓makeM, ↓eMake, ↓eCMeth, ↓eProp, ↓eMeth, ↓eOpM, ↓inO, ↓spO, ↓spO1, ↓rg1, ↓rg2, ↓lenSetD, ↓splitD, ↓joinD, ↓countD, ↓sortD, ↓sortItems, ↓dictD, ↓reprD, ↓eDict0, ↓disp1, ↓keyD, ↓FL, ↓sAsg, ↓gT, ↓gsCons, ↓gsNil, ↓sPar3, ↓st3, ↓valsOf, ↓lt, ↓eComp, ↓wipeE, sem_is_answers,  bd_is_answers,  hb,  hb',  hc,  all_true]
theorem are_rows_ok {m : Nat} (h1 : 1 ≤ m) (hm : m ≤ 6) {rs : List (List Nat)} (f : Fit m rs) (hn : rs.Nodup) : sem_are_rows [.own (.lst (strL rs))] = some (.ok (.v (.bl true)) [.val (.lst (strL rs))]) ∧ sem_are_rows [.val (.tup (strL rs))] = some (.ok (.v (.bl true)) [.val (.tup (strL rs))]) := by
  obtain ⟨f1, f2, f3⟩ := f
  obtain ⟨r, l, e⟩ := List.exists_cons_of_ne_nil f1
  have hr := (mem_allR.mp (f3 r (by rw [e]; exact List.mem_cons_self ..))).1
  have hl : rs.length ≤ 4000 := by omega
  have hl0 : ¬ rs.length = 0 := fun q => f1 (List.length_eq_zero_iff.mp q)
  have hl1 : ¬ (rs.length : Int) = 0 := by omega
  have hmet := met_nodup hn
  have hrb : r.length ≤ big := by unfold big; omega
  have hmi : (1 : Int) ≤ (r.length : Int) := by omega
  have hmj : (r.length : Int) ≤ 6 := by omega
  have hc := fun sl => comp_test (vs := [1]) (t := gN 1) (f := lp_are_rows_0) (e := [sl, .emp]) (strL rs) []
  have hmem : ∀ d ∈ strL rs, ∃ q, q ∈ rs ∧ d = .str q := fun d hd => mem_strL hd
  have hs : strsOf (strL rs) = some rs := strsOf_map rs
  have hat : L2.atI (strL rs) 0 = some (.str r) := by simp [L2.atI, L2.ixN, strL, e]
  have hlen : (strL rs).length = rs.length := by simp [strL]
  generalize strL rs = L at hc hmem hs hat hlen
  rw [hlen] at hc
  constructor
  · have hc := hc (.own (.lst L)) (by
      intro d hd
      obtain ⟨q, hq, rfl⟩ := hmem d hd
      refine ⟨[.own (.lst L), .val (.str q)], [.own (.lst L), .val (.str q)], rfl, ?_, rfl⟩
      have h := is_answers_ok hm (f3 q hq)
      rw [← hr] at h
      simp [↓funD, ↓funV, ↓callM, ↓argsOf, ↓argOf, ↓argS, ↓back, ↓put1, ↓isOwn, ↓sidx, ↓eCall, ↓sSeq, ↓sIf, ↓sE, ↓toB, ↓M.bind, ↓eOp, ↓opM, ↓toA, ↓oName, ↓eName, ↓eC, ↓M.ret, ↓M.stuck, ↓lift, ↓deref, ↓rdS, ↓frz, ↓frzC, ↓eB, ↓bM, ↓asCons, ↓asNil, ↓derefs, ↓vals, ↓eTup, ↓eLst, ↓sRet, ↓sRetV, ↓sSet, ↓slotOf, ↓sExpr, ↓sNil, ↓sBreak, ↓sCont, ↓sRetN, ↓orD, ↓orB, ↓opI2, ↓yes2, ↓okMul, ↓okDiv, ↓okMod, ↓okPow, ↓ltI, ↓leI, ↓gtI, ↓geI, ↓addI, ↓addS, ↓addL, ↓addT, ↓subD, ↓mulI, ↓mulD, ↓mulS, ↓mulL, ↓mulT, ↓divD, ↓modD, ↓powD, ↓ltD, ↓ltS, ↓addD, ↓vB, ↓vI, ↓sSetL, ↓sSetD, ↓atV, ↓grd, ↓setLM, ↓setDM, ↓ixD, ↓seqD, ↓lenD, ↓sPar, ↓eAnd, ↓eOr, ↓eNot, ↓eIf, ↓bAnd, ↓bOr, ↓bNot, ↓eNeg, ↓negD, ↓eChain, ↓eqD, ↓eqS, ↓neD, ↓neS, ↓scalD, ↓scEq, ↓isD, ↓isB, ↓isNon, ↓inD, ↓ninD, ↓inC, ↓inL, ↓flatD, ↓flEq, ↓eBM, ↓tyM, ↓isStrD, ↓isLstD, ↓mutM, ↓ownLst, ↓opAppend, ↓opExtend, ↓opPop, ↓eSlice, ↓pNo, ↓pYes, ↓sliceD, ↓eIsi, ↓eIsi.objIs, ↓isiB, ↓kindN, ↓isInt, ↓isBool, ↓isStr, ↓isTup, ↓isLst, ↓isDic, ↓objOf, ↓objS, ↓listD, ↓tupD, ↓maxI, ↓minI, ↓absD, ↓intD, ↓allD, ↓anyD, ↓sumD, ↓iOf, ↓iRange1, ↓iRange2, ↓itemsOf, ↓gN, ↓sFor, ↓sTry, ↓sRaise, ↓eFld, ↓sSetF, ↓setFM, ↓one, ↓eMakeS, ↓eMakeSL, ↓starD, ↓makeM, ↓eMake, ↓eCMeth, ↓eProp, ↓eMeth, ↓eOpM, ↓inO, ↓spO, ↓spO1, ↓rg1, ↓rg2, ↓lenSetD, ↓splitD, ↓joinD, ↓countD, ↓sortD, ↓sortItems, ↓dictD, ↓reprD, ↓eDict0, ↓disp1, ↓keyD, ↓FL, ↓sAsg, ↓gT, ↓gsCons, ↓gsNil, ↓sPar3, ↓st3, ↓valsOf, ↓lt, ↓eComp, ↓wipeE, lp_are_rows_0,  hrb,  h,  hat])
    simp only [List.nil_append] at hc
    have hc2 := comp_test (vs := [1]) (t := gN 1) (f := lp_are_rows_0) (e := [.val (.lst L), .emp]) L [] (by
      intro d hd
      obtain ⟨q, hq, rfl⟩ := hmem d hd
      refine ⟨[.val (.lst L), .val (.str q)], [.val (.lst L), .val (.str q)], rfl, ?_, rfl⟩
      have h := is_answers_ok hm (f3 q hq)
      rw [← hr] at h
      simp [↓funD, ↓funV, ↓callM, ↓argsOf, ↓argOf, ↓argS, ↓back, ↓put1, ↓isOwn, ↓sidx, ↓eCall, ↓sSeq, ↓sIf, ↓sE, ↓toB, ↓M.bind, ↓eOp, ↓opM, ↓toA, ↓oName, ↓eName, ↓eC, ↓M.ret, ↓M.stuck, ↓lift, ↓deref, ↓rdS, ↓frz, ↓frzC, ↓eB, ↓bM, ↓asCons, ↓asNil, ↓derefs, ↓vals, ↓eTup, ↓eLst, ↓sRet, ↓sRetV, ↓sSet, ↓slotOf, ↓sExpr, ↓sNil, ↓sBreak, ↓sCont, ↓sRetN, ↓orD, ↓orB, ↓opI2, ↓yes2, ↓okMul, ↓okDiv, ↓okMod, ↓okPow, ↓ltI, ↓leI, ↓gtI, ↓geI, ↓addI, ↓addS, ↓addL, ↓addT, ↓subD, ↓mulI, ↓mulD, ↓mulS, ↓mulL, ↓mulT, ↓divD, ↓modD, ↓powD, ↓ltD, ↓ltS, ↓addD, ↓vB, ↓vI, ↓sSetL, ↓sSetD, ↓atV, ↓grd, ↓setLM, ↓setDM, ↓ixD, ↓seqD, ↓lenD, ↓sPar, ↓eAnd, ↓eOr, ↓eNot, ↓eIf, ↓bAnd, ↓bOr, ↓bNot, ↓eNeg, ↓negD, ↓eChain, ↓eqD, ↓eqS, ↓neD, ↓neS, ↓scalD, ↓scEq, ↓isD, ↓isB, ↓isNon, ↓inD, ↓ninD, ↓inC, ↓inL, ↓flatD, ↓flEq, ↓eBM, ↓tyM, ↓isStrD, ↓isLstD, ↓mutM, ↓ownLst, ↓opAppend, ↓opExtend, ↓opPop, ↓eSlice, ↓pNo, ↓pYes, ↓sliceD, ↓eIsi, ↓eIsi.objIs, ↓isiB, ↓kindN, ↓isInt, ↓isBool, ↓isStr, ↓isTup, ↓isLst, ↓isDic, ↓objOf, ↓objS, ↓listD, ↓tupD, ↓maxI, ↓minI, ↓absD, ↓intD, ↓allD, ↓anyD, ↓sumD, ↓iOf, ↓iRange1, ↓iRange2, ↓itemsOf, ↓gN, ↓sFor, ↓sTry, ↓sRaise, ↓eFld, ↓sSetF, ↓setFM, ↓one, ↓eMakeS, ↓eMakeSL, ↓starD, ↓makeM, ↓eMake, ↓eCMeth, ↓eProp, ↓eMeth, ↓eOpM, ↓inO, ↓spO, ↓spO1, ↓rg1, ↓rg2, ↓lenSetD, ↓splitD, ↓joinD, ↓countD, ↓sortD, ↓sortItems, ↓dictD, ↓reprD, ↓eDict0, ↓disp1, ↓keyD, ↓FL, ↓sAsg, ↓gT, ↓gsCons, ↓gsNil, ↓sPar3, ↓st3, ↓valsOf, ↓lt, ↓eComp, ↓wipeE, lp_are_rows_0,  hrb,  h,  hat])
    simp only [List.nil_append, hlen] at hc2
    simp [↓funD, ↓funV, ↓callM, ↓argsOf, ↓argOf, ↓argS, ↓back, ↓put1, ↓isOwn, ↓sidx, ↓eCall, ↓sSeq, ↓sIf, ↓sE, ↓toB, ↓M.bind, ↓eOp, ↓opM, ↓toA, ↓oName, ↓eName, ↓eC, ↓M.ret, ↓M.stuck, ↓lift, ↓deref, ↓rdS, ↓frz, ↓frzC, ↓eB, ↓bM, ↓asCons, ↓asNil, ↓derefs, ↓vals, ↓eTup, ↓eLst, ↓sRet, ↓sRetV, ↓sSet, ↓slotOf, ↓sExpr, ↓sNil, ↓sBreak, ↓sCont, ↓sRetN, ↓orD, ↓orB, ↓opI2, ↓yes2, ↓okMul, ↓okDiv, ↓okMod, ↓okPow, ↓ltI, ↓leI, ↓gtI, ↓geI, ↓addI, ↓addS, ↓addL, ↓addT, ↓subD, ↓mulI, ↓mulD, ↓mulS, ↓mulL, ↓mulT, ↓divD, ↓modD, ↓powD, ↓ltD, ↓ltS, ↓addD, ↓vB, ↓vI, ↓sSetL, ↓sSetD, ↓atV, ↓grd, ↓setLM, ↓setDM, ↓ixD, ↓seqD, ↓lenD, ↓sPar, ↓eAnd, ↓eOr, ↓eNot, ↓eIf, ↓bAnd, ↓bOr, ↓bNot, ↓eNeg, ↓negD, ↓eChain, ↓eqD, ↓eqS, ↓neD, ↓neS, ↓scalD, ↓scEq, ↓isD, ↓isB, ↓isNon, ↓inD, ↓ninD, ↓inC, ↓inL, ↓flatD, ↓flEq, ↓eBM, ↓tyM, ↓isStrD, ↓isLstD, ↓mutM, ↓ownLst, ↓opAppend, ↓opExtend, ↓opPop, ↓eSlice, ↓pNo, ↓pYes, ↓sliceD, ↓eIsi, ↓eIsi.objIs, ↓isiB, ↓kindN, ↓isInt, ↓isBool, ↓isStr, ↓isTup, ↓isLst, ↓isDic, ↓objOf, ↓objS, ↓listD, ↓tupD, ↓maxI, ↓minI, ↓absD, ↓intD, ↓anyD, ↓sumD, ↓iOf, ↓iRange1, ↓iRange2, ↓itemsOf, ↓gN, ↓sFor, ↓sTry, ↓sRaise, ↓eFld, ↓sSetF, ↓setFM, ↓one, ↓eMakeS, ↓eMakeSL, ↓starD, ↓makeM, ↓eMake, ↓eCMeth, ↓eProp, ↓eMeth, ↓eOpM, ↓inO, ↓spO, ↓spO1, ↓rg1, ↓rg2, ↓lenSetD, ↓splitD, ↓joinD, ↓countD, ↓sortD, ↓sortItems, ↓dictD, ↓reprD, ↓eDict0, ↓disp1, ↓keyD, ↓FL, ↓sAsg, ↓gT, ↓gsCons, ↓gsNil, ↓sPar3, ↓st3, ↓valsOf, ↓lt, ↓eComp, ↓wipeE, sem_are_rows,  bd_are_rows,  hrb,  hmi,  hmj,  hc,  hc2,  all_true,  hs,  hmet,  hl,  hl0,  hl1,  hlen,  hat]
  · have hc := hc (.val (.tup L)) (by
      intro d hd
      obtain ⟨q, hq, rfl⟩ := hmem d hd
      refine ⟨[.val (.tup L), .val (.str q)], [.val (.tup L), .val (.str q)], rfl, ?_, rfl⟩
      have h := is_answers_ok hm (f3 q hq)
      rw [← hr] at h
      simp [↓funD, ↓funV, ↓callM, ↓argsOf, ↓argOf, ↓argS, ↓back, ↓put1, ↓isOwn, ↓sidx, ↓eCall, ↓sSeq, ↓sIf, ↓sE, ↓toB, ↓M.bind, ↓eOp, ↓opM, ↓toA, ↓oName, ↓eName, ↓eC, ↓M.ret, ↓M.stuck, ↓lift, ↓deref, ↓rdS, ↓frz, ↓frzC, ↓eB, ↓bM, ↓asCons, ↓asNil, ↓derefs, ↓vals, ↓eTup, ↓eLst, ↓sRet, ↓sRetV, ↓sSet, ↓slotOf, ↓sExpr, ↓sNil, ↓sBreak, ↓sCont, ↓sRetN, ↓orD, ↓orB, ↓opI2, ↓yes2, ↓okMul, ↓okDiv, ↓okMod, ↓okPow, ↓ltI, ↓leI, ↓gtI, ↓geI, ↓addI, ↓addS, ↓addL, ↓addT, ↓subD, ↓mulI, ↓mulD, ↓mulS, ↓mulL, ↓mulT, ↓divD, ↓modD, ↓powD, ↓ltD, ↓ltS, ↓addD, ↓vB, ↓vI, ↓sSetL, ↓sSetD, ↓atV, ↓grd, ↓setLM, ↓setDM, ↓ixD, ↓seqD, ↓lenD, ↓sPar, ↓eAnd, ↓eOr, ↓eNot, ↓eIf, ↓bAnd, ↓bOr, ↓bNot, ↓eNeg, ↓negD, ↓eChain, ↓eqD, ↓eqS, ↓neD, ↓neS, ↓scalD, ↓scEq, ↓isD, ↓isB, ↓isNon, ↓inD, ↓ninD, ↓inC, ↓inL, ↓flatD, ↓flEq, ↓eBM, ↓tyM, ↓isStrD, ↓isLstD, ↓mutM, ↓ownLst, ↓opAppend, ↓opExtend, ↓opPop, ↓eSlice, ↓pNo, ↓pYes, ↓sliceD, ↓eIsi, ↓eIsi.objIs, ↓isiB, ↓kindN, ↓isInt, ↓isBool, ↓isStr, ↓isTup, ↓isLst, ↓isDic, ↓objOf, ↓objS, ↓listD, ↓tupD, ↓maxI, ↓minI, ↓absD, ↓intD, ↓allD, ↓anyD, ↓sumD, ↓iOf, ↓iRange1, ↓iRange2, ↓itemsOf, ↓gN, ↓sFor, ↓sTry, ↓sRaise, ↓eFld, ↓sSetF, ↓setFM, ↓one, ↓eMakeS, ↓eMakeSL, ↓starD, ↓makeM, ↓eMake, ↓eCMeth, ↓eProp, ↓eMeth, ↓eOpM, ↓inO, ↓spO, ↓spO1, ↓rg1, ↓rg2, ↓lenSetD, ↓splitD, ↓joinD, ↓countD, ↓sortD, ↓sortItems, ↓dictD, ↓reprD, ↓eDict0, ↓disp1, ↓keyD, ↓FL, ↓sAsg, ↓gT, ↓gsCons, ↓gsNil, ↓sPar3, ↓st3, ↓valsOf, ↓lt, ↓eComp, ↓wipeE, lp_are_rows_0,  hrb,  h,  hat])
    simp only [List.nil_append] at hc
    simp [↓funD, ↓funV, ↓callM, ↓argsOf, ↓argOf, ↓argS, ↓back, ↓put1, ↓isOwn, ↓sidx, ↓eCall, ↓sSeq, ↓sIf, ↓sE, ↓toB, ↓M.bind, ↓eOp, ↓opM, ↓toA, ↓oName, ↓eName, ↓eC, ↓M.ret, ↓M.stuck, ↓lift, ↓deref, ↓rdS, ↓frz, ↓frzC, ↓eB, ↓bM, ↓asCons, ↓asNil, ↓derefs, ↓vals, ↓eTup, ↓eLst, ↓sRet, ↓sRetV, ↓sSet, ↓slotOf, ↓sExpr, ↓sNil, ↓sBreak, ↓sCont, ↓sRetN, ↓orD, ↓orB, ↓opI2, ↓yes2, ↓okMul, ↓okDiv, ↓okMod, ↓okPow, ↓ltI, ↓leI, ↓gtI, ↓geI, ↓addI, ↓addS, ↓addL, ↓addT, ↓subD, ↓mulI, ↓mulD, ↓mulS, ↓mulL, ↓mulT, ↓divD, ↓modD, ↓powD, ↓ltD, ↓ltS, ↓addD, ↓vB, ↓vI, ↓sSetL, ↓sSetD, ↓atV, ↓grd, ↓setLM, ↓setDM, ↓ixD, ↓seqD, ↓lenD, ↓sPar, ↓eAnd, ↓eOr, ↓eNot, ↓eIf, ↓bAnd, ↓bOr, ↓bNot, ↓eNeg, ↓negD, ↓eChain, ↓eqD, ↓eqS, ↓neD, ↓neS, ↓scalD, ↓scEq, ↓isD, ↓isB, ↓isNon, ↓inD, ↓ninD, ↓inC, ↓inL, ↓flatD, ↓flEq, ↓eBM, ↓tyM, ↓isStrD, ↓isLstD, ↓mutM, ↓ownLst, ↓opAppend, ↓opExtend, ↓opPop, ↓eSlice, ↓pNo, ↓pYes, ↓sliceD, ↓eIsi, ↓eIsi.objIs, ↓isiB, ↓kindN, ↓isInt, ↓isBool, ↓isStr, ↓isTup, ↓isLst, ↓isDic, ↓objOf, ↓objS, ↓listD, ↓tupD, ↓maxI, ↓minI, ↓absD, ↓intD, ↓anyD, ↓sumD, ↓iOf, ↓iRange1, ↓iRange2, ↓itemsOf, ↓gN, ↓sFor, ↓sTry, ↓sRaise, ↓eFld, ↓sSetF, ↓setFM, ↓one, ↓eMakeS, ↓eMakeSL, ↓starD, ↓makeM, ↓eMake, ↓eCMeth, ↓eProp, ↓eMeth, ↓eOpM, ↓inO, ↓spO, ↓spO1, ↓rg1, ↓rg2, ↓lenSetD, ↓splitD, ↓joinD, ↓countD, ↓sortD, ↓sortItems, ↓dictD, ↓reprD, ↓eDict0, ↓disp1, ↓keyD, ↓FL, ↓sAsg, ↓gT, ↓gsCons, ↓gsNil, ↓sPar3, ↓st3, ↓valsOf, ↓lt, ↓eComp, ↓wipeE, sem_are_rows,  bd_are_rows,  hrb,  hmi,  hmj,  hc,  all_true,  hs,  hmet,  hl,  hl0,  hl1,  hlen,  hat]
theorem initTup {m : Nat} (h1 : 1 ≤ m) (hm : m ≤ 6) {rs rs' : List (List Nat)} (f : Fit m rs) (hn : rs.Nodup) (hs2 : sortD [.tup (strL rs)] = some (.o (.lst (strL rs')))) : sem_Board___init__ (.own (.ins 0 []) :: (strL rs).map Dt.Slot.val) = some (.ok (.v .non) (.own (.ins 0 [.tup (strL rs')]) :: (strL rs).map Dt.Slot.val)) := by
  have h := (are_rows_ok h1 hm f hn).2
  have hv : valsOf ((strL rs).map Dt.Slot.val) = some (strL rs) := by
    generalize strL rs = L
    induction L with
    | nil => rfl
    | cons d l ih => simp [valsOf, ih]
  have hl : (strL rs).length ≤ 5000 := by simp [strL]; have := f.2.1; omega
  generalize strL rs = L at *
  simp [↓funD, ↓funV, ↓callM, ↓argsOf, ↓argOf, ↓argS, ↓back, ↓put1, ↓isOwn, ↓sidx, ↓eCall, ↓sSeq, ↓sIf, ↓sE, ↓toB, ↓M.bind, ↓eOp, ↓opM, ↓toA, ↓oName, ↓eName, ↓eC, ↓M.ret, ↓M.stuck, ↓lift, ↓deref, ↓rdS, ↓frz, ↓frzC, ↓eB, ↓bM, ↓asCons, ↓asNil, ↓derefs, ↓vals, ↓eTup, ↓eLst, ↓sRet, ↓sRetV, ↓sSet, ↓slotOf, ↓sExpr, ↓sNil, ↓sBreak, ↓sCont, ↓sRetN, ↓orD, ↓orB, ↓opI2, ↓yes2, ↓okMul, ↓okDiv, ↓okMod, ↓okPow, ↓ltI, ↓leI, ↓gtI, ↓geI, ↓addI, ↓addS, ↓addL, ↓addT, ↓subD, ↓mulI, ↓mulD, ↓mulS, ↓mulL, ↓mulT, ↓divD, ↓modD, ↓powD, ↓ltD, ↓ltS, ↓addD, ↓vB, ↓vI, ↓sSetL, ↓sSetD, ↓atV, ↓grd, ↓setLM, ↓setDM, ↓ixD, ↓seqD, ↓lenD, ↓sPar, ↓eAnd, ↓eOr, ↓eNot, ↓eIf, ↓bAnd, ↓bOr, ↓bNot, ↓eNeg, ↓negD, ↓eChain, ↓eqD, ↓eqS, ↓neD, ↓neS, ↓scalD, ↓scEq, ↓isD, ↓isB, ↓isNon, ↓inD, ↓ninD, ↓inC, ↓inL, ↓flatD, ↓flEq, ↓eBM, ↓tyM, ↓isStrD, ↓isLstD, ↓mutM, ↓ownLst, ↓opAppend, ↓opExtend, ↓opPop, ↓eSlice, ↓pNo, ↓pYes, ↓sliceD, ↓eIsi, ↓eIsi.objIs, ↓isiB, ↓kindN, ↓isInt, ↓isBool, ↓isStr, ↓isTup, ↓isLst, ↓isDic, ↓objOf, ↓objS, ↓listD, ↓tupD, ↓maxI, ↓minI, ↓absD, ↓intD, ↓allD, ↓anyD, ↓sumD, ↓iOf, ↓iRange1, ↓iRange2, ↓itemsOf, ↓gN, ↓sFor, ↓sTry, ↓sRaise, ↓eFld, ↓sSetF, ↓setFM, ↓one, ↓eMakeS, ↓eMakeSL, ↓starD, ↓makeM, ↓eMake, ↓eCMeth, ↓eProp, ↓eMeth, ↓eOpM, ↓inO, ↓spO, ↓spO1, ↓rg1, ↓rg2, ↓lenSetD, ↓splitD, ↓joinD, ↓countD, ↓sortItems, ↓dictD, ↓reprD, ↓eDict0, ↓disp1, ↓keyD, ↓FL, ↓sAsg, ↓gT, ↓gsCons, ↓gsNil, ↓sPar3, ↓st3, ↓lt, ↓eComp, ↓wipeE, sem_Board___init__,  bd_Board___init__,  h,  hv,  hl,  hs2]
end Lw
end
section
set_option maxRecDepth 100000
set_option maxHeartbeats 4000000
namespace Lw
open PySem Dt
theorem makeM_vals {t : Nat} {g : M EV} {env : Sl} {ds fs : List D} (hg : g (.own (.ins t []) :: ds.map Dt.Slot.val) = some (.ok (.v .non) (.own (.ins t fs) :: ds.map Dt.Slot.val))) (hf : fs.length = (FL t).length) : makeM t g (ds.map AV.v) env = some (.ok (.v (.obj t fs)) env) := by
  have h1 : sidx (ds.map AV.v) = [] := by
    clear hg
    induction ds with
    | nil => rfl
    | cons d ds ih => simpa [sidx] using ih
  have h2 : ∀ e : Sl, argsOf e (ds.map AV.v) = some (ds.map Dt.Slot.val) := fun e => by
    clear hg h1
    induction ds with
    | nil => rfl
    | cons d ds ih => simp [argsOf, argOf, ih]
  have h3 : ∀ (e : Sl) , back e (ds.map AV.v) (ds.map Dt.Slot.val) = e := fun e => by
    clear hg h1 h2
    induction ds generalizing e with
    | nil => rfl
    | cons d ds ih => simp [back, ih]
  simp [makeM, callM, sidx, argsOf, argOf, argS, h1, h2, hg, h3, back, put1, isOwn, hf]
theorem read_ok {m : Nat} (C0 : Addr) (h1 : 1 ≤ m) (hm : m ≤ 6) {rs rs' : List (List Nat)} (f : Fit m rs) (hn : rs.Nodup) (hs : sortD [.tup (strL rs)] = some (.o (.lst (strL rs')))) {t : List Nat} (ht : splitD [.str t, .str [32]] = some (.o (.lst (strL rs)))) : sem_Board_read C0 [.val (.raw (.ref C0)), .val (.str t)] = some (.ok (.v (.obj 0 [.tup (strL rs')])) [.val (.raw (.ref C0)), .val (.str t)]) := by
  have ha := (are_rows_ok h1 hm f hn).1
  have hi := fun env => makeM_vals (t := 0) (env := env) (initTup h1 hm f hn hs) rfl
  simp [↓funD, ↓funV, ↓callM, ↓argsOf, ↓argOf, ↓argS, ↓back, ↓put1, ↓isOwn, ↓sidx, ↓eCall, ↓sSeq, ↓sIf, ↓sE, ↓toB, ↓M.bind, ↓eOp, ↓opM, ↓toA, ↓oName, ↓eName, ↓eC, ↓M.ret, ↓M.stuck, ↓lift, ↓deref, ↓rdS, ↓frz, ↓frzC, ↓eB, ↓bM, ↓asCons, ↓asNil, ↓derefs, ↓vals, ↓eTup, ↓eLst, ↓sRet, ↓sRetV, ↓sSet, ↓slotOf, ↓sExpr, ↓sNil, ↓sBreak, ↓sCont, ↓sRetN, ↓orD, ↓orB, ↓opI2, ↓yes2, ↓okMul, ↓okDiv, ↓okMod, ↓okPow, ↓ltI, ↓leI, ↓gtI, ↓geI, ↓addI, ↓addS, ↓addL, ↓addT, ↓subD, ↓mulI, ↓mulD, ↓mulS, ↓mulL, ↓mulT, ↓divD, ↓modD, ↓powD, ↓ltD, ↓ltS, ↓addD, ↓vB, ↓vI, ↓sSetL, ↓sSetD, ↓atV, ↓grd, ↓setLM, ↓setDM, ↓ixD, ↓seqD, ↓lenD, ↓sPar, ↓eAnd, ↓eOr, ↓eNot, ↓eIf, ↓bAnd, ↓bOr, ↓bNot, ↓eNeg, ↓negD, ↓eChain, ↓eqD, ↓eqS, ↓neD, ↓neS, ↓scalD, ↓scEq, ↓isD, ↓isB, ↓isNon, ↓inD, ↓ninD, ↓inC, ↓inL, ↓flatD, ↓flEq, ↓eBM, ↓tyM, ↓isStrD, ↓isLstD, ↓mutM, ↓ownLst, ↓opAppend, ↓opExtend, ↓opPop, ↓eSlice, ↓pNo, ↓pYes, ↓sliceD, ↓eIsi, ↓eIsi.objIs, ↓isiB, ↓kindN, ↓isInt, ↓isBool, ↓isStr, ↓isTup, ↓isLst, ↓isDic, ↓objOf, ↓objS, ↓listD, ↓tupD, ↓maxI, ↓minI, ↓absD, ↓intD, ↓allD, ↓anyD, ↓sumD, ↓iOf, ↓iRange1, ↓iRange2, ↓itemsOf, ↓gN, ↓sFor, ↓sTry, ↓sRaise, ↓eFld, ↓sSetF, ↓setFM, ↓one, ↓eMakeS, ↓eMakeSL, ↓starD, ↓eMake, ↓eCMeth, ↓eProp, ↓eMeth, ↓eOpM, ↓inO, ↓spO, ↓spO1, ↓rg1, ↓rg2, ↓lenSetD, ↓joinD, ↓countD, ↓sortD, ↓sortItems, ↓dictD, ↓reprD, ↓eDict0, ↓disp1, ↓keyD, ↓FL, ↓sAsg, ↓gT, ↓gsCons, ↓gsNil, ↓sPar3, ↓st3, ↓valsOf, ↓lt, ↓eComp, ↓wipeE, sem_Board_read,  bd_Board_read,  ht,  ha,  hi, -List.map_map]
end Lw
end
section
set_option maxRecDepth 100000
set_option maxHeartbeats 4000000
namespace Lw
open PySem Dt
/-- texts that a repr may show -/
def ShortS (rs : List (List Nat)) : Prop := rs.length ≤ 100 ∧ ∀ r ∈ rs, r.length ≤ 20 ∧ ∀ c ∈ r, c < 1000
theorem repr_facts : ∀ {rs : List (List Nat)}, (∀ r ∈ rs, r.length ≤ 20 ∧ ∀ c ∈ r, c < 1000) → PyData.showableAll (rs.map fun s => .str (mkS s)) = true ∧ PyData.hasDictAll (rs.map fun s => .str (mkS s)) = false ∧ PyData.leavesShortAll 8 (rs.map fun s => .str (mkS s)) = true ∧ PyData.weightAll (rs.map fun s => .str (mkS s)) ≤ 21 * rs.length ∧ PyData.depthAll (rs.map fun s => .str (mkS s)) = 0
  | [], _ => by simp [PyData.showableAll, PyData.hasDictAll, PyData.leavesShortAll, PyData.weightAll, PyData.depthAll]
  | r :: rs, h => by
    obtain ⟨h1, h2, h3, h4, h5⟩ := repr_facts fun r hr => h r (List.mem_cons_of_mem _ hr)
    obtain ⟨i1, i2⟩ := h r (List.mem_cons_self ..)
    simp only [List.map_cons, PyData.showableAll, PyData.showable, PyData.hasDictAll, PyData.hasDict, PyData.leavesShortAll, PyData.leavesShort, PyData.weightAll, PyData.weight, PyData.depthAll, PyData.depth, h1, h2, h3, h5, Bool.true_and, Bool.false_or, Bool.and_true, List.length_cons, mkS_cps]
    refine ⟨trivial, trivial, List.all_eq_true.mpr fun c hc => decide_eq_true (by have := i2 c hc; omega), ?_, by simp⟩
    have : (mkS r).cps.size = r.length := by simp [mkS]
    omega
theorem repr_ex {rs : List (List Nat)} (h : ShortS rs) : ∃ t, reprD [.lst (strL rs)] = some (.v (.str t)) := by
  obtain ⟨h1, h2⟩ := h
  obtain ⟨i1, i2, i3, i4, i5⟩ := repr_facts h2
  have h3 := PyData.shown_le 8 (by omega) (.list (rs.map fun s => .str (mkS s))) (by simpa [PyData.leavesShort] using i3)
  have e : (PyData.list (rs.map fun s => PyData.str (mkS s))).weight = PyData.weightAll (rs.map fun s => PyData.str (mkS s)) := by simp [PyData.weight]
  rw [e] at h3
  refine ⟨shownS (.list (rs.map fun s => .str (mkS s))), ?_⟩
  simp only [reprD, toPL_strs, Option.bind]
  rw [if_pos ⟨by simpa [PyData.showable] using i1, by simpa [PyData.hasDict] using i2, by unfold big; omega, by simp [PyData.depth, i5]⟩]
theorem repr_bools : ∀ b : Bool, ∃ t, reprD [.lst [.bl b, .bl b, .bl (!b)]] = some (.v (.str t))
  | true => ⟨shownS (.list [.bool true, .bool true, .bool false]), by
    simp only [reprD, toPL, toP, Option.bind, Option.map, Bool.not_true]
    rw [if_pos (by decide +kernel)]⟩
  | false => ⟨shownS (.list [.bool false, .bool false, .bool true]), by
    simp only [reprD, toPL, toP, Option.bind, Option.map, Bool.not_false]
    rw [if_pos (by decide +kernel)]⟩
theorem is_equal_ok {xs : List D} {t : List Nat} (h : reprD [.lst xs] = some (.v (.str t))) (s1 s2 : Dt.Slot) (h1 : s1 = .val (.lst xs) ∨ s1 = .own (.lst xs)) (h2 : s2 = .val (.lst xs) ∨ s2 = .own (.lst xs)) : sem__law_is_equal [s1, s2] = some (.ok (.v (.bl true)) [s1, s2]) := by
  rcases h1 with rfl | rfl <;> rcases h2 with rfl | rfl <;> simp [↓funD, ↓funV, ↓callM, ↓argsOf, ↓argOf, ↓argS, ↓back, ↓put1, ↓isOwn, ↓sidx, ↓eCall, ↓sSeq, ↓sIf, ↓sE, ↓toB, ↓M.bind, ↓eOp, ↓opM, ↓toA, ↓oName, ↓eName, ↓eC, ↓M.ret, ↓M.stuck, ↓lift, ↓deref, ↓rdS, ↓frz, ↓frzC, ↓eB, ↓bM, ↓asCons, ↓asNil, ↓derefs, ↓vals, ↓eTup, ↓eLst, ↓sRet, ↓sRetV, ↓sSet, ↓slotOf, ↓sExpr, ↓sNil, ↓sBreak, ↓sCont, ↓sRetN, ↓orD, ↓orB, ↓opI2, ↓yes2, ↓okMul, ↓okDiv, ↓okMod, ↓okPow, ↓ltI, ↓leI, ↓gtI, ↓geI, ↓addI, ↓addS, ↓addL, ↓addT, ↓subD, ↓mulI, ↓mulD, ↓mulS, ↓mulL, ↓mulT, ↓divD, ↓modD, ↓powD, ↓ltD, ↓ltS, ↓addD, ↓vB, ↓vI, ↓sSetL, ↓sSetD, ↓atV, ↓grd, ↓setLM, ↓setDM, ↓ixD, ↓seqD, ↓lenD, ↓sPar, ↓eAnd, ↓eOr, ↓eNot, ↓eIf, ↓bAnd, ↓bOr, ↓bNot, ↓eNeg, ↓negD, ↓eChain, ↓eqD, ↓eqS, ↓neD, ↓neS, ↓scalD, ↓scEq, ↓isD, ↓isB, ↓isNon, ↓inD, ↓ninD, ↓inC, ↓inL, ↓flatD, ↓flEq, ↓eBM, ↓tyM, ↓isStrD, ↓isLstD, ↓mutM, ↓ownLst, ↓opAppend, ↓opExtend, ↓opPop, ↓eSlice, ↓pNo, ↓pYes, ↓sliceD, ↓eIsi, ↓eIsi.objIs, ↓isiB, ↓kindN, ↓isInt, ↓isBool, ↓isStr, ↓isTup, ↓isLst, ↓isDic, ↓objOf, ↓objS, ↓listD, ↓tupD, ↓maxI, ↓minI, ↓absD, ↓intD, ↓allD, ↓anyD, ↓sumD, ↓iOf, ↓iRange1, ↓iRange2, ↓itemsOf, ↓gN, ↓sFor, ↓sTry, ↓sRaise, ↓eFld, ↓sSetF, ↓setFM, ↓one, ↓eMakeS, ↓eMakeSL, ↓starD, ↓makeM, ↓eMake, ↓eCMeth, ↓eProp, ↓eMeth, ↓eOpM, ↓inO, ↓spO, ↓spO1, ↓rg1, ↓rg2, ↓lenSetD, ↓splitD, ↓joinD, ↓countD, ↓sortD, ↓sortItems, ↓dictD, ↓eDict0, ↓disp1, ↓keyD, ↓FL, ↓sAsg, ↓gT, ↓gsCons, ↓gsNil, ↓sPar3, ↓st3, ↓valsOf, ↓lt, ↓eComp, ↓wipeE, sem__law_is_equal,  bd__law_is_equal,  h]
theorem is_integer_int (i : Int) : sem_is_integer [.val (.int i)] = some (.ok (.v (.bl true)) [.val (.int i)]) := by
  simp [↓funD, ↓funV, ↓callM, ↓argsOf, ↓argOf, ↓argS, ↓back, ↓put1, ↓isOwn, ↓sidx, ↓eCall, ↓sSeq, ↓sIf, ↓sE, ↓toB, ↓M.bind, ↓eOp, ↓opM, ↓toA, ↓oName, ↓eName, ↓eC, ↓M.ret, ↓M.stuck, ↓lift, ↓deref, ↓rdS, ↓frz, ↓frzC, ↓eB, ↓bM, ↓asCons, ↓asNil, ↓derefs, ↓vals, ↓eTup, ↓eLst, ↓sRet, ↓sRetV, ↓sSet, ↓slotOf, ↓sExpr, ↓sNil, ↓sBreak, ↓sCont, ↓sRetN, ↓orD, ↓orB, ↓opI2, ↓yes2, ↓okMul, ↓okDiv, ↓okMod, ↓okPow, ↓ltI, ↓leI, ↓gtI, ↓geI, ↓addI, ↓addS, ↓addL, ↓addT, ↓subD, ↓mulI, ↓mulD, ↓mulS, ↓mulL, ↓mulT, ↓divD, ↓modD, ↓powD, ↓ltD, ↓ltS, ↓addD, ↓vB, ↓vI, ↓sSetL, ↓sSetD, ↓atV, ↓grd, ↓setLM, ↓setDM, ↓ixD, ↓seqD, ↓lenD, ↓sPar, ↓eAnd, ↓eOr, ↓eNot, ↓eIf, ↓bAnd, ↓bOr, ↓bNot, ↓eNeg, ↓negD, ↓eChain, ↓eqD, ↓eqS, ↓neD, ↓neS, ↓scalD, ↓scEq, ↓isD, ↓isB, ↓isNon, ↓inD, ↓ninD, ↓inC, ↓inL, ↓flatD, ↓flEq, ↓eBM, ↓tyM, ↓isStrD, ↓isLstD, ↓mutM, ↓ownLst, ↓opAppend, ↓opExtend, ↓opPop, ↓eSlice, ↓pNo, ↓pYes, ↓sliceD, ↓eIsi, ↓eIsi.objIs, ↓isiB, ↓kindN, ↓isInt, ↓isBool, ↓isStr, ↓isTup, ↓isLst, ↓isDic, ↓objOf, ↓objS, ↓listD, ↓tupD, ↓maxI, ↓minI, ↓absD, ↓intD, ↓allD, ↓anyD, ↓sumD, ↓iOf, ↓iRange1, ↓iRange2, ↓itemsOf, ↓gN, ↓sFor, ↓sTry, ↓sRaise, ↓eFld, ↓sSetF, ↓setFM, ↓one, ↓eMakeS, ↓eMakeSL, ↓starD, ↓makeM, ↓eMake, ↓eCMeth, ↓eProp, ↓eMeth, ↓eOpM, ↓inO, ↓spO, ↓spO1, ↓rg1, ↓rg2, ↓lenSetD, ↓splitD, ↓joinD, ↓countD, ↓sortD, ↓sortItems, ↓dictD, ↓reprD, ↓eDict0, ↓disp1, ↓keyD, ↓FL, ↓sAsg, ↓gT, ↓gsCons, ↓gsNil, ↓sPar3, ↓st3, ↓valsOf, ↓lt, ↓eComp, ↓wipeE, sem_is_integer,  bd_is_integer]
theorem is_integer_no {d : D} (h : (isiB isInt d).map (fun b => b) = some false) (h2 : ∀ t ds, d ≠ .obj t ds) (h3 : ∀ ns, d ≠ .scr ns) : sem_is_integer [.val d] = some (.ok (.v (.bl false)) [.val d]) := by
  cases d <;> first | (simp [isiB, kindN, isInt] at h; done) | (simp [↓funD, ↓funV, ↓callM, ↓argsOf, ↓argOf, ↓argS, ↓back, ↓put1, ↓isOwn, ↓sidx, ↓eCall, ↓sSeq, ↓sIf, ↓sE, ↓toB, ↓M.bind, ↓eOp, ↓opM, ↓toA, ↓oName, ↓eName, ↓eC, ↓M.ret, ↓M.stuck, ↓lift, ↓deref, ↓rdS, ↓frz, ↓frzC, ↓eB, ↓bM, ↓asCons, ↓asNil, ↓derefs, ↓vals, ↓eTup, ↓eLst, ↓sRet, ↓sRetV, ↓sSet, ↓slotOf, ↓sExpr, ↓sNil, ↓sBreak, ↓sCont, ↓sRetN, ↓orD, ↓orB, ↓opI2, ↓yes2, ↓okMul, ↓okDiv, ↓okMod, ↓okPow, ↓ltI, ↓leI, ↓gtI, ↓geI, ↓addI, ↓addS, ↓addL, ↓addT, ↓subD, ↓mulI, ↓mulD, ↓mulS, ↓mulL, ↓mulT, ↓divD, ↓modD, ↓powD, ↓ltD, ↓ltS, ↓addD, ↓vB, ↓vI, ↓sSetL, ↓sSetD, ↓atV, ↓grd, ↓setLM, ↓setDM, ↓ixD, ↓seqD, ↓lenD, ↓sPar, ↓eAnd, ↓eOr, ↓eNot, ↓eIf, ↓bAnd, ↓bOr, ↓bNot, ↓eNeg, ↓negD, ↓eChain, ↓eqD, ↓eqS, ↓neD, ↓neS, ↓scalD, ↓scEq, ↓isD, ↓isB, ↓isNon, ↓inD, ↓ninD, ↓inC, ↓inL, ↓flatD, ↓flEq, ↓eBM, ↓tyM, ↓isStrD, ↓isLstD, ↓mutM, ↓ownLst, ↓opAppend, ↓opExtend, ↓opPop, ↓eSlice, ↓pNo, ↓pYes, ↓sliceD, ↓eIsi, ↓eIsi.objIs, ↓isiB, ↓kindN, ↓isInt, ↓isBool, ↓isStr, ↓isTup, ↓isLst, ↓isDic, ↓objOf, ↓objS, ↓listD, ↓tupD, ↓maxI, ↓minI, ↓absD, ↓intD, ↓allD, ↓anyD, ↓sumD, ↓iOf, ↓iRange1, ↓iRange2, ↓itemsOf, ↓gN, ↓sFor, ↓sTry, ↓sRaise, ↓eFld, ↓sSetF, ↓setFM, ↓one, ↓eMakeS, ↓eMakeSL, ↓starD, ↓makeM, ↓eMake, ↓eCMeth, ↓eProp, ↓eMeth, ↓eOpM, ↓inO, ↓spO, ↓spO1, ↓rg1, ↓rg2, ↓lenSetD, ↓splitD, ↓joinD, ↓countD, ↓sortD, ↓sortItems, ↓dictD, ↓reprD, ↓eDict0, ↓disp1, ↓keyD, ↓FL, ↓sAsg, ↓gT, ↓gsCons, ↓gsNil, ↓sPar3, ↓st3, ↓valsOf, ↓lt, ↓eComp, ↓wipeE, sem_is_integer,  bd_is_integer]; done) | skip
end Lw
end
section
set_option maxRecDepth 100000
set_option maxHeartbeats 4000000
namespace Lw
open PySem Dt
abbrev Bd (ds : List (List Nat)) : D := .obj 0 [.tup (strL ds)]
abbrev numberS : D := .str [110, 117, 109, 98, 101, 114]
theorem law_at_at {ds : List (List Nat)} {k : Nat} (hk : k < ds.length) : sem__law_at [.val (Bd ds), .val (.int k)] = some (.ok (.v (.str ds[k])) [.val (Bd ds), .val (.int k)]) := by
  have hi := is_integer_int (k : Int)
  have hat : L2.atI (strL ds) k = some (.str ds[k]) := by simp [L2.atI, L2.ixN, strL, hk]
  have hl : (strL ds).length = ds.length := by simp [strL]
  have h1 : (k : Int) < (ds.length : Int) := by omega
  have h0 : (0 : Int) ≤ (k : Int) := by omega
  simp [↓funD, ↓funV, ↓callM, ↓argsOf, ↓argOf, ↓argS, ↓back, ↓put1, ↓isOwn, ↓sidx, ↓eCall, ↓sSeq, ↓sIf, ↓sE, ↓toB, ↓M.bind, ↓eOp, ↓opM, ↓toA, ↓oName, ↓eName, ↓eC, ↓M.ret, ↓M.stuck, ↓lift, ↓deref, ↓rdS, ↓frz, ↓frzC, ↓eB, ↓bM, ↓asCons, ↓asNil, ↓derefs, ↓vals, ↓eTup, ↓eLst, ↓sRet, ↓sRetV, ↓sSet, ↓slotOf, ↓sExpr, ↓sNil, ↓sBreak, ↓sCont, ↓sRetN, ↓orD, ↓orB, ↓opI2, ↓yes2, ↓okMul, ↓okDiv, ↓okMod, ↓okPow, ↓ltI, ↓leI, ↓gtI, ↓geI, ↓addI, ↓addS, ↓addL, ↓addT, ↓subD, ↓mulI, ↓mulD, ↓mulS, ↓mulL, ↓mulT, ↓divD, ↓modD, ↓powD, ↓ltD, ↓ltS, ↓addD, ↓vB, ↓vI, ↓sSetL, ↓sSetD, ↓atV, ↓grd, ↓setLM, ↓setDM, ↓ixD, ↓seqD, ↓lenD, ↓sPar, ↓eAnd, ↓eOr, ↓eNot, ↓eIf, ↓bAnd, ↓bOr, ↓bNot, ↓eNeg, ↓negD, ↓eChain, ↓eqD, ↓eqS, ↓neD, ↓neS, ↓scalD, ↓scEq, ↓isD, ↓isB, ↓isNon, ↓inD, ↓ninD, ↓inC, ↓inL, ↓flatD, ↓flEq, ↓eBM, ↓tyM, ↓isStrD, ↓isLstD, ↓mutM, ↓ownLst, ↓opAppend, ↓opExtend, ↓opPop, ↓eSlice, ↓pNo, ↓pYes, ↓sliceD, ↓eIsi, ↓eIsi.objIs, ↓isiB, ↓kindN, ↓isInt, ↓isBool, ↓isStr, ↓isTup, ↓isLst, ↓isDic, ↓objOf, ↓objS, ↓listD, ↓tupD, ↓maxI, ↓minI, ↓absD, ↓intD, ↓allD, ↓anyD, ↓sumD, ↓iOf, ↓iRange1, ↓iRange2, ↓itemsOf, ↓gN, ↓sFor, ↓sTry, ↓sRaise, ↓eFld, ↓sSetF, ↓setFM, ↓one, ↓eMakeS, ↓eMakeSL, ↓starD, ↓makeM, ↓eMake, ↓eCMeth, ↓eProp, ↓eMeth, ↓eOpM, ↓inO, ↓spO, ↓spO1, ↓rg1, ↓rg2, ↓lenSetD, ↓splitD, ↓joinD, ↓countD, ↓sortD, ↓sortItems, ↓dictD, ↓reprD, ↓eDict0, ↓disp1, ↓keyD, ↓FL, ↓sAsg, ↓gT, ↓gsCons, ↓gsNil, ↓sPar3, ↓st3, ↓valsOf, ↓lt, ↓eComp, ↓wipeE, sem__law_at,  bd__law_at,  sem_Board___getitem__,  bd_Board___getitem__,  hi,  hat,  hl,  h1,  h0]
theorem law_at_out {ds : List (List Nat)} {k : Int} (hk : ¬ (0 ≤ k ∧ k < ds.length)) : sem__law_at [.val (Bd ds), .val (.int k)] = some (.ok (.v numberS) [.val (Bd ds), .val (.int k)]) := by
  have hi := is_integer_int k
  have hl : (strL ds).length = ds.length := by simp [strL]
  by_cases h0 : 0 ≤ k
  · have h1 : ¬ k < (ds.length : Int) := fun h => hk ⟨h0, h⟩
    simp [↓funD, ↓funV, ↓callM, ↓argsOf, ↓argOf, ↓argS, ↓back, ↓put1, ↓isOwn, ↓sidx, ↓eCall, ↓sSeq, ↓sIf, ↓sE, ↓toB, ↓M.bind, ↓eOp, ↓opM, ↓toA, ↓oName, ↓eName, ↓eC, ↓M.ret, ↓M.stuck, ↓lift, ↓deref, ↓rdS, ↓frz, ↓frzC, ↓eB, ↓bM, ↓asCons, ↓asNil, ↓derefs, ↓vals, ↓eTup, ↓eLst, ↓sRet, ↓sRetV, ↓sSet, ↓slotOf, ↓sExpr, ↓sNil, ↓sBreak, ↓sCont, ↓sRetN, ↓orD, ↓orB, ↓opI2, ↓yes2, ↓okMul, ↓okDiv, ↓okMod, ↓okPow, ↓ltI, ↓leI, ↓gtI, ↓geI, ↓addI, ↓addS, ↓addL, ↓addT, ↓subD, ↓mulI, ↓mulD, ↓mulS, ↓mulL, ↓mulT, ↓divD, ↓modD, ↓powD, ↓ltD, ↓ltS, ↓addD, ↓vB, ↓vI, ↓sSetL, ↓sSetD, ↓atV, ↓grd, ↓setLM, ↓setDM, ↓ixD, ↓seqD, ↓lenD, ↓sPar, ↓eAnd, ↓eOr, ↓eNot, ↓eIf, ↓bAnd, ↓bOr, ↓bNot, ↓eNeg, ↓negD, ↓eChain, ↓eqD, ↓eqS, ↓neD, ↓neS, ↓scalD, ↓scEq, ↓isD, ↓isB, ↓isNon, ↓inD, ↓ninD, ↓inC, ↓inL, ↓flatD, ↓flEq, ↓eBM, ↓tyM, ↓isStrD, ↓isLstD, ↓mutM, ↓ownLst, ↓opAppend, ↓opExtend, ↓opPop, ↓eSlice, ↓pNo, ↓pYes, ↓sliceD, ↓eIsi, ↓eIsi.objIs, ↓isiB, ↓kindN, ↓isInt, ↓isBool, ↓isStr, ↓isTup, ↓isLst, ↓isDic, ↓objOf, ↓objS, ↓listD, ↓tupD, ↓maxI, ↓minI, ↓absD, ↓intD, ↓allD, ↓anyD, ↓sumD, ↓iOf, ↓iRange1, ↓iRange2, ↓itemsOf, ↓gN, ↓sFor, ↓sTry, ↓sRaise, ↓eFld, ↓sSetF, ↓setFM, ↓one, ↓eMakeS, ↓eMakeSL, ↓starD, ↓makeM, ↓eMake, ↓eCMeth, ↓eProp, ↓eMeth, ↓eOpM, ↓inO, ↓spO, ↓spO1, ↓rg1, ↓rg2, ↓lenSetD, ↓splitD, ↓joinD, ↓countD, ↓sortD, ↓sortItems, ↓dictD, ↓reprD, ↓eDict0, ↓disp1, ↓keyD, ↓FL, ↓sAsg, ↓gT, ↓gsCons, ↓gsNil, ↓sPar3, ↓st3, ↓valsOf, ↓lt, ↓eComp, ↓wipeE, sem__law_at,  bd__law_at,  sem_Board___getitem__,  bd_Board___getitem__,  hi,  hl,  h1,  h0]
  · simp [↓funD, ↓funV, ↓callM, ↓argsOf, ↓argOf, ↓argS, ↓back, ↓put1, ↓isOwn, ↓sidx, ↓eCall, ↓sSeq, ↓sIf, ↓sE, ↓toB, ↓M.bind, ↓eOp, ↓opM, ↓toA, ↓oName, ↓eName, ↓eC, ↓M.ret, ↓M.stuck, ↓lift, ↓deref, ↓rdS, ↓frz, ↓frzC, ↓eB, ↓bM, ↓asCons, ↓asNil, ↓derefs, ↓vals, ↓eTup, ↓eLst, ↓sRet, ↓sRetV, ↓sSet, ↓slotOf, ↓sExpr, ↓sNil, ↓sBreak, ↓sCont, ↓sRetN, ↓orD, ↓orB, ↓opI2, ↓yes2, ↓okMul, ↓okDiv, ↓okMod, ↓okPow, ↓ltI, ↓leI, ↓gtI, ↓geI, ↓addI, ↓addS, ↓addL, ↓addT, ↓subD, ↓mulI, ↓mulD, ↓mulS, ↓mulL, ↓mulT, ↓divD, ↓modD, ↓powD, ↓ltD, ↓ltS, ↓addD, ↓vB, ↓vI, ↓sSetL, ↓sSetD, ↓atV, ↓grd, ↓setLM, ↓setDM, ↓ixD, ↓seqD, ↓lenD, ↓sPar, ↓eAnd, ↓eOr, ↓eNot, ↓eIf, ↓bAnd, ↓bOr, ↓bNot, ↓eNeg, ↓negD, ↓eChain, ↓eqD, ↓eqS, ↓neD, ↓neS, ↓scalD, ↓scEq, ↓isD, ↓isB, ↓isNon, ↓inD, ↓ninD, ↓inC, ↓inL, ↓flatD, ↓flEq, ↓eBM, ↓tyM, ↓isStrD, ↓isLstD, ↓mutM, ↓ownLst, ↓opAppend, ↓opExtend, ↓opPop, ↓eSlice, ↓pNo, ↓pYes, ↓sliceD, ↓eIsi, ↓eIsi.objIs, ↓isiB, ↓kindN, ↓isInt, ↓isBool, ↓isStr, ↓isTup, ↓isLst, ↓isDic, ↓objOf, ↓objS, ↓listD, ↓tupD, ↓maxI, ↓minI, ↓absD, ↓intD, ↓allD, ↓anyD, ↓sumD, ↓iOf, ↓iRange1, ↓iRange2, ↓itemsOf, ↓gN, ↓sFor, ↓sTry, ↓sRaise, ↓eFld, ↓sSetF, ↓setFM, ↓one, ↓eMakeS, ↓eMakeSL, ↓starD, ↓makeM, ↓eMake, ↓eCMeth, ↓eProp, ↓eMeth, ↓eOpM, ↓inO, ↓spO, ↓spO1, ↓rg1, ↓rg2, ↓lenSetD, ↓splitD, ↓joinD, ↓countD, ↓sortD, ↓sortItems, ↓dictD, ↓reprD, ↓eDict0, ↓disp1, ↓keyD, ↓FL, ↓sAsg, ↓gT, ↓gsCons, ↓gsNil, ↓sPar3, ↓st3, ↓valsOf, ↓lt, ↓eComp, ↓wipeE, sem__law_at,  bd__law_at,  sem_Board___getitem__,  bd_Board___getitem__,  hi,  hl,  h0]
theorem law_at_no {ds : List (List Nat)} {d : D} (hi : sem_is_integer [.val d] = some (.ok (.v (.bl false)) [.val d])) : sem__law_at [.val (Bd ds), .val d] = some (.ok (.v numberS) [.val (Bd ds), .val d]) := by
  simp [↓funD, ↓funV, ↓callM, ↓argsOf, ↓argOf, ↓argS, ↓back, ↓put1, ↓isOwn, ↓sidx, ↓eCall, ↓sSeq, ↓sIf, ↓sE, ↓toB, ↓M.bind, ↓eOp, ↓opM, ↓toA, ↓oName, ↓eName, ↓eC, ↓M.ret, ↓M.stuck, ↓lift, ↓deref, ↓rdS, ↓frz, ↓frzC, ↓eB, ↓bM, ↓asCons, ↓asNil, ↓derefs, ↓vals, ↓eTup, ↓eLst, ↓sRet, ↓sRetV, ↓sSet, ↓slotOf, ↓sExpr, ↓sNil, ↓sBreak, ↓sCont, ↓sRetN, ↓orD, ↓orB, ↓opI2, ↓yes2, ↓okMul, ↓okDiv, ↓okMod, ↓okPow, ↓ltI, ↓leI, ↓gtI, ↓geI, ↓addI, ↓addS, ↓addL, ↓addT, ↓subD, ↓mulI, ↓mulD, ↓mulS, ↓mulL, ↓mulT, ↓divD, ↓modD, ↓powD, ↓ltD, ↓ltS, ↓addD, ↓vB, ↓vI, ↓sSetL, ↓sSetD, ↓atV, ↓grd, ↓setLM, ↓setDM, ↓ixD, ↓seqD, ↓lenD, ↓sPar, ↓eAnd, ↓eOr, ↓eNot, ↓eIf, ↓bAnd, ↓bOr, ↓bNot, ↓eNeg, ↓negD, ↓eChain, ↓eqD, ↓eqS, ↓neD, ↓neS, ↓scalD, ↓scEq, ↓isD, ↓isB, ↓isNon, ↓inD, ↓ninD, ↓inC, ↓inL, ↓flatD, ↓flEq, ↓eBM, ↓tyM, ↓isStrD, ↓isLstD, ↓mutM, ↓ownLst, ↓opAppend, ↓opExtend, ↓opPop, ↓eSlice, ↓pNo, ↓pYes, ↓sliceD, ↓eIsi, ↓eIsi.objIs, ↓isiB, ↓kindN, ↓isInt, ↓isBool, ↓isStr, ↓isTup, ↓isLst, ↓isDic, ↓objOf, ↓objS, ↓listD, ↓tupD, ↓maxI, ↓minI, ↓absD, ↓intD, ↓allD, ↓anyD, ↓sumD, ↓iOf, ↓iRange1, ↓iRange2, ↓itemsOf, ↓gN, ↓sFor, ↓sTry, ↓sRaise, ↓eFld, ↓sSetF, ↓setFM, ↓one, ↓eMakeS, ↓eMakeSL, ↓starD, ↓makeM, ↓eMake, ↓eCMeth, ↓eProp, ↓eMeth, ↓eOpM, ↓inO, ↓spO, ↓spO1, ↓rg1, ↓rg2, ↓lenSetD, ↓splitD, ↓joinD, ↓countD, ↓sortD, ↓sortItems, ↓dictD, ↓reprD, ↓eDict0, ↓disp1, ↓keyD, ↓FL, ↓sAsg, ↓gT, ↓gsCons, ↓gsNil, ↓sPar3, ↓st3, ↓valsOf, ↓lt, ↓eComp, ↓wipeE, sem__law_at,  bd__law_at,  sem_Board___getitem__,  bd_Board___getitem__,  hi]
theorem contains_str {ds : List (List Nat)} (r : List Nat) : sem_Board___contains__ [.val (Bd ds), .val (.str r)] = some (.ok (.v (.bl (decide (r ∈ ds)))) [.val (Bd ds), .val (.str r)]) := by
  have hf : (strL ds).all flatD = true := by simp [strL, flatD]
  have ha : (strL ds).any (fun y => flEq y (.str r)) = decide (r ∈ ds) := by
    rw [Bool.eq_iff_iff, List.any_eq_true, decide_eq_true_iff]
    constructor
    · rintro ⟨x, hx, e⟩
      obtain ⟨q, hq, rfl⟩ := mem_strL hx
      have : q = r := by simpa [flEq] using e
      exact this ▸ hq
    · exact fun h => ⟨.str r, List.mem_map.mpr ⟨r, h, rfl⟩, by simp [flEq]⟩
  have hin : inD (.str r) (.tup (strL ds)) = some (.v (.bl (decide (r ∈ ds)))) := by
    have e1 : inC false (.str r) (.tup (strL ds)) = none := by simp [inC]
    have e2 : inL false (.str r) (.tup (strL ds)) = some (.v (.bl (decide (r ∈ ds)))) := by
      simp only [inL, seqD, Option.bind]
      rw [if_pos ⟨rfl, hf⟩, ha]
      simp [vB]
    simp [inD, orD, e1, e2]
  simp [↓funD, ↓funV, ↓callM, ↓argsOf, ↓argOf, ↓argS, ↓back, ↓put1, ↓isOwn, ↓sidx, ↓eCall, ↓sSeq, ↓sIf, ↓sE, ↓toB, ↓M.bind, ↓eOp, ↓opM, ↓toA, ↓oName, ↓eName, ↓eC, ↓M.ret, ↓M.stuck, ↓lift, ↓deref, ↓rdS, ↓frz, ↓frzC, ↓eB, ↓bM, ↓asCons, ↓asNil, ↓derefs, ↓vals, ↓eTup, ↓eLst, ↓sRet, ↓sRetV, ↓sSet, ↓slotOf, ↓sExpr, ↓sNil, ↓sBreak, ↓sCont, ↓sRetN, ↓orD, ↓orB, ↓opI2, ↓yes2, ↓okMul, ↓okDiv, ↓okMod, ↓okPow, ↓ltI, ↓leI, ↓gtI, ↓geI, ↓addI, ↓addS, ↓addL, ↓addT, ↓subD, ↓mulI, ↓mulD, ↓mulS, ↓mulL, ↓mulT, ↓divD, ↓modD, ↓powD, ↓ltD, ↓ltS, ↓addD, ↓vB, ↓vI, ↓sSetL, ↓sSetD, ↓atV, ↓grd, ↓setLM, ↓setDM, ↓ixD, ↓seqD, ↓lenD, ↓sPar, ↓eAnd, ↓eOr, ↓eNot, ↓eIf, ↓bAnd, ↓bOr, ↓bNot, ↓eNeg, ↓negD, ↓eChain, ↓eqD, ↓eqS, ↓neD, ↓neS, ↓scalD, ↓scEq, ↓isD, ↓isB, ↓isNon, ↓ninD, ↓inC, ↓inL, ↓flatD, ↓flEq, ↓eBM, ↓tyM, ↓isStrD, ↓isLstD, ↓mutM, ↓ownLst, ↓opAppend, ↓opExtend, ↓opPop, ↓eSlice, ↓pNo, ↓pYes, ↓sliceD, ↓eIsi, ↓eIsi.objIs, ↓isiB, ↓kindN, ↓isInt, ↓isBool, ↓isStr, ↓isTup, ↓isLst, ↓isDic, ↓objOf, ↓objS, ↓listD, ↓tupD, ↓maxI, ↓minI, ↓absD, ↓intD, ↓allD, ↓anyD, ↓sumD, ↓iOf, ↓iRange1, ↓iRange2, ↓itemsOf, ↓gN, ↓sFor, ↓sTry, ↓sRaise, ↓eFld, ↓sSetF, ↓setFM, ↓one, ↓eMakeS, ↓eMakeSL, ↓starD, ↓makeM, ↓eMake, ↓eCMeth, ↓eProp, ↓eMeth, ↓eOpM, ↓inO, ↓spO, ↓spO1, ↓rg1, ↓rg2, ↓lenSetD, ↓splitD, ↓joinD, ↓countD, ↓sortD, ↓sortItems, ↓dictD, ↓reprD, ↓eDict0, ↓disp1, ↓keyD, ↓FL, ↓sAsg, ↓gT, ↓gsCons, ↓gsNil, ↓sPar3, ↓st3, ↓valsOf, ↓lt, ↓eComp, ↓wipeE, sem_Board___contains__,  bd_Board___contains__,  hin]
theorem contains_no {ds : List (List Nat)} {d : D} (h : isiB isStr d = some false) (h2 : ∀ t ds, d ≠ .obj t ds) : sem_Board___contains__ [.val (Bd ds), .val d] = some (.ok (.v (.bl false)) [.val (Bd ds), .val d]) := by
  cases d <;> first | (simp [isiB, kindN, isStr] at h; done) | (simp [↓funD, ↓funV, ↓callM, ↓argsOf, ↓argOf, ↓argS, ↓back, ↓put1, ↓isOwn, ↓sidx, ↓eCall, ↓sSeq, ↓sIf, ↓sE, ↓toB, ↓M.bind, ↓eOp, ↓opM, ↓toA, ↓oName, ↓eName, ↓eC, ↓M.ret, ↓M.stuck, ↓lift, ↓deref, ↓rdS, ↓frz, ↓frzC, ↓eB, ↓bM, ↓asCons, ↓asNil, ↓derefs, ↓vals, ↓eTup, ↓eLst, ↓sRet, ↓sRetV, ↓sSet, ↓slotOf, ↓sExpr, ↓sNil, ↓sBreak, ↓sCont, ↓sRetN, ↓orD, ↓orB, ↓opI2, ↓yes2, ↓okMul, ↓okDiv, ↓okMod, ↓okPow, ↓ltI, ↓leI, ↓gtI, ↓geI, ↓addI, ↓addS, ↓addL, ↓addT, ↓subD, ↓mulI, ↓mulD, ↓mulS, ↓mulL, ↓mulT, ↓divD, ↓modD, ↓powD, ↓ltD, ↓ltS, ↓addD, ↓vB, ↓vI, ↓sSetL, ↓sSetD, ↓atV, ↓grd, ↓setLM, ↓setDM, ↓ixD, ↓seqD, ↓lenD, ↓sPar, ↓eAnd, ↓eOr, ↓eNot, ↓eIf, ↓bAnd, ↓bOr, ↓bNot, ↓eNeg, ↓negD, ↓eChain, ↓eqD, ↓eqS, ↓neD, ↓neS, ↓scalD, ↓scEq, ↓isD, ↓isB, ↓isNon, ↓inD, ↓ninD, ↓inC, ↓inL, ↓flatD, ↓flEq, ↓eBM, ↓tyM, ↓isStrD, ↓isLstD, ↓mutM, ↓ownLst, ↓opAppend, ↓opExtend, ↓opPop, ↓eSlice, ↓pNo, ↓pYes, ↓sliceD, ↓eIsi, ↓eIsi.objIs, ↓isiB, ↓kindN, ↓isInt, ↓isBool, ↓isStr, ↓isTup, ↓isLst, ↓isDic, ↓objOf, ↓objS, ↓listD, ↓tupD, ↓maxI, ↓minI, ↓absD, ↓intD, ↓allD, ↓anyD, ↓sumD, ↓iOf, ↓iRange1, ↓iRange2, ↓itemsOf, ↓gN, ↓sFor, ↓sTry, ↓sRaise, ↓eFld, ↓sSetF, ↓setFM, ↓one, ↓eMakeS, ↓eMakeSL, ↓starD, ↓makeM, ↓eMake, ↓eCMeth, ↓eProp, ↓eMeth, ↓eOpM, ↓inO, ↓spO, ↓spO1, ↓rg1, ↓rg2, ↓lenSetD, ↓splitD, ↓joinD, ↓countD, ↓sortD, ↓sortItems, ↓dictD, ↓reprD, ↓eDict0, ↓disp1, ↓keyD, ↓FL, ↓sAsg, ↓gT, ↓gsCons, ↓gsNil, ↓sPar3, ↓st3, ↓valsOf, ↓lt, ↓eComp, ↓wipeE, sem_Board___contains__,  bd_Board___contains__]; done) | exact absurd rfl (h2 _ _)
end Lw
end
section
set_option maxRecDepth 100000
set_option maxHeartbeats 4000000
namespace Lw
open PySem Dt
abbrev E11 (s : List D) (b c d e f g h i : Dt.Slot) : Sl := [.own (.lst s), b, c, d, e, f, g, h, i, .emp, .emp]
variable {s : List D} {b c d e f g h i : Dt.Slot} {C0 : Addr} {m : Nat} {rs ds : List (List Nat)}
theorem q2 (h1 : 1 ≤ m) (hm : m ≤ 6) (hf : Fit m rs) (hn : rs.Nodup) (hs : sortD [.lst (strL rs)] = some (.o (.lst (strL ds)))) (hs2 : sortD [.tup (strL rs)] = some (.o (.lst (strL ds)))) : (sAsg (eTup (asCons (toA (eCMeth C0 (sem_Board_read C0) (asCons (toA (eBM isStrD joinD (toA (eC (.str [32]))) (asCons (oName 1) asNil))) asNil))) (asCons (toA (eB sortD (asCons (oName 1) asNil))) asNil))) (gT (gsCons (gN 2) (gsCons (gN 3) gsNil)))) (E11 s (.own (.lst (strL rs))) c d e f g h i) = some (.nx (E11 s (.own (.lst (strL rs))) (.val (Bd ds)) (.val (dL ds)) e f g h i)) := by
  obtain ⟨t, ht1, ht2⟩ := read_back hm hf
  have hr := read_ok C0 h1 hm hf hn hs2 ht2
  simp [↓funD, ↓funV, ↓callM, ↓argsOf, ↓argOf, ↓argS, ↓back, ↓put1, ↓isOwn, ↓sidx, ↓eCall, ↓sSeq, ↓sIf, ↓sE, ↓toB, ↓M.bind, ↓eOp, ↓opM, ↓toA, ↓oName, ↓eName, ↓eC, ↓M.ret, ↓M.stuck, ↓lift, ↓deref, ↓rdS, ↓frz, ↓frzC, ↓eB, ↓bM, ↓asCons, ↓asNil, ↓derefs, ↓vals, ↓eTup, ↓eLst, ↓sRet, ↓sRetV, ↓sSet, ↓slotOf, ↓sExpr, ↓sNil, ↓sBreak, ↓sCont, ↓sRetN, ↓orD, ↓orB, ↓opI2, ↓yes2, ↓okMul, ↓okDiv, ↓okMod, ↓okPow, ↓ltI, ↓leI, ↓gtI, ↓geI, ↓addI, ↓addS, ↓addL, ↓addT, ↓subD, ↓mulI, ↓mulD, ↓mulS, ↓mulL, ↓mulT, ↓divD, ↓modD, ↓powD, ↓ltD, ↓ltS, ↓addD, ↓vB, ↓vI, ↓sSetL, ↓sSetD, ↓atV, ↓grd, ↓setLM, ↓setDM, ↓ixD, ↓seqD, ↓lenD, ↓sPar, ↓eAnd, ↓eOr, ↓eNot, ↓eIf, ↓bAnd, ↓bOr, ↓bNot, ↓eNeg, ↓negD, ↓eChain, ↓eqD, ↓eqS, ↓neD, ↓neS, ↓scalD, ↓scEq, ↓isD, ↓isB, ↓isNon, ↓inD, ↓ninD, ↓inC, ↓inL, ↓flatD, ↓flEq, ↓eBM, ↓tyM, ↓isStrD, ↓isLstD, ↓mutM, ↓ownLst, ↓opAppend, ↓opExtend, ↓opPop, ↓eSlice, ↓pNo, ↓pYes, ↓sliceD, ↓eIsi, ↓eIsi.objIs, ↓isiB, ↓kindN, ↓isInt, ↓isBool, ↓isStr, ↓isTup, ↓isLst, ↓isDic, ↓objOf, ↓objS, ↓listD, ↓tupD, ↓maxI, ↓minI, ↓absD, ↓intD, ↓allD, ↓anyD, ↓sumD, ↓iOf, ↓iRange1, ↓iRange2, ↓itemsOf, ↓gN, ↓sFor, ↓sTry, ↓sRaise, ↓eFld, ↓sSetF, ↓setFM, ↓one, ↓eMakeS, ↓eMakeSL, ↓starD, ↓makeM, ↓eMake, ↓eCMeth, ↓eProp, ↓eMeth, ↓eOpM, ↓inO, ↓spO, ↓spO1, ↓rg1, ↓rg2, ↓lenSetD, ↓splitD, ↓countD, ↓sortItems, ↓dictD, ↓reprD, ↓eDict0, ↓disp1, ↓keyD, ↓FL, ↓sAsg, ↓gT, ↓gsCons, ↓gsNil, ↓sPar3, ↓st3, ↓valsOf, ↓lt, ↓eComp, ↓wipeE, E11,  ht1,  hr,  hs]
theorem q3body {r : List Nat} : lp__law_is_right_0 [.own (.lst s), b, .val (Bd ds), .val (dL ds), .val (.str r), f, g, h, i, .emp, .emp] = some (.nx [.own (.lst s), b, .val (Bd ds), .val (dL ds), .val (.str r), .val (.bl (decide (r ∈ ds))), g, h, i, .emp, .emp]) := by
  have hc := contains_str (ds := ds) r
  have hf : (strL ds).all flatD = true := by simp [strL, flatD]
  have ha : (strL ds).any (fun y => flEq y (.str r)) = decide (r ∈ ds) := by
    rw [Bool.eq_iff_iff, List.any_eq_true, decide_eq_true_iff]
    constructor
    · rintro ⟨x, hx, e⟩
      obtain ⟨q, hq, rfl⟩ := mem_strL hx
      have : q = r := by simpa [flEq] using e
      exact this ▸ hq
    · exact fun h => ⟨.str r, List.mem_map.mpr ⟨r, h, rfl⟩, by simp [flEq]⟩
  have hin : inD (.str r) (.lst (strL ds)) = some (.v (.bl (decide (r ∈ ds)))) := by
    have e1 : inC false (.str r) (.lst (strL ds)) = none := by simp [inC]
    have e2 : inL false (.str r) (.lst (strL ds)) = some (.v (.bl (decide (r ∈ ds)))) := by
      simp only [inL, seqD, Option.bind]
      rw [if_pos ⟨rfl, hf⟩, ha]
      simp [vB]
    simp [inD, orD, e1, e2]
  generalize decide (r ∈ ds) = q at hc hin
  obtain ⟨t, ht⟩ := repr_bools q
  have he := is_equal_ok ht (.val (.lst [.bl q, .bl q, .bl (!q)])) (.val (.lst [.bl q, .bl q, .bl (!q)])) (.inl rfl) (.inl rfl)
  simp [↓funD, ↓funV, ↓callM, ↓argsOf, ↓argOf, ↓argS, ↓back, ↓put1, ↓isOwn, ↓sidx, ↓eCall, ↓sSeq, ↓sIf, ↓sE, ↓toB, ↓M.bind, ↓eOp, ↓opM, ↓toA, ↓oName, ↓eName, ↓eC, ↓M.ret, ↓M.stuck, ↓lift, ↓deref, ↓rdS, ↓frz, ↓frzC, ↓eB, ↓bM, ↓asCons, ↓asNil, ↓derefs, ↓vals, ↓eTup, ↓eLst, ↓sRet, ↓sRetV, ↓sSet, ↓slotOf, ↓sExpr, ↓sNil, ↓sBreak, ↓sCont, ↓sRetN, ↓orD, ↓orB, ↓opI2, ↓yes2, ↓okMul, ↓okDiv, ↓okMod, ↓okPow, ↓ltI, ↓leI, ↓gtI, ↓geI, ↓addI, ↓addS, ↓addL, ↓addT, ↓subD, ↓mulI, ↓mulD, ↓mulS, ↓mulL, ↓mulT, ↓divD, ↓modD, ↓powD, ↓ltD, ↓ltS, ↓addD, ↓vB, ↓vI, ↓sSetL, ↓sSetD, ↓atV, ↓grd, ↓setLM, ↓setDM, ↓ixD, ↓seqD, ↓lenD, ↓sPar, ↓eAnd, ↓eOr, ↓eNot, ↓eIf, ↓bAnd, ↓bOr, ↓bNot, ↓eNeg, ↓negD, ↓eChain, ↓eqD, ↓eqS, ↓neD, ↓neS, ↓scalD, ↓scEq, ↓isD, ↓isB, ↓isNon, ↓ninD, ↓inC, ↓inL, ↓flatD, ↓flEq, ↓eBM, ↓tyM, ↓isStrD, ↓isLstD, ↓mutM, ↓ownLst, ↓opAppend, ↓opExtend, ↓opPop, ↓eSlice, ↓pNo, ↓pYes, ↓sliceD, ↓eIsi, ↓eIsi.objIs, ↓isiB, ↓kindN, ↓isInt, ↓isBool, ↓isStr, ↓isTup, ↓isLst, ↓isDic, ↓objOf, ↓objS, ↓listD, ↓tupD, ↓maxI, ↓minI, ↓absD, ↓intD, ↓allD, ↓anyD, ↓sumD, ↓iOf, ↓iRange1, ↓iRange2, ↓itemsOf, ↓gN, ↓sFor, ↓sTry, ↓sRaise, ↓eFld, ↓sSetF, ↓setFM, ↓one, ↓eMakeS, ↓eMakeSL, ↓starD, ↓makeM, ↓eMake, ↓eCMeth, ↓eProp, ↓eMeth, ↓eOpM, ↓inO, ↓spO, ↓spO1, ↓rg1, ↓rg2, ↓lenSetD, ↓splitD, ↓joinD, ↓countD, ↓sortD, ↓sortItems, ↓dictD, ↓reprD, ↓eDict0, ↓disp1, ↓keyD, ↓FL, ↓sAsg, ↓gT, ↓gsCons, ↓gsNil, ↓sPar3, ↓st3, ↓valsOf, ↓lt, ↓eComp, ↓wipeE, lp__law_is_right_0,  hin,  hc,  he]
theorem q3 (h1 : 1 ≤ m) (hm : m ≤ 6) (hf : Fit m rs) : ∃ e' f', (sFor (iOf (eCall sem__law_all_rows (asCons (toA (eB lenD (asCons (toA (eOp ixD (oName 1) (toA (eC (.int 0))))) asNil))) asNil))) (gN 4) lp__law_is_right_0) (E11 s (.own (.lst (strL rs))) (.val (Bd ds)) (.val (dL ds)) e f g h i) = some (.nx (E11 s (.own (.lst (strL rs))) (.val (Bd ds)) (.val (dL ds)) e' f' g h i)) := by
  obtain ⟨r, l, er⟩ := List.exists_cons_of_ne_nil hf.1
  have hr := (mem_allR.mp (hf.2.2 r (by rw [er]; exact List.mem_cons_self ..))).1
  have hat : L2.atI (strL rs) 0 = some (.str r) := by simp [L2.atI, L2.ixN, strL, er]
  have hall := all_rows_ok m h1 hm
  rw [← hr] at hall
  have hb : r.length ≤ big := by unfold big; omega
  have hlp : ∀ q, forL (gN 4) lp__law_is_right_0 (strL (allR r.length)) (E11 s (.own (.lst (strL rs))) (.val (Bd ds)) (.val (dL ds)) e f g h i) = q → ∃ e' f', q = some (.nx (E11 s (.own (.lst (strL rs))) (.val (Bd ds)) (.val (dL ds)) e' f' g h i)) := by
    intro q hq
    obtain ⟨e', rfl, x, y, rfl⟩ := forL_is (fun k en => ∃ x y, en = E11 s (.own (.lst (strL rs))) (.val (Bd ds)) (.val (dL ds)) x y g h i) hq ⟨_, _, rfl⟩ (by
      rintro j en x hx ⟨e2, f2, rfl⟩
      obtain ⟨q, hq, rfl⟩ := mem_strL (List.mem_of_getElem? hx)
      exact ⟨_, _, rfl, q3body, _, _, rfl⟩)
    exact ⟨x, y, rfl⟩
  obtain ⟨e', f', hl⟩ := hlp _ rfl
  refine ⟨e', f', ?_⟩
  simp [↓funD, ↓funV, ↓callM, ↓argsOf, ↓argOf, ↓argS, ↓back, ↓put1, ↓isOwn, ↓sidx, ↓eCall, ↓sSeq, ↓sIf, ↓sE, ↓toB, ↓M.bind, ↓eOp, ↓opM, ↓toA, ↓oName, ↓eName, ↓eC, ↓M.ret, ↓M.stuck, ↓lift, ↓deref, ↓rdS, ↓frz, ↓frzC, ↓eB, ↓bM, ↓asCons, ↓asNil, ↓derefs, ↓vals, ↓eTup, ↓eLst, ↓sRet, ↓sRetV, ↓sSet, ↓slotOf, ↓sExpr, ↓sNil, ↓sBreak, ↓sCont, ↓sRetN, ↓orD, ↓orB, ↓opI2, ↓yes2, ↓okMul, ↓okDiv, ↓okMod, ↓okPow, ↓ltI, ↓leI, ↓gtI, ↓geI, ↓addI, ↓addS, ↓addL, ↓addT, ↓subD, ↓mulI, ↓mulD, ↓mulS, ↓mulL, ↓mulT, ↓divD, ↓modD, ↓powD, ↓ltD, ↓ltS, ↓addD, ↓vB, ↓vI, ↓sSetL, ↓sSetD, ↓atV, ↓grd, ↓setLM, ↓setDM, ↓ixD, ↓seqD, ↓lenD, ↓sPar, ↓eAnd, ↓eOr, ↓eNot, ↓eIf, ↓bAnd, ↓bOr, ↓bNot, ↓eNeg, ↓negD, ↓eChain, ↓eqD, ↓eqS, ↓neD, ↓neS, ↓scalD, ↓scEq, ↓isD, ↓isB, ↓isNon, ↓inD, ↓ninD, ↓inC, ↓inL, ↓flatD, ↓flEq, ↓eBM, ↓tyM, ↓isStrD, ↓isLstD, ↓mutM, ↓ownLst, ↓opAppend, ↓opExtend, ↓opPop, ↓eSlice, ↓pNo, ↓pYes, ↓sliceD, ↓eIsi, ↓eIsi.objIs, ↓isiB, ↓kindN, ↓isInt, ↓isBool, ↓isStr, ↓isTup, ↓isLst, ↓isDic, ↓objOf, ↓objS, ↓listD, ↓tupD, ↓maxI, ↓minI, ↓absD, ↓intD, ↓allD, ↓anyD, ↓sumD, ↓iOf, ↓iRange1, ↓iRange2, ↓itemsOf, ↓gN, ↓sFor, ↓sTry, ↓sRaise, ↓eFld, ↓sSetF, ↓setFM, ↓one, ↓eMakeS, ↓eMakeSL, ↓starD, ↓makeM, ↓eMake, ↓eCMeth, ↓eProp, ↓eMeth, ↓eOpM, ↓inO, ↓spO, ↓spO1, ↓rg1, ↓rg2, ↓lenSetD, ↓splitD, ↓joinD, ↓countD, ↓sortD, ↓sortItems, ↓dictD, ↓reprD, ↓eDict0, ↓disp1, ↓keyD, ↓FL, ↓sAsg, ↓gT, ↓gsCons, ↓gsNil, ↓sPar3, ↓st3, ↓valsOf, ↓lt, ↓eComp, ↓wipeE, E11,  hat,  hall,  hb]
  exact hl
end Lw
end
section
set_option maxRecDepth 100000
set_option maxHeartbeats 4000000
namespace Lw
open PySem Dt
variable {s : List D} {b c d e f g h i : Dt.Slot} {C0 : Addr} {m : Nat} {rs ds : List (List Nat)}
theorem sort_all (l : List (List Nat)) (h : l.length ≤ big) : ∃ l' : List (List Nat), l'.Perm l ∧ sortD [.lst (strL l)] = some (.o (.lst (strL l'))) ∧ sortD [.tup (strL l)] = some (.o (.lst (strL l'))) := by
  have hp : (sortL (strL l) (l.map fun s => PyData.str (mkS s))).Perm (strL l) := by
    unfold sortL
    refine ((List.mergeSort_perm ..).map _).trans ?_
    rw [List.map_fst_zip (by simp [strL])]
  obtain ⟨l', h1, h2⟩ := perm_strL hp
  refine ⟨l', h1, ?_, ?_⟩
  · simp only [sortD, sortItems, Option.bind, toPL_strs, okSort_strs, List.length_map, h, h2, and_self, if_true]
  · simp only [sortD, sortItems, Option.bind, toPL_strs, okSort_strs, List.length_map, h, h2, and_self, if_true]
/-- the values that are no rows of the board -/
def oddL (o : List Nat) : List D := [.non, .int 0, .int 1, .bl true, .str [], .str (List.replicate (o.length + 1) [48]).flatten, .str (o ++ o), .str (o.drop 1), .tup [.str o], .lst [.str o], .dic [.inr (mkS o)] [.int 1], .str [120], .str (o ++ [32])]
theorem q4 {o : List Nat} {l : List (List Nat)} (hd : ds = o :: l) : (sSet 6 (eOp ixD (oName 3) (toA (eC (.int 0))))) (E11 s b c (.val (dL ds)) e f g h i) = some (.nx (E11 s b c (.val (dL ds)) e f (.val (.str o)) h i)) := by
  have hat : L2.atI (strL ds) 0 = some (.str o) := by simp [L2.atI, L2.ixN, strL, hd]
  simp [↓funD, ↓funV, ↓callM, ↓argsOf, ↓argOf, ↓argS, ↓back, ↓put1, ↓isOwn, ↓sidx, ↓eCall, ↓sSeq, ↓sIf, ↓sE, ↓toB, ↓M.bind, ↓eOp, ↓opM, ↓toA, ↓oName, ↓eName, ↓eC, ↓M.ret, ↓M.stuck, ↓lift, ↓deref, ↓rdS, ↓frz, ↓frzC, ↓eB, ↓bM, ↓asCons, ↓asNil, ↓derefs, ↓vals, ↓eTup, ↓eLst, ↓sRet, ↓sRetV, ↓sSet, ↓slotOf, ↓sExpr, ↓sNil, ↓sBreak, ↓sCont, ↓sRetN, ↓orD, ↓orB, ↓opI2, ↓yes2, ↓okMul, ↓okDiv, ↓okMod, ↓okPow, ↓ltI, ↓leI, ↓gtI, ↓geI, ↓addI, ↓addS, ↓addL, ↓addT, ↓subD, ↓mulI, ↓mulD, ↓mulS, ↓mulL, ↓mulT, ↓divD, ↓modD, ↓powD, ↓ltD, ↓ltS, ↓addD, ↓vB, ↓vI, ↓sSetL, ↓sSetD, ↓atV, ↓grd, ↓setLM, ↓setDM, ↓ixD, ↓seqD, ↓lenD, ↓sPar, ↓eAnd, ↓eOr, ↓eNot, ↓eIf, ↓bAnd, ↓bOr, ↓bNot, ↓eNeg, ↓negD, ↓eChain, ↓eqD, ↓eqS, ↓neD, ↓neS, ↓scalD, ↓scEq, ↓isD, ↓isB, ↓isNon, ↓inD, ↓ninD, ↓inC, ↓inL, ↓flatD, ↓flEq, ↓eBM, ↓tyM, ↓isStrD, ↓isLstD, ↓mutM, ↓ownLst, ↓opAppend, ↓opExtend, ↓opPop, ↓eSlice, ↓pNo, ↓pYes, ↓sliceD, ↓eIsi, ↓eIsi.objIs, ↓isiB, ↓kindN, ↓isInt, ↓isBool, ↓isStr, ↓isTup, ↓isLst, ↓isDic, ↓objOf, ↓objS, ↓listD, ↓tupD, ↓maxI, ↓minI, ↓absD, ↓intD, ↓allD, ↓anyD, ↓sumD, ↓iOf, ↓iRange1, ↓iRange2, ↓itemsOf, ↓gN, ↓sFor, ↓sTry, ↓sRaise, ↓eFld, ↓sSetF, ↓setFM, ↓one, ↓eMakeS, ↓eMakeSL, ↓starD, ↓makeM, ↓eMake, ↓eCMeth, ↓eProp, ↓eMeth, ↓eOpM, ↓inO, ↓spO, ↓spO1, ↓rg1, ↓rg2, ↓lenSetD, ↓splitD, ↓joinD, ↓countD, ↓sortD, ↓sortItems, ↓dictD, ↓reprD, ↓eDict0, ↓disp1, ↓keyD, ↓FL, ↓sAsg, ↓gT, ↓gsCons, ↓gsNil, ↓sPar3, ↓st3, ↓valsOf, ↓lt, ↓eComp, ↓wipeE, E11,  hat]
theorem drop1 {o : List Nat} (h1 : 1 ≤ o.length) : cutD o (some 1) none = o.drop 1 := by
  simp [cutD, HT.sIx]
  rw [Nat.min_eq_left h1, List.take_of_length_le (by simp)]
  simp
theorem q5 {o : List Nat} (h1 : 1 ≤ o.length) (h6 : o.length ≤ 6) : (sSet 7 (eLst (asCons (toA (eC .non)) (asCons (toA (eC (.int 0))) (asCons (toA (eC (.int 1))) (asCons (toA (eC (.bl true))) (asCons (toA (eC (.str []))) (asCons (toA (eOp mulD (toA (eC (.str [48]))) (toA (eOp addD (toA (eB lenD (asCons (oName 6) asNil))) (toA (eC (.int 1))))))) (asCons (toA (eOp addD (oName 6) (oName 6))) (asCons (toA (eSlice (oName 6) (pYes (toA (eC (.int 1)))) pNo)) (asCons (toA (eTup (asCons (oName 6) asNil))) (asCons (toA (eLst (asCons (oName 6) asNil))) (asCons (toA (M.bind (oName 6) fun a => M.bind (toA (eC (.int 1))) fun b => disp1 a b)) (asCons (toA (eC (.str [120]))) (asCons (toA (eOp addD (oName 6) (toA (eC (.str [32]))))) asNil))))))))))))))) (E11 s b c d e f (.val (.str o)) h i) = some (.nx (E11 s b c d e f (.val (.str o)) (.own (.lst (oddL o))) i)) := by
  have hd := drop1 h1
  have hb : o.length ≤ 1000000 := by omega
  have hb2 : o.length + o.length ≤ 1000000 := by omega
  have hb3 : o.length ≤ 999999 := by omega
  have hm1 : mulD (.str [48]) (.int ((o.length : Int) + 1)) = some (.v (.str (List.replicate (o.length + 1) [48]).flatten)) := by
    have e1 : ((o.length : Int) + 1).toNat = o.length + 1 := by omega
    have e2 : mulI (.str [48]) (.int ((o.length : Int) + 1)) = none := rfl
    have e3 : mulS (.str [48]) (.int ((o.length : Int) + 1)) = some (.v (.str (List.replicate (o.length + 1) [48]).flatten)) := by
      simp only [mulS]
      rw [if_pos ⟨⟨by simp, by simp⟩, by omega, by omega⟩, repS, e1]
    simp only [mulD, orD, e2, e3]
  simp [↓funD, ↓funV, ↓callM, ↓argsOf, ↓argOf, ↓argS, ↓back, ↓put1, ↓isOwn, ↓sidx, ↓eCall, ↓sSeq, ↓sIf, ↓sE, ↓toB, ↓M.bind, ↓eOp, ↓opM, ↓toA, ↓oName, ↓eName, ↓eC, ↓M.ret, ↓M.stuck, ↓lift, ↓deref, ↓rdS, ↓frz, ↓frzC, ↓eB, ↓bM, ↓asCons, ↓asNil, ↓derefs, ↓vals, ↓eTup, ↓eLst, ↓sRet, ↓sRetV, ↓sSet, ↓slotOf, ↓sExpr, ↓sNil, ↓sBreak, ↓sCont, ↓sRetN, ↓orD, ↓orB, ↓opI2, ↓yes2, ↓okMul, ↓okDiv, ↓okMod, ↓okPow, ↓ltI, ↓leI, ↓gtI, ↓geI, ↓addI, ↓addS, ↓addL, ↓addT, ↓subD, ↓mulI, ↓mulS, ↓mulL, ↓mulT, ↓divD, ↓modD, ↓powD, ↓ltD, ↓ltS, ↓addD, ↓vB, ↓vI, ↓sSetL, ↓sSetD, ↓atV, ↓grd, ↓setLM, ↓setDM, ↓ixD, ↓seqD, ↓lenD, ↓sPar, ↓eAnd, ↓eOr, ↓eNot, ↓eIf, ↓bAnd, ↓bOr, ↓bNot, ↓eNeg, ↓negD, ↓eChain, ↓eqD, ↓eqS, ↓neD, ↓neS, ↓scalD, ↓scEq, ↓isD, ↓isB, ↓isNon, ↓inD, ↓ninD, ↓inC, ↓inL, ↓flatD, ↓flEq, ↓eBM, ↓tyM, ↓isStrD, ↓isLstD, ↓mutM, ↓ownLst, ↓opAppend, ↓opExtend, ↓opPop, ↓eSlice, ↓pNo, ↓pYes, ↓sliceD, ↓eIsi, ↓eIsi.objIs, ↓isiB, ↓kindN, ↓isInt, ↓isBool, ↓isStr, ↓isTup, ↓isLst, ↓isDic, ↓objOf, ↓objS, ↓listD, ↓tupD, ↓maxI, ↓minI, ↓absD, ↓intD, ↓allD, ↓anyD, ↓sumD, ↓iOf, ↓iRange1, ↓iRange2, ↓itemsOf, ↓gN, ↓sFor, ↓sTry, ↓sRaise, ↓eFld, ↓sSetF, ↓setFM, ↓one, ↓eMakeS, ↓eMakeSL, ↓starD, ↓makeM, ↓eMake, ↓eCMeth, ↓eProp, ↓eMeth, ↓eOpM, ↓inO, ↓spO, ↓spO1, ↓rg1, ↓rg2, ↓lenSetD, ↓splitD, ↓joinD, ↓countD, ↓sortD, ↓sortItems, ↓dictD, ↓reprD, ↓eDict0, ↓disp1, ↓keyD, ↓FL, ↓sAsg, ↓gT, ↓gsCons, ↓gsNil, ↓sPar3, ↓st3, ↓valsOf, ↓lt, ↓eComp, ↓wipeE, E11,  hd,  hb,  hb2,  hb3,  big,  hm1,  oddL]
theorem one_fresh {o : List Nat} {l : List (List Nat)} (hd : ds = o :: l) (hl : ∀ r ∈ ds, r.length = m ∧ ∀ c ∈ r, c = 48 ∨ c = 49) (h1 : 1 ≤ m) : ∀ d ∈ oddL o, sem_Board___contains__ [.val (Bd ds), .val d] = some (.ok (.v (.bl false)) [.val (Bd ds), .val d]) := by
  have ho := hl o (by rw [hd]; exact List.mem_cons_self ..)
  have hno : ∀ r : List Nat, r.length ≠ m → sem_Board___contains__ [.val (Bd ds), .val (.str r)] = some (.ok (.v (.bl false)) [.val (Bd ds), .val (.str r)]) := fun r hr => by
    rw [contains_str, decide_eq_false fun q => hr (hl r q).1]
  intro d hd
  simp only [oddL, List.mem_cons, List.not_mem_nil, or_false] at hd
  rcases hd with rfl | rfl | rfl | rfl | rfl | rfl | rfl | rfl | rfl | rfl | rfl | rfl | rfl
  · exact contains_no rfl (fun _ _ => by simp)
  · exact contains_no rfl (fun _ _ => by simp)
  · exact contains_no rfl (fun _ _ => by simp)
  · exact contains_no rfl (fun _ _ => by simp)
  · exact hno _ (by simp; omega)
  · exact hno _ (by simp; omega)
  · exact hno _ (by simp; omega)
  · exact hno _ (by simp; omega)
  · exact contains_no rfl (fun _ _ => by simp)
  · exact contains_no rfl (fun _ _ => by simp)
  · exact contains_no rfl (fun _ _ => by simp)
  · rw [contains_str, decide_eq_false fun q => by have := (hl _ q).2 120 (by simp); omega]
  · exact hno _ (by simp; omega)
theorem comp_none {vs : List Nat} {t : D → Sl → Option Sl} {c : M Bool} {f : M EV} {e : Sl} : ∀ (ds acc : List D), (∀ d ∈ ds, ∃ e1 e2, t d e = some e1 ∧ c e1 = some (.ok false e2) ∧ wipeE e2 vs = e) → compL vs t c f ds acc e = some (acc, e)
  | [], acc, _ => by simp [compL]
  | d :: ds, acc, h => by
    obtain ⟨e1, e2, h1, h2, h3⟩ := h d (List.mem_cons_self ..)
    rw [compL_cons, compL_no h1 h2, h3]
    exact comp_none ds acc fun d hd => h d (List.mem_cons_of_mem _ hd)
theorem comp_g {vs : List Nat} {t : D → Sl → Option Sl} {f : M EV} {e : Sl} (g : D → D) : ∀ (ds acc : List D), (∀ d ∈ ds, ∃ e1 e3, t d e = some e1 ∧ f e1 = some (.ok (.v (g d)) e3) ∧ wipeE e3 vs = e) → compL vs t bYes f ds acc e = some (acc ++ ds.map g, e)
  | [], acc, _ => by simp [compL]
  | d :: ds, acc, h => by
    obtain ⟨e1, e3, h1, h2, h3⟩ := h d (List.mem_cons_self ..)
    rw [compL_cons, compL_one h1 rfl h2 rfl, h3]
    show compL vs t bYes f ds _ _ = _
    rw [comp_g g ds _ fun d hd => h d (List.mem_cons_of_mem _ hd)]
    simp
theorem ne_nil : neD (.lst []) (.lst []) = some (.v (.bl false)) := by
  have e1 : neS (.lst []) (.lst []) = none := rfl
  have e2 : eqP true (.lst []) (.lst []) = some (.v (.bl false)) := by
    simp only [eqP, toP, toPL, Option.map]
    rw [if_pos (by decide +kernel)]
    exact congrArg (fun b => some (EV.v (D.bl b))) (by decide +kernel)
  simp only [neD, orD, e1, e2]
theorem q6 {o : List Nat} {l : List (List Nat)} (hd : ds = o :: l) (hl : ∀ r ∈ ds, r.length = m ∧ ∀ c ∈ r, c = 48 ∨ c = 49) (h1 : 1 ≤ m) : (sIf (toB (eOp neD (toA (eComp [9] (iOf (eName 7)) (gN 9) lp__law_is_right_1 lp__law_is_right_2)) (toA (eLst asNil)))) (sRet (eC (.bl false))) sNil) (E11 s b (.val (Bd ds)) d e f g (.own (.lst (oddL o))) i) = some (.nx (E11 s b (.val (Bd ds)) d e f g (.val (.lst (oddL o))) i)) := by
  have hc := comp_none (vs := [9]) (t := gN 9) (c := lp__law_is_right_1) (f := lp__law_is_right_2) (e := E11 s b (.val (Bd ds)) d e f g (.val (.lst (oddL o))) i) (oddL o) [] (by
    intro x hx
    have h := one_fresh hd hl h1 x hx
    refine ⟨_, [.own (.lst s), b, .val (Bd ds), d, e, f, g, .val (.lst (oddL o)), i, .val x, .emp], rfl, ?_, rfl⟩
    simp [↓funD, ↓funV, ↓callM, ↓argsOf, ↓argOf, ↓argS, ↓back, ↓put1, ↓isOwn, ↓sidx, ↓eCall, ↓sSeq, ↓sIf, ↓sE, ↓toB, ↓M.bind, ↓eOp, ↓opM, ↓toA, ↓oName, ↓eName, ↓eC, ↓M.ret, ↓M.stuck, ↓lift, ↓deref, ↓rdS, ↓frz, ↓frzC, ↓eB, ↓bM, ↓asCons, ↓asNil, ↓derefs, ↓vals, ↓eTup, ↓eLst, ↓sRet, ↓sRetV, ↓sSet, ↓slotOf, ↓sExpr, ↓sNil, ↓sBreak, ↓sCont, ↓sRetN, ↓orD, ↓orB, ↓opI2, ↓yes2, ↓okMul, ↓okDiv, ↓okMod, ↓okPow, ↓ltI, ↓leI, ↓gtI, ↓geI, ↓addI, ↓addS, ↓addL, ↓addT, ↓subD, ↓mulI, ↓mulD, ↓mulS, ↓mulL, ↓mulT, ↓divD, ↓modD, ↓powD, ↓ltD, ↓ltS, ↓addD, ↓vB, ↓vI, ↓sSetL, ↓sSetD, ↓atV, ↓grd, ↓setLM, ↓setDM, ↓ixD, ↓seqD, ↓lenD, ↓sPar, ↓eAnd, ↓eOr, ↓eNot, ↓eIf, ↓bAnd, ↓bOr, ↓bNot, ↓eNeg, ↓negD, ↓eChain, ↓eqD, ↓eqS, ↓neD, ↓neS, ↓scalD, ↓scEq, ↓isD, ↓isB, ↓isNon, ↓inD, ↓ninD, ↓inC, ↓inL, ↓flatD, ↓flEq, ↓eBM, ↓tyM, ↓isStrD, ↓isLstD, ↓mutM, ↓ownLst, ↓opAppend, ↓opExtend, ↓opPop, ↓eSlice, ↓pNo, ↓pYes, ↓sliceD, ↓eIsi, ↓eIsi.objIs, ↓isiB, ↓kindN, ↓isInt, ↓isBool, ↓isStr, ↓isTup, ↓isLst, ↓isDic, ↓objOf, ↓objS, ↓listD, ↓tupD, ↓maxI, ↓minI, ↓absD, ↓intD, ↓allD, ↓anyD, ↓sumD, ↓iOf, ↓iRange1, ↓iRange2, ↓itemsOf, ↓gN, ↓sFor, ↓sTry, ↓sRaise, ↓eFld, ↓sSetF, ↓setFM, ↓one, ↓eMakeS, ↓eMakeSL, ↓starD, ↓makeM, ↓eMake, ↓eCMeth, ↓eProp, ↓eMeth, ↓eOpM, ↓inO, ↓spO, ↓spO1, ↓rg1, ↓rg2, ↓lenSetD, ↓splitD, ↓joinD, ↓countD, ↓sortD, ↓sortItems, ↓dictD, ↓reprD, ↓eDict0, ↓disp1, ↓keyD, ↓FL, ↓sAsg, ↓gT, ↓gsCons, ↓gsNil, ↓sPar3, ↓st3, ↓valsOf, ↓lt, ↓eComp, ↓wipeE, lp__law_is_right_1,  E11,  h])
  generalize oddL o = O at hc
  simp [↓funD, ↓funV, ↓callM, ↓argsOf, ↓argOf, ↓argS, ↓back, ↓put1, ↓isOwn, ↓sidx, ↓eCall, ↓sSeq, ↓sIf, ↓sE, ↓toB, ↓M.bind, ↓eOp, ↓opM, ↓toA, ↓oName, ↓eName, ↓eC, ↓M.ret, ↓M.stuck, ↓lift, ↓deref, ↓rdS, ↓frz, ↓frzC, ↓eB, ↓bM, ↓asCons, ↓asNil, ↓derefs, ↓vals, ↓eTup, ↓eLst, ↓sRet, ↓sRetV, ↓sSet, ↓slotOf, ↓sExpr, ↓sNil, ↓sBreak, ↓sCont, ↓sRetN, ↓orD, ↓orB, ↓opI2, ↓yes2, ↓okMul, ↓okDiv, ↓okMod, ↓okPow, ↓ltI, ↓leI, ↓gtI, ↓geI, ↓addI, ↓addS, ↓addL, ↓addT, ↓subD, ↓mulI, ↓mulD, ↓mulS, ↓mulL, ↓mulT, ↓divD, ↓modD, ↓powD, ↓ltD, ↓ltS, ↓addD, ↓vB, ↓vI, ↓sSetL, ↓sSetD, ↓atV, ↓grd, ↓setLM, ↓setDM, ↓ixD, ↓seqD, ↓lenD, ↓sPar, ↓eAnd, ↓eOr, ↓eNot, ↓eIf, ↓bAnd, ↓bOr, ↓bNot, ↓eNeg, ↓negD, ↓eChain, ↓eqD, ↓eqS, ↓neS, ↓scalD, ↓scEq, ↓isD, ↓isB, ↓isNon, ↓inD, ↓ninD, ↓inC, ↓inL, ↓flatD, ↓flEq, ↓eBM, ↓tyM, ↓isStrD, ↓isLstD, ↓mutM, ↓ownLst, ↓opAppend, ↓opExtend, ↓opPop, ↓eSlice, ↓pNo, ↓pYes, ↓sliceD, ↓eIsi, ↓eIsi.objIs, ↓isiB, ↓kindN, ↓isInt, ↓isBool, ↓isStr, ↓isTup, ↓isLst, ↓isDic, ↓objOf, ↓objS, ↓listD, ↓tupD, ↓maxI, ↓minI, ↓absD, ↓intD, ↓allD, ↓anyD, ↓sumD, ↓iOf, ↓iRange1, ↓iRange2, ↓itemsOf, ↓gN, ↓sFor, ↓sTry, ↓sRaise, ↓eFld, ↓sSetF, ↓setFM, ↓one, ↓eMakeS, ↓eMakeSL, ↓starD, ↓makeM, ↓eMake, ↓eCMeth, ↓eProp, ↓eMeth, ↓eOpM, ↓inO, ↓spO, ↓spO1, ↓rg1, ↓rg2, ↓lenSetD, ↓splitD, ↓joinD, ↓countD, ↓sortD, ↓sortItems, ↓dictD, ↓reprD, ↓eDict0, ↓disp1, ↓keyD, ↓FL, ↓sAsg, ↓gT, ↓gsCons, ↓gsNil, ↓sPar3, ↓st3, ↓valsOf, ↓lt, ↓eComp, ↓wipeE, E11,  hc,  ne_nil]
theorem q7 (hr : ShortS ds) : (sIf (bNot (toB (eCall sem__law_is_equal (asCons (toA (eComp [10] (iRange1 (asCons (toA (eB lenD (asCons (oName 3) asNil))) asNil)) (gN 10) bYes lp__law_is_right_3)) (asCons (oName 3) asNil))))) (sRet (eC (.bl false))) sNil) (E11 s b (.val (Bd ds)) (.val (dL ds)) e f g h i) = some (.nx (E11 s b (.val (Bd ds)) (.val (dL ds)) e f g h i)) := by
  obtain ⟨t, ht⟩ := repr_ex hr
  have he := is_equal_ok ht (.val (dL ds)) (.val (dL ds)) (.inl rfl) (.inl rfl)
  have h62 := small_of (show ds.length < 1000000 by have := hr.1; omega)
  have hc := comp_g (vs := [10]) (t := gN 10) (f := lp__law_is_right_3) (e := E11 s b (.val (Bd ds)) (.val (dL ds)) e f g h i) (fun x => match x with | .int k => .str (ds[k.toNat]?.getD []) | _ => .non) (rangeD 0 ds.length) [] (by
    intro x hx
    obtain ⟨k, hk, rfl⟩ : ∃ k : Nat, k < ds.length ∧ x = .int k := by
      simp [rangeD] at hx
      obtain ⟨k, hk, rfl⟩ := hx
      exact ⟨k, hk, rfl⟩
    have hq := law_at_at hk
    refine ⟨_, [.own (.lst s), b, .val (Bd ds), .val (dL ds), e, f, g, h, i, .emp, .val (.int k)], rfl, ?_, rfl⟩
    simp [↓funD, ↓funV, ↓callM, ↓argsOf, ↓argOf, ↓argS, ↓back, ↓put1, ↓isOwn, ↓sidx, ↓eCall, ↓sSeq, ↓sIf, ↓sE, ↓toB, ↓M.bind, ↓eOp, ↓opM, ↓toA, ↓oName, ↓eName, ↓eC, ↓M.ret, ↓M.stuck, ↓lift, ↓deref, ↓rdS, ↓frz, ↓frzC, ↓eB, ↓bM, ↓asCons, ↓asNil, ↓derefs, ↓vals, ↓eTup, ↓eLst, ↓sRet, ↓sRetV, ↓sSet, ↓slotOf, ↓sExpr, ↓sNil, ↓sBreak, ↓sCont, ↓sRetN, ↓orD, ↓orB, ↓opI2, ↓yes2, ↓okMul, ↓okDiv, ↓okMod, ↓okPow, ↓ltI, ↓leI, ↓gtI, ↓geI, ↓addI, ↓addS, ↓addL, ↓addT, ↓subD, ↓mulI, ↓mulD, ↓mulS, ↓mulL, ↓mulT, ↓divD, ↓modD, ↓powD, ↓ltD, ↓ltS, ↓addD, ↓vB, ↓vI, ↓sSetL, ↓sSetD, ↓atV, ↓grd, ↓setLM, ↓setDM, ↓ixD, ↓seqD, ↓lenD, ↓sPar, ↓eAnd, ↓eOr, ↓eNot, ↓eIf, ↓bAnd, ↓bOr, ↓bNot, ↓eNeg, ↓negD, ↓eChain, ↓eqD, ↓eqS, ↓neD, ↓neS, ↓scalD, ↓scEq, ↓isD, ↓isB, ↓isNon, ↓inD, ↓ninD, ↓inC, ↓inL, ↓flatD, ↓flEq, ↓eBM, ↓tyM, ↓isStrD, ↓isLstD, ↓mutM, ↓ownLst, ↓opAppend, ↓opExtend, ↓opPop, ↓eSlice, ↓pNo, ↓pYes, ↓sliceD, ↓eIsi, ↓eIsi.objIs, ↓isiB, ↓kindN, ↓isInt, ↓isBool, ↓isStr, ↓isTup, ↓isLst, ↓isDic, ↓objOf, ↓objS, ↓listD, ↓tupD, ↓maxI, ↓minI, ↓absD, ↓intD, ↓allD, ↓anyD, ↓sumD, ↓iOf, ↓iRange1, ↓iRange2, ↓itemsOf, ↓gN, ↓sFor, ↓sTry, ↓sRaise, ↓eFld, ↓sSetF, ↓setFM, ↓one, ↓eMakeS, ↓eMakeSL, ↓starD, ↓makeM, ↓eMake, ↓eCMeth, ↓eProp, ↓eMeth, ↓eOpM, ↓inO, ↓spO, ↓spO1, ↓rg1, ↓rg2, ↓lenSetD, ↓splitD, ↓joinD, ↓countD, ↓sortD, ↓sortItems, ↓dictD, ↓reprD, ↓eDict0, ↓disp1, ↓keyD, ↓FL, ↓sAsg, ↓gT, ↓gsCons, ↓gsNil, ↓sPar3, ↓st3, ↓valsOf, ↓lt, ↓eComp, ↓wipeE, lp__law_is_right_3,  E11,  hq,  hk])
  have hm : ((rangeD 0 (ds.length : Int)).map fun x => match x with | .int k => D.str (ds[k.toNat]?.getD []) | _ => .non) = strL ds := by
    apply List.ext_getElem
    · simp [rangeD, strL]
    · intro k h1 h2
      have hk : k < ds.length := by simpa [strL] using h2
      simp [rangeD, strL, hk]
  rw [hm, List.nil_append] at hc
  have hlen : (strL ds).length = ds.length := by simp [strL]
  simp [↓funD, ↓funV, ↓callM, ↓argsOf, ↓argOf, ↓argS, ↓back, ↓put1, ↓isOwn, ↓sidx, ↓eCall, ↓sSeq, ↓sIf, ↓sE, ↓toB, ↓M.bind, ↓eOp, ↓opM, ↓toA, ↓oName, ↓eName, ↓eC, ↓M.ret, ↓M.stuck, ↓lift, ↓deref, ↓rdS, ↓frz, ↓frzC, ↓eB, ↓bM, ↓asCons, ↓asNil, ↓derefs, ↓vals, ↓eTup, ↓eLst, ↓sRet, ↓sRetV, ↓sSet, ↓slotOf, ↓sExpr, ↓sNil, ↓sBreak, ↓sCont, ↓sRetN, ↓orD, ↓orB, ↓opI2, ↓yes2, ↓okMul, ↓okDiv, ↓okMod, ↓okPow, ↓ltI, ↓leI, ↓gtI, ↓geI, ↓addI, ↓addS, ↓addL, ↓addT, ↓subD, ↓mulI, ↓mulD, ↓mulS, ↓mulL, ↓mulT, ↓divD, ↓modD, ↓powD, ↓ltD, ↓ltS, ↓addD, ↓vB, ↓vI, ↓sSetL, ↓sSetD, ↓atV, ↓grd, ↓setLM, ↓setDM, ↓ixD, ↓seqD, ↓lenD, ↓sPar, ↓eAnd, ↓eOr, ↓eNot, ↓eIf, ↓bAnd, ↓bOr, ↓bNot, ↓eNeg, ↓negD, ↓eChain, ↓eqD, ↓eqS, ↓neD, ↓neS, ↓scalD, ↓scEq, ↓isD, ↓isB, ↓isNon, ↓inD, ↓ninD, ↓inC, ↓inL, ↓flatD, ↓flEq, ↓eBM, ↓tyM, ↓isStrD, ↓isLstD, ↓mutM, ↓ownLst, ↓opAppend, ↓opExtend, ↓opPop, ↓eSlice, ↓pNo, ↓pYes, ↓sliceD, ↓eIsi, ↓eIsi.objIs, ↓isiB, ↓kindN, ↓isInt, ↓isBool, ↓isStr, ↓isTup, ↓isLst, ↓isDic, ↓objOf, ↓objS, ↓listD, ↓tupD, ↓maxI, ↓minI, ↓absD, ↓intD, ↓allD, ↓anyD, ↓sumD, ↓iOf, ↓iRange1, ↓iRange2, ↓itemsOf, ↓gN, ↓sFor, ↓sTry, ↓sRaise, ↓eFld, ↓sSetF, ↓setFM, ↓one, ↓eMakeS, ↓eMakeSL, ↓starD, ↓makeM, ↓eMake, ↓eCMeth, ↓eProp, ↓eMeth, ↓eOpM, ↓inO, ↓spO, ↓spO1, ↓rg1, ↓rg2, ↓lenSetD, ↓splitD, ↓joinD, ↓countD, ↓sortD, ↓sortItems, ↓dictD, ↓reprD, ↓eDict0, ↓disp1, ↓keyD, ↓FL, ↓sAsg, ↓gT, ↓gsCons, ↓gsNil, ↓sPar3, ↓st3, ↓valsOf, ↓lt, ↓eComp, ↓wipeE, E11,  hc,  he,  h62,  hlen]
/-- the values that are no numbers of the board's rows -/
def wrongL (n : Nat) (o : List Nat) : List D := [.int (-1), .int n, .int 1000000000000, .non, .bl true, .bl false, .str [48], .str [], .tup [.int 0], .lst [.int 0], .dic [] [], .str o]
theorem q8 {o : List Nat} : (sSet 8 (eLst (asCons (toA (eNeg (toA (eC (.int 1))))) (asCons (toA (eB lenD (asCons (oName 3) asNil))) (asCons (toA (eOp powD (toA (eC (.int 10))) (toA (eC (.int 12))))) (asCons (toA (eC .non)) (asCons (toA (eC (.bl true))) (asCons (toA (eC (.bl false))) (asCons (toA (eC (.str [48]))) (asCons (toA (eC (.str []))) (asCons (toA (eTup (asCons (toA (eC (.int 0))) asNil))) (asCons (toA (eLst (asCons (toA (eC (.int 0))) asNil))) (asCons (toA eDict0) (asCons (oName 6) asNil)))))))))))))) (E11 s b c (.val (dL ds)) e f (.val (.str o)) h i) = some (.nx (E11 s b c (.val (dL ds)) e f (.val (.str o)) h (.own (.lst (wrongL ds.length o))))) := by
  have hlen : (strL ds).length = ds.length := by simp [strL]
  simp [↓funD, ↓funV, ↓callM, ↓argsOf, ↓argOf, ↓argS, ↓back, ↓put1, ↓isOwn, ↓sidx, ↓eCall, ↓sSeq, ↓sIf, ↓sE, ↓toB, ↓M.bind, ↓eOp, ↓opM, ↓toA, ↓oName, ↓eName, ↓eC, ↓M.ret, ↓M.stuck, ↓lift, ↓deref, ↓rdS, ↓frz, ↓frzC, ↓eB, ↓bM, ↓asCons, ↓asNil, ↓derefs, ↓vals, ↓eTup, ↓eLst, ↓sRet, ↓sRetV, ↓sSet, ↓slotOf, ↓sExpr, ↓sNil, ↓sBreak, ↓sCont, ↓sRetN, ↓orD, ↓orB, ↓opI2, ↓yes2, ↓okMul, ↓okDiv, ↓okMod, ↓okPow, ↓ltI, ↓leI, ↓gtI, ↓geI, ↓addI, ↓addS, ↓addL, ↓addT, ↓subD, ↓mulI, ↓mulD, ↓mulS, ↓mulL, ↓mulT, ↓divD, ↓modD, ↓powD, ↓ltD, ↓ltS, ↓addD, ↓vB, ↓vI, ↓sSetL, ↓sSetD, ↓atV, ↓grd, ↓setLM, ↓setDM, ↓ixD, ↓seqD, ↓lenD, ↓sPar, ↓eAnd, ↓eOr, ↓eNot, ↓eIf, ↓bAnd, ↓bOr, ↓bNot, ↓eNeg, ↓negD, ↓eChain, ↓eqD, ↓eqS, ↓neD, ↓neS, ↓scalD, ↓scEq, ↓isD, ↓isB, ↓isNon, ↓inD, ↓ninD, ↓inC, ↓inL, ↓flatD, ↓flEq, ↓eBM, ↓tyM, ↓isStrD, ↓isLstD, ↓mutM, ↓ownLst, ↓opAppend, ↓opExtend, ↓opPop, ↓eSlice, ↓pNo, ↓pYes, ↓sliceD, ↓eIsi, ↓eIsi.objIs, ↓isiB, ↓kindN, ↓isInt, ↓isBool, ↓isStr, ↓isTup, ↓isLst, ↓isDic, ↓objOf, ↓objS, ↓listD, ↓tupD, ↓maxI, ↓minI, ↓absD, ↓intD, ↓allD, ↓anyD, ↓sumD, ↓iOf, ↓iRange1, ↓iRange2, ↓itemsOf, ↓gN, ↓sFor, ↓sTry, ↓sRaise, ↓eFld, ↓sSetF, ↓setFM, ↓one, ↓eMakeS, ↓eMakeSL, ↓starD, ↓makeM, ↓eMake, ↓eCMeth, ↓eProp, ↓eMeth, ↓eOpM, ↓inO, ↓spO, ↓spO1, ↓rg1, ↓rg2, ↓lenSetD, ↓splitD, ↓joinD, ↓countD, ↓sortD, ↓sortItems, ↓dictD, ↓reprD, ↓eDict0, ↓disp1, ↓keyD, ↓FL, ↓sAsg, ↓gT, ↓gsCons, ↓gsNil, ↓sPar3, ↓st3, ↓valsOf, ↓lt, ↓eComp, ↓wipeE, E11,  hlen,  wrongL]
theorem is_integer_bl (q : Bool) : sem_is_integer [.val (.bl q)] = some (.ok (.v (.bl false)) [.val (.bl q)]) := by
  simp [↓funD, ↓funV, ↓callM, ↓argsOf, ↓argOf, ↓argS, ↓back, ↓put1, ↓isOwn, ↓sidx, ↓eCall, ↓sSeq, ↓sIf, ↓sE, ↓toB, ↓M.bind, ↓eOp, ↓opM, ↓toA, ↓oName, ↓eName, ↓eC, ↓M.ret, ↓M.stuck, ↓lift, ↓deref, ↓rdS, ↓frz, ↓frzC, ↓eB, ↓bM, ↓asCons, ↓asNil, ↓derefs, ↓vals, ↓eTup, ↓eLst, ↓sRet, ↓sRetV, ↓sSet, ↓slotOf, ↓sExpr, ↓sNil, ↓sBreak, ↓sCont, ↓sRetN, ↓orD, ↓orB, ↓opI2, ↓yes2, ↓okMul, ↓okDiv, ↓okMod, ↓okPow, ↓ltI, ↓leI, ↓gtI, ↓geI, ↓addI, ↓addS, ↓addL, ↓addT, ↓subD, ↓mulI, ↓mulD, ↓mulS, ↓mulL, ↓mulT, ↓divD, ↓modD, ↓powD, ↓ltD, ↓ltS, ↓addD, ↓vB, ↓vI, ↓sSetL, ↓sSetD, ↓atV, ↓grd, ↓setLM, ↓setDM, ↓ixD, ↓seqD, ↓lenD, ↓sPar, ↓eAnd, ↓eOr, ↓eNot, ↓eIf, ↓bAnd, ↓bOr, ↓bNot, ↓eNeg, ↓negD, ↓eChain, ↓eqD, ↓eqS, ↓neD, ↓neS, ↓scalD, ↓scEq, ↓isD, ↓isB, ↓isNon, ↓inD, ↓ninD, ↓inC, ↓inL, ↓flatD, ↓flEq, ↓eBM, ↓tyM, ↓isStrD, ↓isLstD, ↓mutM, ↓ownLst, ↓opAppend, ↓opExtend, ↓opPop, ↓eSlice, ↓pNo, ↓pYes, ↓sliceD, ↓eIsi, ↓eIsi.objIs, ↓isiB, ↓kindN, ↓isInt, ↓isBool, ↓isStr, ↓isTup, ↓isLst, ↓isDic, ↓objOf, ↓objS, ↓listD, ↓tupD, ↓maxI, ↓minI, ↓absD, ↓intD, ↓allD, ↓anyD, ↓sumD, ↓iOf, ↓iRange1, ↓iRange2, ↓itemsOf, ↓gN, ↓sFor, ↓sTry, ↓sRaise, ↓eFld, ↓sSetF, ↓setFM, ↓one, ↓eMakeS, ↓eMakeSL, ↓starD, ↓makeM, ↓eMake, ↓eCMeth, ↓eProp, ↓eMeth, ↓eOpM, ↓inO, ↓spO, ↓spO1, ↓rg1, ↓rg2, ↓lenSetD, ↓splitD, ↓joinD, ↓countD, ↓sortD, ↓sortItems, ↓dictD, ↓reprD, ↓eDict0, ↓disp1, ↓keyD, ↓FL, ↓sAsg, ↓gT, ↓gsCons, ↓gsNil, ↓sPar3, ↓st3, ↓valsOf, ↓lt, ↓eComp, ↓wipeE, sem_is_integer,  bd_is_integer]
theorem law_at_wrong {o : List Nat} (hr : ShortS ds) : ∀ x ∈ wrongL ds.length o, sem__law_at [.val (Bd ds), .val x] = some (.ok (.v numberS) [.val (Bd ds), .val x]) := by
  intro x hx
  have hl := hr.1
  simp only [wrongL, List.mem_cons, List.not_mem_nil, or_false] at hx
  rcases hx with rfl | rfl | rfl | rfl | rfl | rfl | rfl | rfl | rfl | rfl | rfl | rfl
  · exact law_at_out (by omega)
  · exact law_at_out (by omega)
  · exact law_at_out (by omega)
  · exact law_at_no (is_integer_no rfl (fun _ _ => by simp) (fun _ => by simp))
  · exact law_at_no (is_integer_bl _)
  · exact law_at_no (is_integer_bl _)
  all_goals exact law_at_no (is_integer_no rfl (fun _ _ => by simp) (fun _ => by simp))
theorem twelve : eqD (.lst (List.replicate 12 numberS)) (.lst (List.replicate 12 numberS)) = some (.v (.bl true)) := by
  have e1 : eqS (.lst (List.replicate 12 numberS)) (.lst (List.replicate 12 numberS)) = none := rfl
  have e3 : toPL (List.replicate 12 numberS) = some (List.replicate 12 (.str (mkS [110, 117, 109, 98, 101, 114]))) := by
    have := toPL_strs (List.replicate 12 [110, 117, 109, 98, 101, 114])
    rwa [List.map_replicate, List.map_replicate] at this
  have e2 : eqP false (.lst (List.replicate 12 numberS)) (.lst (List.replicate 12 numberS)) = some (.v (.bl true)) := by
    simp only [eqP, toP, e3, Option.map]
    rw [if_pos (by decide +kernel)]
    exact congrArg (fun b => some (EV.v (D.bl b))) (by decide +kernel)
  simp only [eqD, orD, e1, e2]
theorem twelve' : mulD (.lst [numberS]) (.int 12) = some (.o (.lst (List.replicate 12 numberS))) := rfl
theorem q9 {o : List Nat} (hr : ShortS ds) : (sRet (eOp eqD (toA (eComp [10] (iOf (eName 8)) (gN 10) bYes lp__law_is_right_4)) (toA (eOp mulD (toA (eLst (asCons (toA (eC (.str [110, 117, 109, 98, 101, 114]))) asNil))) (toA (eB lenD (asCons (oName 8) asNil))))))) (E11 s b (.val (Bd ds)) d e f g h (.own (.lst (wrongL ds.length o)))) = some (.rt (.v (.bl true)) (E11 s b (.val (Bd ds)) d e f g h (.val (.lst (wrongL ds.length o))))) := by
  have hw := law_at_wrong (o := o) hr
  have hlen : (wrongL ds.length o).length = 12 := rfl
  have hmap : (wrongL ds.length o).map (fun _ => numberS) = List.replicate 12 numberS := rfl
  generalize wrongL ds.length o = w at hw hlen hmap
  have hc := comp_g (vs := [10]) (t := gN 10) (f := lp__law_is_right_4) (e := E11 s b (.val (Bd ds)) d e f g h (.val (.lst w))) (fun _ => numberS) w [] (by
    intro x hx
    have hq := hw x hx
    refine ⟨_, [.own (.lst s), b, .val (Bd ds), d, e, f, g, h, .val (.lst w), .emp, .val x], rfl, ?_, rfl⟩
    simp [↓funD, ↓funV, ↓callM, ↓argsOf, ↓argOf, ↓argS, ↓back, ↓put1, ↓isOwn, ↓sidx, ↓eCall, ↓sSeq, ↓sIf, ↓sE, ↓toB, ↓M.bind, ↓eOp, ↓opM, ↓toA, ↓oName, ↓eName, ↓eC, ↓M.ret, ↓M.stuck, ↓lift, ↓deref, ↓rdS, ↓frz, ↓frzC, ↓eB, ↓bM, ↓asCons, ↓asNil, ↓derefs, ↓vals, ↓eTup, ↓eLst, ↓sRet, ↓sRetV, ↓sSet, ↓slotOf, ↓sExpr, ↓sNil, ↓sBreak, ↓sCont, ↓sRetN, ↓orD, ↓orB, ↓opI2, ↓yes2, ↓okMul, ↓okDiv, ↓okMod, ↓okPow, ↓ltI, ↓leI, ↓gtI, ↓geI, ↓addI, ↓addS, ↓addL, ↓addT, ↓subD, ↓mulI, ↓mulD, ↓mulS, ↓mulL, ↓mulT, ↓divD, ↓modD, ↓powD, ↓ltD, ↓ltS, ↓addD, ↓vB, ↓vI, ↓sSetL, ↓sSetD, ↓atV, ↓grd, ↓setLM, ↓setDM, ↓ixD, ↓seqD, ↓lenD, ↓sPar, ↓eAnd, ↓eOr, ↓eNot, ↓eIf, ↓bAnd, ↓bOr, ↓bNot, ↓eNeg, ↓negD, ↓eChain, ↓eqD, ↓eqS, ↓neD, ↓neS, ↓scalD, ↓scEq, ↓isD, ↓isB, ↓isNon, ↓inD, ↓ninD, ↓inC, ↓inL, ↓flatD, ↓flEq, ↓eBM, ↓tyM, ↓isStrD, ↓isLstD, ↓mutM, ↓ownLst, ↓opAppend, ↓opExtend, ↓opPop, ↓eSlice, ↓pNo, ↓pYes, ↓sliceD, ↓eIsi, ↓eIsi.objIs, ↓isiB, ↓kindN, ↓isInt, ↓isBool, ↓isStr, ↓isTup, ↓isLst, ↓isDic, ↓objOf, ↓objS, ↓listD, ↓tupD, ↓maxI, ↓minI, ↓absD, ↓intD, ↓allD, ↓anyD, ↓sumD, ↓iOf, ↓iRange1, ↓iRange2, ↓itemsOf, ↓gN, ↓sFor, ↓sTry, ↓sRaise, ↓eFld, ↓sSetF, ↓setFM, ↓one, ↓eMakeS, ↓eMakeSL, ↓starD, ↓makeM, ↓eMake, ↓eCMeth, ↓eProp, ↓eMeth, ↓eOpM, ↓inO, ↓spO, ↓spO1, ↓rg1, ↓rg2, ↓lenSetD, ↓splitD, ↓joinD, ↓countD, ↓sortD, ↓sortItems, ↓dictD, ↓reprD, ↓eDict0, ↓disp1, ↓keyD, ↓FL, ↓sAsg, ↓gT, ↓gsCons, ↓gsNil, ↓sPar3, ↓st3, ↓valsOf, ↓lt, ↓eComp, ↓wipeE, lp__law_is_right_4,  E11,  hq])
  rw [hmap, List.nil_append] at hc
  have tw : eqD (.lst [numberS, numberS, numberS, numberS, numberS, numberS, numberS, numberS, numberS, numberS, numberS, numberS]) (.lst [numberS, numberS, numberS, numberS, numberS, numberS, numberS, numberS, numberS, numberS, numberS, numberS]) = some (.v (.bl true)) := twelve
  simp [↓funD, ↓funV, ↓callM, ↓argsOf, ↓argOf, ↓argS, ↓back, ↓put1, ↓isOwn, ↓sidx, ↓eCall, ↓sSeq, ↓sIf, ↓sE, ↓toB, ↓M.bind, ↓eOp, ↓opM, ↓toA, ↓oName, ↓eName, ↓eC, ↓M.ret, ↓M.stuck, ↓lift, ↓deref, ↓rdS, ↓frz, ↓frzC, ↓eB, ↓bM, ↓asCons, ↓asNil, ↓derefs, ↓vals, ↓eTup, ↓eLst, ↓sRet, ↓sRetV, ↓sSet, ↓slotOf, ↓sExpr, ↓sNil, ↓sBreak, ↓sCont, ↓sRetN, ↓orD, ↓orB, ↓opI2, ↓yes2, ↓okMul, ↓okDiv, ↓okMod, ↓okPow, ↓ltI, ↓leI, ↓gtI, ↓geI, ↓addI, ↓addS, ↓addL, ↓addT, ↓subD, ↓mulI, ↓mulS, ↓mulL, ↓mulT, ↓divD, ↓modD, ↓powD, ↓ltD, ↓ltS, ↓addD, ↓vB, ↓vI, ↓sSetL, ↓sSetD, ↓atV, ↓grd, ↓setLM, ↓setDM, ↓ixD, ↓seqD, ↓lenD, ↓sPar, ↓eAnd, ↓eOr, ↓eNot, ↓eIf, ↓bAnd, ↓bOr, ↓bNot, ↓eNeg, ↓negD, ↓eChain, ↓eqS, ↓neD, ↓neS, ↓scalD, ↓scEq, ↓isD, ↓isB, ↓isNon, ↓inD, ↓ninD, ↓inC, ↓inL, ↓flatD, ↓flEq, ↓eBM, ↓tyM, ↓isStrD, ↓isLstD, ↓mutM, ↓ownLst, ↓opAppend, ↓opExtend, ↓opPop, ↓eSlice, ↓pNo, ↓pYes, ↓sliceD, ↓eIsi, ↓eIsi.objIs, ↓isiB, ↓kindN, ↓isInt, ↓isBool, ↓isStr, ↓isTup, ↓isLst, ↓isDic, ↓objOf, ↓objS, ↓listD, ↓tupD, ↓maxI, ↓minI, ↓absD, ↓intD, ↓allD, ↓anyD, ↓sumD, ↓iOf, ↓iRange1, ↓iRange2, ↓itemsOf, ↓gN, ↓sFor, ↓sTry, ↓sRaise, ↓eFld, ↓sSetF, ↓setFM, ↓one, ↓eMakeS, ↓eMakeSL, ↓starD, ↓makeM, ↓eMake, ↓eCMeth, ↓eProp, ↓eMeth, ↓eOpM, ↓inO, ↓spO, ↓spO1, ↓rg1, ↓rg2, ↓lenSetD, ↓splitD, ↓joinD, ↓countD, ↓sortD, ↓sortItems, ↓dictD, ↓reprD, ↓eDict0, ↓disp1, ↓keyD, ↓FL, ↓sAsg, ↓gT, ↓gsCons, ↓gsNil, ↓sPar3, ↓st3, ↓valsOf, ↓lt, ↓eComp, ↓wipeE, E11,  hc,  hlen,  tw,  twelve']
theorem is_right_ok (hs : Src s) : ∃ s', Src s' ∧ sem__law_is_right C0 [.own (.lst s)] = some (.ok (.v (.bl true)) [.own (.lst s')]) := by
  obtain ⟨m, rs, s', hs', h1, hm, hf, hn, hrows⟩ := rows_ok hs
  obtain ⟨ds, p, hs1, hs2⟩ := sort_all rs (by have := hf.2.1; unfold big; omega)
  have hdl : ∀ r ∈ ds, r.length = m ∧ ∀ c ∈ r, c = 48 ∨ c = 49 := fun r hr => mem_allR.mp (hf.2.2 r (p.mem_iff.mp hr))
  have hsh : ShortS ds := ⟨by rw [p.length_eq]; have := hf.2.1; omega, fun r hr => ⟨by rw [(hdl r hr).1]; omega, fun c hc => by rcases (hdl r hr).2 c hc with rfl | rfl <;> omega⟩⟩
  obtain ⟨o, l, hd⟩ : ∃ o l, ds = o :: l := List.exists_cons_of_ne_nil fun e => by
    subst e
    exact hf.1 p.symm.eq_nil
  have ho := (hdl o (by rw [hd]; exact List.mem_cons_self ..)).1
  have e1 : (sSet 1 (eCall sem__law_rows (asCons (oName 0) (asCons (toA (eC (.int 6))) asNil)))) (E11 s .emp .emp .emp .emp .emp .emp .emp .emp) = some (.nx (E11 s' (.own (.lst (strL rs))) .emp .emp .emp .emp .emp .emp .emp)) := by
    simp [↓funD, ↓funV, ↓callM, ↓argsOf, ↓argOf, ↓argS, ↓back, ↓put1, ↓isOwn, ↓sidx, ↓eCall, ↓sSeq, ↓sIf, ↓sE, ↓toB, ↓M.bind, ↓eOp, ↓opM, ↓toA, ↓oName, ↓eName, ↓eC, ↓M.ret, ↓M.stuck, ↓lift, ↓deref, ↓rdS, ↓frz, ↓frzC, ↓eB, ↓bM, ↓asCons, ↓asNil, ↓derefs, ↓vals, ↓eTup, ↓eLst, ↓sRet, ↓sRetV, ↓sSet, ↓slotOf, ↓sExpr, ↓sNil, ↓sBreak, ↓sCont, ↓sRetN, ↓orD, ↓orB, ↓opI2, ↓yes2, ↓okMul, ↓okDiv, ↓okMod, ↓okPow, ↓ltI, ↓leI, ↓gtI, ↓geI, ↓addI, ↓addS, ↓addL, ↓addT, ↓subD, ↓mulI, ↓mulD, ↓mulS, ↓mulL, ↓mulT, ↓divD, ↓modD, ↓powD, ↓ltD, ↓ltS, ↓addD, ↓vB, ↓vI, ↓sSetL, ↓sSetD, ↓atV, ↓grd, ↓setLM, ↓setDM, ↓ixD, ↓seqD, ↓lenD, ↓sPar, ↓eAnd, ↓eOr, ↓eNot, ↓eIf, ↓bAnd, ↓bOr, ↓bNot, ↓eNeg, ↓negD, ↓eChain, ↓eqD, ↓eqS, ↓neD, ↓neS, ↓scalD, ↓scEq, ↓isD, ↓isB, ↓isNon, ↓inD, ↓ninD, ↓inC, ↓inL, ↓flatD, ↓flEq, ↓eBM, ↓tyM, ↓isStrD, ↓isLstD, ↓mutM, ↓ownLst, ↓opAppend, ↓opExtend, ↓opPop, ↓eSlice, ↓pNo, ↓pYes, ↓sliceD, ↓eIsi, ↓eIsi.objIs, ↓isiB, ↓kindN, ↓isInt, ↓isBool, ↓isStr, ↓isTup, ↓isLst, ↓isDic, ↓objOf, ↓objS, ↓listD, ↓tupD, ↓maxI, ↓minI, ↓absD, ↓intD, ↓allD, ↓anyD, ↓sumD, ↓iOf, ↓iRange1, ↓iRange2, ↓itemsOf, ↓gN, ↓sFor, ↓sTry, ↓sRaise, ↓eFld, ↓sSetF, ↓setFM, ↓one, ↓eMakeS, ↓eMakeSL, ↓starD, ↓makeM, ↓eMake, ↓eCMeth, ↓eProp, ↓eMeth, ↓eOpM, ↓inO, ↓spO, ↓spO1, ↓rg1, ↓rg2, ↓lenSetD, ↓splitD, ↓joinD, ↓countD, ↓sortD, ↓sortItems, ↓dictD, ↓reprD, ↓eDict0, ↓disp1, ↓keyD, ↓FL, ↓sAsg, ↓gT, ↓gsCons, ↓gsNil, ↓sPar3, ↓st3, ↓valsOf, ↓lt, ↓eComp, ↓wipeE, E11,  hrows]
  have e2 := q2 (s := s') (C0 := C0) (c := .emp) (d := .emp) (e := .emp) (f := .emp) (g := .emp) (h := .emp) (i := .emp) h1 hm hf hn hs1 hs2
  obtain ⟨x, y, e3⟩ := q3 (s := s') (ds := ds) (e := .emp) (f := .emp) (g := .emp) (h := .emp) (i := .emp) h1 hm hf
  have e4 := q4 (s := s') (b := .own (.lst (strL rs))) (c := .val (Bd ds)) (e := x) (f := y) (g := .emp) (h := .emp) (i := .emp) hd
  have e5 := q5 (s := s') (b := .own (.lst (strL rs))) (c := .val (Bd ds)) (d := .val (dL ds)) (e := x) (f := y) (h := .emp) (i := .emp) (o := o) (by omega) (by omega)
  have e6 := q6 (s := s') (b := .own (.lst (strL rs))) (d := .val (dL ds)) (e := x) (f := y) (g := .val (.str o)) (i := .emp) hd hdl h1
  have e7 := q7 (s := s') (b := .own (.lst (strL rs))) (e := x) (f := y) (g := .val (.str o)) (h := .val (.lst (oddL o))) (i := .emp) hsh
  have e8 := q8 (s := s') (b := .own (.lst (strL rs))) (c := .val (Bd ds)) (ds := ds) (e := x) (f := y) (h := .val (.lst (oddL o))) (i := .emp) (o := o)
  have e9 := q9 (s := s') (b := .own (.lst (strL rs))) (d := .val (dL ds)) (e := x) (f := y) (g := .val (.str o)) (h := .val (.lst (oddL o))) (o := o) hsh
  refine ⟨s', hs', ?_⟩
  have hb := sSeq_of e1 (sSeq_of e2 (sSeq_of e3 (sSeq_of e4 (sSeq_of e5 (sSeq_of e6 (sSeq_of e7 (sSeq_of e8 e9)))))))
  exact funD_rt (n := 11) (np := 1) (body := bd__law_is_right C0) (args := [.own (.lst s)]) rfl hb
theorem law_true (C0 : Addr) (ns : List Int) (hn : ns.length ≤ 63) : ∃ e, sem_law C0 [.val (.scr ns)] = some (.ok (.v (.bl true)) e) := by
  obtain ⟨k, hk, hk2⟩ : ∃ k : Nat, k < 1000 ∧ (if 1 < if 4 < (ns.length : Int) then (4 : Int) else (ns.length : Int) then if 4 < (ns.length : Int) then (4 : Int) else (ns.length : Int) else 1) = k := by
    by_cases q : 4 < (ns.length : Int)
    · exact ⟨4, by omega, by rw [if_pos q, if_pos (by omega)]; rfl⟩
    · by_cases q2 : 1 < (ns.length : Int)
      · exact ⟨ns.length, by omega, by rw [if_neg q, if_pos q2]⟩
      · exact ⟨1, by omega, by rw [if_neg q, if_neg q2]; rfl⟩
  have inner : ∀ (s : List D) (x y : Dt.Slot), Src s → ∃ s' y', Src s' ∧ forL (gN 3) (lp_law_0 C0) (rangeD 0 6) [.val (.scr ns), x, .own (.lst s), y] = some (.nx [.val (.scr ns), x, .own (.lst s'), y']) := by
    intro s x y hs
    obtain ⟨e', h1, s', y', h2, rfl⟩ := forL_is (t := gN 3) (body := lp_law_0 C0) (ds := rangeD 0 6) (e := [.val (.scr ns), x, .own (.lst s), y]) (fun k e => ∃ s' y', Src s' ∧ e = [.val (.scr ns), x, .own (.lst s'), y']) rfl ⟨_, _, hs, rfl⟩ (by
      rintro j e d hd ⟨s, y, hs, rfl⟩
      obtain ⟨s', hs', h⟩ := is_right_ok (C0 := C0) hs
      refine ⟨_, [.val (.scr ns), x, .own (.lst s'), .val d], rfl, ?_, _, _, hs', rfl⟩
      simp [↓funD, ↓funV, ↓callM, ↓argsOf, ↓argOf, ↓argS, ↓back, ↓put1, ↓isOwn, ↓sidx, ↓eCall, ↓sSeq, ↓sIf, ↓sE, ↓toB, ↓M.bind, ↓eOp, ↓opM, ↓toA, ↓oName, ↓eName, ↓eC, ↓M.ret, ↓M.stuck, ↓lift, ↓deref, ↓rdS, ↓frz, ↓frzC, ↓eB, ↓bM, ↓asCons, ↓asNil, ↓derefs, ↓vals, ↓eTup, ↓eLst, ↓sRet, ↓sRetV, ↓sSet, ↓slotOf, ↓sExpr, ↓sNil, ↓sBreak, ↓sCont, ↓sRetN, ↓orD, ↓orB, ↓opI2, ↓yes2, ↓okMul, ↓okDiv, ↓okMod, ↓okPow, ↓ltI, ↓leI, ↓gtI, ↓geI, ↓addI, ↓addS, ↓addL, ↓addT, ↓subD, ↓mulI, ↓mulD, ↓mulS, ↓mulL, ↓mulT, ↓divD, ↓modD, ↓powD, ↓ltD, ↓ltS, ↓addD, ↓vB, ↓vI, ↓sSetL, ↓sSetD, ↓atV, ↓grd, ↓setLM, ↓setDM, ↓ixD, ↓seqD, ↓lenD, ↓sPar, ↓eAnd, ↓eOr, ↓eNot, ↓eIf, ↓bAnd, ↓bOr, ↓bNot, ↓eNeg, ↓negD, ↓eChain, ↓eqD, ↓eqS, ↓neD, ↓neS, ↓scalD, ↓scEq, ↓isD, ↓isB, ↓isNon, ↓inD, ↓ninD, ↓inC, ↓inL, ↓flatD, ↓flEq, ↓eBM, ↓tyM, ↓isStrD, ↓isLstD, ↓mutM, ↓ownLst, ↓opAppend, ↓opExtend, ↓opPop, ↓eSlice, ↓pNo, ↓pYes, ↓sliceD, ↓eIsi, ↓eIsi.objIs, ↓isiB, ↓kindN, ↓isInt, ↓isBool, ↓isStr, ↓isTup, ↓isLst, ↓isDic, ↓objOf, ↓objS, ↓listD, ↓tupD, ↓maxI, ↓minI, ↓absD, ↓intD, ↓allD, ↓anyD, ↓sumD, ↓iOf, ↓iRange1, ↓iRange2, ↓itemsOf, ↓gN, ↓sFor, ↓sTry, ↓sRaise, ↓eFld, ↓sSetF, ↓setFM, ↓one, ↓eMakeS, ↓eMakeSL, ↓starD, ↓makeM, ↓eMake, ↓eCMeth, ↓eProp, ↓eMeth, ↓eOpM, ↓inO, ↓spO, ↓spO1, ↓rg1, ↓rg2, ↓lenSetD, ↓splitD, ↓joinD, ↓countD, ↓sortD, ↓sortItems, ↓dictD, ↓reprD, ↓eDict0, ↓disp1, ↓keyD, ↓FL, ↓sAsg, ↓gT, ↓gsCons, ↓gsNil, ↓sPar3, ↓st3, ↓valsOf, ↓lt, ↓eComp, ↓wipeE, lp_law_0,  h])
    exact ⟨s', y', h2, h1⟩
  have outer : ∃ x y z, forL (gN 1) (lp_law_1 C0) (rangeD 0 k) [.val (.scr ns), .emp, .emp, .emp] = some (.nx [.val (.scr ns), x, y, z]) := by
    obtain ⟨e', h1, x, y, z, rfl⟩ := forL_is (t := gN 1) (body := lp_law_1 C0) (ds := rangeD 0 k) (e := [.val (.scr ns), .emp, .emp, .emp]) (fun k e => ∃ x y z, e = [.val (.scr ns), x, y, z]) rfl ⟨_, _, _, rfl⟩ (by
      rintro j e d hd ⟨x, y, z, rfl⟩
      obtain ⟨i, rfl⟩ : ∃ i : Nat, d = .int i := by
        have := List.mem_of_getElem? hd
        simp [rangeD] at this
        obtain ⟨i, _, rfl⟩ := this
        exact ⟨i, rfl⟩
      obtain ⟨c, hc⟩ := cell_ok ns i
      obtain ⟨s, hs, hsrc⟩ := source_ok c
      obtain ⟨s', y', hs', hin⟩ := inner s (.val (.int i)) z hs
      refine ⟨_, [.val (.scr ns), .val (.int i), .own (.lst s'), y'], rfl, ?_, _, _, _, rfl⟩
      have h6 : small62 6 = true := rfl
      simp [↓funD, ↓funV, ↓callM, ↓argsOf, ↓argOf, ↓argS, ↓back, ↓put1, ↓isOwn, ↓sidx, ↓eCall, ↓sSeq, ↓sIf, ↓sE, ↓toB, ↓M.bind, ↓eOp, ↓opM, ↓toA, ↓oName, ↓eName, ↓eC, ↓M.ret, ↓M.stuck, ↓lift, ↓deref, ↓rdS, ↓frz, ↓frzC, ↓eB, ↓bM, ↓asCons, ↓asNil, ↓derefs, ↓vals, ↓eTup, ↓eLst, ↓sRet, ↓sRetV, ↓sSet, ↓slotOf, ↓sExpr, ↓sNil, ↓sBreak, ↓sCont, ↓sRetN, ↓orD, ↓orB, ↓opI2, ↓yes2, ↓okMul, ↓okDiv, ↓okMod, ↓okPow, ↓ltI, ↓leI, ↓gtI, ↓geI, ↓addI, ↓addS, ↓addL, ↓addT, ↓subD, ↓mulI, ↓mulD, ↓mulS, ↓mulL, ↓mulT, ↓divD, ↓modD, ↓powD, ↓ltD, ↓ltS, ↓addD, ↓vB, ↓vI, ↓sSetL, ↓sSetD, ↓atV, ↓grd, ↓setLM, ↓setDM, ↓ixD, ↓seqD, ↓lenD, ↓sPar, ↓eAnd, ↓eOr, ↓eNot, ↓eIf, ↓bAnd, ↓bOr, ↓bNot, ↓eNeg, ↓negD, ↓eChain, ↓eqD, ↓eqS, ↓neD, ↓neS, ↓scalD, ↓scEq, ↓isD, ↓isB, ↓isNon, ↓inD, ↓ninD, ↓inC, ↓inL, ↓flatD, ↓flEq, ↓eBM, ↓tyM, ↓isStrD, ↓isLstD, ↓mutM, ↓ownLst, ↓opAppend, ↓opExtend, ↓opPop, ↓eSlice, ↓pNo, ↓pYes, ↓sliceD, ↓eIsi, ↓eIsi.objIs, ↓isiB, ↓kindN, ↓isInt, ↓isBool, ↓isStr, ↓isTup, ↓isLst, ↓isDic, ↓objOf, ↓objS, ↓listD, ↓tupD, ↓maxI, ↓minI, ↓absD, ↓intD, ↓allD, ↓anyD, ↓sumD, ↓iOf, ↓iRange1, ↓iRange2, ↓itemsOf, ↓gN, ↓sFor, ↓sTry, ↓sRaise, ↓eFld, ↓sSetF, ↓setFM, ↓one, ↓eMakeS, ↓eMakeSL, ↓starD, ↓makeM, ↓eMake, ↓eCMeth, ↓eProp, ↓eMeth, ↓eOpM, ↓inO, ↓spO, ↓spO1, ↓rg1, ↓rg2, ↓lenSetD, ↓splitD, ↓joinD, ↓countD, ↓sortD, ↓sortItems, ↓dictD, ↓reprD, ↓eDict0, ↓disp1, ↓keyD, ↓FL, ↓sAsg, ↓gT, ↓gsCons, ↓gsNil, ↓sPar3, ↓st3, ↓valsOf, ↓lt, ↓eComp, ↓wipeE, lp_law_1,  hc,  hsrc,  h6,  hin])
    exact ⟨x, y, z, h1⟩
  obtain ⟨x, y, z, ho⟩ := outer
  have h62 := small_of (show k < 1000000 by omega)
  simp [↓funD, ↓funV, ↓callM, ↓argsOf, ↓argOf, ↓argS, ↓back, ↓put1, ↓isOwn, ↓sidx, ↓eCall, ↓sSeq, ↓sIf, ↓sE, ↓toB, ↓M.bind, ↓eOp, ↓opM, ↓toA, ↓oName, ↓eName, ↓eC, ↓M.ret, ↓M.stuck, ↓lift, ↓deref, ↓rdS, ↓frz, ↓frzC, ↓eB, ↓bM, ↓asCons, ↓asNil, ↓derefs, ↓vals, ↓eTup, ↓eLst, ↓sRet, ↓sRetV, ↓sSet, ↓slotOf, ↓sExpr, ↓sNil, ↓sBreak, ↓sCont, ↓sRetN, ↓orD, ↓orB, ↓opI2, ↓yes2, ↓okMul, ↓okDiv, ↓okMod, ↓okPow, ↓ltI, ↓leI, ↓gtI, ↓geI, ↓addI, ↓addS, ↓addL, ↓addT, ↓subD, ↓mulI, ↓mulD, ↓mulS, ↓mulL, ↓mulT, ↓divD, ↓modD, ↓powD, ↓ltD, ↓ltS, ↓addD, ↓vB, ↓vI, ↓sSetL, ↓sSetD, ↓atV, ↓grd, ↓setLM, ↓setDM, ↓ixD, ↓seqD, ↓lenD, ↓sPar, ↓eAnd, ↓eOr, ↓eNot, ↓eIf, ↓bAnd, ↓bOr, ↓bNot, ↓eNeg, ↓negD, ↓eChain, ↓eqD, ↓eqS, ↓neD, ↓neS, ↓scalD, ↓scEq, ↓isD, ↓isB, ↓isNon, ↓inD, ↓ninD, ↓inC, ↓inL, ↓flatD, ↓flEq, ↓eBM, ↓tyM, ↓isStrD, ↓isLstD, ↓mutM, ↓ownLst, ↓opAppend, ↓opExtend, ↓opPop, ↓eSlice, ↓pNo, ↓pYes, ↓sliceD, ↓eIsi, ↓eIsi.objIs, ↓isiB, ↓kindN, ↓isInt, ↓isBool, ↓isStr, ↓isTup, ↓isLst, ↓isDic, ↓objOf, ↓objS, ↓listD, ↓tupD, ↓maxI, ↓minI, ↓absD, ↓intD, ↓allD, ↓anyD, ↓sumD, ↓iOf, ↓iRange1, ↓iRange2, ↓itemsOf, ↓gN, ↓sFor, ↓sTry, ↓sRaise, ↓eFld, ↓sSetF, ↓setFM, ↓one, ↓eMakeS, ↓eMakeSL, ↓starD, ↓makeM, ↓eMake, ↓eCMeth, ↓eProp, ↓eMeth, ↓eOpM, ↓inO, ↓spO, ↓spO1, ↓rg1, ↓rg2, ↓lenSetD, ↓splitD, ↓joinD, ↓countD, ↓sortD, ↓sortItems, ↓dictD, ↓reprD, ↓eDict0, ↓disp1, ↓keyD, ↓FL, ↓sAsg, ↓gT, ↓gsCons, ↓gsNil, ↓sPar3, ↓st3, ↓valsOf, ↓lt, ↓eComp, ↓wipeE, sem_law,  bd_law,  hk2,  h62,  ho]
end Lw
end
section
set_option maxRecDepth 100000
set_option maxHeartbeats 4000000
namespace Lw
open PySem PySem.Spec L2 Dt
open PyProof.Rows hiding St
theorem all_mk {K : PySem.W.Frag} {h : Heap} {mg : Str → Option Value} {w : World} {fa : Addr} {C_QuotaError C_RowsError C_TextError C_NumberError C_Board f__law_source f__law_cell f__law_draw f__law_all_rows f__law_choose f__law_mixed f__law_rows f_is_answers f_are_rows f_Board___init__ f_Board_read f__law_is_equal f_Board___contains__ f_is_integer f_Board___getitem__ f__law_at f__law_is_right f_law p_Board_read : Addr} (X : K.In h) (G : h.Ns mainGlobals mg) (hfa : mg "law" = some (.ref fa))
    (z_all : PySem.W.nsIn K mainGlobals "all" = some none)
    (z_bool : PySem.W.nsIn K mainGlobals "bool" = some none)
    (z_dict : PySem.W.nsIn K mainGlobals "dict" = some none)
    (z_int : PySem.W.nsIn K mainGlobals "int" = some none)
    (z_isinstance : PySem.W.nsIn K mainGlobals "isinstance" = some none)
    (z_len : PySem.W.nsIn K mainGlobals "len" = some none)
    (z_list : PySem.W.nsIn K mainGlobals "list" = some none)
    (z_max : PySem.W.nsIn K mainGlobals "max" = some none)
    (z_min : PySem.W.nsIn K mainGlobals "min" = some none)
    (z_range : PySem.W.nsIn K mainGlobals "range" = some none)
    (z_repr : PySem.W.nsIn K mainGlobals "repr" = some none)
    (z_set : PySem.W.nsIn K mainGlobals "set" = some none)
    (z_sorted : PySem.W.nsIn K mainGlobals "sorted" = some none)
    (z_str : PySem.W.nsIn K mainGlobals "str" = some none)
    (z_tuple : PySem.W.nsIn K mainGlobals "tuple" = some none)
    (g_QuotaError : PySem.W.nsIn K mainGlobals "QuotaError" = some (some (.ref C_QuotaError)))
    (g_RowsError : PySem.W.nsIn K mainGlobals "RowsError" = some (some (.ref C_RowsError)))
    (g_TextError : PySem.W.nsIn K mainGlobals "TextError" = some (some (.ref C_TextError)))
    (g_NumberError : PySem.W.nsIn K mainGlobals "NumberError" = some (some (.ref C_NumberError)))
    (g_Board : PySem.W.nsIn K mainGlobals "Board" = some (some (.ref C_Board)))
    (g__law_source : PySem.W.nsIn K mainGlobals "_law_source" = some (some (.ref f__law_source)))
    {oc__law_source kV__law_source dc__law_source pm__law_source cd__law_source ct__law_source : Value} {od__law_source an__law_source : Option Addr} {sl__law_source : Array (Option Value)} (l__law_source : K.lookup f__law_source = some ⟨oc__law_source, od__law_source, .func (PySem.W.fnOf "_law_source" "_law_source" (defArgs st__law_source) (defBody st__law_source) (defScope st__law_source) .none kV__law_source dc__law_source pm__law_source an__law_source cd__law_source ct__law_source), sl__law_source⟩)
    (c__law_source : PySem.W.codeIn K cd__law_source "_law_source" = true)
    (k__law_source : PySem.W.keepIn K (.ref f__law_source) = true)
    (g__law_cell : PySem.W.nsIn K mainGlobals "_law_cell" = some (some (.ref f__law_cell)))
    {oc__law_cell kV__law_cell dc__law_cell pm__law_cell cd__law_cell ct__law_cell : Value} {od__law_cell an__law_cell : Option Addr} {sl__law_cell : Array (Option Value)} (l__law_cell : K.lookup f__law_cell = some ⟨oc__law_cell, od__law_cell, .func (PySem.W.fnOf "_law_cell" "_law_cell" (defArgs st__law_cell) (defBody st__law_cell) (defScope st__law_cell) .none kV__law_cell dc__law_cell pm__law_cell an__law_cell cd__law_cell ct__law_cell), sl__law_cell⟩)
    (c__law_cell : PySem.W.codeIn K cd__law_cell "_law_cell" = true)
    (k__law_cell : PySem.W.keepIn K (.ref f__law_cell) = true)
    (g__law_draw : PySem.W.nsIn K mainGlobals "_law_draw" = some (some (.ref f__law_draw)))
    {oc__law_draw kV__law_draw dc__law_draw pm__law_draw cd__law_draw ct__law_draw : Value} {od__law_draw an__law_draw : Option Addr} {sl__law_draw : Array (Option Value)} (l__law_draw : K.lookup f__law_draw = some ⟨oc__law_draw, od__law_draw, .func (PySem.W.fnOf "_law_draw" "_law_draw" (defArgs st__law_draw) (defBody st__law_draw) (defScope st__law_draw) .none kV__law_draw dc__law_draw pm__law_draw an__law_draw cd__law_draw ct__law_draw), sl__law_draw⟩)
    (c__law_draw : PySem.W.codeIn K cd__law_draw "_law_draw" = true)
    (k__law_draw : PySem.W.keepIn K (.ref f__law_draw) = true)
    (g__law_all_rows : PySem.W.nsIn K mainGlobals "_law_all_rows" = some (some (.ref f__law_all_rows)))
    {oc__law_all_rows kV__law_all_rows dc__law_all_rows pm__law_all_rows cd__law_all_rows ct__law_all_rows : Value} {od__law_all_rows an__law_all_rows : Option Addr} {sl__law_all_rows : Array (Option Value)} (l__law_all_rows : K.lookup f__law_all_rows = some ⟨oc__law_all_rows, od__law_all_rows, .func (PySem.W.fnOf "_law_all_rows" "_law_all_rows" (defArgs st__law_all_rows) (defBody st__law_all_rows) (defScope st__law_all_rows) .none kV__law_all_rows dc__law_all_rows pm__law_all_rows an__law_all_rows cd__law_all_rows ct__law_all_rows), sl__law_all_rows⟩)
    (c__law_all_rows : PySem.W.codeIn K cd__law_all_rows "_law_all_rows" = true)
    (k__law_all_rows : PySem.W.keepIn K (.ref f__law_all_rows) = true)
    (g__law_choose : PySem.W.nsIn K mainGlobals "_law_choose" = some (some (.ref f__law_choose)))
    {oc__law_choose kV__law_choose dc__law_choose pm__law_choose cd__law_choose ct__law_choose : Value} {od__law_choose an__law_choose : Option Addr} {sl__law_choose : Array (Option Value)} (l__law_choose : K.lookup f__law_choose = some ⟨oc__law_choose, od__law_choose, .func (PySem.W.fnOf "_law_choose" "_law_choose" (defArgs st__law_choose) (defBody st__law_choose) (defScope st__law_choose) .none kV__law_choose dc__law_choose pm__law_choose an__law_choose cd__law_choose ct__law_choose), sl__law_choose⟩)
    (c__law_choose : PySem.W.codeIn K cd__law_choose "_law_choose" = true)
    (k__law_choose : PySem.W.keepIn K (.ref f__law_choose) = true)
    (g__law_mixed : PySem.W.nsIn K mainGlobals "_law_mixed" = some (some (.ref f__law_mixed)))
    {oc__law_mixed kV__law_mixed dc__law_mixed pm__law_mixed cd__law_mixed ct__law_mixed : Value} {od__law_mixed an__law_mixed : Option Addr} {sl__law_mixed : Array (Option Value)} (l__law_mixed : K.lookup f__law_mixed = some ⟨oc__law_mixed, od__law_mixed, .func (PySem.W.fnOf "_law_mixed" "_law_mixed" (defArgs st__law_mixed) (defBody st__law_mixed) (defScope st__law_mixed) .none kV__law_mixed dc__law_mixed pm__law_mixed an__law_mixed cd__law_mixed ct__law_mixed), sl__law_mixed⟩)
    (c__law_mixed : PySem.W.codeIn K cd__law_mixed "_law_mixed" = true)
    (k__law_mixed : PySem.W.keepIn K (.ref f__law_mixed) = true)
    (g__law_rows : PySem.W.nsIn K mainGlobals "_law_rows" = some (some (.ref f__law_rows)))
    {oc__law_rows kV__law_rows dc__law_rows pm__law_rows cd__law_rows ct__law_rows : Value} {od__law_rows an__law_rows : Option Addr} {sl__law_rows : Array (Option Value)} (l__law_rows : K.lookup f__law_rows = some ⟨oc__law_rows, od__law_rows, .func (PySem.W.fnOf "_law_rows" "_law_rows" (defArgs st__law_rows) (defBody st__law_rows) (defScope st__law_rows) .none kV__law_rows dc__law_rows pm__law_rows an__law_rows cd__law_rows ct__law_rows), sl__law_rows⟩)
    (c__law_rows : PySem.W.codeIn K cd__law_rows "_law_rows" = true)
    (k__law_rows : PySem.W.keepIn K (.ref f__law_rows) = true)
    (g_is_answers : PySem.W.nsIn K mainGlobals "is_answers" = some (some (.ref f_is_answers)))
    {oc_is_answers kV_is_answers dc_is_answers pm_is_answers cd_is_answers ct_is_answers : Value} {od_is_answers an_is_answers : Option Addr} {sl_is_answers : Array (Option Value)} (l_is_answers : K.lookup f_is_answers = some ⟨oc_is_answers, od_is_answers, .func (PySem.W.fnOf "is_answers" "is_answers" (defArgs st_is_answers) (defBody st_is_answers) (defScope st_is_answers) .none kV_is_answers dc_is_answers pm_is_answers an_is_answers cd_is_answers ct_is_answers), sl_is_answers⟩)
    (c_is_answers : PySem.W.codeIn K cd_is_answers "is_answers" = true)
    (k_is_answers : PySem.W.keepIn K (.ref f_is_answers) = true)
    (g_are_rows : PySem.W.nsIn K mainGlobals "are_rows" = some (some (.ref f_are_rows)))
    {oc_are_rows kV_are_rows dc_are_rows pm_are_rows cd_are_rows ct_are_rows : Value} {od_are_rows an_are_rows : Option Addr} {sl_are_rows : Array (Option Value)} (l_are_rows : K.lookup f_are_rows = some ⟨oc_are_rows, od_are_rows, .func (PySem.W.fnOf "are_rows" "are_rows" (defArgs st_are_rows) (defBody st_are_rows) (defScope st_are_rows) .none kV_are_rows dc_are_rows pm_are_rows an_are_rows cd_are_rows ct_are_rows), sl_are_rows⟩)
    (c_are_rows : PySem.W.codeIn K cd_are_rows "are_rows" = true)
    (k_are_rows : PySem.W.keepIn K (.ref f_are_rows) = true)
    {oc_Board___init__ kV_Board___init__ dc_Board___init__ pm_Board___init__ cd_Board___init__ ct_Board___init__ : Value} {od_Board___init__ an_Board___init__ : Option Addr} {sl_Board___init__ : Array (Option Value)} (l_Board___init__ : K.lookup f_Board___init__ = some ⟨oc_Board___init__, od_Board___init__, .func (PySem.W.fnOf "__init__" "Board.__init__" (defArgs st_Board___init__) (defBody st_Board___init__) (defScope st_Board___init__) .none kV_Board___init__ dc_Board___init__ pm_Board___init__ an_Board___init__ cd_Board___init__ ct_Board___init__), sl_Board___init__⟩)
    (c_Board___init__ : PySem.W.codeIn K cd_Board___init__ "Board.__init__" = true)
    (k_Board___init__ : PySem.W.keepIn K (.ref f_Board___init__) = true)
    {oc_Board_read kV_Board_read dc_Board_read pm_Board_read cd_Board_read ct_Board_read : Value} {od_Board_read an_Board_read : Option Addr} {sl_Board_read : Array (Option Value)} (l_Board_read : K.lookup f_Board_read = some ⟨oc_Board_read, od_Board_read, .func (PySem.W.fnOf "read" "Board.read" (defArgs st_Board_read) (defBody st_Board_read) (defScope st_Board_read) .none kV_Board_read dc_Board_read pm_Board_read an_Board_read cd_Board_read ct_Board_read), sl_Board_read⟩)
    (c_Board_read : PySem.W.codeIn K cd_Board_read "Board.read" = true)
    (k_Board_read : PySem.W.keepIn K (.ref f_Board_read) = true)
    (g__law_is_equal : PySem.W.nsIn K mainGlobals "_law_is_equal" = some (some (.ref f__law_is_equal)))
    {oc__law_is_equal kV__law_is_equal dc__law_is_equal pm__law_is_equal cd__law_is_equal ct__law_is_equal : Value} {od__law_is_equal an__law_is_equal : Option Addr} {sl__law_is_equal : Array (Option Value)} (l__law_is_equal : K.lookup f__law_is_equal = some ⟨oc__law_is_equal, od__law_is_equal, .func (PySem.W.fnOf "_law_is_equal" "_law_is_equal" (defArgs st__law_is_equal) (defBody st__law_is_equal) (defScope st__law_is_equal) .none kV__law_is_equal dc__law_is_equal pm__law_is_equal an__law_is_equal cd__law_is_equal ct__law_is_equal), sl__law_is_equal⟩)
    (c__law_is_equal : PySem.W.codeIn K cd__law_is_equal "_law_is_equal" = true)
    (k__law_is_equal : PySem.W.keepIn K (.ref f__law_is_equal) = true)
    {oc_Board___contains__ kV_Board___contains__ dc_Board___contains__ pm_Board___contains__ cd_Board___contains__ ct_Board___contains__ : Value} {od_Board___contains__ an_Board___contains__ : Option Addr} {sl_Board___contains__ : Array (Option Value)} (l_Board___contains__ : K.lookup f_Board___contains__ = some ⟨oc_Board___contains__, od_Board___contains__, .func (PySem.W.fnOf "__contains__" "Board.__contains__" (defArgs st_Board___contains__) (defBody st_Board___contains__) (defScope st_Board___contains__) .none kV_Board___contains__ dc_Board___contains__ pm_Board___contains__ an_Board___contains__ cd_Board___contains__ ct_Board___contains__), sl_Board___contains__⟩)
    (c_Board___contains__ : PySem.W.codeIn K cd_Board___contains__ "Board.__contains__" = true)
    (k_Board___contains__ : PySem.W.keepIn K (.ref f_Board___contains__) = true)
    (g_is_integer : PySem.W.nsIn K mainGlobals "is_integer" = some (some (.ref f_is_integer)))
    {oc_is_integer kV_is_integer dc_is_integer pm_is_integer cd_is_integer ct_is_integer : Value} {od_is_integer an_is_integer : Option Addr} {sl_is_integer : Array (Option Value)} (l_is_integer : K.lookup f_is_integer = some ⟨oc_is_integer, od_is_integer, .func (PySem.W.fnOf "is_integer" "is_integer" (defArgs st_is_integer) (defBody st_is_integer) (defScope st_is_integer) .none kV_is_integer dc_is_integer pm_is_integer an_is_integer cd_is_integer ct_is_integer), sl_is_integer⟩)
    (c_is_integer : PySem.W.codeIn K cd_is_integer "is_integer" = true)
    (k_is_integer : PySem.W.keepIn K (.ref f_is_integer) = true)
    {oc_Board___getitem__ kV_Board___getitem__ dc_Board___getitem__ pm_Board___getitem__ cd_Board___getitem__ ct_Board___getitem__ : Value} {od_Board___getitem__ an_Board___getitem__ : Option Addr} {sl_Board___getitem__ : Array (Option Value)} (l_Board___getitem__ : K.lookup f_Board___getitem__ = some ⟨oc_Board___getitem__, od_Board___getitem__, .func (PySem.W.fnOf "__getitem__" "Board.__getitem__" (defArgs st_Board___getitem__) (defBody st_Board___getitem__) (defScope st_Board___getitem__) .none kV_Board___getitem__ dc_Board___getitem__ pm_Board___getitem__ an_Board___getitem__ cd_Board___getitem__ ct_Board___getitem__), sl_Board___getitem__⟩)
    (c_Board___getitem__ : PySem.W.codeIn K cd_Board___getitem__ "Board.__getitem__" = true)
    (k_Board___getitem__ : PySem.W.keepIn K (.ref f_Board___getitem__) = true)
    (g__law_at : PySem.W.nsIn K mainGlobals "_law_at" = some (some (.ref f__law_at)))
    {oc__law_at kV__law_at dc__law_at pm__law_at cd__law_at ct__law_at : Value} {od__law_at an__law_at : Option Addr} {sl__law_at : Array (Option Value)} (l__law_at : K.lookup f__law_at = some ⟨oc__law_at, od__law_at, .func (PySem.W.fnOf "_law_at" "_law_at" (defArgs st__law_at) (defBody st__law_at) (defScope st__law_at) .none kV__law_at dc__law_at pm__law_at an__law_at cd__law_at ct__law_at), sl__law_at⟩)
    (c__law_at : PySem.W.codeIn K cd__law_at "_law_at" = true)
    (k__law_at : PySem.W.keepIn K (.ref f__law_at) = true)
    (g__law_is_right : PySem.W.nsIn K mainGlobals "_law_is_right" = some (some (.ref f__law_is_right)))
    {oc__law_is_right kV__law_is_right dc__law_is_right pm__law_is_right cd__law_is_right ct__law_is_right : Value} {od__law_is_right an__law_is_right : Option Addr} {sl__law_is_right : Array (Option Value)} (l__law_is_right : K.lookup f__law_is_right = some ⟨oc__law_is_right, od__law_is_right, .func (PySem.W.fnOf "_law_is_right" "_law_is_right" (defArgs st__law_is_right) (defBody st__law_is_right) (defScope st__law_is_right) .none kV__law_is_right dc__law_is_right pm__law_is_right an__law_is_right cd__law_is_right ct__law_is_right), sl__law_is_right⟩)
    (c__law_is_right : PySem.W.codeIn K cd__law_is_right "_law_is_right" = true)
    (k__law_is_right : PySem.W.keepIn K (.ref f__law_is_right) = true)
    (g_law : PySem.W.nsIn K mainGlobals "law" = some (some (.ref f_law)))
    {oc_law kV_law dc_law pm_law cd_law ct_law : Value} {od_law an_law : Option Addr} {sl_law : Array (Option Value)} (l_law : K.lookup f_law = some ⟨oc_law, od_law, .func (PySem.W.fnOf "law" "law" (defArgs st_law) (defBody st_law) (defScope st_law) .none kV_law dc_law pm_law an_law cd_law ct_law), sl_law⟩)
    (c_law : PySem.W.codeIn K cd_law "law" = true)
    (k_law : PySem.W.keepIn K (.ref f_law) = true)
    (pg_Board : PySem.W.plainGet K C_Board Str.empty = true)
    (hd_Board : PySem.W.hasDictIn K C_Board = true)
    (po_Board : PySem.W.plainOver K C_Board = true)
    (sa_Board : PySem.W.findIn K (.ref C_Board) "__setattr__" = some (some (.builtin "object.__setattr__")))
    (ns_Board : PySem.W.noSeq K C_Board = true)
    (ca_Board_read : PySem.W.findCls K (.ref C_Board) (.type "type") "read" = some (.get (.builtin "classmethod.__get__") (.ref p_Board_read) .none (.ref C_Board)))
    {rs_Board_read : List Value} (cb_Board_read : PySem.W.recIn K p_Board_read "classmethod" = some (.ref f_Board_read :: rs_Board_read))
    (cf_Board_read : PySem.W.fnIn K f_Board_read = true)
    (cra_Board : PySem.W.readsIn K C_Board (.type "type") = true)
    (crb_Board : PySem.W.specialIn K (.ref C_Board) "__getattribute__" = some (some (.builtin "type.__getattribute__")))
    {tk_MOST : Tok} (cv_MOST : PySem.W.findCls K (.ref C_Board) (.type "type") "MOST" = some (.val (.int 6 tk_MOST)))
    (n_Board_known : PySem.W.findIn K (.ref C_Board) "known" = some none)
    (mk_Board : PySem.W.makesIn K C_Board = true)
    (mi_Board : PySem.W.findIn K (.ref C_Board) "__init__" = some (some (.ref f_Board___init__)))
    (mf_Board : PySem.W.isFn K (.ref f_Board___init__) = true)
    (mk2_Board : PySem.W.keepIn K (.ref C_Board) = true)
    (ma_Board___contains__ : PySem.W.findIn K (.ref C_Board) "__contains__" = some (some (.ref f_Board___contains__)))
    (mb_Board___contains__ : PySem.W.isFn K (.ref f_Board___contains__) = true)
    (mc_Board___contains__ : PySem.W.keepIn K (.ref f_Board___contains__) = true)
    (fi_Board___contains__ : PySem.W.fnIn K f_Board___contains__ = true)
    (ma_Board___getitem__ : PySem.W.findIn K (.ref C_Board) "__getitem__" = some (some (.ref f_Board___getitem__)))
    (mb_Board___getitem__ : PySem.W.isFn K (.ref f_Board___getitem__) = true)
    (mc_Board___getitem__ : PySem.W.keepIn K (.ref f_Board___getitem__) = true)
    (fi_Board___getitem__ : PySem.W.fnIn K f_Board___getitem__ = true)
    (x_QuotaError : PySem.W.excIn K C_QuotaError [.type "ValueError", .type "Exception", .type "BaseException", .type "object"] "ValueError.__new__" = true)
    (k_QuotaError : PySem.W.keepIn K (.ref C_QuotaError) = true)
    (b_QuotaError : PySem.W.subIn K (.ref C_QuotaError) (.type "BaseException") = some true)
    (t_QuotaError : PySem.W.typeIn K (.ref C_QuotaError) = some (.type "type"))
    (x_RowsError : PySem.W.excIn K C_RowsError [.type "ValueError", .type "Exception", .type "BaseException", .type "object"] "ValueError.__new__" = true)
    (k_RowsError : PySem.W.keepIn K (.ref C_RowsError) = true)
    (b_RowsError : PySem.W.subIn K (.ref C_RowsError) (.type "BaseException") = some true)
    (t_RowsError : PySem.W.typeIn K (.ref C_RowsError) = some (.type "type"))
    (x_TextError : PySem.W.excIn K C_TextError [.type "ValueError", .type "Exception", .type "BaseException", .type "object"] "ValueError.__new__" = true)
    (k_TextError : PySem.W.keepIn K (.ref C_TextError) = true)
    (b_TextError : PySem.W.subIn K (.ref C_TextError) (.type "BaseException") = some true)
    (t_TextError : PySem.W.typeIn K (.ref C_TextError) = some (.type "type"))
    (x_NumberError : PySem.W.excIn K C_NumberError [.type "ValueError", .type "Exception", .type "BaseException", .type "object"] "ValueError.__new__" = true)
    (k_NumberError : PySem.W.keepIn K (.ref C_NumberError) = true)
    (b_NumberError : PySem.W.subIn K (.ref C_NumberError) (.type "BaseException") = some true)
    (t_NumberError : PySem.W.typeIn K (.ref C_NumberError) = some (.type "type"))
    (ei_NumberError_NumberError : PySem.W.isClsIn K C_NumberError = true)
    (es_NumberError_NumberError : PySem.W.subIn K (.ref C_NumberError) (.ref C_NumberError) = some true)
    (ei_QuotaError_QuotaError : PySem.W.isClsIn K C_QuotaError = true)
    (es_QuotaError_QuotaError : PySem.W.subIn K (.ref C_QuotaError) (.ref C_QuotaError) = some true)
    : ∃ (T : Tab) (g : M EV), (∀ ns : List Int, ns.length ≤ 63 → ∃ e, g [.val (.scr ns)] = some (.ok (.v (.bl true)) e)) ∧ ∀ base : Heap, K.In base → base.Ns mainGlobals mg → FnG PySem.Challenge.pw_quotaboard_k03_rows_of_boards_by_their_s w K mg base 7 fa (spD K T g) := by
  have H : Hd K mg ⟨C_QuotaError, C_RowsError, C_TextError, C_NumberError, C_Board, f__law_source, f__law_cell, f__law_draw, f__law_all_rows, f__law_choose, f__law_mixed, f__law_rows, f_is_answers, f_are_rows, f_Board___init__, f_Board_read, f__law_is_equal, f_Board___contains__, f_is_integer, f_Board___getitem__, f__law_at, f__law_is_right, f_law, p_Board_read⟩ := hd_of X G z_all z_bool z_dict z_int z_isinstance z_len z_list z_max z_min z_range z_repr z_set z_sorted z_str z_tuple g_QuotaError g_RowsError g_TextError g_NumberError g_Board g__law_source l__law_source c__law_source k__law_source g__law_cell l__law_cell c__law_cell k__law_cell g__law_draw l__law_draw c__law_draw k__law_draw g__law_all_rows l__law_all_rows c__law_all_rows k__law_all_rows g__law_choose l__law_choose c__law_choose k__law_choose g__law_mixed l__law_mixed c__law_mixed k__law_mixed g__law_rows l__law_rows c__law_rows k__law_rows g_is_answers l_is_answers c_is_answers k_is_answers g_are_rows l_are_rows c_are_rows k_are_rows l_Board___init__ c_Board___init__ k_Board___init__ l_Board_read c_Board_read k_Board_read g__law_is_equal l__law_is_equal c__law_is_equal k__law_is_equal l_Board___contains__ c_Board___contains__ k_Board___contains__ g_is_integer l_is_integer c_is_integer k_is_integer l_Board___getitem__ c_Board___getitem__ k_Board___getitem__ g__law_at l__law_at c__law_at k__law_at g__law_is_right l__law_is_right c__law_is_right k__law_is_right g_law l_law c_law k_law pg_Board hd_Board po_Board sa_Board ns_Board ca_Board_read cb_Board_read cf_Board_read cra_Board crb_Board cv_MOST n_Board_known mk_Board mi_Board mf_Board mk2_Board ma_Board___contains__ mb_Board___contains__ mc_Board___contains__ fi_Board___contains__ ma_Board___getitem__ mb_Board___getitem__ mc_Board___getitem__ fi_Board___getitem__ x_QuotaError k_QuotaError b_QuotaError t_QuotaError x_RowsError k_RowsError b_RowsError t_RowsError x_TextError k_TextError b_TextError t_TextError x_NumberError k_NumberError b_NumberError t_NumberError ei_NumberError_NumberError es_NumberError_NumberError ei_QuotaError_QuotaError es_QuotaError_QuotaError
  have e := hfa.symm.trans H.g_law
  cases e
  exact ⟨tab _, sem_law C_Board, fun ns hn => law_true C_Board ns hn, fun base _ _ => ok_law H⟩
end Lw
open PySem PySem.W PyProof.Rows
set_option maxRecDepth 100000 in
set_option maxHeartbeats 0 in
theorem PySem.Challenge.cw_quotaboard_k03_rows_of_boards_by_their_s_holds : PySem.Challenge.rw_quotaboard_k03_rows_of_boards_by_their_s.Holds := by
  w_on; o_law; k_head; (case hw => w_witness2)
  k_fill
  refine Dt.walkG (l := PySem.Challenge.rw_quotaboard_k03_rows_of_boards_by_their_s) (n := 63) (k := 7) rfl (by decide) rfl ⟨rfl, by decide, by decide⟩ (fun w h Y => PySem.W.kIn_of Y) ?F
  case F =>
    intro w mg fa h KX G hmg
    refine' Lw.all_mk (w := w) KX G hmg ?z_all ?z_bool ?z_dict ?z_int ?z_isinstance ?z_len ?z_list ?z_max ?z_min ?z_range ?z_repr ?z_set ?z_sorted ?z_str ?z_tuple ?g_QuotaError ?g_RowsError ?g_TextError ?g_NumberError ?g_Board ?g__law_source ?l__law_source ?c__law_source ?k__law_source ?g__law_cell ?l__law_cell ?c__law_cell ?k__law_cell ?g__law_draw ?l__law_draw ?c__law_draw ?k__law_draw ?g__law_all_rows ?l__law_all_rows ?c__law_all_rows ?k__law_all_rows ?g__law_choose ?l__law_choose ?c__law_choose ?k__law_choose ?g__law_mixed ?l__law_mixed ?c__law_mixed ?k__law_mixed ?g__law_rows ?l__law_rows ?c__law_rows ?k__law_rows ?g_is_answers ?l_is_answers ?c_is_answers ?k_is_answers ?g_are_rows ?l_are_rows ?c_are_rows ?k_are_rows ?l_Board___init__ ?c_Board___init__ ?k_Board___init__ ?l_Board_read ?c_Board_read ?k_Board_read ?g__law_is_equal ?l__law_is_equal ?c__law_is_equal ?k__law_is_equal ?l_Board___contains__ ?c_Board___contains__ ?k_Board___contains__ ?g_is_integer ?l_is_integer ?c_is_integer ?k_is_integer ?l_Board___getitem__ ?c_Board___getitem__ ?k_Board___getitem__ ?g__law_at ?l__law_at ?c__law_at ?k__law_at ?g__law_is_right ?l__law_is_right ?c__law_is_right ?k__law_is_right ?g_law ?l_law ?c_law ?k_law ?pg_Board ?hd_Board ?po_Board ?sa_Board ?ns_Board ?ca_Board_read ?cb_Board_read ?cf_Board_read ?cra_Board ?crb_Board ?cv_MOST ?n_Board_known ?mk_Board ?mi_Board ?mf_Board ?mk2_Board ?ma_Board___contains__ ?mb_Board___contains__ ?mc_Board___contains__ ?fi_Board___contains__ ?ma_Board___getitem__ ?mb_Board___getitem__ ?mc_Board___getitem__ ?fi_Board___getitem__ ?x_QuotaError ?k_QuotaError ?b_QuotaError ?t_QuotaError ?x_RowsError ?k_RowsError ?b_RowsError ?t_RowsError ?x_TextError ?k_TextError ?b_TextError ?t_TextError ?x_NumberError ?k_NumberError ?b_NumberError ?t_NumberError ?ei_NumberError_NumberError ?es_NumberError_NumberError ?ei_QuotaError_QuotaError ?es_QuotaError_QuotaError
    (case z_all => k_is)
    (case z_bool => k_is)
    (case z_dict => k_is)
    (case z_int => k_is)
    (case z_isinstance => k_is)
    (case z_len => k_is)
    (case z_list => k_is)
    (case z_max => k_is)
    (case z_min => k_is)
    (case z_range => k_is)
    (case z_repr => k_is)
    (case z_set => k_is)
    (case z_sorted => k_is)
    (case z_str => k_is)
    (case z_tuple => k_is)
    (case g_QuotaError => k_is)
    (case g_RowsError => k_is)
    (case g_TextError => k_is)
    (case g_NumberError => k_is)
    (case g_Board => k_is)
    (case g__law_source => k_is)
    (case g__law_cell => k_is)
    (case g__law_draw => k_is)
    (case g__law_all_rows => k_is)
    (case g__law_choose => k_is)
    (case g__law_mixed => k_is)
    (case g__law_rows => k_is)
    (case g_is_answers => k_is)
    (case g_are_rows => k_is)
    (case g__law_is_equal => k_is)
    (case g_is_integer => k_is)
    (case g__law_at => k_is)
    (case g__law_is_right => k_is)
    (case g_law => k_is)
    (case ca_Board_read => k_is)
    (case mi_Board => k_is)
    (case ma_Board___contains__ => k_is)
    (case ma_Board___getitem__ => k_is)
    (case cb_Board_read => k_is)
    (case l__law_source => k_is)
    (case c__law_source => k_is)
    (case k__law_source => k_is)
    (case l__law_cell => k_is)
    (case c__law_cell => k_is)
    (case k__law_cell => k_is)
    (case l__law_draw => k_is)
    (case c__law_draw => k_is)
    (case k__law_draw => k_is)
    (case l__law_all_rows => k_is)
    (case c__law_all_rows => k_is)
    (case k__law_all_rows => k_is)
    (case l__law_choose => k_is)
    (case c__law_choose => k_is)
    (case k__law_choose => k_is)
    (case l__law_mixed => k_is)
    (case c__law_mixed => k_is)
    (case k__law_mixed => k_is)
    (case l__law_rows => k_is)
    (case c__law_rows => k_is)
    (case k__law_rows => k_is)
    (case l_is_answers => k_is)
    (case c_is_answers => k_is)
    (case k_is_answers => k_is)
    (case l_are_rows => k_is)
    (case c_are_rows => k_is)
    (case k_are_rows => k_is)
    (case l_Board___init__ => k_is)
    (case c_Board___init__ => k_is)
    (case k_Board___init__ => k_is)
    (case l_Board_read => k_is)
    (case c_Board_read => k_is)
    (case k_Board_read => k_is)
    (case l__law_is_equal => k_is)
    (case c__law_is_equal => k_is)
    (case k__law_is_equal => k_is)
    (case l_Board___contains__ => k_is)
    (case c_Board___contains__ => k_is)
    (case k_Board___contains__ => k_is)
    (case l_is_integer => k_is)
    (case c_is_integer => k_is)
    (case k_is_integer => k_is)
    (case l_Board___getitem__ => k_is)
    (case c_Board___getitem__ => k_is)
    (case k_Board___getitem__ => k_is)
    (case l__law_at => k_is)
    (case c__law_at => k_is)
    (case k__law_at => k_is)
    (case l__law_is_right => k_is)
    (case c__law_is_right => k_is)
    (case k__law_is_right => k_is)
    (case l_law => k_is)
    (case c_law => k_is)
    (case k_law => k_is)
    (case pg_Board => k_is)
    (case hd_Board => k_is)
    (case po_Board => k_is)
    (case sa_Board => k_is)
    (case ns_Board => k_is)
    (case cf_Board_read => k_is)
    (case cra_Board => k_is)
    (case crb_Board => k_is)
    (case cv_MOST => k_is)
    (case n_Board_known => k_is)
    (case mk_Board => k_is)
    (case mf_Board => k_is)
    (case mk2_Board => k_is)
    (case mb_Board___contains__ => k_is)
    (case mc_Board___contains__ => k_is)
    (case fi_Board___contains__ => k_is)
    (case mb_Board___getitem__ => k_is)
    (case mc_Board___getitem__ => k_is)
    (case fi_Board___getitem__ => k_is)
    (case x_QuotaError => k_exc)
    (case k_QuotaError => k_is)
    (case b_QuotaError => k_is)
    (case t_QuotaError => k_is)
    (case x_RowsError => k_exc)
    (case k_RowsError => k_is)
    (case b_RowsError => k_is)
    (case t_RowsError => k_is)
    (case x_TextError => k_exc)
    (case k_TextError => k_is)
    (case b_TextError => k_is)
    (case t_TextError => k_is)
    (case x_NumberError => k_exc)
    (case k_NumberError => k_is)
    (case b_NumberError => k_is)
    (case t_NumberError => k_is)
    (case ei_NumberError_NumberError => k_is)
    (case es_NumberError_NumberError => first | rfl | k_is)
    (case ei_QuotaError_QuotaError => k_is)
    (case es_QuotaError_QuotaError => first | rfl | k_is)
end
