import PyProof.Rows.All
import Wide.All
import OpenK.AllK
import Wide.FinOn
import HandS.ForMost
import HandS.ForExc
import HandS.Star
import HandS.TupAny
import HandS.TupMul
import HandS.Conv
import HandS.Evl
import HandS.Style
import HandS.Small
import KE.KDictPairs
import HandS.SortRule
import HandS.SortInts
import HandS.ListItems
import KE.KDictSum
import PySem.Challenge.RW_listwright_k09_whole_single_instructions
import HandS.RaiseMore
import HandS.HotCalls
import KE.KSuper
import KE.KExcSuper
import HandS.ExcInit
import HandS.ExcField
import HandS.ExcCtx
import HandS.Zip
import HandS.Lambda
import HandS.EndTab
import KE.KNestM
import KE.RegKSuper
set_option Elab.async false
set_option maxRecDepth 100000
set_option linter.unusedVariables false
/-! Data: what a pure expression evaluates to, as plain data; a def's body as a plain function. -/
namespace Dn
open PySem L2
open Evl (Ex Ex.refl Ex.trans Ex.new ex_rd ex_l ex_t fresh_back)
open StX (tStar pa_star)

/-! ### data -/
/-- immutable data; tup true: a tuple whose object is known to have no dict of its own -/
inductive D where
  | non | bl (b : Bool) | int (i : Int) | str (x : Str) | tup (p : Bool) (ds : List D)
/-- a dict's value, a key, as data -/
def toV : D → Option V
  | .non => some .non
  | .bl b => some (.bl b)
  | .int i => some (.int i)
  | .str x => some (.str x)
  | .tup _ _ => none
def toK : D → Option Key
  | .int i => some (.inl i)
  | .str x => some (.inr x)
  | _ => none
def ofV : V → Option D
  | .non => some .non
  | .bl b => some (.bl b)
  | .int i => some (.int i)
  | .str x => some (.str x)
  | _ => none
/-- the tuple's object is known -/
def Pl (H : Hp) (a : Addr) : Prop := ∃ o xs, H a = some (.frz o (.tup xs)) ∧ o.dict = none
mutual
inductive Dq (K : PySem.W.Frag) (H : Hp) : V → D → Prop
  | non : Dq K H .non .non
  | bl (b : Bool) : Dq K H (.bl b) (.bl b)
  | int (i : Int) : Dq K H (.int i) (.int i)
  | str (x : Str) : Dq K H (.str x) (.str x)
  | tup {a : Addr} {xs : List V} {ds : List D} {p : Bool} : SqT K H a xs → (p = true → Pl H a) → DqAll K H xs ds → Dq K H (.ref a) (.tup p ds)
inductive DqAll (K : PySem.W.Frag) (H : Hp) : List V → List D → Prop
  | nil : DqAll K H [] []
  | cons {v : V} {vs : List V} {d : D} {ds : List D} : Dq K H v d → DqAll K H vs ds → DqAll K H (v :: vs) (d :: ds)
end
/-- what data hang on: the tuples -/
structure Tu (K : PySem.W.Frag) (H H' : Hp) : Prop where
  sq : ∀ a xs, SqT K H a xs → SqT K H' a xs
  pl : ∀ a, Pl H a → Pl H' a
theorem Tu.refl (K : PySem.W.Frag) (H : Hp) : Tu K H H := ⟨fun _ _ h => h, fun _ h => h⟩
theorem Tu.trans {K : PySem.W.Frag} {H H1 H2 : Hp} (a : Tu K H H1) (b : Tu K H1 H2) : Tu K H H2 := ⟨fun x xs h => b.sq x xs (a.sq x xs h), fun x h => b.pl x (a.pl x h)⟩
theorem Tu.of {K : PySem.W.Frag} {H H' : Hp} (e : Ex H H') : Tu K H H' := ⟨fun _ _ h => ex_t e h, fun a ⟨o, xs, h, q⟩ => ⟨o, xs, e _ _ h, q⟩⟩
/-- who may change it: nobody while we look (bor), the frame (own), new and held by none yet (new) -/
inductive Own where
  | bor | own | new
  deriving DecidableEq
inductive SD where
  | v (d : D)
  | lst (o : Own) (ds : List D)
  | dic (o : Own) (kvs : List (Key × V))
abbrev Rho := List (Option SD)

theorem dp_tu {K : PySem.W.Frag} {H H' : Hp} (e : Tu K H H') {v : V} {d : D} (h : Dq K H v d) : Dq K H' v d :=
  Dq.rec (motive_1 := fun v d _ => Dq K H' v d) (motive_2 := fun vs ds _ => DqAll K H' vs ds) .non .bl .int .str (fun h p _ ih => .tup (e.sq _ _ h) (fun q => e.pl _ (p q)) ih) .nil (fun _ _ a b => .cons a b) h
theorem dpAll_tu {K : PySem.W.Frag} {H H' : Hp} (e : Tu K H H') : ∀ {vs : List V} {ds : List D}, DqAll K H vs ds → DqAll K H' vs ds
  | _, _, .nil => .nil
  | _, _, .cons a b => .cons (dp_tu e a) (dpAll_tu e b)
theorem dp_ex {K : PySem.W.Frag} {H H' : Hp} (e : Ex H H') {v : V} {d : D} (h : Dq K H v d) : Dq K H' v d := dp_tu (Tu.of e) h
theorem dpAll_ex {K : PySem.W.Frag} {H H' : Hp} (e : Ex H H') {vs : List V} {ds : List D} (h : DqAll K H vs ds) : DqAll K H' vs ds := dpAll_tu (Tu.of e) h
theorem dpa_len {K : PySem.W.Frag} {H : Hp} : ∀ {vs : List V} {ds : List D}, DqAll K H vs ds → vs.length = ds.length
  | _, _, .nil => rfl
  | _, _, .cons _ b => by simp [dpa_len b]
theorem dpa_get {K : PySem.W.Frag} {H : Hp} : ∀ {vs : List V} {ds : List D} {i : Nat} {d : D}, DqAll K H vs ds → ds[i]? = some d → ∃ v, vs[i]? = some v ∧ Dq K H v d
  | _, _, _, _, .nil, h => by simp at h
  | _, _, 0, _, .cons a _, h => by
    simp at h
    subst h
    exact ⟨_, rfl, a⟩
  | _, _, i + 1, _, .cons _ b, h => by
    obtain ⟨v, e, q⟩ := dpa_get (i := i) b (by simpa using h)
    exact ⟨v, by simpa using e, q⟩
theorem dpa_app {K : PySem.W.Frag} {H : Hp} : ∀ {vs ws : List V} {ds es : List D}, DqAll K H vs ds → DqAll K H ws es → DqAll K H (vs ++ ws) (ds ++ es)
  | _, _, _, _, .nil, q => q
  | _, _, _, _, .cons a b, q => .cons a (dpa_app b q)
theorem dpa_take {K : PySem.W.Frag} {H : Hp} : ∀ {vs : List V} {ds : List D} (n : Nat), DqAll K H vs ds → DqAll K H (vs.take n) (ds.take n)
  | _, _, 0, _ => .nil
  | _, _, _ + 1, .nil => .nil
  | _, _, n + 1, .cons a b => .cons a (dpa_take n b)
theorem dpa_drop {K : PySem.W.Frag} {H : Hp} : ∀ {vs : List V} {ds : List D} (n : Nat), DqAll K H vs ds → DqAll K H (vs.drop n) (ds.drop n)
  | _, _, 0, h => h
  | _, _, _ + 1, .nil => .nil
  | _, _, n + 1, .cons _ b => dpa_drop n b
theorem dpa_set {K : PySem.W.Frag} {H : Hp} {v : V} {d : D} (q : Dq K H v d) : ∀ {vs : List V} {ds : List D} (n : Nat), DqAll K H vs ds → DqAll K H (vs.set n v) (ds.set n d)
  | _, _, _, .nil => .nil
  | _, _, 0, .cons _ b => .cons q b
  | _, _, n + 1, .cons a b => .cons a (dpa_set q n b)
theorem dpa_reps {K : PySem.W.Frag} {H : Hp} {vs : List V} {ds : List D} (q : DqAll K H vs ds) : ∀ n : Nat, DqAll K H (List.replicate n vs).flatten (List.replicate n ds).flatten
  | 0 => .nil
  | n + 1 => by
    rw [List.replicate_succ, List.flatten_cons, List.replicate_succ, List.flatten_cons]
    exact dpa_app q (dpa_reps q n)
theorem dpa_ne {K : PySem.W.Frag} {H : Hp} {vs : List V} {ds : List D} (q : DqAll K H vs ds) : vs = [] ↔ ds = [] := by
  cases q <;> simp
theorem dp_scal {K : PySem.W.Frag} {H : Hp} {v : V} {d : D} (q : Dq K H v d) {z : V} (h : toV d = some z) : v = z := by
  cases q <;> simp [toV] at h <;> exact h
theorem dp_toK {K : PySem.W.Frag} {H : Hp} {v : V} {d : D} (q : Dq K H v d) {k : Key} (h : Dn.toK d = some k) : v = kV k := by
  cases q <;> simp [Dn.toK] at h <;> subst h <;> rfl
theorem dp_ofV {K : PySem.W.Frag} {H : Hp} {v : V} {d : D} (h : ofV v = some d) : Dq K H v d := by
  cases v <;> simp [ofV] at h <;> subst h
  · exact .non
  · exact .bl _
  · exact .int _
  · exact .str _
theorem dp_toV {K : PySem.W.Frag} {H : Hp} {v : V} {d : D} (h : toV d = some v) : Dq K H v d := by
  cases d <;> simp [toV] at h <;> subst h
  · exact .non
  · exact .bl _
  · exact .int _
  · exact .str _
theorem dp_tupT {K : PySem.W.Frag} {H : Hp} {v : V} {p : Bool} {ds : List D} (q : Dq K H v (.tup p ds)) : ∃ a xs, v = .ref a ∧ SqT K H a xs ∧ DqAll K H xs ds ∧ (p = true → Pl H a) := by
  cases q with
  | tup h b a => exact ⟨_, _, rfl, h, a, b⟩

/-! ### what a value is -/
def Tw (K : PySem.W.Frag) (H : Hp) (v : V) : SD → Prop
  | .v d => Dq K H v d
  | .lst _ ds => ∃ a xs, v = .ref a ∧ H a = some (.lst xs) ∧ DqAll K H xs ds
  | .dic _ kvs => ∃ a, v = .ref a ∧ H a = some (.dK kvs)
/-- the address of what may be changed -/
def refOf : V → Option Addr
  | .ref a => some a
  | _ => none
def SD.own : SD → Option Own
  | .v _ => none
  | .lst o _ => some o
  | .dic o _ => some o
def SD.isNew (s : SD) : Bool := decide (s.own = some .new)
theorem tw_ex {K : PySem.W.Frag} {H H' : Hp} (e : Ex H H') {v : V} : ∀ {s : SD}, Tw K H v s → Tw K H' v s
  | .v _, h => dp_ex e h
  | .lst _ _, ⟨a, xs, h1, h2, h3⟩ => ⟨a, xs, h1, e _ _ h2, dpAll_ex e h3⟩
  | .dic _ _, ⟨a, h1, h2⟩ => ⟨a, h1, e _ _ h2⟩
/-- as a callee sees it; as it is kept in a slot; as it is handed out -/
def SD.bor : SD → SD
  | .v d => .v d
  | .lst _ ds => .lst .bor ds
  | .dic _ kvs => .dic .bor kvs
def SD.keep : SD → Option SD
  | .v d => some (.v d)
  | .lst .new ds => some (.lst .own ds)
  | .dic .new kvs => some (.dic .own kvs)
  | _ => none
def SD.out : SD → Option SD
  | .v d => some (.v d)
  | .lst .bor _ => none
  | .dic .bor _ => none
  | .lst _ ds => some (.lst .new ds)
  | .dic _ kvs => some (.dic .new kvs)
theorem tw_bor {K : PySem.W.Frag} {H : Hp} {v : V} {s : SD} (h : Tw K H v s) : Tw K H v s.bor := by
  cases s with
  | v d => exact h
  | lst o ds => exact h
  | dic o kvs => exact h
/-- new: its address was free -/
def Fr0 (H : Hp) (v : V) (s : SD) : Prop := s.isNew = true → ∀ a, v = .ref a → H a = none
/-- changes at B alone, B stays taken -/
def ExB (B : Addr → Prop) (H H' : Hp) : Prop := (∀ a o, ¬ B a → H a = some o → H' a = some o) ∧ ∀ a, H a ≠ none → H' a ≠ none
theorem ExB.refl (B : Addr → Prop) (H : Hp) : ExB B H H := ⟨fun _ _ _ h => h, fun _ h => h⟩
theorem ExB.trans {B : Addr → Prop} {H H1 H2 : Hp} (a : ExB B H H1) (b : ExB B H1 H2) : ExB B H H2 := ⟨fun x o n h => b.1 x o n (a.1 x o n h), fun x h => b.2 x (a.2 x h)⟩
theorem ExB.of {B : Addr → Prop} {H H' : Hp} (e : Ex H H') : ExB B H H' := ⟨fun a o _ h => e a o h, fun a h => by
  cases q : H a with
  | none => exact absurd q h
  | some o =>
    rw [e a o q]
    simp⟩
theorem ExB.free {B : Addr → Prop} {H H' : Hp} (e : ExB B H H') {a : Addr} (h : H' a = none) : H a = none := by
  cases q : H a with
  | none => rfl
  | some o => exact absurd h (e.2 a (by rw [q]; simp))

/-- the slots hold what ρ says -/
structure Rp (K : PySem.W.Frag) (B : Addr → Prop) (H0 : Hp) (σ : St) (H : Hp) (ρ : Rho) : Prop where
  ex : ExB B H0 H
  val : ∀ (i : Nat) s, ρ[i]? = some (some s) → ∃ v, σ[i]? = some (some v) ∧ Tw K H v s
  nn : ∀ (i : Nat) s, ρ[i]? = some (some s) → s.isNew = false
  own : ∀ (i : Nat) s a, ρ[i]? = some (some s) → s.own = some .own → σ[i]? = some (some (.ref a)) → H0 a = none
  sep : ∀ (i j : Nat) s t a, ρ[i]? = some (some s) → s.own = some .own → ρ[j]? = some (some t) → t.own ≠ none → σ[i]? = some (some (.ref a)) → σ[j]? = some (some (.ref a)) → i = j
  len : σ.length = ρ.length
theorem Rp.toRp {K : PySem.W.Frag} {B : Addr → Prop} {H0 H : Hp} {σ : St} {ρ : Rho} (r : Rp K B H0 σ H ρ) : Rp K B H0 σ H ρ := r
theorem Rp.mono {K : PySem.W.Frag} {B : Addr → Prop} {H0 H H' : Hp} {σ : St} {ρ : Rho} (r : Rp K B H0 σ H ρ) (e : Ex H H') : Rp K B H0 σ H' ρ :=
  ⟨r.ex.trans (.of e), fun i s h => let ⟨v, h1, h2⟩ := r.val i s h; ⟨v, h1, tw_ex e h2⟩, r.nn, r.own, r.sep, r.len⟩

/-! ### expressions -/
def EvD (K : PySem.W.Frag) (t : TE) (F : Rho → Option SD) : Prop := ∀ B H0 σ H ρ s, Rp K B H0 σ H ρ → F ρ = some s → ∀ Q : VK, (∀ v H', Ex H H' → Tw K H' v s → Fr0 H v s → Q v H') → t σ H Q
structure DE (X : Cx) (e : Expr) (t : TE) (F : Rho → Option SD) : Prop where
  pe : PE X e t
  ev : EvD X.K t F
def EvB (K : PySem.W.Frag) (t : TT) (F : Rho → Option Bool) : Prop := ∀ B H0 σ H ρ b, Rp K B H0 σ H ρ → F ρ = some b → ∀ Q : Bool → Hp → Prop, (∀ H', Ex H H' → Q b H') → t σ H Q
structure DT (X : Cx) (e : Expr) (t : TT) (F : Rho → Option Bool) : Prop where
  pt : PT X e t
  ev : EvB X.K t F
/-- values in a row -/
inductive TwAll (K : PySem.W.Frag) (H : Hp) : List V → List SD → Prop
  | nil : TwAll K H [] []
  | cons {v s vs ss} : Tw K H v s → TwAll K H vs ss → TwAll K H (v :: vs) (s :: ss)
theorem twAll_ex {K : PySem.W.Frag} {H H' : Hp} (e : Ex H H') : ∀ {vs : List V} {ss : List SD}, TwAll K H vs ss → TwAll K H' vs ss
  | _, _, .nil => .nil
  | _, _, .cons a b => .cons (tw_ex e a) (twAll_ex e b)
theorem twa_len {K : PySem.W.Frag} {H : Hp} : ∀ {vs : List V} {ss : List SD}, TwAll K H vs ss → vs.length = ss.length
  | _, _, .nil => rfl
  | _, _, .cons _ b => by simp [twa_len b]
theorem TwAll.bors {K : PySem.W.Frag} {H : Hp} : ∀ {vs : List V} {ss : List SD}, TwAll K H vs ss → TwAll K H vs (ss.map SD.bor)
  | _, _, .nil => .nil
  | _, _, .cons a b => .cons (tw_bor a) b.bors
/-- the new ones: free before, no two alike -/
inductive FrAll (H : Hp) : List V → List SD → Prop
  | nil : FrAll H [] []
  | cons {v s vs ss} : Fr0 H v s → (s.isNew = true → ∀ t ∈ ss.zip vs, t.1.isNew = true → t.2 ≠ v) → FrAll H vs ss → FrAll H (v :: vs) (s :: ss)
theorem FrAll.back {H H' : Hp} (e : Ex H H') : ∀ {vs : List V} {ss : List SD}, FrAll H' vs ss → FrAll H vs ss
  | _, _, .nil => .nil
  | _, _, .cons a b c => .cons (fun n x q => fresh_back e (a n x q)) b (c.back e)
def EvAs (K : PySem.W.Frag) (t : TA) (F : Rho → Option (List SD)) : Prop := ∀ B H0 σ H ρ ss, Rp K B H0 σ H ρ → F ρ = some ss → ∀ Q : List V → Hp → Prop, (∀ vs H', Ex H H' → TwAll K H' vs ss → FrAll H vs ss → Q vs H') → t σ H Q
structure DAs (X : Cx) (es : List Expr) (t : TA) (F : Rho → Option (List SD)) : Prop where
  pa : PA X es t
  ev : EvAs X.K t F
def fNil : Rho → Option (List SD) := fun _ => some []
def fCons (F : Rho → Option SD) (G : Rho → Option (List SD)) : Rho → Option (List SD) := fun ρ => (F ρ).bind fun s => (G ρ).bind fun ss => some (s :: ss)
/-- the items of a tuple, a list -/
def SD.items : SD → Option (List D)
  | .v (.tup _ ds) => some ds
  | .lst _ ds => some ds
  | _ => none
def fStar (F : Rho → Option SD) (G : Rho → Option (List SD)) : Rho → Option (List SD) := fun ρ => (F ρ).bind fun s => s.items.bind fun ds => (G ρ).bind fun ss => some (ds.map SD.v ++ ss)
def vals : List SD → Option (List D)
  | [] => some []
  | .v d :: ss => (vals ss).map fun ds => d :: ds
  | _ => none
def SD.int? : SD → Option Int
  | .v (.int i) => some i
  | _ => none
def SD.bool? : SD → Option Bool
  | .v (.bl b) => some b
  | _ => none

section
variable {X : Cx} {e a b : Expr} {es : List Expr} {t ta tb : TE} {tr : TA} {F Fa Fb : Rho → Option SD} {G : Rho → Option (List SD)} {pos : Pos}
theorem imm_items {ds : List D} {s : SD} {K : PySem.W.Frag} {H : Hp} {v : V} (h : Tw K H v s) (q : s.items = some ds) : ∃ a xs, v = .ref a ∧ (SqT K H a xs ∨ SqL K H a xs) ∧ DqAll K H xs ds := by
  cases s with
  | v d =>
    cases d <;> simp [SD.items] at q
    subst q
    obtain ⟨a, xs, e, h3, h4, _⟩ := dp_tupT h
    exact ⟨a, xs, e, .inl h3, h4⟩
  | lst o es =>
    simp [SD.items] at q
    subst q
    obtain ⟨a, xs, e, h3, h4⟩ := h
    exact ⟨a, xs, e, .inr (.inl (.inl h3)), h4⟩
  | dic o kvs => simp [SD.items] at q
theorem tw_int {K : PySem.W.Frag} {H : Hp} {v : V} {s : SD} {i : Int} (h : Tw K H v s) (q : s.int? = some i) : v = .int i := by
  cases s with
  | v d =>
    cases d <;> simp [SD.int?] at q
    subst q
    cases h
    rfl
  | lst o es => simp [SD.int?] at q
  | dic o kvs => simp [SD.int?] at q
theorem tw_bool {K : PySem.W.Frag} {H : Hp} {v : V} {s : SD} {i : Bool} (h : Tw K H v s) (q : s.bool? = some i) : v = .bl i := by
  cases s with
  | v d =>
    cases d <;> simp [SD.bool?] at q
    subst q
    cases h
    rfl
  | lst o es => simp [SD.bool?] at q
  | dic o kvs => simp [SD.bool?] at q
theorem fr_v {H : Hp} {v : V} {d : D} : Fr0 H v (.v d) := fun h => by simp [SD.isNew, SD.own] at h

def fVar (i : Nat) : Rho → Option SD := fun ρ => (ρ[i]?).bind id
theorem ev_var (i : Nat) {K : PySem.W.Frag} : EvD K (tVar i) (fVar i) := fun B H0 σ H ρ s r h Q q => by
  have h' : ρ[i]? = some (some s) := by
    unfold fVar at h
    cases e : ρ[i]? with
    | none => rw [e] at h; cases h
    | some x =>
      rw [e] at h
      have h2 : x = some s := h
      rw [h2]
  obtain ⟨v, e1, e2⟩ := r.val i s h'
  exact ⟨v, e1, q v H (Ex.refl H) e2 fun n => by rw [r.nn i s h'] at n; cases n⟩
def fC (d : D) : Rho → Option SD := fun _ => some (.v d)
theorem ev_c {K : PySem.W.Frag} {v : V} {d : D} (h : toV d = some v) : EvD K (tC v) (fC d) := fun B H0 σ H ρ s r e Q q => by
  have e' : s = .v d := (Option.some.inj e).symm
  subst e'
  exact q v H (Ex.refl H) (dp_toV h) fr_v
theorem de_int {i : Int} {j : Nat} : DE X (.Constant (.int i) j pos) (tC (.int i)) (fC (.int i)) := ⟨pe_int, ev_c rfl⟩
theorem de_str {x : Str} {j : Nat} : DE X (.Constant (.str x) j pos) (tC (.str x)) (fC (.str x)) := ⟨pe_str, ev_c rfl⟩
theorem de_bl {x : Bool} {j : Nat} : DE X (.Constant (.bool x) j pos) (tC (.bl x)) (fC (.bl x)) := ⟨pe_bl, ev_c rfl⟩
theorem de_non {j : Nat} : DE X (.Constant .none j pos) (tC .non) (fC .non) := ⟨pe_non, ev_c rfl⟩
/-- a name in slot i -/
theorem dv (i : Nat) {x : Str} (hN : X.N[i]? = some x := by rfl) (hv : Vis X.env.scope x := by first | exact Or.inl rfl | exact Or.inr (Or.inl rfl) | exact Or.inr (Or.inr rfl)) (hd : (x == ("__debug__" : Str)) = false := by decide) (hcd : (x == ("__classdict__" : Str)) = false := by decide) :
    DE X (.Name x pos) (tVar i) (fVar i) := ⟨pe_var hN hv hd hcd, ev_var i⟩

/-- two operands -/
theorem ev_two {K : PySem.W.Frag} {r : R2} {f : SD → SD → Option SD} (ha : EvD K ta Fa) (hb : EvD K tb Fb)
    (hr : ∀ H x y s1 s2 s, Tw K H x s1 → Tw K H y s2 → f s1 s2 = some s → ∀ Q : VK, (∀ v H', Ex H H' → Tw K H' v s → Fr0 H v s → Q v H') → r x y H Q) :
    EvD K (tOp r ta tb) (fun ρ => (Fa ρ).bind fun s1 => (Fb ρ).bind fun s2 => f s1 s2) := fun B H0 σ H ρ s R h Q q => by
  have h : ((Fa ρ).bind fun s1 => (Fb ρ).bind fun s2 => f s1 s2) = some s := h
  cases ea : Fa ρ with
  | none => rw [ea] at h; cases h
  | some s1 =>
    cases eb : Fb ρ with
    | none => rw [ea, eb] at h; cases h
    | some s2 =>
      rw [ea, eb] at h
      refine ha B H0 σ H ρ s1 R ea _ fun x H1 e1 t1 _ => hb B H0 σ H1 ρ s2 (R.mono e1) eb _ fun y H2 e2 t2 _ => ?_
      exact hr H2 x y s1 s2 s (tw_ex e2 t1) t2 h Q fun v H3 e3 t3 f3 => q v H3 ((e1.trans e2).trans e3) t3 fun n a' ea' => fresh_back (e1.trans e2) (f3 n a' ea')
theorem das_nil : DAs X [] tNil fNil := ⟨pa_nil, fun B H0 σ H ρ ss R h Q q => by
  have e : ss = [] := (Option.some.inj h).symm
  subst e
  exact q [] H (Ex.refl H) .nil .nil⟩
theorem das_cons (he : DE X e t F) (hr : DAs X es tr G) (hs : starEach (e :: es) X.env = (false, eval e X.env) :: starEach es X.env := by rfl) : DAs X (e :: es) (tCons t tr) (fCons F G) := ⟨pa_cons he.pe hr.pa hs, fun B H0 σ H ρ ss R h Q q => by
  unfold fCons at h
  cases ea : F ρ with
  | none => rw [ea] at h; cases h
  | some s =>
    cases eb : G ρ with
    | none => rw [ea, eb] at h; cases h
    | some sr =>
      rw [ea, eb] at h
      have e : ss = s :: sr := (Option.some.inj h).symm
      subst e
      refine he.ev B H0 σ H ρ s R ea _ fun x H1 e1 t1 f1 => hr.ev B H0 σ H1 ρ sr (R.mono e1) eb _ fun xs H2 e2 t2 f2 => ?_
      refine q (x :: xs) H2 (e1.trans e2) (.cons (tw_ex e2 t1) t2) (.cons f1 (fun n p hp hn z => ?_) (f2.back e1))
      -- a new one behind is free at H1, where x's address is taken
      have key : ∀ {vs : List V} {ss : List SD}, FrAll H1 vs ss → ∀ p ∈ ss.zip vs, p.1.isNew = true → ∀ a, p.2 = .ref a → H1 a = none := by
        intro vs ss f
        induction f with
        | nil => intro p hp; simp at hp
        | cons a b c ih =>
          intro p hp
          rcases List.mem_cons.mp (by simpa using hp) with rfl | hp
          · exact fun n x e => a n x e
          · exact ih p hp
      have taken : ∃ a, x = .ref a ∧ H1 a ≠ none := by
        cases s with
        | v d => simp [SD.isNew, SD.own] at n
        | lst o ds =>
          obtain ⟨a, xs', e, h2, _⟩ := t1
          refine ⟨a, e, ?_⟩
          rw [h2]
          simp
        | dic o ds =>
          obtain ⟨a, e, h2⟩ := t1
          refine ⟨a, e, ?_⟩
          rw [h2]
          simp
      obtain ⟨a, ex, na⟩ := taken
      exact na (key f2 p hp hn a (by rw [z, ex]))⟩
theorem twAll_v {K : PySem.W.Frag} {H : Hp} : ∀ {vs : List V} {ds : List D}, DqAll K H vs ds → TwAll K H vs (ds.map SD.v)
  | _, _, .nil => .nil
  | _, _, .cons a b => .cons a (twAll_v b)
theorem TwAll.append {K : PySem.W.Frag} {H : Hp} : ∀ {vs ws : List V} {ds es : List SD}, TwAll K H vs ds → TwAll K H ws es → TwAll K H (vs ++ ws) (ds ++ es)
  | _, _, _, _, .nil, q => q
  | _, _, _, _, .cons a b, q => .cons a (TwAll.append b q)
theorem frAll_v {H : Hp} : ∀ {vs ws : List V} {ds : List D} {es : List SD}, vs.length = ds.length → FrAll H ws es → FrAll H (vs ++ ws) (ds.map SD.v ++ es)
  | [], _, [], _, _, q => q
  | [], _, _ :: _, _, h, _ => by simp at h
  | _ :: _, _, [], _, h, _ => by simp at h
  | v :: vs, ws, d :: ds, es, h, q => .cons fr_v (fun n => by simp [SD.isNew, SD.own] at n) (frAll_v (by simpa using h) q)
theorem das_star {p : Pos} (he : DE X e t F) (hr : DAs X es tr G) (hs : starEach (.Starred e p :: es) X.env = (true, eval e X.env) :: starEach es X.env := by rfl) : DAs X (.Starred e p :: es) (tStar X.K t tr) (fStar F G) := ⟨pa_star he.pe hr.pa hs, fun B H0 σ H ρ ss R h Q q => by
  unfold fStar at h
  cases ea : F ρ with
  | none => rw [ea] at h; cases h
  | some s =>
    cases ei : s.items with
    | none => rw [ea] at h; simp [ei] at h
    | some ds =>
      cases eb : G ρ with
      | none => rw [ea] at h; simp [ei, eb] at h
      | some sr =>
        rw [ea] at h
        simp [ei, eb] at h
        subst h
        refine he.ev B H0 σ H ρ s R ea _ fun x H1 e1 t1 f1 => ?_
        obtain ⟨a, xs, ex, hq, hd⟩ := imm_items t1 ei
        refine ⟨a, xs, ex, hq, ?_⟩
        refine hr.ev B H0 σ H1 ρ sr (R.mono e1) eb _ fun ys H2 e2 t2 f2 => ?_
        exact q (xs ++ ys) H2 (e1.trans e2) ((twAll_v (dpAll_ex e2 hd)).append t2) (frAll_v (dpa_len hd) (f2.back e1))⟩
theorem vals_dp {K : PySem.W.Frag} {H : Hp} : ∀ {ss : List SD} {vs : List V} {ds : List D}, TwAll K H vs ss → vals ss = some ds → DqAll K H vs ds
  | [], _, _, .nil, h => by
    have e := (Option.some.inj h).symm
    subst e
    exact .nil
  | .v d :: ss, _, _, .cons a b, h => by
    unfold vals at h
    cases e : vals ss with
    | none => rw [e] at h; cases h
    | some ds =>
      rw [e] at h
      have e2 := (Option.some.inj h).symm
      subst e2
      exact .cons a (vals_dp b e)
  | .lst _ _ :: _, _, _, _, h => by simp [vals] at h
  | .dic _ _ :: _, _, _, _, h => by simp [vals] at h

/-- how many items may stand in a row -/
def few (n : Nat) : Bool := decide (n ≤ 10000)
theorem few_le {n : Nat} (h : few n = true) : n ≤ sizeLine := Nat.le_trans (of_decide_eq_true h) (by decide)
theorem few_lt {n : Nat} (h : few n = true) : n < sizeLine := Nat.lt_of_le_of_lt (of_decide_eq_true h) (by decide)
def fTup (G : Rho → Option (List SD)) : Rho → Option SD := fun ρ => (G ρ).bind fun ss => (vals ss).bind fun ds => if few ds.length then some (.v (.tup false ds)) else none
def fLst (G : Rho → Option (List SD)) : Rho → Option SD := fun ρ => (G ρ).bind fun ss => (vals ss).bind fun ds => if few ds.length then some (.lst .new ds) else none
theorem fDisp_inv {G : Rho → Option (List SD)} {ρ : Rho} {s : SD} {mk : List D → SD} (h : ((G ρ).bind fun ss => (vals ss).bind fun ds => if few ds.length then some (mk ds) else none) = some s) : ∃ ss ds, G ρ = some ss ∧ vals ss = some ds ∧ few ds.length = true ∧ s = mk ds := by
  cases eg : G ρ with
  | none => rw [eg] at h; cases h
  | some ss =>
    cases ev : vals ss with
    | none => rw [eg] at h; simp [ev] at h
    | some ds =>
      rw [eg] at h
      simp [ev] at h
      exact ⟨ss, ds, rfl, ev, h.1, h.2.symm⟩
theorem de_tup {k : Nat} (h : DAs X es tr G) : DE X (.Tuple es k pos) (tTup tr) (fTup G) := ⟨pe_tup h.pa, fun B H0 σ H ρ s R e Q q => by
  obtain ⟨ss, ds, eg, ev, hl, rfl⟩ := fDisp_inv (mk := fun ds => .v (.tup false ds)) e
  refine h.ev B H0 σ H ρ ss R eg _ fun vs H1 e1 t1 _ => ?_
  have d1 := vals_dp t1 ev
  refine ⟨few_le (by rw [dpa_len d1]; exact hl), fun p hp => q (.ref p) _ (e1.trans (Ex.new hp)) (.tup (.inl (.inl upd_same)) (fun z => nomatch z) (dpAll_ex (Ex.new hp) d1)) fr_v⟩⟩
theorem de_lst (h : DAs X es tr G) : DE X (.List es pos) (tLst tr) (fLst G) := ⟨pe_lst h.pa, fun B H0 σ H ρ s R e Q q => by
  obtain ⟨ss, ds, eg, ev, hl, rfl⟩ := fDisp_inv (mk := fun ds => .lst .new ds) e
  refine h.ev B H0 σ H ρ ss R eg _ fun vs H1 e1 t1 _ => ?_
  have d1 := vals_dp t1 ev
  refine ⟨few_le (by rw [dpa_len d1]; exact hl), fun p hp => q (.ref p) _ (e1.trans (Ex.new hp)) ⟨p, vs, rfl, upd_same, dpAll_ex (Ex.new hp) d1⟩ fun _ a ea => ?_⟩
  cases ea
  exact fresh_back e1 hp⟩
end
end Dn
/-! Data, 2: operators, tests, calls. -/
namespace Dn
open PySem L2
open Evl (Ex Ex.refl Ex.trans Ex.new ex_rd ex_l ex_t fresh_back)

def EvR (K : PySem.W.Frag) (r : R2) (g : SD → SD → Option SD) : Prop := ∀ H x y s1 s2 s, Tw K H x s1 → Tw K H y s2 → g s1 s2 = some s → ∀ Q : VK, (∀ v H', Ex H H' → Tw K H' v s → Fr0 H v s → Q v H') → r x y H Q
structure DOp (X : Cx) (f : Value → Value → Sem Value) (r : R2) (g : SD → SD → Option SD) : Prop where
  op : OpR X f r
  ev : EvR X.K r g
def fTwo (g : SD → SD → Option SD) (Fa Fb : Rho → Option SD) : Rho → Option SD := fun ρ => (Fa ρ).bind fun s1 => (Fb ρ).bind fun s2 => g s1 s2
/-- a value that is no new object -/
theorem q_val {K : PySem.W.Frag} {H : Hp} {v : V} {d : D} {Q : VK} (q : ∀ v' H', Ex H H' → Tw K H' v' (.v d) → Fr0 H v' (.v d) → Q v' H') (h : Dq K H v d) : Q v H := q v H (Ex.refl H) h fr_v
theorem q_new {K : PySem.W.Frag} {H : Hp} {xs : List V} {ds : List D} {Q : VK} {p : Addr} (q : ∀ v' H', Ex H H' → Tw K H' v' (.v (.tup false ds)) → Fr0 H v' (.v (.tup false ds)) → Q v' H') (h : DqAll K H xs ds) (hp : H p = none) : Q (.ref p) (upd H p (.tup xs)) :=
  q _ _ (Ex.new hp) (.tup (.inl (.inl upd_same)) (fun z => nomatch z) (dpAll_ex (Ex.new hp) h)) fr_v
theorem q_lst {K : PySem.W.Frag} {H : Hp} {xs : List V} {ds : List D} {Q : VK} {p : Addr} (q : ∀ v' H', Ex H H' → Tw K H' v' (.lst .new ds) → Fr0 H v' (.lst .new ds) → Q v' H') (h : DqAll K H xs ds) (hp : H p = none) : Q (.ref p) (upd H p (.lst xs)) :=
  q _ _ (Ex.new hp) ⟨p, xs, rfl, upd_same, dpAll_ex (Ex.new hp) h⟩ fun _ a e => by cases e; exact hp
theorem q_dic {K : PySem.W.Frag} {H : Hp} {kvs : List (Key × V)} {Q : VK} {p : Addr} (q : ∀ v' H', Ex H H' → Tw K H' v' (.dic .new kvs) → Fr0 H v' (.dic .new kvs) → Q v' H') (hp : H p = none) : Q (.ref p) (upd H p (.dK kvs)) :=
  q _ _ (Ex.new hp) ⟨p, rfl, upd_same⟩ fun _ a e => by cases e; exact hp
theorem tw_tup {K : PySem.W.Frag} {H : Hp} {v : V} {p : Bool} {ds : List D} (h : Tw K H v (.v (.tup p ds))) : ∃ a xs, v = .ref a ∧ SqT K H a xs ∧ DqAll K H xs ds := by
  obtain ⟨a, xs, e, h1, h2, _⟩ := dp_tupT h
  exact ⟨a, xs, e, h1, h2⟩
/-- what is known less of -/
theorem dq_less {K : PySem.W.Frag} {H : Hp} {v : V} {p : Bool} {ds : List D} (h : Dq K H v (.tup p ds)) : Dq K H v (.tup false ds) := by
  cases h with
  | tup a b c => exact .tup a (fun z => nomatch z) c

section
variable {X : Cx} {e a b c : Expr} {es : List Expr} {t ta tb tc : TE} {tr : TA} {u ua ub : TT} {F Fa Fb Fc : Rho → Option SD} {T Ta Tb : Rho → Option Bool} {G : Rho → Option (List SD)} {pos : Pos} {r : R2} {g : SD → SD → Option SD}

theorem de_op {op : Operator} (o : DOp X (binaryOp op) r g) (ha : DE X a ta Fa) (hb : DE X b tb Fb) : DE X (.BinOp a op b pos) (tOp r ta tb) (fTwo g Fa Fb) := ⟨pe_op o.op ha.pe hb.pe, ev_two ha.ev hb.ev o.ev⟩
theorem de_cmp {op : CmpOp} (o : DOp X (compareOp op) r g) (ha : DE X a ta Fa) (hb : DE X b tb Fb) (hm : behindInMarks op b = false := by rfl) : DE X (.Compare a [op] [b] pos) (tOp r ta tb) (fTwo g Fa Fb) := ⟨pe_cmpR o.op ha.pe hb.pe hm, ev_two ha.ev hb.ev o.ev⟩
def fTest (F : Rho → Option SD) : Rho → Option Bool := fun ρ => (F ρ).bind SD.bool?
theorem ev_test {K : PySem.W.Frag} (h : EvD K t F) : EvB K (tTest t) (fTest F) := fun B H0 σ H ρ x R e Q q => by
  unfold fTest at e
  cases ef : F ρ with
  | none => rw [ef] at e; cases e
  | some s =>
    rw [ef] at e
    exact h B H0 σ H ρ s R ef _ fun v H' e1 t1 _ => ⟨x, tw_bool t1 e, q H' e1⟩
theorem dt_cmp {op : CmpOp} (o : DOp X (compareOp op) r g) (ha : DE X a ta Fa) (hb : DE X b tb Fb) (hm : behindInMarks op b = false := by rfl) : DT X (.Compare a [op] [b] pos) (tTest (tOp r ta tb)) (fTest (fTwo g Fa Fb)) := ⟨pt_cmpR o.op ha.pe hb.pe hm, ev_test (ev_two ha.ev hb.ev o.ev)⟩
/-- a call, a name, .. that gives a bool, as a test -/
theorem dt_val (h : DE X e t F) (he : ∀ whole, isTrue e X.env whole = (do let v ← whole; standAt e.pos; holding [v] (truthy v)) := by intro _; rfl) : DT X e (tB t) (fTest F) := ⟨pt_val h.pe he, ev_test h.ev⟩
def fNot (T : Rho → Option Bool) : Rho → Option Bool := fun ρ => (T ρ).map fun b => !b
theorem dt_not (h : DT X a u T) : DT X (.UnaryOp .Not a pos) (tNot u) (fNot T) := ⟨pt_not h.pt, fun B H0 σ H ρ x R e Q q => by
  unfold fNot at e
  cases ef : T ρ with
  | none => rw [ef] at e; cases e
  | some y =>
    rw [ef] at e
    have e2 := (Option.some.inj e)
    subst e2
    exact h.ev B H0 σ H ρ y R ef _ fun H' e1 => q H' e1⟩
def fAnd (T U : Rho → Option Bool) : Rho → Option Bool := fun ρ => (T ρ).bind fun x => if x then U ρ else some false
def fOr (T U : Rho → Option Bool) : Rho → Option Bool := fun ρ => (T ρ).bind fun x => if x then some true else U ρ
theorem ev_and {K : PySem.W.Frag} (h : EvB K ua Ta) (h' : EvB K ub Tb) : EvB K (tAnd ua ub) (fAnd Ta Tb) := fun B H0 σ H ρ x R e Q q => by
  unfold fAnd at e
  cases ef : Ta ρ with
  | none => rw [ef] at e; cases e
  | some y =>
    rw [ef] at e
    refine h B H0 σ H ρ y R ef _ fun H1 e1 => ?_
    cases y with
    | true => exact h' B H0 σ H1 ρ x (R.mono e1) e _ fun H2 e2 => q H2 (e1.trans e2)
    | false =>
      have e2 : false = x := Option.some.inj e
      subst e2
      exact q H1 e1
theorem ev_or {K : PySem.W.Frag} (h : EvB K ua Ta) (h' : EvB K ub Tb) : EvB K (tOr ua ub) (fOr Ta Tb) := fun B H0 σ H ρ x R e Q q => by
  unfold fOr at e
  cases ef : Ta ρ with
  | none => rw [ef] at e; cases e
  | some y =>
    rw [ef] at e
    refine h B H0 σ H ρ y R ef _ fun H1 e1 => ?_
    cases y with
    | false => exact h' B H0 σ H1 ρ x (R.mono e1) e _ fun H2 e2 => q H2 (e1.trans e2)
    | true =>
      have e2 : true = x := Option.some.inj e
      subst e2
      exact q H1 e1
structure DW (X : Cx) (e : Expr) (t : TT) (F : Rho → Option Bool) : Prop where
  pw : PW X e t
  ev : EvB X.K t F
theorem DW.dt (h : DW X e u T) : DT X e u T := ⟨h.pw.pt, h.ev⟩
theorem dw_and1 (h : DT X a u T) : DW X (.BoolOp .And [a] pos) u T := ⟨pw_and1 h.pt, h.ev⟩
theorem dw_or1 (h : DT X a u T) : DW X (.BoolOp .Or [a] pos) u T := ⟨pw_or1 h.pt, h.ev⟩
theorem dw_and {rest : List Expr} (ha : DT X a ua Ta) (hb : DW X (.BoolOp .And (b :: rest) pos) ub Tb) : DW X (.BoolOp .And (a :: b :: rest) pos) (tAnd ua ub) (fAnd Ta Tb) := ⟨pw_and ha.pt hb.pw, ev_and ha.ev hb.ev⟩
theorem dw_or {rest : List Expr} (ha : DT X a ua Ta) (hb : DW X (.BoolOp .Or (b :: rest) pos) ub Tb) : DW X (.BoolOp .Or (a :: b :: rest) pos) (tOr ua ub) (fOr Ta Tb) := ⟨pw_or ha.pt hb.pw, ev_or ha.ev hb.ev⟩
def fIf (T : Rho → Option Bool) (F G : Rho → Option SD) : Rho → Option SD := fun ρ => (T ρ).bind fun x => if x then F ρ else G ρ
theorem de_if (hc : DT X c u T) (ha : DE X a ta Fa) (hb : DE X b tb Fb) : DE X (.IfExp c a b pos) (tIf u ta tb) (fIf T Fa Fb) := ⟨pe_ifExp hc.pt ha.pe hb.pe, fun B H0 σ H ρ s R e Q q => by
  unfold fIf at e
  cases ef : T ρ with
  | none => rw [ef] at e; cases e
  | some y =>
    rw [ef] at e
    refine hc.ev B H0 σ H ρ y R ef _ fun H1 e1 => ?_
    cases y with
    | true => exact ha.ev B H0 σ H1 ρ s (R.mono e1) e _ fun v H2 e2 t2 f2 => q v H2 (e1.trans e2) t2 fun n x y => fresh_back e1 (f2 n x y)
    | false => exact hb.ev B H0 σ H1 ρ s (R.mono e1) e _ fun v H2 e2 t2 f2 => q v H2 (e1.trans e2) t2 fun n x y => fresh_back e1 (f2 n x y)⟩

/-! ### subscripts -/
theorem atI_dp {K : PySem.W.Frag} {H : Hp} {xs : List V} {ds : List D} {i : Int} {d : D} (h : DqAll K H xs ds) (e : atI ds i = some d) : ∃ v, atI xs i = some v ∧ Dq K H v d := by
  unfold atI at e ⊢
  rw [dpa_len h]
  cases q : ixN ds.length i with
  | none => rw [q] at e; cases e
  | some j =>
    rw [q] at e
    obtain ⟨v, h1, h2⟩ := dpa_get h (show ds[j]? = some d from e)
    exact ⟨v, h1, h2⟩
def gIx : SD → SD → Option SD := fun s1 s2 => s1.items.bind fun ds => s2.int?.bind fun i => (atI ds i).map SD.v
theorem ev_ix {K : PySem.W.Frag} : EvR K (fun x y H Q => rIxL K x y H Q ∨ rIxT K x y H Q) gIx := fun H x y s1 s2 s h1 h2 e Q q => by
  unfold gIx at e
  cases e1 : s1.items with
  | none => rw [e1] at e; cases e
  | some ds =>
    cases e2 : s2.int? with
    | none => rw [e1] at e; simp [e2] at e
    | some i =>
      cases e3 : atI ds i with
      | none => rw [e1] at e; simp [e2, e3] at e
      | some d =>
        rw [e1] at e
        simp [e2, e3] at e
        subst e
        obtain ⟨p, xs, rfl, hq, hd⟩ := imm_items h1 e1
        have hy := tw_int h2 e2
        subst hy
        obtain ⟨v, ev, dv⟩ := atI_dp hd e3
        have hv := q_val q dv
        rcases hq with hq | hq
        · exact .inr ⟨p, xs, i, v, rfl, rfl, hq, ev, hv⟩
        · exact .inl ⟨p, xs, i, v, rfl, rfl, hq, ev, hv⟩
theorem de_ix (ha : DE X a ta Fa) (hb : DE X b tb Fb) (hs : PlainIx b := by intro _ _; rfl) : DE X (.Subscript a b pos) (tOp (fun x y H Q => rIxL X.K x y H Q ∨ rIxT X.K x y H Q) ta tb) (fTwo gIx Fa Fb) := ⟨pe_ix (IxR.or ix_list ix_tup) ha.pe hb.pe hs, ev_two ha.ev hb.ev ev_ix⟩
/-- a slice's end -/
def EvO (K : PySem.W.Frag) (t : TO) (F : Rho → Option (Option Int)) : Prop := ∀ B H0 σ H ρ o, Rp K B H0 σ H ρ → F ρ = some o → ∀ Q : Option Int → Hp → Prop, (∀ H', Ex H H' → Q o H') → t σ H Q
structure DO (X : Cx) (e : Option Expr) (t : TO) (F : Rho → Option (Option Int)) : Prop where
  po : PO X e t
  ev : EvO X.K t F
theorem do_none : DO X none tNoPart (fun _ => some none) := ⟨po_none, fun B H0 σ H ρ o R e Q q => by
  have e2 : none = o := Option.some.inj e
  subst e2
  exact q H (Ex.refl H)⟩
theorem do_some (h : DE X e t F) : DO X (some e) (tPart t) (fun ρ => (F ρ).bind fun s => s.int?.map some) := ⟨po_some h.pe, fun B H0 σ H ρ o R e Q q => by
  have e : ((F ρ).bind fun s => s.int?.map some) = some o := e
  cases ef : F ρ with
  | none => rw [ef] at e; cases e
  | some s =>
    rw [ef] at e
    cases ei : s.int? with
    | none => simp [ei] at e
    | some i =>
      simp [ei] at e
      subst e
      exact h.ev B H0 σ H ρ s R ef _ fun v H' e1 t1 _ => ⟨i, tw_int t1 ei, q H' e1⟩⟩
def cutD (ds : List D) (lo hi : Option Int) : List D := (ds.drop (HT.sIx ds.length 0 lo)).take (HT.sIx ds.length ds.length hi - HT.sIx ds.length 0 lo)
theorem cut_dp {K : PySem.W.Frag} {H : Hp} {xs : List V} {ds : List D} {lo hi : Option Int} (h : DqAll K H xs ds) : DqAll K H (cutV xs lo hi) (cutD ds lo hi) := by
  unfold cutV cutD
  rw [dpa_len h]
  exact dpa_take _ (dpa_drop _ h)
theorem cut_whole {ds : List D} {lo hi : Option Int} (h : HT.sIx ds.length 0 lo = 0 ∧ HT.sIx ds.length ds.length hi = ds.length) : cutD ds lo hi = ds := by
  unfold cutD
  rw [h.1, h.2]
  simp
def gSl (s : SD) (lo hi : Option Int) : Option SD := match s with
  | .v (.tup _ ds) => some (.v (.tup false (cutD ds lo hi)))
  | .lst _ ds => some (.lst .new (cutD ds lo hi))
  | _ => none
def fSl (F : Rho → Option SD) (L U : Rho → Option (Option Int)) : Rho → Option SD := fun ρ => (F ρ).bind fun s => (L ρ).bind fun lo => (U ρ).bind fun hi => gSl s lo hi
theorem de_sl {lo hi : Option Expr} {tl th : TO} {L U : Rho → Option (Option Int)} {p2 : Pos} (ha : DE X a ta Fa) (hl : DO X lo tl L) (hu : DO X hi th U) :
    DE X (.Subscript a (.Slice lo hi none p2) pos) (tSl (fun x lo hi H Q => rSlL X.K x lo hi H Q ∨ rSlA X.K x lo hi H Q) ta tl th) (fSl Fa L U) := ⟨pe_slice (SlR.or sl_list sl_tupA) ha.pe hl.po hu.po, fun B H0 σ H ρ s R e Q q => by
  unfold fSl at e
  cases e1 : Fa ρ with
  | none => rw [e1] at e; cases e
  | some s1 =>
    cases e2 : L ρ with
    | none => rw [e1] at e; simp [e2] at e
    | some l =>
      cases e3 : U ρ with
      | none => rw [e1] at e; simp [e2, e3] at e
      | some h =>
        rw [e1] at e
        simp [e2, e3] at e
        refine ha.ev B H0 σ H ρ s1 R e1 _ fun x H1 x1 t1 _ => hl.ev B H0 σ H1 ρ l (R.mono x1) e2 _ fun H2 x2 => hu.ev B H0 σ H2 ρ h (R.mono (x1.trans x2)) e3 _ fun H3 x3 => ?_
        have t3 := tw_ex (x2.trans x3) t1
        have q3 : ∀ v H', Ex H3 H' → Tw X.K H' v s → Fr0 H3 v s → Q v H' := fun v H' y t f => q v H' (((x1.trans x2).trans x3).trans y) t fun n a ea => fresh_back ((x1.trans x2).trans x3) (f n a ea)
        cases s1 with
        | v d =>
          cases d <;> simp [gSl] at e
          subst e
          obtain ⟨p, xs, rfl, hq, hd⟩ := tw_tup t3
          refine .inr ⟨p, xs, rfl, hq, fun w => ?_, fun _ p' hp => q_new q3 (cut_dp hd) hp⟩
          rw [dpa_len hd] at w
          rw [cut_whole w] at q3
          exact q3 _ H3 (Ex.refl _) (dq_less t3) fr_v
        | lst o ds =>
          simp [gSl] at e
          subst e
          obtain ⟨p, xs, rfl, hq, hd⟩ := t3
          exact .inl ⟨p, xs, rfl, SqL.of hq, fun p' hp => q_lst q3 (cut_dp hd) hp⟩
        | dic o kvs => simp [gSl] at e⟩

/-! ### + - * -/
def gAdd : SD → SD → Option SD
  | .v (.int i), .v (.int j) => some (.v (.int (i + j)))
  | .v (.tup _ xs), .v (.tup _ ys) => if few (xs.length + ys.length) then some (.v (.tup false (xs ++ ys))) else none
  | .lst _ xs, .lst _ ys => if few (xs.length + ys.length) then some (.lst .new (xs ++ ys)) else none
  | _, _ => none
theorem tw_i {K : PySem.W.Frag} {H : Hp} {v : V} {i : Int} (h : Tw K H v (.v (.int i))) : v = .int i := tw_int h rfl
theorem op_addD : DOp X (binaryOp .Add) (fun x y H Q => rI0 (fun i j => .int (i + j)) x y H Q ∨ (rCatA X.K x y H Q ∨ rCat x y H Q)) gAdd := ⟨OpR.or op_add (OpR.or op_catA op_cat), fun H x y s1 s2 s h1 h2 e Q q => by
  unfold gAdd at e
  split at e
  · have e' := Option.some.inj e
    subst e'
    have a1 := tw_i h1
    have a2 := tw_i h2
    subst a1 a2
    exact .inl ⟨_, _, rfl, rfl, q_val q (.int _)⟩
  · split at e
    · rename_i hl
      have e' := Option.some.inj e
      subst e'
      obtain ⟨p, xs, rfl, hq, hd⟩ := tw_tup h1
      obtain ⟨p', xs', rfl, hq', hd'⟩ := tw_tup h2
      refine .inr (.inl ⟨p, p', xs, xs', rfl, rfl, hq, hq', by rw [dpa_len hd, dpa_len hd']; exact few_le hl, fun z => ?_, fun _ z => ?_, fun _ _ p2 hp => q_new q (dpa_app hd hd') hp⟩)
      · have z' := (dpa_ne hd).mp z
        subst z'
        exact q _ H (Ex.refl H) (dq_less h2) fr_v
      · have z' := (dpa_ne hd').mp z
        subst z'
        rw [List.append_nil] at q
        exact q _ H (Ex.refl H) (dq_less h1) fr_v
    · cases e
  · split at e
    · rename_i hl
      have e' := Option.some.inj e
      subst e'
      obtain ⟨p, xs, rfl, hq, hd⟩ := h1
      obtain ⟨p', xs', rfl, hq', hd'⟩ := h2
      exact .inr (.inr ⟨p, p', xs, xs', rfl, rfl, hq, hq', by rw [dpa_len hd, dpa_len hd']; exact few_le hl, fun p2 hp => q_lst q (dpa_app hd hd') hp⟩)
    · cases e
  · cases e⟩
def gSub2 : SD → SD → Option SD
  | .v (.int i), .v (.int j) => some (.v (.int (i - j)))
  | _, _ => none
theorem op_subD : DOp X (binaryOp .Sub) (rI0 fun i j => .int (i - j)) gSub2 := ⟨op_sub, fun H x y s1 s2 s h1 h2 e Q q => by
  unfold gSub2 at e
  split at e
  · have e' := Option.some.inj e
    subst e'
    have a1 := tw_i h1
    have a2 := tw_i h2
    subst a1 a2
    exact ⟨_, _, rfl, rfl, q_val q (.int _)⟩
  · cases e⟩
def gMul : SD → SD → Option SD
  | .v (.tup _ ds), .v (.int k) => if (!ds.isEmpty && decide (2 ≤ k) && decide (k ≤ 1000) && decide (ds.length ≤ 1000)) then some (.v (.tup false (List.replicate k.toNat ds).flatten)) else none
  | .lst _ ds, .v (.int k) => if (decide (0 ≤ k) && decide (k ≤ 1000) && few (ds.length * k.toNat)) then some (.lst .new (List.replicate k.toNat ds).flatten) else none
  | _, _ => none
theorem op_mulD : DOp X (binaryOp .Mult) (fun x y H Q => rRepT X.K x y H Q ∨ rRep x y H Q) gMul := ⟨OpR.or op_repT op_rep, fun H x y s1 s2 s h1 h2 e Q q => by
  unfold gMul at e
  split at e
  · split at e
    · rename_i hl
      have e' := Option.some.inj e
      subst e'
      simp only [Bool.and_eq_true, decide_eq_true_eq] at hl
      obtain ⟨⟨⟨n0, k2⟩, k3⟩, k4⟩ := hl
      obtain ⟨p, xs, rfl, hq, hd⟩ := tw_tup h1
      have a2 := tw_i h2
      subst a2
      refine .inl ⟨p, _, xs, rfl, rfl, hq, fun z => ?_, k2, k3, by rw [dpa_len hd]; exact k4, fun p2 hp => q_new q (dpa_reps hd _) hp⟩
      have z' := (dpa_ne hd).mp z
      subst z'
      simp at n0
    · cases e
  · split at e
    · rename_i hl
      have e' := Option.some.inj e
      subst e'
      simp only [Bool.and_eq_true, decide_eq_true_eq] at hl
      obtain ⟨⟨k1, k2⟩, k3⟩ := hl
      obtain ⟨p, xs, rfl, hq, hd⟩ := h1
      have a2 := tw_i h2
      subst a2
      exact .inr ⟨p, _, xs, rfl, rfl, hq, by omega, by omega, by rw [dpa_len hd]; exact few_le k3, fun p2 hp => q_lst q (dpa_reps hd _) hp⟩
    · cases e
  · cases e⟩

/-! ### comparisons -/
def gII (p : Int → Int → Bool) : SD → SD → Option SD
  | .v (.int i), .v (.int j) => some (.v (.bl (p i j)))
  | _, _ => none
theorem ev_ii {K : PySem.W.Frag} {p : Int → Int → Bool} : EvR K (rI0 fun i j => .bl (p i j)) (gII p) := fun H x y s1 s2 s h1 h2 e Q q => by
  unfold gII at e
  split at e
  · have e' := Option.some.inj e
    subst e'
    have a1 := tw_i h1
    have a2 := tw_i h2
    subst a1 a2
    exact ⟨_, _, rfl, rfl, q_val q (.bl _)⟩
  · cases e
theorem op_ltD : DOp X (compareOp .Lt) (rI0 fun i j => .bl (decide (i < j))) (gII fun i j => decide (i < j)) := ⟨op_lt, ev_ii⟩
theorem op_leD : DOp X (compareOp .LtE) (rI0 fun i j => .bl (decide (i ≤ j))) (gII fun i j => decide (i ≤ j)) := ⟨op_le, ev_ii⟩
def SD.sc : SD → Option V
  | .v d => toV d
  | _ => none
theorem tw_sc {K : PySem.W.Frag} {H : Hp} {v z : V} {s : SD} (h : Tw K H v s) (q : s.sc = some z) : v = z := by
  cases s with
  | v d => exact dp_scal h q
  | lst o ds => simp [SD.sc] at q
  | dic o ds => simp [SD.sc] at q
def gEq (neg : Bool) : SD → SD → Option SD := fun s1 s2 => s1.sc.bind fun x => s2.sc.bind fun y => if scal x y then some (.v (.bl (if neg then !decide (x = y) else decide (x = y)))) else none
theorem gEq_inv {neg : Bool} {s1 s2 s : SD} (h : gEq neg s1 s2 = some s) : ∃ x y, s1.sc = some x ∧ s2.sc = some y ∧ scal x y = true ∧ s = .v (.bl (if neg then !decide (x = y) else decide (x = y))) := by
  unfold gEq at h
  cases e1 : s1.sc with
  | none => rw [e1] at h; cases h
  | some x =>
    cases e2 : s2.sc with
    | none => rw [e1] at h; simp [e2] at h
    | some y =>
      rw [e1] at h
      simp only [e2, Option.bind_some] at h
      split at h
      · rename_i q
        exact ⟨x, y, rfl, rfl, q, (Option.some.inj h).symm⟩
      · cases h
theorem op_eqS : DOp X (compareOp .Eq) rEq (gEq false) := ⟨op_eq, fun H x y s1 s2 s h1 h2 e Q q => by
  obtain ⟨z1, z2, e1, e2, hs, rfl⟩ := gEq_inv e
  have a1 := tw_sc h1 e1
  have a2 := tw_sc h2 e2
  subst a1 a2
  exact ⟨hs, q_val q (.bl _)⟩⟩
theorem op_neS : DOp X (compareOp .NotEq) rNe (gEq true) := ⟨op_ne, fun H x y s1 s2 s h1 h2 e Q q => by
  obtain ⟨z1, z2, e1, e2, hs, rfl⟩ := gEq_inv e
  have a1 := tw_sc h1 e1
  have a2 := tw_sc h2 e2
  subst a1 a2
  exact ⟨hs, q_val q (.bl _)⟩⟩
def isNone : SD → Bool
  | .v .non => true
  | _ => false
theorem tw_none {K : PySem.W.Frag} {H : Hp} {v : V} {s : SD} (h : Tw K H v s) : decide (v = .non) = isNone s := by
  cases s with
  | v d =>
    have h : Dq K H v d := h
    cases h <;> simp [isNone]
  | lst o ds =>
    obtain ⟨a, _, rfl, _⟩ := h
    simp [isNone]
  | dic o ds =>
    obtain ⟨a, rfl, _⟩ := h
    simp [isNone]
def gIs (neg : Bool) : SD → SD → Option SD := fun s1 s2 => if isNone s2 then some (.v (.bl (if neg then !isNone s1 else isNone s1))) else none
theorem gIs_inv {neg : Bool} {s1 s2 s : SD} (h : gIs neg s1 s2 = some s) : isNone s2 = true ∧ s = .v (.bl (if neg then !isNone s1 else isNone s1)) := by
  unfold gIs at h
  split at h
  · rename_i q
    exact ⟨q, (Option.some.inj h).symm⟩
  · cases h
theorem op_isD : DOp X (compareOp .Is) (fun x y H Q => y = .non ∧ Q (.bl (decide (x = .non))) H) (gIs false) := ⟨op_isN, fun H x y s1 s2 s h1 h2 e Q q => by
  obtain ⟨e1, rfl⟩ := gIs_inv e
  refine ⟨of_decide_eq_true ((tw_none h2).trans e1), ?_⟩
  rw [tw_none h1]
  exact q_val q (.bl _)⟩
theorem op_notD : DOp X (compareOp .IsNot) (fun x y H Q => y = .non ∧ Q (.bl (!decide (x = .non))) H) (gIs true) := ⟨op_notN, fun H x y s1 s2 s h1 h2 e Q q => by
  obtain ⟨e1, rfl⟩ := gIs_inv e
  refine ⟨of_decide_eq_true ((tw_none h2).trans e1), ?_⟩
  rw [tw_none h1]
  exact q_val q (.bl _)⟩
/-- x in a row of scalars -/
def allV : List D → Option (List V)
  | [] => some []
  | d :: ds => (toV d).bind fun v => (allV ds).map fun vs => v :: vs
theorem toV_flat {d : D} {v : V} (h : toV d = some v) : flatV v = true := by
  cases d <;> simp [toV] at h <;> subst h <;> rfl
theorem allV_dp {K : PySem.W.Frag} {H : Hp} : ∀ {ds : List D} {xs vs : List V}, DqAll K H xs ds → allV ds = some vs → xs = vs ∧ xs.all flatV = true
  | [], _, _, .nil, h => by
    have e := Option.some.inj h
    subst e
    exact ⟨rfl, rfl⟩
  | d :: ds, _, _, .cons a b, h => by
    unfold allV at h
    cases e1 : toV d with
    | none => rw [e1] at h; cases h
    | some v =>
      cases e2 : allV ds with
      | none => rw [e1] at h; simp [e2] at h
      | some vs =>
        rw [e1] at h
        simp [e2] at h
        subst h
        have q1 := dp_scal a e1
        obtain ⟨q2, q3⟩ := allV_dp b e2
        subst q1 q2
        exact ⟨rfl, by simp [toV_flat e1, q3]⟩
def gIn (neg : Bool) : SD → SD → Option SD := fun s1 s2 => s1.sc.bind fun x => s2.items.bind fun ds => (allV ds).map fun vs => .v (.bl (if neg then !inV x vs else inV x vs))
theorem ev_in {K : PySem.W.Frag} {neg : Bool} : EvR K (rIn K neg) (gIn neg) := fun H x y s1 s2 s h1 h2 e Q q => by
  unfold gIn at e
  cases e1 : s1.sc with
  | none => rw [e1] at e; cases e
  | some z =>
    cases e2 : s2.items with
    | none => rw [e1] at e; simp [e2] at e
    | some ds =>
      cases e3 : allV ds with
      | none => rw [e1] at e; simp [e2, e3] at e
      | some vs =>
        rw [e1] at e
        simp only [e2, e3, Option.bind_some, Option.map_some, Option.some.injEq] at e
        subst e
        have a1 := tw_sc h1 e1
        subst a1
        obtain ⟨p, xs, rfl, hq, hd⟩ := imm_items h2 e2
        obtain ⟨rfl, hf⟩ := allV_dp hd e3
        refine ⟨p, xs, rfl, hq.symm, ?_, hf, q_val q (.bl _)⟩
        cases s1 with
        | v d => exact toV_flat e1
        | lst o ds => simp [SD.sc] at e1
        | dic o ds => simp [SD.sc] at e1
theorem op_inD : DOp X (compareOp .In) (rIn X.K false) (gIn false) := ⟨op_in_seq, ev_in⟩
theorem op_notInD : DOp X (compareOp .NotIn) (rIn X.K true) (gIn true) := ⟨op_notIn_seq, ev_in⟩
def fChain (g g' : SD → SD → Option SD) (Fa Fb Fc : Rho → Option SD) : Rho → Option SD := fun ρ => (Fa ρ).bind fun s1 => (Fb ρ).bind fun s2 => (g s1 s2).bind fun k => k.bool?.bind fun b => if b then (Fc ρ).bind fun s3 => g' s2 s3 else some (.v (.bl false))
theorem fChain_inv {g g' : SD → SD → Option SD} {ρ : Rho} {s : SD} (h : fChain g g' Fa Fb Fc ρ = some s) : ∃ s1 s2 k b, Fa ρ = some s1 ∧ Fb ρ = some s2 ∧ g s1 s2 = some k ∧ k.bool? = some b ∧ (b = true → ∃ s3, Fc ρ = some s3 ∧ g' s2 s3 = some s) ∧ (b = false → s = .v (.bl false)) := by
  unfold fChain at h
  cases e1 : Fa ρ with
  | none => rw [e1] at h; cases h
  | some s1 =>
    cases e2 : Fb ρ with
    | none => rw [e1] at h; simp [e2] at h
    | some s2 =>
      cases e3 : g s1 s2 with
      | none => rw [e1] at h; simp [e2, e3] at h
      | some k =>
        cases e4 : k.bool? with
        | none => rw [e1] at h; simp [e2, e3, e4] at h
        | some b =>
          rw [e1] at h
          simp only [e2, e3, e4, Option.bind_some] at h
          refine ⟨s1, s2, k, b, rfl, rfl, e3, e4, fun hb => ?_, fun hb => ?_⟩
          · rw [hb, if_pos rfl] at h
            cases e5 : Fc ρ with
            | none => rw [e5] at h; cases h
            | some s3 => exact ⟨s3, rfl, by rw [e5] at h; exact h⟩
          · rw [hb] at h
            exact (Option.some.inj h).symm
theorem de_chain {op op' : CmpOp} {r' : R2} {g' : SD → SD → Option SD} (o : DOp X (compareOp op) r g) (o' : DOp X (compareOp op') r' g') (ha : DE X a ta Fa) (hb : DE X b tb Fb) (hc : DE X c tc Fc)
    (hp : PE X (.Compare a [op, op'] [b, c] pos) (tChain r r' ta tb tc)) : DE X (.Compare a [op, op'] [b, c] pos) (tChain r r' ta tb tc) (fChain g g' Fa Fb Fc) := ⟨hp, fun B H0 σ H ρ s R e Q q => by
  obtain ⟨s1, s2, k, b', e1, e2, e3, e4, e5, e6⟩ := fChain_inv e
  refine ha.ev B H0 σ H ρ s1 R e1 _ fun x H1 x1 t1 _ => hb.ev B H0 σ H1 ρ s2 (R.mono x1) e2 _ fun y H2 x2 t2 _ => ?_
  refine o.ev H2 x y s1 s2 k (tw_ex x2 t1) t2 e3 _ fun z H3 x3 t3 _ => ⟨b', tw_bool t3 e4, ?_⟩
  have x13 := (x1.trans x2).trans x3
  cases b' with
  | true =>
    rw [if_pos rfl]
    obtain ⟨s3, e7, e8⟩ := e5 rfl
    refine hc.ev B H0 σ H3 ρ s3 (R.mono x13) e7 _ fun w H4 x4 t4 _ => ?_
    exact o'.ev H4 y w s2 s3 s (tw_ex (x3.trans x4) t2) t4 e8 Q fun v H5 x5 t5 f5 => q v H5 ((x13.trans x4).trans x5) t5 fun n a ea => fresh_back (x13.trans x4) (f5 n a ea)
  | false =>
    rw [if_neg (by decide)]
    have e7 := e6 rfl
    subst e7
    exact q _ H3 x13 (.bl false) fr_v⟩
end
end Dn
/-! Data, 3: statements; a def as a plain function; calls. -/
namespace Dn
open PySem L2
open Evl (Ex Ex.refl Ex.trans Ex.new ex_rd ex_l ex_t fresh_back)

inductive Out where
  | nx (ρ : Rho) | rt (s : SD) | bk (ρ : Rho) | ct (ρ : Rho)
def OutOk (K : PySem.W.Frag) (B : Addr → Prop) (H0 : Hp) (D : Ends) : Out → Prop
  | .nx ρ => ∀ σ' H', Rp K B H0 σ' H' ρ → D.nx σ' H'
  | .rt s => ∀ v H', ExB B H0 H' → Tw K H' v s → Fr0 H0 v s → D.rt v H'
  | .bk ρ => ∀ σ' H', Rp K B H0 σ' H' ρ → D.bk σ' H'
  | .ct ρ => ∀ σ' H', Rp K B H0 σ' H' ρ → D.ct σ' H'
def EvS (K : PySem.W.Frag) (t : TS) (G : Rho → Option Out) : Prop := ∀ B H0 σ H ρ o, Rp K B H0 σ H ρ → G ρ = some o → ∀ D : Ends, OutOk K B H0 D o → t D σ H
structure DS (X : Cx) (st : Stmt) (t : TS) (G : Rho → Option Out) : Prop where
  ps : PS X st t
  ev : EvS X.K t G
structure DSs (X : Cx) (st : List Stmt) (t : TS) (G : Rho → Option Out) : Prop where
  ps : PSs X st t
  ev : EvS X.K t G
theorem keep_new {s s' : SD} (k : s.keep = some s') : s'.isNew = false ∧ (s'.own = some .own ↔ s.isNew = true) ∧ (s'.own ≠ none → s.isNew = true) := by
  cases s with
  | v d =>
    simp [SD.keep] at k
    subst k
    simp [SD.isNew, SD.own]
  | lst o ds =>
    cases o <;> simp [SD.keep] at k
    subst k
    simp [SD.isNew, SD.own]
  | dic o ds =>
    cases o <;> simp [SD.keep] at k
    subst k
    simp [SD.isNew, SD.own]
theorem tw_keep {K : PySem.W.Frag} {H : Hp} {v : V} {s s' : SD} (k : s.keep = some s') (h : Tw K H v s) : Tw K H v s' := by
  cases s with
  | v d =>
    simp [SD.keep] at k
    subst k
    exact h
  | lst o ds =>
    cases o <;> simp [SD.keep] at k
    subst k
    exact h
  | dic o ds =>
    cases o <;> simp [SD.keep] at k
    subst k
    exact h
/-- the address of a list, a dict is taken -/
theorem tw_taken {K : PySem.W.Frag} {H : Hp} {v : V} {s : SD} (h : Tw K H v s) (o : s.own ≠ none) : ∃ a, v = .ref a ∧ H a ≠ none := by
  cases s with
  | v d => exact absurd rfl o
  | lst o ds =>
    obtain ⟨a, xs, e, h2, _⟩ := h
    exact ⟨a, e, by rw [h2]; simp⟩
  | dic o ds =>
    obtain ⟨a, e, h2⟩ := h
    exact ⟨a, e, by rw [h2]; simp⟩
theorem Rp.set {K : PySem.W.Frag} {B : Addr → Prop} {H0 H H' : Hp} {σ : St} {ρ : Rho} {v : V} {s s' : SD} (r : Rp K B H0 σ H ρ) (e : Ex H H') (t : Tw K H' v s) (f : Fr0 H v s) (k : s.keep = some s') (i : Nat) : Rp K B H0 (σ.set i (some v)) H' (ρ.set i (some s')) := by
  obtain ⟨k1, k2, k3⟩ := keep_new k
  have get : ∀ {j : Nat} {x : SD}, (ρ.set i (some s'))[j]? = some (some x) → (j = i ∧ x = s' ∧ (σ.set i (some v))[j]? = some (some v)) ∨ (j ≠ i ∧ ρ[j]? = some (some x) ∧ (σ.set i (some v))[j]? = σ[j]?) := by
    intro j x h
    by_cases hj : i = j
    · subst hj
      have hl : i < ρ.length := by
        have := (List.getElem?_eq_some_iff.mp h).1
        simpa using this
      rw [List.getElem?_set_self hl] at h
      exact .inl ⟨rfl, (Option.some.inj (Option.some.inj h)).symm, List.getElem?_set_self (by rw [r.len]; exact hl)⟩
    · rw [List.getElem?_set_ne hj] at h
      exact .inr ⟨fun z => hj z.symm, h, List.getElem?_set_ne hj⟩
  -- a new address is none that a slot holds
  have apart : ∀ {j : Nat} {x : SD} {a : Addr}, ρ[j]? = some (some x) → x.own ≠ none → σ[j]? = some (some (.ref a)) → s.isNew = true → v = .ref a → False := by
    intro j x a h1 h2 h3 n ev
    obtain ⟨w, e1, e2⟩ := r.val j x h1
    rw [h3] at e1
    have ew : w = .ref a := (Option.some.inj (Option.some.inj e1)).symm
    subst ew
    obtain ⟨a', ea, na⟩ := tw_taken e2 h2
    cases ea
    exact na (f n a ev)
  refine ⟨r.ex.trans (.of e), fun j x h => ?_, fun j x h => ?_, fun j x a h o q => ?_, fun j l x y a h o h' o' q q' => ?_, by simp [r.len]⟩
  · rcases get h with ⟨rfl, rfl, q⟩ | ⟨_, h1, q⟩
    · exact ⟨v, q, tw_keep k t⟩
    · obtain ⟨w, e1, e2⟩ := r.val j x h1
      exact ⟨w, q.trans e1, tw_ex e e2⟩
  · rcases get h with ⟨_, rfl, _⟩ | ⟨_, h1, _⟩
    · exact k1
    · exact r.nn j x h1
  · rcases get h with ⟨rfl, rfl, q'⟩ | ⟨_, h1, q'⟩
    · rw [q'] at q
      have ev : v = .ref a := Option.some.inj (Option.some.inj q)
      exact r.ex.free (f (k2.mp o) a ev)
    · exact r.own j x a h1 o (q'.symm.trans q)
  · rcases get h with ⟨rfl, rfl, z⟩ | ⟨n1, h1, z⟩
    · rw [z] at q
      have ev : v = .ref a := Option.some.inj (Option.some.inj q)
      rcases get h' with ⟨rfl, _, _⟩ | ⟨n2, h2, z'⟩
      · rfl
      · exact (apart h2 o' (z'.symm.trans q') (k2.mp o) ev).elim
    · rcases get h' with ⟨rfl, rfl, z'⟩ | ⟨n2, h2, z'⟩
      · rw [z'] at q'
        have ev : v = .ref a := Option.some.inj (Option.some.inj q')
        exact (apart h1 (by rw [o]; simp) (z.symm.trans q) (k3 o') ev).elim
      · exact r.sep j l x y a h1 o h2 o' (z.symm.trans q) (z'.symm.trans q')

section
variable {X : Cx} {e a b c : Expr} {es : List Expr} {t ta tb tc : TE} {tr : TA} {u ua ub : TT} {F Fa Fb Fc : Rho → Option SD} {T : Rho → Option Bool} {FA : Rho → Option (List SD)} {pos : Pos} {st : Stmt} {sts rest : List Stmt} {ts ts' : TS} {G G' : Rho → Option Out}
theorem dss_nil : DSs X [] tNext (fun ρ => some (.nx ρ)) := ⟨pss_nil, fun B H0 σ H ρ o R e D q => by
  have e2 := Option.some.inj e
  subst e2
  exact q σ H R⟩
def fSeq (G G' : Rho → Option Out) : Rho → Option Out := fun ρ => (G ρ).bind fun o => match o with
  | .nx ρ' => G' ρ'
  | o => some o
theorem ev_seq {K : PySem.W.Frag} (h1 : EvS K ts G) (h2 : EvS K ts' G') : EvS K (tSeq ts ts') (fSeq G G') := fun B H0 σ H ρ o R e D q => by
  unfold fSeq at e
  cases eg : G ρ with
  | none => rw [eg] at e; cases e
  | some o1 =>
    rw [eg] at e
    refine h1 B H0 σ H ρ o1 R eg _ ?_
    cases o1 with
    | nx ρ' => exact fun σ' H' R' => h2 B H0 σ' H' ρ' o R' e D q
    | rt s =>
      have e2 := Option.some.inj e
      subst e2
      exact q
    | bk s =>
      have e2 := Option.some.inj e
      subst e2
      exact q
    | ct s =>
      have e2 := Option.some.inj e
      subst e2
      exact q
theorem dss_cons (h1 : DS X st ts G) (h2 : DSs X rest ts' G') : DSs X (st :: rest) (tSeq ts ts') (fSeq G G') := ⟨pss_cons h1.ps h2.ps, ev_seq h1.ev h2.ev⟩
theorem dss_one (h1 : DS X st ts G) : DSs X [st] ts G := ⟨pss_one h1.ps, h1.ev⟩
def fSet (i : Nat) (F : Rho → Option SD) : Rho → Option Out := fun ρ => (F ρ).bind fun s => s.keep.map fun s' => .nx (ρ.set i (some s'))
theorem ev_set {K : PySem.W.Frag} (i : Nat) (h : EvD K t F) : EvS K (tAsg t (gName i)) (fSet i F) := fun B H0 σ H ρ o R e D q => by
  unfold fSet at e
  cases ef : F ρ with
  | none => rw [ef] at e; cases e
  | some s =>
    cases ek : s.keep with
    | none => rw [ef] at e; simp [ek] at e
    | some s' =>
      rw [ef] at e
      simp [ek] at e
      subst e
      exact h B H0 σ H ρ s R.toRp ef _ fun v H' x1 t1 f1 => q _ H' (R.set x1 t1 f1 ek i)
theorem ds_set (i : Nat) {x : Str} {pos' : Pos} (he : DE X e t F) (hN : X.N.Nodup) (hi : X.N[i]? = some x := by rfl) (hx : Loc X.env.scope x := by first | exact Or.inl rfl | exact Or.inr rfl) (hs : swapsWith e (some (.Name x pos')) pos.line X.env = pure false := by rfl)
    (hf : X.fn x = true ∨ X.env.scope.names.lookup x = some .local := by first | exact .inl rfl | exact .inr rfl) : DS X (.Assign [.Name x pos'] e pos) (tAsg t (gName i)) (fSet i F) := ⟨ps_set hN hi hx he.pe hs hf, ev_set i he.ev⟩
def fRet (F : Rho → Option SD) : Rho → Option Out := fun ρ => (F ρ).bind fun s => s.out.map .rt
/-- what is handed out is data or a new object -/
theorem out_ok {K : PySem.W.Frag} {B : Addr → Prop} {H0 H H' : Hp} {v : V} {s s' : SD} (k : s.out = some s') (x : ExB B H0 H) (t : Tw K H' v s) (f : Fr0 H v s) (own : s.own = some .own → ∀ a, v = .ref a → H0 a = none) : Tw K H' v s' ∧ Fr0 H0 v s' := by
  cases s with
  | v d =>
    simp [SD.out] at k
    subst k
    exact ⟨t, fr_v⟩
  | lst o ds =>
    cases o <;> simp [SD.out] at k <;> subst k
    · exact ⟨t, fun _ a ea => own rfl a ea⟩
    · exact ⟨t, fun n a ea => x.free (f n a ea)⟩
  | dic o ds =>
    cases o <;> simp [SD.out] at k <;> subst k
    · exact ⟨t, fun _ a ea => own rfl a ea⟩
    · exact ⟨t, fun n a ea => x.free (f n a ea)⟩
/-- return e, e not a name that holds a list of one's own -/
def SD.fresh : SD → Option SD
  | .v d => some (.v d)
  | .lst .new ds => some (.lst .new ds)
  | .dic .new ds => some (.dic .new ds)
  | _ => none
def fRetE (F : Rho → Option SD) : Rho → Option Out := fun ρ => (F ρ).bind fun s => s.fresh.map .rt
theorem fresh_eq {s s' : SD} (h : s.fresh = some s') : s' = s ∧ s.own ≠ some .own := by
  cases s with
  | v d =>
    simp [SD.fresh] at h
    exact ⟨h.symm, by simp [SD.own]⟩
  | lst o ds => cases o <;> simp [SD.fresh] at h <;> exact ⟨h.symm, by simp [SD.own]⟩
  | dic o ds => cases o <;> simp [SD.fresh] at h <;> exact ⟨h.symm, by simp [SD.own]⟩
theorem ds_ret (he : DE X e t F) : DS X (.Return (some e) pos) (tRet t) (fRetE F) := ⟨ps_ret he.pe, fun B H0 σ H ρ o R e D q => by
  unfold fRetE at e
  cases ef : F ρ with
  | none => rw [ef] at e; cases e
  | some s =>
    cases ek : s.fresh with
    | none => rw [ef] at e; simp [ek] at e
    | some s' =>
      rw [ef] at e
      simp [ek] at e
      subst e
      obtain ⟨e1, e2⟩ := fresh_eq ek
      subst e1
      exact he.ev B H0 σ H ρ s' R.toRp ef _ fun v H' x1 t1 f1 => q v H' (R.ex.trans (.of x1)) t1 fun n a ea => R.ex.free (f1 n a ea)⟩
theorem ds_retN : DS X (.Return none pos) tRetN (fun _ => some (.rt (.v .non))) := ⟨ps_retN, fun B H0 σ H ρ o R e D q => by
  have e2 := Option.some.inj e
  subst e2
  exact q .non H R.ex .non fr_v⟩
theorem ds_pass : DS X (.Pass pos) tNext (fun ρ => some (.nx ρ)) := ⟨ps_pass, fun B H0 σ H ρ o R e D q => by
  have e2 := Option.some.inj e
  subst e2
  exact q σ H R⟩
theorem ds_break : DS X (.Break pos) tBreak (fun ρ => some (.bk ρ)) := ⟨ps_break, fun B H0 σ H ρ o R e D q => by
  have e2 := Option.some.inj e
  subst e2
  exact q σ H R⟩
theorem ds_continue : DS X (.Continue pos) tCont (fun ρ => some (.ct ρ)) := ⟨ps_continue, fun B H0 σ H ρ o R e D q => by
  have e2 := Option.some.inj e
  subst e2
  exact q σ H R⟩
def fIfS (T : Rho → Option Bool) (G G' : Rho → Option Out) : Rho → Option Out := fun ρ => (T ρ).bind fun x => if x then G ρ else G' ρ
theorem ds_if {as bs : List Stmt} (hc : DT X c u T) (ha : DSs X as ts G) (hb : DSs X bs ts' G') : DS X (.If c as bs pos) (tIfS u ts ts') (fIfS T G G') := ⟨ps_if hc.pt ha.ps hb.ps, fun B H0 σ H ρ o R e D q => by
  unfold fIfS at e
  cases ef : T ρ with
  | none => rw [ef] at e; cases e
  | some y =>
    rw [ef] at e
    refine hc.ev B H0 σ H ρ y R.toRp ef _ fun H1 e1 => ?_
    cases y with
    | true => exact ha.ev B H0 σ H1 ρ o (R.mono e1) e D q
    | false => exact hb.ev B H0 σ H1 ρ o (R.mono e1) e D q⟩
/-- a statement that is never reached -/
theorem ds_never : DS X st tNever (fun _ => none) := ⟨ps_never, fun B H0 σ H ρ o R e D q => by cases e⟩
theorem ds_any {ts : TS} (h : PS X st ts) : DS X st ts (fun _ => none) := ⟨h, fun B H0 σ H ρ o R e D q => by cases e⟩
/-- a test that is known by its parts -/
theorem dt_chain {op op' : CmpOp} {r r' : R2} {g g' : SD → SD → Option SD} (o : DOp X (compareOp op) r g) (o' : DOp X (compareOp op') r' g') (ha : DE X a ta Fa) (hb : DE X b tb Fb) (hc : DE X c tc Fc)
    (hm : lastMarks [op, op'] [b, c] = false := by with_unfolding_all rfl) : DT X (.Compare a [op, op'] [b, c] pos) (tTest (tChain r r' ta tb tc)) (fTest (fChain g g' Fa Fb Fc)) :=
  ⟨pt_chain o.op o'.op ha.pe hb.pe hc.pe hm, ev_test (de_chain (pos := pos) o o' ha hb hc (pe_chain o.op o'.op ha.pe hb.pe hc.pe hm)).ev⟩

/-! ### targets -/
def EvG (K : PySem.W.Frag) (g : TG) (F : D → Rho → Option Rho) : Prop := ∀ B H0 σ H ρ d v ρ', Rp K B H0 σ H ρ → Dq K H v d → F d ρ = some ρ' → ∀ Q : St → Hp → Prop, (∀ σ' H', Rp K B H0 σ' H' ρ' → Tu K H H' → Q σ' H') → g v σ H Q
def EvGs (K : PySem.W.Frag) (g : TGs) (F : List D → Rho → Option Rho) : Prop := ∀ B H0 σ H ρ ds vs ρ', Rp K B H0 σ H ρ → DqAll K H vs ds → F ds ρ = some ρ' → ∀ Q : St → Hp → Prop, (∀ σ' H', Rp K B H0 σ' H' ρ' → Tu K H H' → Q σ' H') → g vs σ H Q
structure DG (X : Cx) (e : Expr) (g : TG) (F : D → Rho → Option Rho) : Prop where
  pg : PG X e g
  ev : EvG X.K g F
structure DGs (X : Cx) (e : List Expr) (g : TGs) (F : List D → Rho → Option Rho) : Prop where
  pg : PGs X e g
  ev : EvGs X.K g F
def hName (i : Nat) : D → Rho → Option Rho := fun d ρ => some (ρ.set i (some (.v d)))
theorem dg_name (i : Nat) {x : Str} (hN : X.N.Nodup) (hi : X.N[i]? = some x := by rfl) (hx : Loc X.env.scope x := by first | exact Or.inl rfl | exact Or.inr rfl) (hf : X.fn x = true ∨ X.env.scope.names.lookup x = some .local := by first | exact .inl rfl | exact .inr rfl) :
    DG X (.Name x pos) (gName i) (hName i) := ⟨pg_name hN hi hx hf, fun B H0 σ H ρ d v ρ' R hd e Q q => by
  have e2 := Option.some.inj e
  subst e2
  exact q _ H (R.set (Ex.refl H) (s := .v d) hd fr_v rfl i) (Tu.refl _ _)⟩
def hNil : List D → Rho → Option Rho := fun ds ρ => match ds with
  | [] => some ρ
  | _ => none
def hCons (F : D → Rho → Option Rho) (Fs : List D → Rho → Option Rho) : List D → Rho → Option Rho := fun ds ρ => match ds with
  | d :: ds => (F d ρ).bind fun ρ' => Fs ds ρ'
  | _ => none
theorem dgs_nil : DGs X [] gNil hNil := ⟨pgs_nil, fun B H0 σ H ρ ds vs ρ' R hd e Q q => by
  cases hd with
  | nil =>
    have e2 := Option.some.inj e
    subst e2
    exact ⟨rfl, q σ H R (Tu.refl _ _)⟩
  | cons a b => cases e⟩
theorem dgs_cons {g : TG} {gs : TGs} {Fg : D → Rho → Option Rho} {Fs : List D → Rho → Option Rho} (h : DG X e g Fg) (hs : DGs X es gs Fs) (hh : (assignEach (e :: es) X.env).map (·.2) = assign e X.env :: (assignEach es X.env).map (·.2) := by rfl) :
    DGs X (e :: es) (gCons g gs) (hCons Fg Fs) := ⟨pgs_cons h.pg hs.pg hh, fun B H0 σ H ρ ds vs ρ' R hd e Q q => by
  cases hd with
  | nil => cases e
  | @cons v vs d ds a b =>
    have e : ((Fg d ρ).bind fun ρ' => Fs ds ρ') = some ρ' := e
    cases e1 : Fg d ρ with
    | none => rw [e1] at e; cases e
    | some ρ1 =>
      rw [e1] at e
      refine ⟨v, vs, rfl, h.ev B H0 σ H ρ d v ρ1 R a e1 _ fun σ1 H1 R1 u1 => ?_⟩
      exact hs.ev B H0 σ1 H1 ρ1 ds vs ρ' R1 (dpAll_tu u1 b) e Q fun σ2 H2 R2 u2 => q σ2 H2 R2 (u1.trans u2)⟩
def hTup (n : Nat) (Fs : List D → Rho → Option Rho) : D → Rho → Option Rho := fun d ρ => match d with
  | .tup _ ds => if ds.length = n then Fs ds ρ else none
  | _ => none
theorem dg_tup {gs : TGs} {Fs : List D → Rho → Option Rho} {k n : Nat} (hc : X.calm = true) (h : DGs X es gs Fs) (hn : (assignEach es X.env).length = n := by rfl) (hst : (assignEach es X.env).findIdx? (·.1) = none := by rfl) :
    DG X (.Tuple es k pos) (gTup X.K n gs) (hTup n Fs) := ⟨pg_tup hc h.pg hn hst, fun B H0 σ H ρ d v ρ' R hd e Q q => by
  cases d <;> simp [hTup] at e
  obtain ⟨a, xs, rfl, h1, h2, _⟩ := dp_tupT hd
  exact ⟨a, xs, rfl, h1, by rw [dpa_len h2]; exact e.1, h.ev B H0 σ H ρ _ xs ρ' R h2 e.2 Q q⟩⟩
def fAsg (F : Rho → Option SD) (Fg : D → Rho → Option Rho) : Rho → Option Out := fun ρ => (F ρ).bind fun s => match s with
  | .v d => (Fg d ρ).map .nx
  | _ => none
theorem ev_asg {K : PySem.W.Frag} {g : TG} {Fg : D → Rho → Option Rho} (h : EvD K t F) (hg : EvG K g Fg) : EvS K (tAsg t g) (fAsg F Fg) := fun B H0 σ H ρ o R e D q => by
  unfold fAsg at e
  cases ef : F ρ with
  | none => rw [ef] at e; cases e
  | some s =>
    rw [ef] at e
    cases s with
    | v d =>
      have e : (Fg d ρ).map Out.nx = some o := e
      cases eg : Fg d ρ with
      | none => rw [eg] at e; cases e
      | some ρ' =>
        rw [eg] at e
        have e2 := Option.some.inj e
        subst e2
        exact h B H0 σ H ρ (.v d) R.toRp ef _ fun v H' x1 t1 _ => hg B H0 σ H' ρ d v ρ' (R.mono x1) t1 eg _ fun σ2 H2 R2 _ => q σ2 H2 R2
    | lst o ds => cases e
    | dic o ds => cases e
theorem ds_asg {tg : Expr} {g : TG} {Fg : D → Rho → Option Rho} (he : DE X e t F) (hg : DG X tg g Fg) (hs : swapsWithSole [tg] e pos.line X.env = pure false := by rfl) (hw : swappedStores [tg] e X.env = pure none := by rfl)
    (h1 : (assignEach [tg] X.env).map (·.2) = [assign tg X.env] := by rfl) :
    DS X (.Assign [tg] e pos) (tAsg t g) (fAsg F Fg) := ⟨ps_asg he.pe hg.pg hs hw h1, ev_asg he.ev hg.ev⟩
/-- a row of plain names = a written row of values -/
def setMany : Rho → List Nat → List SD → Option Rho
  | ρ, [], [] => some ρ
  | ρ, i :: is, s :: ss => s.keep.bind fun s' => setMany (ρ.set i (some s')) is ss
  | _, _, _ => none
def setV : St → List Nat → List V → St
  | σ, i :: is, v :: vs => setV (σ.set i (some v)) is vs
  | σ, _, _ => σ
theorem fr_zip {H : Hp} : ∀ {vs : List V} {ss : List SD}, FrAll H vs ss → ∀ p ∈ ss.zip vs, Fr0 H p.2 p.1
  | _, _, .nil => fun p hp => by simp at hp
  | _, _, .cons a b c => fun p hp => by
    rcases List.mem_cons.mp (by simpa using hp) with rfl | hp
    · exact a
    · exact fr_zip c p hp
theorem Rp.setMany {K : PySem.W.Frag} {B : Addr → Prop} {H0 H' : Hp} : ∀ {is : List Nat} {vs : List V} {ss : List SD} {σ : St} {ρ ρ' : Rho}, Rp K B H0 σ H' ρ → (∀ v s, (s, v) ∈ ss.zip vs → s.isNew = true → ∀ a, v = .ref a → H0 a = none ∧ ∀ (j : Nat) t, ρ[j]? = some (some t) → t.own ≠ none → σ[j]? ≠ some (some (.ref a))) → TwAll K H' vs ss →
    (∀ H, FrAll H vs ss → True) → (ss.zip vs).Pairwise (fun p q => p.1.isNew = true → q.1.isNew = true → p.2 ≠ q.2) → Dn.setMany ρ is ss = some ρ' → Rp K B H0 (setV σ is vs) H' ρ'
  | [], _, _, σ, ρ, ρ', R, _, .nil, _, _, e => by
    have e2 := Option.some.inj e
    subst e2
    exact R
  | [], _, _, σ, ρ, ρ', R, _, .cons _ _, _, _, e => by cases e
  | _ :: _, _, _, σ, ρ, ρ', R, _, .nil, _, _, e => by cases e
  | i :: is, v :: vs, s :: ss, σ, ρ, ρ', R, hf, .cons t1 t2, hq, pw, e => by
    have e : (s.keep.bind fun s' => Dn.setMany (ρ.set i (some s')) is ss) = some ρ' := e
    cases ek : s.keep with
    | none => rw [ek] at e; cases e
    | some s' =>
      rw [ek] at e
      obtain ⟨k1, k2, k3⟩ := keep_new ek
      have hl := R.len
      have pw' := List.pairwise_cons.mp (show ((s, v) :: ss.zip vs).Pairwise (fun p q => p.1.isNew = true → q.1.isNew = true → p.2 ≠ q.2) from pw)
      have get : ∀ {j : Nat} {x : SD}, (ρ.set i (some s'))[j]? = some (some x) → (j = i ∧ x = s' ∧ (σ.set i (some v))[j]? = some (some v)) ∨ (j ≠ i ∧ ρ[j]? = some (some x) ∧ (σ.set i (some v))[j]? = σ[j]?) := by
        intro j x h
        by_cases hj : i = j
        · subst hj
          have hl' : i < ρ.length := by
            have := (List.getElem?_eq_some_iff.mp h).1
            simpa using this
          rw [List.getElem?_set_self hl'] at h
          exact .inl ⟨rfl, (Option.some.inj (Option.some.inj h)).symm, List.getElem?_set_self (by rw [hl]; exact hl')⟩
        · rw [List.getElem?_set_ne hj] at h
          exact .inr ⟨fun z => hj z.symm, h, List.getElem?_set_ne hj⟩
      have me := hf v s (by simp)
      have R1 : Rp K B H0 (σ.set i (some v)) H' (ρ.set i (some s')) := by
        refine ⟨R.ex, fun j x h => ?_, fun j x h => ?_, fun j x a h o q => ?_, fun j l x y a h o h' o' q q' => ?_, by simp [hl]⟩
        · rcases get h with ⟨rfl, rfl, q⟩ | ⟨_, h1, q⟩
          · exact ⟨v, q, tw_keep ek t1⟩
          · obtain ⟨w, e1, e2⟩ := R.val j x h1
            exact ⟨w, q.trans e1, e2⟩
        · rcases get h with ⟨_, rfl, _⟩ | ⟨_, h1, _⟩
          · exact k1
          · exact R.nn j x h1
        · rcases get h with ⟨rfl, rfl, q'⟩ | ⟨_, h1, q'⟩
          · rw [q'] at q
            exact (me (k2.mp o) a (Option.some.inj (Option.some.inj q))).1
          · exact R.own j x a h1 o (q'.symm.trans q)
        · rcases get h with ⟨rfl, rfl, z⟩ | ⟨n1, h1, z⟩
          · rw [z] at q
            rcases get h' with ⟨rfl, _, _⟩ | ⟨n2, h2, z'⟩
            · rfl
            · exact ((me (k2.mp o) a (Option.some.inj (Option.some.inj q))).2 l y h2 o' (z'.symm.trans q')).elim
          · rcases get h' with ⟨rfl, rfl, z'⟩ | ⟨n2, h2, z'⟩
            · rw [z'] at q'
              exact ((me (k3 o') a (Option.some.inj (Option.some.inj q'))).2 j x h1 (by rw [o]; simp) (z.symm.trans q)).elim
            · exact R.sep j l x y a h1 o h2 o' (z.symm.trans q) (z'.symm.trans q')
      show Rp K B H0 (setV (σ.set i (some v)) is vs) H' ρ'
      refine Rp.setMany R1 (fun w z hz n a ea => ⟨(hf w z (by simp [hz]) n a ea).1, fun j t h o => ?_⟩) t2 (fun _ _ => trivial) pw'.2 e
      rcases get h with ⟨rfl, rfl, q⟩ | ⟨_, h1, q⟩
      · rw [q]
        intro c
        have ev : v = .ref a := Option.some.inj (Option.some.inj c)
        exact pw'.1 (z, w) hz (k3 o) n (ev.trans ea.symm)
      · rw [q]
        exact (hf w z (by simp [hz]) n a ea).2 j t h1 o
theorem fr_pw {H : Hp} : ∀ {vs : List V} {ss : List SD}, FrAll H vs ss → (ss.zip vs).Pairwise (fun p q => p.1.isNew = true → q.1.isNew = true → p.2 ≠ q.2)
  | _, _, .nil => by simp
  | _, _, .cons a b c => by
    simp only [List.zip_cons_cons, List.pairwise_cons]
    exact ⟨fun q hq n n' e => b n q hq n' e.symm, fr_pw c⟩
/-- all of a row's values into slots -/
theorem Rp.row {K : PySem.W.Frag} {B : Addr → Prop} {H0 H H' : Hp} {is : List Nat} {vs : List V} {ss : List SD} {σ : St} {ρ ρ' : Rho} (R : Rp K B H0 σ H ρ) (x : Ex H H') (t : TwAll K H' vs ss) (f : FrAll H vs ss) (e : Dn.setMany ρ is ss = some ρ') : Rp K B H0 (setV σ is vs) H' ρ' := by
  refine Rp.setMany (R.mono x) (fun v s hz n a ea => ?_) t (fun _ _ => trivial) (fr_pw f) e
  have free : H a = none := fr_zip f (s, v) hz n a ea
  refine ⟨R.ex.free free, fun j t' h o c => ?_⟩
  obtain ⟨w, e1, e2⟩ := R.val j t' h
  rw [c] at e1
  have ew : w = .ref a := (Option.some.inj (Option.some.inj e1)).symm
  subst ew
  obtain ⟨a', ea', na⟩ := tw_taken e2 o
  cases ea'
  exact na free
def fRow (is : List Nat) (FA : Rho → Option (List SD)) : Rho → Option Out := fun ρ => (FA ρ).bind fun ss => (Dn.setMany ρ is ss).map .nx
theorem fRow_inv {is : List Nat} {ρ : Rho} {o : Out} (h : fRow is FA ρ = some o) : ∃ ss ρ', FA ρ = some ss ∧ Dn.setMany ρ is ss = some ρ' ∧ o = .nx ρ' := by
  unfold fRow at h
  cases e1 : FA ρ with
  | none => rw [e1] at h; cases h
  | some ss =>
    cases e2 : Dn.setMany ρ is ss with
    | none => rw [e1] at h; simp [e2] at h
    | some ρ' =>
      rw [e1] at h
      simp [e2] at h
      exact ⟨ss, ρ', rfl, e2, h.symm⟩
theorem ds_par (i j : Nat) {x y : Str} {px py pt : Pos} {kt k2 : Nat} {pt2 : Pos} (hc : X.calm = true) (hN : X.N.Nodup) (ha : DAs X [a, b] tr FA) (hi : X.N[i]? = some x := by rfl) (hj : X.N[j]? = some y := by rfl) (hij : i ≠ j := by decide)
    (hx : X.env.scope.names.lookup x = some .local := by rfl) (hy : X.env.scope.names.lookup y = some .local := by rfl)
    (hw : swappedStores [.Tuple [.Name x px, .Name y py] kt pt] (.Tuple [a, b] k2 pt2) X.env = pure (some [x, y]) := by rfl)
    (hs : swapsWithSole [.Tuple [.Name x px, .Name y py] kt pt] (.Tuple [a, b] k2 pt2) pos.line X.env = pure false := by rfl) :
    DS X (.Assign [.Tuple [.Name x px, .Name y py] kt pt] (.Tuple [a, b] k2 pt2) pos) (tPar i j tr) (fRow [i, j] FA) := ⟨ps_par hc hN hi hj hij hx hy ha.pa hw hs, fun B H0 σ H ρ o R e D q => by
  obtain ⟨ss, ρ', e1, e2, rfl⟩ := fRow_inv e
  refine ha.ev B H0 σ H ρ ss R.toRp e1 _ fun vs H' x1 t1 f1 => ?_
  have R' := R.row x1 t1 f1 e2
  cases t1 with
  | nil => cases e2
  | @cons v s vs ss a1 t1 =>
    cases t1 with
    | nil => simp [Dn.setMany] at e2
    | @cons w s2 vs ss a2 t2 =>
      cases t2 with
      | nil => exact ⟨v, w, rfl, q _ H' R'⟩
      | cons _ _ => simp [Dn.setMany] at e2⟩
theorem ds_par3 (i j l : Nat) {x y z : Str} {px py pz pt : Pos} {kt k2 : Nat} {pt2 : Pos} (hc : X.calm = true) (hN : X.N.Nodup) (ha : DAs X [a, b, c] tr FA) (hi : X.N[i]? = some x := by rfl) (hj : X.N[j]? = some y := by rfl) (hl : X.N[l]? = some z := by rfl) (hij : i ≠ j := by decide) (hil : i ≠ l := by decide) (hjl : j ≠ l := by decide)
    (hx : X.env.scope.names.lookup x = some .local := by rfl) (hy : X.env.scope.names.lookup y = some .local := by rfl) (hz : X.env.scope.names.lookup z = some .local := by rfl)
    (hw : swappedStores [.Tuple [.Name x px, .Name y py, .Name z pz] kt pt] (.Tuple [a, b, c] k2 pt2) X.env = pure (some [x, y, z]) := by rfl)
    (hs : swapsWithSole [.Tuple [.Name x px, .Name y py, .Name z pz] kt pt] (.Tuple [a, b, c] k2 pt2) pos.line X.env = pure false := by rfl) :
    DS X (.Assign [.Tuple [.Name x px, .Name y py, .Name z pz] kt pt] (.Tuple [a, b, c] k2 pt2) pos) (tPar3 i j l tr) (fRow [i, j, l] FA) := ⟨ps_par3 hc hN hi hj hl hij hil hjl hx hy hz ha.pa hw hs, fun B H0 σ H ρ o R e D q => by
  obtain ⟨ss, ρ', e1, e2, rfl⟩ := fRow_inv e
  refine ha.ev B H0 σ H ρ ss R.toRp e1 _ fun vs H' x1 t1 f1 => ?_
  have R' := R.row x1 t1 f1 e2
  cases t1 with
  | nil => cases e2
  | @cons v s vs ss a1 t1 =>
    cases t1 with
    | nil => simp [Dn.setMany] at e2
    | @cons w s2 vs ss a2 t2 =>
      cases t2 with
      | nil => simp [Dn.setMany] at e2
      | @cons w' s3 vs ss a3 t3 =>
        cases t3 with
        | nil => exact ⟨v, w, w', rfl, q _ H' R'⟩
        | cons _ _ => simp [Dn.setMany] at e2⟩
/-- four names or more: a tuple is made and taken apart -/
def gNames : List Nat → TGs
  | [] => gNil
  | i :: is => gCons (gName i) (gNames is)
theorem gNames_ok : ∀ {is : List Nat} {vs : List V} {σ : St} {H : Hp} {Q : St → Hp → Prop}, is.length = vs.length → Q (setV σ is vs) H → gNames is vs σ H Q
  | [], [], σ, H, Q, _, q => ⟨rfl, q⟩
  | [], _ :: _, _, _, _, h, _ => by cases h
  | _ :: _, [], _, _, _, h, _ => by cases h
  | i :: is, v :: vs, σ, H, Q, h, q => ⟨v, vs, rfl, gNames_ok (is := is) (by simpa using h) q⟩
theorem setMany_len : ∀ {is : List Nat} {ss : List SD} {ρ ρ' : Rho}, Dn.setMany ρ is ss = some ρ' → is.length = ss.length
  | [], [], _, _, _ => rfl
  | [], _ :: _, _, _, h => by cases h
  | _ :: _, [], _, _, h => by cases h
  | i :: is, s :: ss, ρ, ρ', h => by
    have h : (s.keep.bind fun s' => Dn.setMany (ρ.set i (some s')) is ss) = some ρ' := h
    cases ek : s.keep with
    | none => rw [ek] at h; cases h
    | some s' =>
      rw [ek] at h
      simp [setMany_len (is := is) h]
theorem ds_row (is : List Nat) {tgs : List Expr} {k k2 : Nat} {p1 p2 : Pos} (hc : X.calm = true) (ha : DAs X es tr FA) (hg : PGs X tgs (gNames is)) (hn : (assignEach tgs X.env).length = is.length := by rfl) (hst : (assignEach tgs X.env).findIdx? (·.1) = none := by rfl) (hfew : es.length ≤ 100 := by decide)
    (hs : swapsWithSole [.Tuple tgs k p1] (.Tuple es k2 p2) pos.line X.env = pure false := by rfl) (hw : swappedStores [.Tuple tgs k p1] (.Tuple es k2 p2) X.env = pure none := by rfl) (hb : is.length ≤ 100 := by decide) :
    DS X (.Assign [.Tuple tgs k p1] (.Tuple es k2 p2) pos) (tAsg (tTup tr) (gTup X.K is.length (gNames is))) (fRow is FA) := ⟨ps_asg (pe_tup ha.pa) (pg_tup hc hg hn hst) hs hw, fun B H0 σ H ρ o R e D q => by
  obtain ⟨ss, ρ', e1, e2, rfl⟩ := fRow_inv e
  refine ha.ev B H0 σ H ρ ss R.toRp e1 _ fun vs H' x1 t1 f1 => ?_
  have hl := setMany_len e2
  have hv := twa_len t1
  refine ⟨by rw [hv, ← hl]; exact Nat.le_trans hb (by decide), fun p hp => ?_⟩
  have x2 := x1.trans (Ex.new (o := .tup vs) hp)
  exact ⟨p, vs, rfl, .inl (.inl upd_same), by rw [hv, hl], gNames_ok (by rw [hv, hl]) (q _ _ (R.row x2 (twAll_ex (Ex.new hp) t1) f1 e2))⟩⟩
end
end Dn
/-! Data, 4: a def as a plain function, calls, stores, loops, comprehensions. -/
namespace Dn
open PySem PySem.Spec L2
open PyProof.Rows (envOfC)
open Evl (Ex Ex.refl Ex.trans Ex.new ex_rd ex_l ex_t fresh_back)

/-! ### defs -/
def SpD (K : PySem.W.Frag) (F : List SD → Option SD) : Sp := fun vs H Q _ => ∃ ss s, TwAll K H vs ss ∧ F (ss.map SD.bor) = some s ∧ ∀ v H', Ex H H' → Tw K H' v s → Fr0 H v s → Q v H'
def fRun (n m : Nat) (G : Rho → Option Out) : List SD → Option SD := fun args => if args.length = m then (G (args.map some ++ List.replicate (n - m) none)).bind fun o => match o with
  | .rt s => some s
  | .nx _ => some (.v .non)
  | _ => none
  else none
structure FD (P : Program) (w : World) (K : PySem.W.Frag) (mg : Str → Option Value) (base : Heap) (k : Nat) (x : Str) (ps : List Str) (F : List SD → Option SD) : Prop where
  ex : ∃ f fd, mg x = some (.ref f) ∧ PySem.W.keepIn K (.ref f) = true ∧ Binds K fd ps [] ∧ FnOk P w K mg base CX0 k f fd ps (SpD K F)
theorem bor_own (s : SD) : s.bor.own ≠ some .own := by cases s <;> simp [SD.bor, SD.own]
theorem bor_new (s : SD) : s.bor.isNew = false := by cases s <;> simp [SD.bor, SD.isNew, SD.own]
theorem TwAll.get {K : PySem.W.Frag} {H : Hp} : ∀ {vs : List V} {ss : List SD} {i : Nat} {s : SD}, TwAll K H vs ss → ss[i]? = some s → ∃ v, vs[i]? = some v ∧ Tw K H v s
  | _, _, _, _, .nil, h => by simp at h
  | _, _, 0, _, .cons a _, h => by
    simp at h
    subst h
    exact ⟨_, rfl, a⟩
  | _, _, i + 1, _, .cons _ b, h => by
    obtain ⟨v, e, q⟩ := TwAll.get (i := i) b (by simpa using h)
    exact ⟨v, by simpa using e, q⟩
theorem start_ok {K : PySem.W.Frag} {H : Hp} {vs : List V} {ss : List SD} {N : List Str} {m : Nat} (t : TwAll K H vs ss) (hm : ss.length = m) (hmn : m ≤ N.length) (nb : ∀ s ∈ ss, s.isNew = false ∧ s.own ≠ some .own) : Rp K (fun _ => False) H (L2.start N vs) H (ss.map some ++ List.replicate (N.length - m) none) := by
  have hv := twa_len t
  have get : ∀ {i : Nat} {s : SD}, (ss.map some ++ List.replicate (N.length - m) none)[i]? = some (some s) → ss[i]? = some s := by
    intro i s h
    by_cases hi : i < ss.length
    · rw [List.getElem?_append_left (by simpa using hi), List.getElem?_map] at h
      cases e : ss[i]? with
      | none => rw [e] at h; cases h
      | some z =>
        rw [e] at h
        simp at h
        rw [h]
    · rw [List.getElem?_append_right (by simpa using hi), List.getElem?_replicate] at h
      split at h <;> cases h
  have mem : ∀ {i : Nat} {s : SD}, (ss.map some ++ List.replicate (N.length - m) none)[i]? = some (some s) → s ∈ ss := fun h => List.mem_of_getElem? (get h)
  refine ⟨ExB.refl _ _, fun i s h => ?_, fun i s h => (nb s (mem h)).1, fun i s a h o _ => absurd o (nb s (mem h)).2, fun i j s t' a h o _ _ _ _ => absurd o (nb s (mem h)).2, ?_⟩
  · obtain ⟨v, e, q⟩ := TwAll.get t (get h)
    refine ⟨v, ?_, q⟩
    have hi : i < vs.length := (List.getElem?_eq_some_iff.mp e).1
    unfold L2.start
    rw [List.getElem?_append_left (by simpa using hi), List.getElem?_map, e]
    rfl
  · unfold L2.start
    simp only [List.length_append, List.length_map, List.length_replicate]
    omega
section
variable {P : Program} {w : World} {K : PySem.W.Frag} {mg : Str → Option Value} {base : Heap}
theorem ok_of {x qual : Str} {st : Stmt} {f : Addr} {fd : FuncData} {N ps : List Str} {k : Nat} {G : Rho → Option Out} (Fn : Fun K x qual st f fd) (S : FnScope N ps (defScope st)) (hl : ps.length ≤ N.length)
    (hbody : ∀ (cdv : Value) (A : Around) (outer : List Env) (s : Shared) (H : Hp) (E : XK), Room k (A.deeper (envOfC qual (defScope st) s.heap.objs.size f cdv)) → ∃ t, DSs (cxOf CX0 P w K mg base N qual (defScope st) f cdv A outer s H E).nox (defBody st) t G) :
    FnOk P w K mg base CX0 (k + 1) f fd ps (SpD K (fRun N.length ps.length G)) := by
  refine Fn.ok S (fun vs H Q E h => ?_) (fun cdv A outer s H vs Q E hr h => ?_)
  · obtain ⟨ss, s, t, e, _⟩ := h
    unfold fRun at e
    split at e
    · rename_i q
      rw [twa_len t]
      simpa using q
    · cases e
  · obtain ⟨ss, s', t, e, q⟩ := h
    unfold fRun at e
    split at e
    · rename_i hm
      obtain ⟨t1, h1⟩ := hbody cdv A outer s H E hr
      refine ⟨t1, h1.ps, ?_⟩
      cases eg : G ((ss.map SD.bor).map some ++ List.replicate (N.length - ps.length) none) with
      | none => rw [eg] at e; cases e
      | some o =>
        rw [eg] at e
        refine h1.ev (fun _ => False) H _ H _ o (start_ok t.bors hm hl fun s hs => ?_) eg _ ?_
        · obtain ⟨z, _, rfl⟩ := List.mem_map.mp hs
          exact ⟨bor_new z, bor_own z⟩
        · have ex : ∀ {H' : Hp}, ExB (fun _ => False) H H' → Ex H H' := fun x a o h => x.1 a o (fun z => z) h
          cases o with
          | nx ρ =>
            have e2 := Option.some.inj e
            subst e2
            exact fun σ' H' R => q .non H' (ex R.ex) .non fr_v
          | rt s1 =>
            have e2 := Option.some.inj e
            subst e2
            exact fun v H' x t f => q v H' (ex x) t f
          | bk ρ => cases e
          | ct ρ => cases e
    · cases e
theorem FD.mk' {x qual : Str} {st : Stmt} {f : Addr} {fd : FuncData} {ps : List Str} {k : Nat} {F : List SD → Option SD} (Fn : Fun K x qual st f fd) (hm : mg x = some (.ref f)) (b : Binds K fd ps []) (ok : FnOk P w K mg base CX0 k f fd ps (SpD K F)) : FD P w K mg base k x ps F := ⟨f, fd, hm, Fn.kp, b, ok⟩
end
section
variable {X : Cx} {e a b c : Expr} {es : List Expr} {t ta tb tc : TE} {tr : TA} {u ua ub : TT} {F Fa Fb Fc : Rho → Option SD} {T : Rho → Option Bool} {FA : Rho → Option (List SD)} {pos : Pos} {st : Stmt} {sts rest : List Stmt} {ts ts' : TS} {G G' : Rho → Option Out}
def fCall (F : List SD → Option SD) (FA : Rho → Option (List SD)) : Rho → Option SD := fun ρ => (FA ρ).bind fun ss => F (ss.map SD.bor)
theorem de_call {x : Str} {ps : List Str} {k j : Nat} {Ff : List SD → Option SD} {p : Pos} (D : FD X.prog X.w X.K X.mg X.base k x ps Ff) (hr : Room j X.A) (ha : DAs X (e :: es) tr FA) (hk : k ≤ j := by decide) (hg : Gl X x := by rfl) (hdb : (x == ("__debug__" : Str)) = false := by decide)
    (he : starEach (e :: es) X.env = (false, eval e X.env) :: starEach es X.env := by rfl) (hpl : (backTo pos (starEach es X.env)).any (·.1) = false := by rfl) :
    DE X (.Call (.Name x p) (e :: es) [] pos) (tCall (SpD X.K Ff) [] E0 tr) (fCall Ff FA) := by
  obtain ⟨f, fd, hm, kp, hb, G⟩ := D.ex
  refine ⟨pe_call G (hr.mono hk) hg hm kp hb .nil pass0 ha.pa hdb he hpl, fun B H0 σ H ρ s R e Q q => ?_⟩
  unfold fCall at e
  cases ef : FA ρ with
  | none => rw [ef] at e; cases e
  | some ss =>
    rw [ef] at e
    refine ha.ev B H0 σ H ρ ss R ef _ fun vs H1 x1 t1 _ => ⟨ss, s, ?_, e, fun v H2 x2 t2 f2 => q v H2 (x1.trans x2) t2 fun n a ea => fresh_back x1 (f2 n a ea)⟩
    rw [List.append_nil]
    exact t1

/-! ### built-ins of one argument -/
def EvU (K : PySem.W.Frag) (r : List V → Hp → VK → Prop) (g : SD → Option SD) : Prop := ∀ H x s1 s, Tw K H x s1 → g s1 = some s → ∀ Q : VK, (∀ v H', Ex H H' → Tw K H' v s → Fr0 H v s → Q v H') → r [x] H Q
def fOne (g : SD → Option SD) (F : Rho → Option SD) : Rho → Option SD := fun ρ => (F ρ).bind g
theorem ev_one {K : PySem.W.Frag} {r : List V → Hp → VK → Prop} {g : SD → Option SD} (h : EvD K t F) (hr : EvU K r g) : EvD K (tCB r (tCons t tNil)) (fOne g F) := fun B H0 σ H ρ s R e Q q => by
  unfold fOne at e
  cases ef : F ρ with
  | none => rw [ef] at e; cases e
  | some s1 =>
    rw [ef] at e
    refine h B H0 σ H ρ s1 R ef _ fun x H1 x1 t1 _ => ?_
    exact hr H1 x s1 s t1 e Q fun v H2 x2 t2 f2 => q v H2 (x1.trans x2) t2 fun n a ea => fresh_back x1 (f2 n a ea)
theorem de_bi {x : Str} {id : String} {r : List V → Hp → VK → Prop} {g : SD → Option SD} {p : Pos} (hc : CallR X (.builtin id) r) (hr : EvU X.K r g) (hm : X.mg x = none) (hv : bootBuiltins x = some (.builtin id)) (ha : DE X a t F) (hg : Gl X x := by rfl) (hn : x ≠ "__name__" := by decide) (hdb : (x == ("__debug__" : Str)) = false := by decide)
    (he : starEach [a] X.env = (false, eval a X.env) :: starEach [] X.env := by rfl) (hpl : (backTo pos (starEach [] X.env)).any (·.1) = false := by rfl) : DE X (.Call (.Name x p) [a] [] pos) (tCB r (tCons t tNil)) (fOne g F) :=
  ⟨pe_callB hc hg hm hv (pa_cons ha.pe pa_nil he) hn hdb he hpl, ev_one ha.ev hr⟩
theorem de_ty {x : Str} {id : String} {r : List V → Hp → VK → Prop} {g : SD → Option SD} {p : Pos} (hc : CallR X (.type id) r) (hr : EvU X.K r g) (hm : X.mg x = none) (hv : bootBuiltins x = some (.type id)) (ha : DE X a t F) (hg : Gl X x := by rfl) (hn : x ≠ "__name__" := by decide) (hdb : (x == ("__debug__" : Str)) = false := by decide)
    (he : starEach [a] X.env = (false, eval a X.env) :: starEach [] X.env := by rfl) (hpl : (backTo pos (starEach [] X.env)).any (·.1) = false := by rfl) : DE X (.Call (.Name x p) [a] [] pos) (tCB r (tCons t tNil)) (fOne g F) :=
  ⟨pe_callTy hc hg hm hv (pa_cons ha.pe pa_nil he) hn hdb he hpl, ev_one ha.ev hr⟩
def gLen : SD → Option SD := fun s => s.items.map fun ds => .v (.int ds.length)
theorem ev_len : EvU X.K (fun xs H Q => ∃ p ys, xs = [.ref p] ∧ (SqL X.K H p ys ∨ SqT X.K H p ys) ∧ Q (.int ys.length) H) gLen := fun H x s1 s h e Q q => by
  unfold gLen at e
  cases ei : s1.items with
  | none => rw [ei] at e; cases e
  | some ds =>
    rw [ei] at e
    have e2 := Option.some.inj e
    subst e2
    obtain ⟨p, xs, rfl, hq, hd⟩ := imm_items h ei
    refine ⟨p, xs, rfl, hq.symm, ?_⟩
    rw [dpa_len hd]
    exact q_val q (.int _)
theorem de_len {p : Pos} (hm : X.mg "len" = none) (ha : DE X a t F) (hg : Gl X "len" := by rfl) (he : starEach [a] X.env = (false, eval a X.env) :: starEach [] X.env := by rfl) (hpl : (backTo pos (starEach [] X.env)).any (·.1) = false := by rfl) : DE X (.Call (.Name "len" p) [a] [] pos) (tCB (fun xs H Q => ∃ p ys, xs = [.ref p] ∧ (SqL X.K H p ys ∨ SqT X.K H p ys) ∧ Q (.int ys.length) H) (tCons t tNil)) (fOne gLen F) :=
  de_bi call_len_seq ev_len hm PySem.boot_len ha hg (by decide) (by decide) he hpl
/-- tuple(xs) of a list: a new tuple whose object is known -/
def rTupP (K : PySem.W.Frag) : List V → Hp → VK → Prop := fun xs H Q => ∃ p ys, xs = [.ref p] ∧ ((SqL K H p ys ∧ ∀ l o, H l = none → o.dict = none → Q (.ref l) (upd H l (.frz o (.tup ys)))) ∨ (SqT K H p ys ∧ Q (.ref p) H))
theorem cr_tupP : CallR X (.type "tuple") (rTupP X.K) := by
  intro pins s σ H xs us Q I r h
  obtain ⟨p, ys, rfl, h⟩ := h
  obtain ⟨u, rfl, rx⟩ := vals1 r
  cases rx
  rcases h with ⟨hq, q⟩ | ⟨hq, q⟩
  · obtain ⟨its, r', pl, hz⟩ := I.list hq
    refine call_tuple_list pl.isList (fun h' kp => ?_) (by rw [List.size_toArray, ← r'.length]; exact hz)
    have I1 : Inv X pins σ H { s with heap := h' } := I.kept (t' := s.toks) kp
    have I2 := I1.laid (a := h'.objs.size) (o := .frz { cls := .type "tuple", data := .seq its.toArray } (.tup ys)) (h' := h'.push { cls := .type "tuple", data := .seq its.toArray }) (t' := s.toks) (fun b o e => Heap.get?_push_of_some _ e) (Nat.le_refl _)
      ⟨Heap.get?_push_size _ rfl, hz, its, r', PyProof.Rows.IsTup.new _ _⟩
    exact ⟨.ref h'.objs.size, _, I2, rfl, q _ _ (I1.hok.fresh (Nat.le_refl _)) rfl⟩
  · obtain ⟨its, r', pl, hz⟩ := I.tuple hq
    exact call_tuple_same pl ⟨.ref p, H, I, rfl, q⟩
def gTuple : SD → Option SD
  | .v (.tup p ds) => some (.v (.tup p ds))
  | .lst _ ds => some (.v (.tup true ds))
  | _ => none
theorem ev_tuple : EvU X.K (rTupP X.K) gTuple := fun H x s1 s h e Q q => by
  cases s1 with
  | v d =>
    cases d <;> simp [gTuple] at e
    subst e
    obtain ⟨a, xs, rfl, h1, h2⟩ := tw_tup h
    exact ⟨a, xs, rfl, .inr ⟨h1, q _ H (Ex.refl H) h fr_v⟩⟩
  | lst o ds =>
    have e2 := Option.some.inj e
    subst e2
    obtain ⟨a, xs, rfl, h1, h2⟩ := h
    refine ⟨a, xs, rfl, .inl ⟨SqL.of h1, fun l o hl ho => ?_⟩⟩
    exact q _ _ (Ex.new hl) (.tup (.inl (.inr ⟨o, upd_same⟩)) (fun _ => ⟨o, xs, upd_same, ho⟩) (dpAll_ex (Ex.new hl) h2)) fr_v
  | dic o kvs => cases e
theorem de_tuple {p : Pos} (hm : X.mg "tuple" = none) (ha : DE X a t F) (hg : Gl X "tuple" := by rfl) (he : starEach [a] X.env = (false, eval a X.env) :: starEach [] X.env := by rfl) (hpl : (backTo pos (starEach [] X.env)).any (·.1) = false := by rfl) : DE X (.Call (.Name "tuple" p) [a] [] pos) (tCB (rTupP X.K) (tCons t tNil)) (fOne gTuple F) :=
  de_ty cr_tupP ev_tuple hm PyProof.Rows.boot_tuple ha hg (by decide) (by decide) he hpl
/-- tuple(xs), less told of -/
def gTupleW : SD → Option SD
  | .v (.tup _ ds) => some (.v (.tup false ds))
  | .lst _ ds => some (.v (.tup false ds))
  | _ => none
theorem ev_tupleW : EvU X.K (rTupP X.K) gTupleW := fun H x s1 s h e Q q => by
  cases s1 with
  | v d =>
    cases d <;> simp [gTupleW] at e
    subst e
    obtain ⟨a, xs, rfl, h1, h2⟩ := tw_tup h
    exact ⟨a, xs, rfl, .inr ⟨h1, q _ H (Ex.refl H) (dq_less h) fr_v⟩⟩
  | lst o ds =>
    have e2 := Option.some.inj e
    subst e2
    obtain ⟨a, xs, rfl, h1, h2⟩ := h
    refine ⟨a, xs, rfl, .inl ⟨SqL.of h1, fun l o hl ho => ?_⟩⟩
    exact q _ _ (Ex.new hl) (.tup (.inl (.inr ⟨o, upd_same⟩)) (fun z => nomatch z) (dpAll_ex (Ex.new hl) h2)) fr_v
  | dic o kvs => cases e
theorem de_tupleW {p : Pos} (hm : X.mg "tuple" = none) (ha : DE X a t F) (hg : Gl X "tuple" := by rfl) (he : starEach [a] X.env = (false, eval a X.env) :: starEach [] X.env := by rfl) (hpl : (backTo pos (starEach [] X.env)).any (·.1) = false := by rfl) : DE X (.Call (.Name "tuple" p) [a] [] pos) (tCB (rTupP X.K) (tCons t tNil)) (fOne gTupleW F) :=
  de_ty cr_tupP ev_tupleW hm PyProof.Rows.boot_tuple ha hg (by decide) (by decide) he hpl
def gList : SD → Option SD := fun s => s.items.map fun ds => .lst .new ds
theorem ev_list : EvU X.K (fun xs H Q => ∃ p ys, xs = [.ref p] ∧ (SqL X.K H p ys ∨ SqT X.K H p ys) ∧ ∀ l, H l = none → Q (.ref l) (upd H l (.lst ys))) gList := fun H x s1 s h e Q q => by
  unfold gList at e
  cases ei : s1.items with
  | none => rw [ei] at e; cases e
  | some ds =>
    rw [ei] at e
    have e2 := Option.some.inj e
    subst e2
    obtain ⟨p, xs, rfl, hq, hd⟩ := imm_items h ei
    exact ⟨p, xs, rfl, hq.symm, fun l hl => q_lst q hd hl⟩
theorem de_list {p : Pos} (hm : X.mg "list" = none) (ha : DE X a t F) (hg : Gl X "list" := by rfl) (he : starEach [a] X.env = (false, eval a X.env) :: starEach [] X.env := by rfl) (hpl : (backTo pos (starEach [] X.env)).any (·.1) = false := by rfl) : DE X (.Call (.Name "list" p) [a] [] pos) (tCB (fun xs H Q => ∃ p ys, xs = [.ref p] ∧ (SqL X.K H p ys ∨ SqT X.K H p ys) ∧ ∀ l, H l = none → Q (.ref l) (upd H l (.lst ys))) (tCons t tNil)) (fOne gList F) :=
  de_ty call_list_of ev_list hm PyProof.Rows.boot_list ha hg (by decide) (by decide) he hpl
/-- the ints of a row -/
def ints? : List D → Option (List Int)
  | [] => some []
  | .int i :: ds => (ints? ds).map fun is => i :: is
  | _ => none
theorem ints_dp {K : PySem.W.Frag} {H : Hp} : ∀ {ds : List D} {is : List Int} {xs : List V}, DqAll K H xs ds → ints? ds = some is → xs = is.map V.int ∧ ds = is.map D.int
  | [], _, _, .nil, h => by
    have e := Option.some.inj h
    subst e
    exact ⟨rfl, rfl⟩
  | d :: ds, is, _, .cons a b, h => by
    cases d with
    | int i =>
      have h : ((ints? ds).map fun is => i :: is) = some is := h
      cases e : ints? ds with
      | none => rw [e] at h; cases h
      | some js =>
        rw [e] at h
        have e2 := Option.some.inj h
        subst e2
        obtain ⟨q1, q2⟩ := ints_dp b e
        cases a
        exact ⟨by rw [q1]; rfl, by rw [q2]; rfl⟩
    | _ => cases h
theorem ints?_map : ∀ is : List Int, ints? (is.map D.int) = some is
  | [] => rfl
  | i :: is => by
    show ((ints? (is.map D.int)).map fun js => i :: js) = _
    rw [ints?_map is]
    rfl
theorem dpa_ints {K : PySem.W.Frag} {H : Hp} : ∀ is : List Int, DqAll K H (is.map V.int) (is.map D.int)
  | [] => .nil
  | i :: is => .cons (.int i) (dpa_ints is)
/-- the greatest -/
def maxI : List Int → Option Int
  | [] => none
  | i :: is => some (is.foldl max i)
theorem foldl_max : ∀ (is : List Int) (i : Int), (is.foldl max i = i ∨ is.foldl max i ∈ is) ∧ i ≤ is.foldl max i ∧ ∀ j ∈ is, j ≤ is.foldl max i
  | [], i => ⟨.inl rfl, Int.le_refl _, fun j hj => by cases hj⟩
  | k :: is, i => by
    obtain ⟨h1, h2, h3⟩ := foldl_max is (max i k)
    refine ⟨?_, ?_, fun j hj => ?_⟩
    · show (is.foldl max (max i k) = i ∨ is.foldl max (max i k) ∈ k :: is)
      rcases h1 with h1 | h1
      · rw [h1]
        rcases Int.le_total i k with q | q
        · exact .inr (by rw [Int.max_eq_right q]; exact List.mem_cons_self)
        · exact .inl (Int.max_eq_left q)
      · exact .inr (List.mem_cons_of_mem _ h1)
    · exact Int.le_trans (Int.le_max_left i k) h2
    · rcases List.mem_cons.mp hj with rfl | hj
      · exact Int.le_trans (Int.le_max_right i j) h2
      · exact h3 j hj
theorem maxI_is {is : List Int} {m : Int} (hm : m ∈ is) (h : ∀ y ∈ is, y ≤ m) : maxI is = some m := by
  cases is with
  | nil => cases hm
  | cons i is =>
    obtain ⟨h1, h2, h3⟩ := foldl_max is i
    show some (is.foldl max i) = some m
    have q1 : is.foldl max i ≤ m := by
      rcases h1 with h1 | h1
      · rw [h1]
        exact h i List.mem_cons_self
      · exact h _ (List.mem_cons_of_mem _ h1)
    have q2 : m ≤ is.foldl max i := by
      rcases List.mem_cons.mp hm with rfl | hm
      · exact h2
      · exact h3 m hm
    rw [Int.le_antisymm q1 q2]
def gMax : SD → Option SD
  | .lst _ ds => (ints? ds).bind fun is => (maxI is).map fun m => .v (.int m)
  | _ => none
theorem ev_max : EvU X.K (rMax X.K) gMax := fun H x s1 s h e Q q => by
  cases s1 with
  | v d => cases e
  | dic o kvs => cases e
  | lst o ds =>
    have e : ((ints? ds).bind fun is => (maxI is).map fun m => SD.v (.int m)) = some s := e
    cases ei : ints? ds with
    | none => rw [ei] at e; cases e
    | some is =>
      obtain ⟨a, xs, rfl, h2, hd⟩ := h
      obtain ⟨rfl, rfl⟩ := ints_dp hd ei
      refine ⟨a, is, rfl, SqL.of h2, ?_, fun m hm hx => ?_⟩
      · cases is with
        | nil => rw [ei] at e; cases e
        | cons i is => simp
      · rw [ei] at e
        simp only [Option.bind_some, maxI_is hm hx, Option.map_some, Option.some.injEq] at e
        subst e
        exact q_val q (.int _)
theorem de_max {p : Pos} (hc : X.calm = true) (hm : X.mg "max" = none) (ha : DE X a t F) (hg : Gl X "max" := by rfl) (he : starEach [a] X.env = (false, eval a X.env) :: starEach [] X.env := by rfl) (hpl : (backTo pos (starEach [] X.env)).any (·.1) = false := by rfl) : DE X (.Call (.Name "max" p) [a] [] pos) (tCB (rMax X.K) (tCons t tNil)) (fOne gMax F) :=
  de_bi (cr_max hc) ev_max hm PyProof.Rows.boot_max ha hg (by decide) (by decide) he hpl
/-- sorted, of ints: the one sorted list -/
def insI (i : Int) : List Int → List Int
  | [] => [i]
  | j :: js => if i ≤ j then i :: j :: js else j :: insI i js
def sortI : List Int → List Int
  | [] => []
  | i :: is => insI i (sortI is)
theorem insI_perm (i : Int) : ∀ js : List Int, (insI i js).Perm (i :: js)
  | [] => .refl _
  | j :: js => by
    unfold insI
    split
    · exact .refl _
    · exact ((insI_perm i js).cons j).trans (.swap i j js)
theorem insI_ord (i : Int) : ∀ {js : List Int}, js.Pairwise (· ≤ ·) → (insI i js).Pairwise (· ≤ ·)
  | [], _ => by simp [insI]
  | j :: js, h => by
    have h' := List.pairwise_cons.mp h
    unfold insI
    split
    · rename_i q
      refine List.pairwise_cons.mpr ⟨fun k hk => ?_, h⟩
      rcases List.mem_cons.mp hk with rfl | hk
      · exact q
      · exact Int.le_trans q (h'.1 k hk)
    · rename_i q
      refine List.pairwise_cons.mpr ⟨fun k hk => ?_, insI_ord i h'.2⟩
      rcases List.mem_cons.mp ((insI_perm i js).mem_iff.mp hk) with rfl | hk
      · omega
      · exact h'.1 k hk
theorem sortI_perm : ∀ is : List Int, (sortI is).Perm is
  | [] => .refl _
  | i :: is => (insI_perm i _).trans ((sortI_perm is).cons i)
theorem sortI_ord : ∀ is : List Int, (sortI is).Pairwise (· ≤ ·)
  | [] => .nil
  | i :: is => insI_ord i (sortI_ord is)
theorem perm_ord : ∀ {a b : List Int}, a.Perm b → a.Pairwise (· ≤ ·) → b.Pairwise (· ≤ ·) → a = b
  | [], b, h, _, _ => (h.symm.eq_nil).symm
  | x :: a, b, h, ha, hb => by
    cases b with
    | nil => exact absurd h.eq_nil (by simp)
    | cons y b =>
      have ha' := List.pairwise_cons.mp ha
      have hb' := List.pairwise_cons.mp hb
      have q1 : x ≤ y := by
        rcases List.mem_cons.mp (h.symm.mem_iff.mp (List.mem_cons_self (a := y) (l := b))) with e | m
        · rw [e]; exact Int.le_refl _
        · exact ha'.1 y m
      have q2 : y ≤ x := by
        rcases List.mem_cons.mp (h.mem_iff.mp (List.mem_cons_self (a := x) (l := a))) with e | m
        · rw [e]; exact Int.le_refl _
        · exact hb'.1 x m
      have e := Int.le_antisymm q1 q2
      subst e
      rw [perm_ord (List.Perm.cons_inv h) ha'.2 hb'.2]
theorem sortI_is {a b : List Int} (h : a.Perm b) (o : a.Pairwise (· ≤ ·)) : a = sortI b := perm_ord (h.trans (sortI_perm b).symm) o (sortI_ord b)

/-! ### stores into what the frame owns -/
theorem tu_upd {K : PySem.W.Frag} {H : Hp} {a : Addr} {o' : HO} (nt : ∀ xs, ¬ Rd H a (.tup xs)) : Tu K H (upd H a o') := ⟨fun b xs q => by
  rcases q with q | q
  · refine .inl ?_
    have hb : b ≠ a := fun z => nt xs (z ▸ q)
    rcases q with q | ⟨ob, q⟩
    · exact .inl (by rw [upd_ne hb]; exact q)
    · exact .inr ⟨ob, by rw [upd_ne hb]; exact q⟩
  · exact .inr q, fun b ⟨o, xs, q, z⟩ => ⟨o, xs, by
    have hb : b ≠ a := fun y => nt xs (y ▸ .inr ⟨o, q⟩)
    rw [upd_ne hb]
    exact q, z⟩⟩
theorem Rp.mut {K : PySem.W.Frag} {B : Addr → Prop} {H0 H : Hp} {σ : St} {ρ : Rho} {i : Nat} {a : Addr} {s s' : SD} {o o' : HO} (R : Rp K B H0 σ H ρ) (h : ρ[i]? = some (some s)) (ho : s.own = some .own) (hσ : σ[i]? = some (some (.ref a))) (hH : H a = some o) (nt : ∀ xs, ¬ Rd H a (.tup xs))
    (ho' : s'.own = some .own) (ht : Tw K (upd H a o') (.ref a) s') : Rp K B H0 σ (upd H a o') (ρ.set i (some s')) ∧ Tu K H (upd H a o') := by
  have h0 : H0 a = none := R.own i s a h ho hσ
  have tu : Tu K H (upd H a o') := tu_upd nt
  have hi : i < ρ.length := (List.getElem?_eq_some_iff.mp h).1
  have get : ∀ {j : Nat} {x : SD}, (ρ.set i (some s'))[j]? = some (some x) → (j = i ∧ x = s') ∨ (j ≠ i ∧ ρ[j]? = some (some x)) := by
    intro j x hj
    by_cases e : i = j
    · subst e
      rw [List.getElem?_set_self hi] at hj
      exact .inl ⟨rfl, (Option.some.inj (Option.some.inj hj)).symm⟩
    · rw [List.getElem?_set_ne e] at hj
      exact .inr ⟨fun z => e z.symm, hj⟩
  have apart : ∀ {j : Nat} {x : SD} {b : Addr}, j ≠ i → ρ[j]? = some (some x) → x.own ≠ none → σ[j]? = some (some (.ref b)) → b ≠ a := by
    intro j x b hj h1 h2 h3 z
    subst z
    exact hj (R.sep i j s x b h ho h1 h2 hσ h3).symm
  have tw' : ∀ {v : V} {x : SD}, (x.own ≠ none → v ≠ .ref a) → Tw K H v x → Tw K (upd H a o') v x := by
    intro v x hx hw
    cases x with
    | v d => exact dp_tu tu hw
    | lst ow ds =>
      obtain ⟨b, xs, e, h2, h3⟩ := hw
      have hb : b ≠ a := fun z => hx (by simp [SD.own]) (by rw [e, z])
      exact ⟨b, xs, e, by rw [upd_ne hb]; exact h2, dpAll_tu tu h3⟩
    | dic ow kvs =>
      obtain ⟨b, e, h2⟩ := hw
      have hb : b ≠ a := fun z => hx (by simp [SD.own]) (by rw [e, z])
      exact ⟨b, e, by rw [upd_ne hb]; exact h2⟩
  refine ⟨⟨⟨fun b u nb q => ?_, fun b q => ?_⟩, fun j x hj => ?_, fun j x hj => ?_, fun j x b hj q q' => ?_, fun j l x y b hj q hl q' e1 e2 => ?_, by simp [R.len]⟩, tu⟩
  · have hb : b ≠ a := fun z => by rw [z, h0] at q; cases q
    rw [upd_ne hb]
    exact R.ex.1 b u nb q
  · by_cases hb : b = a
    · rw [hb, upd_same]
      simp
    · rw [upd_ne hb]
      exact R.ex.2 b q
  · rcases get hj with ⟨rfl, rfl⟩ | ⟨n1, h1⟩
    · exact ⟨_, hσ, ht⟩
    · obtain ⟨w, e1, e2⟩ := R.val j x h1
      exact ⟨w, e1, tw' (fun hx z => apart n1 h1 hx (z ▸ e1) rfl) e2⟩
  · rcases get hj with ⟨rfl, rfl⟩ | ⟨n1, h1⟩
    · simp [SD.isNew, ho']
    · exact R.nn j x h1
  · rcases get hj with ⟨rfl, rfl⟩ | ⟨n1, h1⟩
    · rw [hσ] at q'
      cases q'
      exact h0
    · exact R.own j x b h1 q q'
  · rcases get hj with ⟨rfl, rfl⟩ | ⟨n1, h1⟩
    · rcases get hl with ⟨rfl, rfl⟩ | ⟨n2, h2⟩
      · rfl
      · rw [hσ] at e1
        cases e1
        exact (apart n2 h2 q' e2 rfl).elim
    · rcases get hl with ⟨rfl, rfl⟩ | ⟨n2, h2⟩
      · rw [hσ] at e2
        cases e2
        exact (apart n1 h1 (by rw [q]; simp) e1 rfl).elim
      · exact R.sep j l x y b h1 q h2 q' e1 e2
/-- the address in an owned slot -/
theorem Rp.at_ {K : PySem.W.Frag} {B : Addr → Prop} {H0 H : Hp} {σ : St} {ρ : Rho} {i : Nat} {s : SD} (R : Rp K B H0 σ H ρ) (h : ρ[i]? = some (some s)) : ∃ v, σ[i]? = some (some v) ∧ Tw K H v s := R.val i s h
theorem lst_ntup {H : Hp} {a : Addr} {xs : List V} (h : H a = some (.lst xs)) : ∀ ys, ¬ Rd H a (.tup ys) := fun ys q => by
  rcases q with q | ⟨_, q⟩ <;> rw [h] at q <;> cases q
theorem dic_ntup {H : Hp} {a : Addr} {kvs : List (Key × V)} (h : H a = some (.dK kvs)) : ∀ ys, ¬ Rd H a (.tup ys) := fun ys q => by
  rcases q with q | ⟨_, q⟩ <;> rw [h] at q <;> cases q
/-- xs[e] = .. -/
def hSubL (i : Nat) (F : Rho → Option SD) : D → Rho → Option Rho := fun d ρ => (fVar i ρ).bind fun s => (F ρ).bind fun s2 => s2.int?.bind fun k => match s with
  | .lst .own ds => (ixN ds.length k).map fun j => ρ.set i (some (.lst .own (ds.set j d)))
  | _ => none
theorem fVar_at {ρ : Rho} {i : Nat} {s : SD} (h : fVar i ρ = some s) : ρ[i]? = some (some s) := by
  unfold fVar at h
  cases e : ρ[i]? with
  | none => rw [e] at h; cases h
  | some x =>
    rw [e] at h
    have h2 : x = some s := h
    rw [h2]
theorem ev_subL {K : PySem.W.Frag} (i : Nat) (h : EvD K t F) : EvG K (gSub (tVar i) t rSetL) (hSubL i F) := fun B H0 σ H ρ d v ρ' R hd e Q q => by
  unfold hSubL at e
  cases e1 : fVar i ρ with
  | none => rw [e1] at e; cases e
  | some s =>
    cases e2 : F ρ with
    | none => rw [e1] at e; simp [e2] at e
    | some s2 =>
      cases e3 : s2.int? with
      | none => rw [e1] at e; simp [e2, e3] at e
      | some k =>
        rw [e1] at e
        simp only [e2, e3, Option.bind_some] at e
        have hat := fVar_at e1
        obtain ⟨w, hw, tw⟩ := R.val i s hat
        refine ⟨w, hw, h B H0 σ H ρ s2 R.toRp e2 _ fun y H1 x1 t1 _ => ?_⟩
        have ey := tw_int t1 e3
        subst ey
        cases s with
        | v d => cases e
        | dic o kvs => cases e
        | lst o ds =>
          cases o with
          | bor => cases e
          | new => cases e
          | own =>
            have e : ((ixN ds.length k).map fun j => ρ.set i (some (.lst .own (ds.set j d)))) = some ρ' := e
            cases ej : ixN ds.length k with
            | none => rw [ej] at e; cases e
            | some j =>
              rw [ej] at e
              have e5 := Option.some.inj e
              subst e5
              obtain ⟨a, xs, rfl, h2, h3⟩ := tw_ex x1 tw
              have R1 := R.mono x1
              have tu : Tu K H1 (upd H1 a (.lst (xs.set j v))) := tu_upd (lst_ntup h2)
              have hp := dpAll_tu tu h3
              have hv := dp_tu tu (dp_ex x1 hd)
              obtain ⟨R2, u2⟩ := R1.mut (s' := .lst .own (ds.set j d)) (o' := .lst (xs.set j v)) hat rfl hw h2 (lst_ntup h2) rfl ⟨a, xs.set j v, rfl, upd_same, dpa_set hv j hp⟩
              exact ⟨a, xs, k, j, rfl, rfl, h2, by rw [dpa_len h3]; exact ej, q σ _ R2 ((Tu.of x1).trans u2)⟩
theorem dg_subL (i : Nat) {x : Str} {p : Pos} (he : DE X e t F) (hN : X.N[i]? = some x := by rfl) (hv : Vis X.env.scope x := by first | exact Or.inl rfl | exact Or.inr (Or.inl rfl) | exact Or.inr (Or.inr rfl))
    (ha : ∀ v, assign (.Subscript (.Name x p) e pos) X.env v = (do
      let ov ← holding [v] (eval (.Name x p) X.env)
      let iv ← holding [v, ov] (eval e X.env)
      standAt pos
      holding [v, ov, iv] (setItem ov iv v)
      release [v, ov, iv] []) := by intro _; rfl) (hd : (x == ("__debug__" : Str)) = false := by decide) (hcd : (x == ("__classdict__" : Str)) = false := by decide) : DG X (.Subscript (.Name x p) e pos) (gSub (tVar i) t rSetL) (hSubL i F) :=
  ⟨pg_sub (pe_var hN hv hd hcd) he.pe set_list ha, ev_subL i he.ev⟩
/-- d[e] = .. -/
def hSubD (i : Nat) (F : Rho → Option SD) : D → Rho → Option Rho := fun d ρ => (fVar i ρ).bind fun s => (F ρ).bind fun s2 => match s, s2 with
  | .dic .own kvs, .v kd => (toK kd).bind fun k => (toV d).bind fun z => if few (kvs.length + 1) then some (ρ.set i (some (.dic .own (putK kvs k z)))) else none
  | _, _ => none
theorem ev_subD {K : PySem.W.Frag} (i : Nat) (h : EvD K t F) : EvG K (gSub (tVar i) t rSetD) (hSubD i F) := fun B H0 σ H ρ d v ρ' R hd e Q q => by
  unfold hSubD at e
  cases e1 : fVar i ρ with
  | none => rw [e1] at e; cases e
  | some s =>
    cases e2 : F ρ with
    | none => rw [e1] at e; simp [e2] at e
    | some s2 =>
      rw [e1] at e
      simp only [e2, Option.bind_some] at e
      have hat := fVar_at e1
      obtain ⟨w, hw, tw⟩ := R.val i s hat
      refine ⟨w, hw, h B H0 σ H ρ s2 R.toRp e2 _ fun y H1 x1 t1 _ => ?_⟩
      have inv : ∃ kvs kd, s = .dic .own kvs ∧ s2 = .v kd := by
        split at e
        · exact ⟨_, _, rfl, rfl⟩
        · cases e
      obtain ⟨kvs, kd, rfl, rfl⟩ := inv
      · have e : ((toK kd).bind fun k => (toV d).bind fun z => if few (kvs.length + 1) then some (ρ.set i (some (.dic .own (putK kvs k z)))) else none) = some ρ' := e
        cases ek : toK kd with
        | none => rw [ek] at e; cases e
        | some k =>
          cases ez : toV d with
          | none => rw [ek] at e; simp [ez] at e
          | some z =>
            rw [ek] at e
            simp only [ez, Option.bind_some] at e
            split at e
            · rename_i hl
              have e5 := Option.some.inj e
              subst e5
              have ey := dp_toK t1 ek
              subst ey
              have ev := dp_scal hd ez
              subst ev
              obtain ⟨a, rfl, h2⟩ := tw_ex x1 tw
              have R1 := R.mono x1
              obtain ⟨R2, u2⟩ := R1.mut (s' := .dic .own (putK kvs k v)) (o' := .dK (putK kvs k v)) hat rfl hw h2 (dic_ntup h2) rfl ⟨a, rfl, upd_same⟩
              exact ⟨a, _, rfl, DPut.k h2 (Nat.lt_of_succ_le (few_le hl)), q σ _ R2 ((Tu.of x1).trans u2)⟩
            · cases e
theorem dg_subD (i : Nat) {x : Str} {p : Pos} (hu : X.A.units + 1 < cLine) (he : DE X e t F) (hN : X.N[i]? = some x := by rfl) (hv : Vis X.env.scope x := by first | exact Or.inl rfl | exact Or.inr (Or.inl rfl) | exact Or.inr (Or.inr rfl))
    (ha : ∀ v, assign (.Subscript (.Name x p) e pos) X.env v = (do
      let ov ← holding [v] (eval (.Name x p) X.env)
      let iv ← holding [v, ov] (eval e X.env)
      standAt pos
      holding [v, ov, iv] (setItem ov iv v)
      release [v, ov, iv] []) := by intro _; rfl) (hd : (x == ("__debug__" : Str)) = false := by decide) (hcd : (x == ("__classdict__" : Str)) = false := by decide) : DG X (.Subscript (.Name x p) e pos) (gSub (tVar i) t rSetD) (hSubD i F) :=
  ⟨pg_sub (pe_var hN hv hd hcd) he.pe (set_dict hu) ha, ev_subD i he.ev⟩
end
end Dn
/-! Data, 5: append and pop, loops, comprehensions, dicts. -/
namespace Dn
open PySem PySem.Spec L2
open PyProof.Rows (envOfC)
open Evl (Ex Ex.refl Ex.trans Ex.new ex_rd ex_l ex_t fresh_back)
section
variable {X : Cx} {e a b c : Expr} {es : List Expr} {t ta tb tc : TE} {tr : TA} {u ua ub : TT} {F Fa Fb Fc : Rho → Option SD} {T : Rho → Option Bool} {FA : Rho → Option (List SD)} {pos : Pos} {st : Stmt} {sts rest : List Stmt} {ts ts' : TS} {G G' : Rho → Option Out}

/-! ### xs.append(e), .. = xs.pop() -/
def fApp (i : Nat) (F : Rho → Option SD) : Rho → Option Out := fun ρ => (fVar i ρ).bind fun s => (F ρ).bind fun s2 => match s, s2 with
  | .lst .own ds, .v d => if few (ds.length + 1) then some (.nx (ρ.set i (some (.lst .own (ds ++ [d]))))) else none
  | _, _ => none
theorem fApp_inv {i : Nat} {ρ : Rho} {o : Out} (h : fApp i F ρ = some o) : ∃ ds d, ρ[i]? = some (some (.lst .own ds)) ∧ F ρ = some (.v d) ∧ few (ds.length + 1) = true ∧ o = .nx (ρ.set i (some (.lst .own (ds ++ [d])))) := by
  unfold fApp at h
  cases e1 : fVar i ρ with
  | none => rw [e1] at h; cases h
  | some s =>
    cases e2 : F ρ with
    | none => rw [e1] at h; simp [e2] at h
    | some s2 =>
      rw [e1] at h
      simp only [e2, Option.bind_some] at h
      split at h
      · split at h
        · rename_i hl
          exact ⟨_, _, fVar_at e1, rfl, hl, (Option.some.inj h).symm⟩
        · cases h
      · cases h
theorem ds_app (i : Nat) {x : Str} {p apos cpos : Pos} (he : DE X e t F) (hN : X.N[i]? = some x := by rfl) (hv : Vis X.env.scope x := by first | exact Or.inl rfl | exact Or.inr (Or.inl rfl) | exact Or.inr (Or.inr rfl))
    (hbase : attributeBase (.Name x p) "append" X.env (eval (.Name x p) X.env) = eval (.Name x p) X.env := by rfl)
    (hfew : ((backTo cpos (starEach [e] X.env)).all (fun x => !x.1) && (backToKw cpos (keywordEach [] X.env)).all (fun x => x.1.isSome)
      && decide (([e] : List Expr).length + ([] : List Keyword).length + (if ([] : List Keyword).isEmpty then 0 else 1) < 30)) = true := by rfl)
    (hline : (apos.endLine == cpos.line) = true := by rfl) (hs : starEach [e] X.env = (false, eval e X.env) :: starEach [] X.env := by rfl) (hplain : (backTo cpos (starEach [] X.env)).any (·.1) = false := by rfl)
    (hsw : swapsWith (.Call (.Attribute (.Name x p) "append" apos) [e] [] cpos) none pos.line X.env = pure false := by rfl) (hd : (x == ("__debug__" : Str)) = false := by decide) (hcd : (x == ("__classdict__" : Str)) = false := by decide) :
    DS X (.Expr (.Call (.Attribute (.Name x p) "append" apos) [e] [] cpos) pos) (tDrop (tBM X.K "list" rAppend (tVar i) (tCons t tNil))) (fApp i F) :=
  ⟨ps_expr (pe_bm PySem.F.plainAttrs_list PySem.F.slot_list_append PySem.F.type_list_append mt_append (pe_var hN hv hd hcd) (pa_cons he.pe pa_nil hs) hbase hfew hline hs hplain) hsw, fun B H0 σ H ρ o R e1 D q => by
    obtain ⟨ds, d, h1, h2, hl, rfl⟩ := fApp_inv e1
    obtain ⟨w, hw, a, xs, rfl, ha, hx⟩ := R.val i _ h1
    refine ⟨.ref a, hw, .inl ⟨rfl, xs, SqL.of ha⟩, he.ev B H0 σ H ρ _ R.toRp h2 _ fun y H1 x1 t1 _ => ?_⟩
    have ha1 := x1 a _ ha
    have tu : Tu X.K H1 (upd H1 a (.lst (xs ++ [y]))) := tu_upd (lst_ntup ha1)
    have hx1 := dpAll_tu tu (dpAll_ex x1 hx)
    obtain ⟨R2, _⟩ := (R.mono x1).mut (s' := .lst .own (ds ++ [d])) (o' := .lst (xs ++ [y])) h1 rfl hw ha1 (lst_ntup ha1) rfl ⟨a, xs ++ [y], rfl, upd_same, dpa_app hx1 (.cons (dp_tu tu t1) .nil)⟩
    exact ⟨a, xs, y, rfl, rfl, ha1, Nat.lt_of_succ_le (by rw [dpa_len hx]; exact few_le hl), q σ _ R2⟩⟩
def fPop (i : Nat) (Fg : D → Rho → Option Rho) : Rho → Option Out := fun ρ => (fVar i ρ).bind fun s => match s with
  | .lst .own ds => (ds[ds.length - 1]?).bind fun d => (Fg d (ρ.set i (some (.lst .own ds.dropLast)))).map .nx
  | _ => none
theorem fPop_inv {i : Nat} {Fg : D → Rho → Option Rho} {ρ : Rho} {o : Out} (h : fPop i Fg ρ = some o) : ∃ ds d ρ', ρ[i]? = some (some (.lst .own ds)) ∧ ds[ds.length - 1]? = some d ∧ Fg d (ρ.set i (some (.lst .own ds.dropLast))) = some ρ' ∧ o = .nx ρ' := by
  unfold fPop at h
  cases e1 : fVar i ρ with
  | none => rw [e1] at h; cases h
  | some s =>
    rw [e1] at h
    simp only [Option.bind_some] at h
    split at h
    · rename_i ds
      cases e2 : ds[ds.length - 1]? with
      | none => rw [e2] at h; cases h
      | some d =>
        rw [e2] at h
        simp only [Option.bind_some] at h
        cases e3 : Fg d (ρ.set i (some (.lst .own ds.dropLast))) with
        | none => rw [e3] at h; cases h
        | some ρ' =>
          rw [e3] at h
          exact ⟨ds, d, ρ', fVar_at e1, e2, e3, (Option.some.inj h).symm⟩
    · cases h
theorem dpa_dropLast {K : PySem.W.Frag} {H : Hp} : ∀ {vs : List V} {ds : List D}, DqAll K H vs ds → DqAll K H vs.dropLast ds.dropLast := fun {vs ds} h => by
  rw [List.dropLast_eq_take, List.dropLast_eq_take, dpa_len h]
  exact dpa_take _ h
theorem ds_pop (i : Nat) {x : Str} {p apos cpos : Pos} {tg : Expr} {g : TG} {Fg : D → Rho → Option Rho} (hg : DG X tg g Fg) (hN : X.N[i]? = some x := by rfl) (hv : Vis X.env.scope x := by first | exact Or.inl rfl | exact Or.inr (Or.inl rfl) | exact Or.inr (Or.inr rfl))
    (hbase : attributeBase (.Name x p) "pop" X.env (eval (.Name x p) X.env) = eval (.Name x p) X.env := by rfl) (hline : (apos.endLine == cpos.line) = true := by rfl)
    (hs : swapsWithSole [tg] (.Call (.Attribute (.Name x p) "pop" apos) [] [] cpos) pos.line X.env = pure false := by rfl) (hw : swappedStores [tg] (.Call (.Attribute (.Name x p) "pop" apos) [] [] cpos) X.env = pure none := by rfl)
    (h1 : (assignEach [tg] X.env).map (·.2) = [assign tg X.env] := by rfl) (hd : (x == ("__debug__" : Str)) = false := by decide) (hcd : (x == ("__classdict__" : Str)) = false := by decide) :
    DS X (.Assign [tg] (.Call (.Attribute (.Name x p) "pop" apos) [] [] cpos) pos) (tAsg (tBM0 X.K "list" rPop (tVar i)) g) (fPop i Fg) :=
  ⟨ps_asg (pe_bm0 PySem.F.plainAttrs_list PySem.F.slot_list_pop PySem.F.type_list_pop mt_pop (pe_var hN hv hd hcd) hbase hline) hg.pg hs hw h1, fun B H0 σ H ρ o R e1 D q => by
    obtain ⟨ds, d, ρ', h1, h2, h3, rfl⟩ := fPop_inv e1
    obtain ⟨w, hw, a, xs, rfl, ha, hx⟩ := R.val i _ h1
    obtain ⟨y, hy, dy⟩ := dpa_get hx h2
    refine ⟨.ref a, hw, .inl ⟨rfl, xs, SqL.of ha⟩, a, xs, y, rfl, rfl, ha, by rw [dpa_len hx]; exact hy, ?_⟩
    have tu : Tu X.K H (upd H a (.lst xs.dropLast)) := tu_upd (lst_ntup ha)
    obtain ⟨R2, _⟩ := R.mut (s' := .lst .own ds.dropLast) (o' := .lst xs.dropLast) h1 rfl hw ha (lst_ntup ha) rfl ⟨a, xs.dropLast, rfl, upd_same, dpa_dropLast (dpAll_tu tu hx)⟩
    exact hg.ev B H0 σ _ _ d y ρ' R2 (dp_tu tu dy) h3 _ fun σ' H' R' _ => q σ' H' R'⟩

/-! ### loops -/
def forGo (i : Nat) (G : Rho → Option Out) : Nat → Nat → Rho → Option Out
  | _, 0, ρ => some (.nx ρ)
  | j, n + 1, ρ => (G (ρ.set i (some (.v (.int j))))).bind fun o => match o with
    | .nx ρ' => forGo i G (j + 1) n ρ'
    | .ct ρ' => forGo i G (j + 1) n ρ'
    | .bk ρ' => some (.nx ρ')
    | .rt s => some (.rt s)
def fFor (i : Nat) (F : Rho → Option SD) (G : Rho → Option Out) : Rho → Option Out := fun ρ => (F ρ).bind fun s => s.int?.bind fun n => if decide (0 ≤ n) && decide (n ≤ 10000) then forGo i G 0 n.toNat ρ else none
theorem ds_forR (i : Nat) {x : Str} {p1 p2 px : Pos} {body : List Stmt} (hc : X.calm = true) (hx0 : PassesOwn (model X.prog X.w) X.A X.env X.xe) (hm : X.mg "range" = none) (he : DE X e t F) (hb : DSs X body ts G) (hN : X.N.Nodup) (hg : Gl X "range" := by rfl) (hi : X.N[i]? = some x := by rfl)
    (hx : Loc X.env.scope x := by first | exact Or.inl rfl | exact Or.inr rfl) (hf : X.fn x = true ∨ X.env.scope.names.lookup x = some .local := by first | exact .inl rfl | exact .inr rfl) (hs : starEach [e] X.env = [(false, eval e X.env)] := by rfl)
    (hs2 : ∀ x, foldedSetIterable (.Call (.Name "range" p1) [e] [] p2) X.env x = pure x := by intro _; rfl) :
    DS X (.For (.Name x px) (.Call (.Name "range" p1) [e] [] p2) body [] pos) (tFor (iRng1 (tCons t tNil)) (gName i) ts) (fFor i F G) :=
  ⟨ps_for hx0 hc (pi_range1 hg hm (pa_cons he.pe pa_nil hs) hs) (pg_name hN hi hx hf) hb.ps hs2, fun B H0 σ H ρ o R e1 D q => by
    unfold fFor at e1
    cases ef : F ρ with
    | none => rw [ef] at e1; cases e1
    | some s =>
      cases en : s.int? with
      | none => rw [ef] at e1; simp [en] at e1
      | some n =>
        rw [ef] at e1
        simp only [en, Option.bind_some] at e1
        split at e1
        · rename_i hn
          simp only [Bool.and_eq_true, decide_eq_true_eq] at hn
          refine he.ev B H0 σ H ρ s R.toRp ef _ fun y H1 x1 t1 _ => ?_
          have ey := tw_int t1 en
          subst ey
          refine ⟨n, rfl, by omega, by omega, for_range (n := n.toNat) (fun j σ' H' => j ≤ n.toNat ∧ ∃ ρ', Rp X.K B H0 σ' H' ρ' ∧ forGo i G j (n.toNat - j) ρ' = some o) ⟨Nat.zero_le _, ρ, R.mono x1, e1⟩ (fun j σ' H' hj ⟨_, ρ', R', e'⟩ => ?_) (fun σ' H' ⟨_, ρ', R', e'⟩ => ?_)⟩
          · have en' : n.toNat - j = (n.toNat - (j + 1)) + 1 := by omega
            rw [en'] at e'
            have e' : ((G (ρ'.set i (some (.v (.int j))))).bind fun o => match o with
              | .nx ρ' => forGo i G (j + 1) (n.toNat - (j + 1)) ρ'
              | .ct ρ' => forGo i G (j + 1) (n.toNat - (j + 1)) ρ'
              | .bk ρ' => some (.nx ρ')
              | .rt s => some (.rt s)) = some o := e'
            cases eg : G (ρ'.set i (some (.v (.int j)))) with
            | none => rw [eg] at e'; cases e'
            | some o1 =>
              rw [eg] at e'
              have ez : (0 : Int) + (j : Int) = (j : Int) := Int.zero_add _
              show ts _ (σ'.set i (some (.int (0 + (j : Int))))) H'
              rw [ez]
              have R1 : Rp X.K B H0 (σ'.set i (some (.int (j : Int)))) H' (ρ'.set i (some (.v (.int (j : Int))))) := R'.set (Ex.refl H') (s := .v (.int j)) (.int _) fr_v rfl i
              refine hb.ev B H0 _ H' _ o1 R1 eg _ ?_
              cases o1 with
              | nx ρ2 => exact fun σ2 H2 R2 => ⟨hj, ρ2, R2, e'⟩
              | ct ρ2 => exact fun σ2 H2 R2 => ⟨hj, ρ2, R2, e'⟩
              | bk ρ2 =>
                have e2 := Option.some.inj e'
                subst e2
                exact q
              | rt s2 =>
                have e2 := Option.some.inj e'
                subst e2
                exact q
          · rw [Nat.sub_self] at e'
            have e2 : o = .nx ρ' := (Option.some.inj e').symm
            subst e2
            exact q σ' H' R'
        · cases e1⟩
def whileGo (T : Rho → Option Bool) (G : Rho → Option Out) : Nat → Rho → Option Out
  | 0, _ => none
  | n + 1, ρ => (T ρ).bind fun b => if b then (G ρ).bind fun o => match o with
    | .nx ρ' => whileGo T G n ρ'
    | .ct ρ' => whileGo T G n ρ'
    | .bk ρ' => some (.nx ρ')
    | .rt s => some (.rt s)
    else some (.nx ρ)
def fWhile (T : Rho → Option Bool) (G : Rho → Option Out) : Rho → Option Out := fun ρ => whileGo T G 1000 ρ
theorem ds_while {body : List Stmt} (hx0 : PassesOwn (model X.prog X.w) X.A X.env X.xe) (hc : DT X c u T) (hb : DSs X body ts G) : DS X (.While c body [] pos) (tWhile u ts) (fWhile T G) :=
  ⟨ps_while hx0 hc.pt hb.ps, fun B H0 σ H ρ o R e1 D q => by
    refine ⟨fun m σ' H' => ∃ ρ', Rp X.K B H0 σ' H' ρ' ∧ whileGo T G m ρ' = some o, ⟨1000, ρ, R, e1⟩, ?_⟩
    rintro m σ' H' ⟨ρ', R', e'⟩
    cases m with
    | zero => cases e'
    | succ m =>
      have e' : ((T ρ').bind fun b => if b then (G ρ').bind fun o => match o with
        | .nx ρ' => whileGo T G m ρ'
        | .ct ρ' => whileGo T G m ρ'
        | .bk ρ' => some (.nx ρ')
        | .rt s => some (.rt s)
        else some (.nx ρ')) = some o := e'
      cases et : T ρ' with
      | none => rw [et] at e'; cases e'
      | some b =>
        rw [et] at e'
        refine hc.ev B H0 σ' H' ρ' b R'.toRp et _ fun H1 x1 => ?_
        cases b with
        | false =>
          have e2 : o = .nx ρ' := (Option.some.inj e').symm
          subst e2
          exact q σ' H1 (R'.mono x1)
        | true =>
          rw [if_pos rfl]
          have e' : ((G ρ').bind fun o => match o with
            | .nx ρ' => whileGo T G m ρ'
            | .ct ρ' => whileGo T G m ρ'
            | .bk ρ' => some (.nx ρ')
            | .rt s => some (.rt s)) = some o := e'
          cases eg : G ρ' with
          | none => rw [eg] at e'; cases e'
          | some o1 =>
            rw [eg] at e'
            refine ⟨fun σ2 H2 => ∃ ρ2, Rp X.K B H0 σ2 H2 ρ2 ∧ whileGo T G m ρ2 = some o, fun σ2 H2 h => ⟨m, Nat.lt_succ_self m, h⟩, ?_⟩
            refine hb.ev B H0 σ' H1 ρ' o1 (R'.mono x1) eg _ ?_
            cases o1 with
            | nx ρ2 => exact fun σ2 H2 R2 => ⟨ρ2, R2, e'⟩
            | ct ρ2 => exact fun σ2 H2 R2 => ⟨ρ2, R2, e'⟩
            | bk ρ2 =>
              have e2 := Option.some.inj e'
              subst e2
              exact q
            | rt s2 =>
              have e2 := Option.some.inj e'
              subst e2
              exact q⟩

/-! ### comprehensions -/
def wipeR (ρ : Rho) : List Nat → Rho
  | [] => ρ
  | v :: vs => (wipeR ρ vs).set v none
theorem Rp.clear {K : PySem.W.Frag} {B : Addr → Prop} {H0 H : Hp} {σ : L2.St} {ρ : Rho} (R : Rp K B H0 σ H ρ) (i : Nat) : Rp K B H0 (σ.set i none) H (ρ.set i none) := by
  have get : ∀ {j : Nat} {x : SD}, (ρ.set i none)[j]? = some (some x) → j ≠ i ∧ ρ[j]? = some (some x) := by
    intro j x h
    by_cases e : i = j
    · subst e
      have hl : i < ρ.length := by
        have := (List.getElem?_eq_some_iff.mp h).1
        simpa using this
      rw [List.getElem?_set_self hl] at h
      cases h
    · rw [List.getElem?_set_ne e] at h
      exact ⟨fun z => e z.symm, h⟩
  have gs : ∀ {j : Nat}, j ≠ i → (σ.set i none)[j]? = σ[j]? := fun h => List.getElem?_set_ne (Ne.symm h)
  refine ⟨R.ex, fun j x h => ?_, fun j x h => R.nn j x (get h).2, fun j x a h o q => ?_, fun j l x y a h o h' o' q q' => ?_, by simp [R.len]⟩
  · obtain ⟨n, h1⟩ := get h
    obtain ⟨v, e1, e2⟩ := R.val j x h1
    exact ⟨v, (gs n).trans e1, e2⟩
  · obtain ⟨n, h1⟩ := get h
    exact R.own j x a h1 o ((gs n).symm.trans q)
  · obtain ⟨n, h1⟩ := get h
    obtain ⟨n', h2⟩ := get h'
    exact R.sep j l x y a h1 o h2 o' ((gs n).symm.trans q) ((gs n').symm.trans q')
theorem Rp.wipe {K : PySem.W.Frag} {B : Addr → Prop} {H0 H : Hp} {σ : L2.St} {ρ : Rho} (R : Rp K B H0 σ H ρ) : ∀ vs : List Nat, Rp K B H0 (L2.wipe σ vs) H (wipeR ρ vs)
  | [] => R
  | v :: vs => (Rp.wipe R vs).clear v
theorem wipe_get (σ : L2.St) (j : Nat) : ∀ vs : List Nat, (L2.wipe σ vs)[j]? = if j ∈ vs ∧ j < σ.length then some none else σ[j]?
  | [] => by simp [L2.wipe]
  | v :: vs => by
    show ((L2.wipe σ vs).set v none)[j]? = _
    rw [List.getElem?_set, wipe_get σ j vs, wipe_length]
    by_cases h : v = j
    · subst h
      by_cases hl : v < σ.length
      · simp [hl]
      · have : σ[v]? = none := List.getElem?_eq_none (by omega)
        simp [hl, this]
    · have h' : ¬ j = v := fun z => h z.symm
      simp [h, h', List.mem_cons]
theorem wipe_set {σ : L2.St} {i : Nat} {x : Option V} {vs : List Nat} (h : i ∈ vs) : L2.wipe (σ.set i x) vs = L2.wipe σ vs := by
  apply List.ext_getElem?
  intro j
  rw [wipe_get, wipe_get, List.length_set]
  by_cases hj : i = j
  · subst hj
    by_cases hl : i < σ.length
    · simp [h, hl]
    · have e1 : σ[i]? = none := List.getElem?_eq_none (by omega)
      have e2 : (σ.set i x)[i]? = none := List.getElem?_eq_none (by simp; omega)
      simp [hl, e1, e2]
  · rw [List.getElem?_set_ne hj]
theorem wipe_wipe (σ : L2.St) (vs : List Nat) : L2.wipe (L2.wipe σ vs) vs = L2.wipe σ vs := by
  apply List.ext_getElem?
  intro j
  rw [wipe_get, wipe_length, wipe_get]
  split <;> simp_all
/-- a comprehension's target: names of its own -/
def EvC (K : PySem.W.Frag) (g : TG) (vs : List Nat) (F : D → Rho → Option Rho) : Prop := ∀ B H0 σ H ρ d v ρ', Rp K B H0 σ H ρ → Dq K H v d → F d ρ = some ρ' → ∀ Q : L2.St → Hp → Prop, (∀ σ', Rp K B H0 σ' H ρ' → L2.wipe σ' vs = L2.wipe σ vs → Q σ' H) → g v σ H Q
theorem ec_name {K : PySem.W.Frag} (i : Nat) {vs : List Nat} (h : i ∈ vs := by decide) : EvC K (gName i) vs (hName i) := fun B H0 σ H ρ d v ρ' R hd e Q q => by
  have e2 := Option.some.inj e
  subst e2
  exact q _ (R.set (Ex.refl H) (s := .v d) hd fr_v rfl i) (wipe_set h)
def hNames : List Nat → List D → Rho → Option Rho
  | [], [], ρ => some ρ
  | i :: is, d :: ds, ρ => hNames is ds (ρ.set i (some (.v d)))
  | _, _, _ => none
theorem ec_names {K : PySem.W.Frag} {vs : List Nat} : ∀ {is : List Nat} {B : Addr → Prop} {H0 : Hp} {σ : L2.St} {H : Hp} {ρ ρ' : Rho} {ds : List D} {xs : List V}, (∀ i ∈ is, i ∈ vs) → Rp K B H0 σ H ρ → DqAll K H xs ds → hNames is ds ρ = some ρ' → ∀ Q : L2.St → Hp → Prop, (∀ σ', Rp K B H0 σ' H ρ' → L2.wipe σ' vs = L2.wipe σ vs → Q σ' H) → gNames is xs σ H Q
  | [], _, _, σ, H, ρ, ρ', [], [], _, R, _, e, Q, q => by
    have e2 := Option.some.inj e
    subst e2
    exact ⟨rfl, q σ R rfl⟩
  | i :: is, _, _, σ, H, ρ, ρ', d :: ds, x :: xs, hi, R, .cons a b, e, Q, q => by
    refine ⟨x, xs, rfl, ec_names (fun j hj => hi j (List.mem_cons_of_mem _ hj)) (R.set (Ex.refl H) (s := .v d) a fr_v rfl i) b e Q fun σ' R' hw => q σ' R' (hw.trans (wipe_set (hi i List.mem_cons_self)))⟩
  | [], _, _, _, _, _, _, _ :: _, _, _, _, _, e, _, _ => by cases e
  | _ :: _, _, _, _, _, _, _, [], _, _, _, _, e, _, _ => by cases e
  | _ :: _, _, _, _, _, _, _, _ :: _, [], _, _, h, _, _, _ => by cases h
theorem ec_tup {K : PySem.W.Frag} (is : List Nat) {vs : List Nat} (h : ∀ i ∈ is, i ∈ vs := by decide) : EvC K (gTup K is.length (gNames is)) vs (hTup is.length (hNames is)) := fun B H0 σ H ρ d v ρ' R hd e Q q => by
  cases d <;> simp [hTup] at e
  obtain ⟨a, xs, rfl, h1, h2, _⟩ := dp_tupT hd
  exact ⟨a, xs, rfl, h1, by rw [dpa_len h2]; exact e.1, ec_names h R h2 e.2 Q q⟩
structure DTs (X : Cx) (ifs : List Expr) (t : TT) (F : Rho → Option Bool) : Prop where
  pt : PTs X ifs t
  ev : EvB X.K t F
theorem dts_nil : DTs X [] tYes (fun _ => some true) := ⟨pts_nil, fun B H0 σ H ρ b R e Q q => by
  have e2 := Option.some.inj e
  subst e2
  exact q H (Ex.refl H)⟩
theorem dts_one (h : DT X c u T) : DTs X [c] u T := ⟨pts_one h.pt, h.ev⟩
def lcGo (Fg : D → Rho → Option Rho) (T : Rho → Option Bool) (Fe : Rho → Option SD) (ρ : Rho) : List D → Option (List D)
  | [] => some []
  | d :: ds => (Fg d ρ).bind fun ρ1 => (T ρ1).bind fun b => if b then (Fe ρ1).bind fun s => match s with
    | .v x => (lcGo Fg T Fe ρ ds).map fun xs => x :: xs
    | _ => none
    else lcGo Fg T Fe ρ ds
theorem lcGo_cons {Fg : D → Rho → Option Rho} {Fe : Rho → Option SD} {ρ : Rho} {d : D} {ds out : List D} (h : lcGo Fg T Fe ρ (d :: ds) = some out) :
    ∃ ρ1 b, Fg d ρ = some ρ1 ∧ T ρ1 = some b ∧ (b = true → ∃ x xs, Fe ρ1 = some (.v x) ∧ lcGo Fg T Fe ρ ds = some xs ∧ out = x :: xs) ∧ (b = false → lcGo Fg T Fe ρ ds = some out) := by
  have h : ((Fg d ρ).bind fun ρ1 => (T ρ1).bind fun b => if b then (Fe ρ1).bind fun s => match s with
    | .v x => (lcGo Fg T Fe ρ ds).map fun xs => x :: xs
    | _ => none
    else lcGo Fg T Fe ρ ds) = some out := h
  cases e1 : Fg d ρ with
  | none => rw [e1] at h; cases h
  | some ρ1 =>
    cases e2 : T ρ1 with
    | none => rw [e1] at h; simp [e2] at h
    | some b =>
      rw [e1] at h
      simp only [e2, Option.bind_some] at h
      refine ⟨ρ1, b, rfl, e2, fun hb => ?_, fun hb => ?_⟩
      · rw [hb, if_pos rfl] at h
        cases e3 : Fe ρ1 with
        | none => rw [e3] at h; cases h
        | some s =>
          rw [e3] at h
          cases s with
          | v x =>
            have h : ((lcGo Fg T Fe ρ ds).map fun xs => x :: xs) = some out := h
            cases e4 : lcGo Fg T Fe ρ ds with
            | none => rw [e4] at h; cases h
            | some xs =>
              rw [e4] at h
              exact ⟨x, xs, rfl, rfl, (Option.some.inj h).symm⟩
          | lst o l => cases h
          | dic o l => cases h
      · rw [hb] at h
        exact h
def itT : SD → Option (List D)
  | .v (.tup _ ds) => some ds
  | _ => none
def itL : SD → Option (List D)
  | .lst _ ds => some ds
  | _ => none
def fLc (it : SD → Option (List D)) (vs : List Nat) (Fi : Rho → Option SD) (Fg : D → Rho → Option Rho) (T : Rho → Option Bool) (Fe : Rho → Option SD) : Rho → Option SD := fun ρ => (Fi ρ).bind fun s => (it s).bind fun ds => if few ds.length then (lcGo Fg T Fe (wipeR ρ vs) ds).map fun out => .lst .new out else none
theorem fLc_inv {it : SD → Option (List D)} {vs : List Nat} {Fi : Rho → Option SD} {Fg : D → Rho → Option Rho} {Fe : Rho → Option SD} {ρ : Rho} {s : SD} (h : fLc it vs Fi Fg T Fe ρ = some s) : ∃ s1 ds out, Fi ρ = some s1 ∧ it s1 = some ds ∧ few ds.length = true ∧ lcGo Fg T Fe (wipeR ρ vs) ds = some out ∧ s = .lst .new out := by
  unfold fLc at h
  cases e1 : Fi ρ with
  | none => rw [e1] at h; cases h
  | some s1 =>
    cases e2 : it s1 with
    | none => rw [e1] at h; simp [e2] at h
    | some ds =>
      rw [e1] at h
      simp only [e2, Option.bind_some] at h
      split at h
      · rename_i hl
        cases e3 : lcGo Fg T Fe (wipeR ρ vs) ds with
        | none => rw [e3] at h; cases h
        | some out =>
          rw [e3] at h
          exact ⟨s1, ds, out, rfl, e2, hl, e3, (Option.some.inj h).symm⟩
      · cases h
/-- one turn of a comprehension -/
theorem lc_turn {K : PySem.W.Frag} {B : Addr → Prop} {H0 H1 H' : Hp} {σ : L2.St} {ρ : Rho} {vs : List Nat} {g : TG} {tt : TT} {te : TE} {Fg : D → Rho → Option Rho} {Fe : Rho → Option SD} (hg : EvC K g vs Fg) (ht : EvB K tt T) (he : EvD K te Fe) (R : Rp K B H0 σ H1 ρ) {A : Addr} (hA : H1 A = none)
    (x : Ex H1 H') {d : D} {ds out tot : List D} {acc : List V} {v : V} (hv : Dq K H' v d) (ha : H' A = some (.lst acc)) (hacc : DqAll K H' acc out) (hgo : ∃ r, lcGo Fg T Fe (wipeR ρ vs) (d :: ds) = some r ∧ tot = out ++ r) (hlen : out.length < sizeLine) (N : Hp → Prop)
    (hN : ∀ H2 acc' out', Ex H1 H2 → H2 A = some (.lst acc') → DqAll K H2 acc' out' → out'.length ≤ out.length + 1 → (∃ r, lcGo Fg T Fe (wipeR ρ vs) ds = some r ∧ tot = out' ++ r) → N H2) :
    g v (L2.wipe σ vs) H' fun σ2 H2 => L2.wipe σ2 vs = L2.wipe σ vs ∧ tt σ2 H2 fun b H3 => if b = true then te σ2 H3 fun y H4 => ∃ acc, H4 A = some (.lst acc) ∧ acc.length < sizeLine ∧ N (upd H4 A (.lst (acc ++ [y]))) else N H3 := by
  obtain ⟨r, e, et⟩ := hgo
  obtain ⟨ρ1, b, e1, e2, e3, e4⟩ := lcGo_cons e
  refine hg B H0 _ H' _ d v ρ1 ((R.wipe vs).mono x) hv e1 _ fun σ2 R2 hw => ⟨hw.trans (wipe_wipe σ vs), ?_⟩
  refine ht B H0 σ2 H' ρ1 b R2.toRp e2 _ fun H3 x3 => ?_
  cases b with
  | true =>
    obtain ⟨z, zs, f1, f2, rfl⟩ := e3 rfl
    rw [if_pos rfl]
    refine he B H0 σ2 H3 ρ1 _ (R2.mono x3).toRp f1 _ fun y H4 x4 t4 _ => ?_
    have hA4 : H4 A = some (.lst acc) := x4 _ _ (x3 _ _ ha)
    refine ⟨acc, hA4, by rw [dpa_len hacc]; exact hlen, ?_⟩
    have tu : Tu K H4 (upd H4 A (.lst (acc ++ [y]))) := tu_upd (lst_ntup hA4)
    refine hN _ (acc ++ [y]) (out ++ [z]) (Evl.Ex.mut ((x.trans x3).trans x4) hA) upd_same (dpa_app (dpAll_tu tu (dpAll_ex (x3.trans x4) hacc)) (.cons (dp_tu tu t4) .nil)) (by simp) ⟨zs, f2, by rw [et]; simp⟩
  | false =>
    rw [if_neg (by decide)]
    exact hN H3 acc out (x.trans x3) (x3 _ _ ha) (dpAll_ex x3 hacc) (by omega) ⟨r, e4 rfl, et⟩
theorem few_step {n m : Nat} (h : few n = true) (q : m < n) : m < sizeLine := Nat.lt_of_lt_of_le q (few_le h)
theorem de_lcT {elt tg iter : Expr} {ifs : List Expr} {scope : Scope} {own : List (Str × Nat)} {g : TG} {tt : TT} {te tl : TE} {Fi Fe : Rho → Option SD} {Fg : D → Rho → Option Rho} (hc : X.calm = true) (hN : X.N.Nodup) (ok : BlkOk X.N X.env.scope scope own) (hi : DE X iter tl Fi) (hgv : EvC X.K g (own.map (·.2)) Fg)
    (hg : ∀ (s : Shared) (H : Hp) (C : Addr) (cl : List (Str × Addr)) (fp : List Addr), PG (X.blk s H scope (compEnvC scope cl C X.env) fp) tg g) (ht : ∀ (s : Shared) (H : Hp) (C : Addr) (cl : List (Str × Addr)) (fp : List Addr), DTs (X.blk s H scope (compEnvC scope cl C X.env) fp) ifs tt T)
    (he : ∀ (s : Shared) (H : Hp) (C : Addr) (cl : List (Str × Addr)) (fp : List Addr), DE (X.blk s H scope (compEnvC scope cl C X.env) fp) elt te Fe) (s0 : Shared) (hs : ∀ x, foldedSetIterable iter X.env x = pure x := by intro _; rfl) :
    DE X (.ListComp elt [⟨tg, iter, ifs, 0⟩] scope pos) (tLc (iTup X.K tl) g tt te (own.map (·.2))) (fLc itT (own.map (·.2)) Fi Fg T Fe) :=
  ⟨pe_lc hc hN (pi_tup hi.pe) ok hg (fun s H C cl fp => (ht s H C cl fp).pt) (fun s H C cl fp => (he s H C cl fp).pe) hs, fun B H0 σ H ρ s R e Q q => by
    obtain ⟨s1, ds, tot, e1, e2, hl, e3, rfl⟩ := fLc_inv e
    have ev1 : EvB X.K tt T := (ht s0 H 0 [] []).ev
    have ev2 : EvD X.K te Fe := (he s0 H 0 [] []).ev
    refine hi.ev B H0 σ H ρ s1 R.toRp e1 _ fun y H1 x1 t1 _ => ?_
    have q1 : ∃ p, s1 = .v (.tup p ds) := by
      cases s1 with
      | v d =>
        cases d <;> simp [itT] at e2
        subst e2
        exact ⟨_, rfl⟩
      | lst o l => cases e2
      | dic o l => cases e2
    obtain ⟨p, rfl⟩ := q1
    obtain ⟨a, xs, rfl, hx, hd⟩ := tw_tup t1
    refine ⟨a, rfl, ⟨xs, hx⟩, fun A hA => lc_tup (xs := xs) (fun i H' => Ex H1 H' ∧ ∃ acc out, H' A = some (.lst acc) ∧ DqAll X.K H' acc out ∧ out.length ≤ i ∧ ∃ r, lcGo Fg T Fe (wipeR ρ (own.map (·.2))) (ds.drop i) = some r ∧ tot = out ++ r)
      ⟨Ex.new hA, [], [], upd_same, .nil, Nat.zero_le _, tot, e3, rfl⟩ (fun i H' _ h => ex_t h.1 hx) (fun i x H' hi' h => ?_) (fun H' h => ?_)⟩
    · obtain ⟨x2, acc, out, h1, h2, h3, r, h4, h5⟩ := h
      have hil := (List.getElem?_eq_some_iff.mp hi').1
      have hil2 : i < ds.length := by rw [← dpa_len hd]; exact hil
      have ed : ds.drop i = ds[i] :: ds.drop (i + 1) := List.drop_eq_getElem_cons hil2
      rw [ed] at h4
      obtain ⟨v, ev, dv⟩ := dpa_get hd (List.getElem?_eq_getElem hil2)
      rw [hi'] at ev
      have exv := Option.some.inj ev
      subst exv
      exact lc_turn hgv ev1 ev2 (R.mono x1) hA x2 (dp_ex x2 dv) h1 h2 ⟨r, h4, h5⟩ (few_step hl (by omega)) _ fun H2 acc' out' y1 y2 y3 y4 y5 => ⟨y1, acc', out', y2, y3, by omega, y5⟩
    · obtain ⟨x2, acc, out, h1, h2, h3, r, h4, h5⟩ := h
      rw [dpa_len hd, List.drop_length] at h4
      have er : r = [] := (Option.some.inj h4).symm
      subst er
      rw [List.append_nil] at h5
      subst h5
      exact q _ _ (x1.trans x2) ⟨A, acc, rfl, h1, h2⟩ fun _ a' ea => by
        cases ea
        exact fresh_back x1 hA⟩
theorem de_lcL {elt tg iter : Expr} {ifs : List Expr} {scope : Scope} {own : List (Str × Nat)} {g : TG} {tt : TT} {te tl : TE} {Fi Fe : Rho → Option SD} {Fg : D → Rho → Option Rho} (hc : X.calm = true) (hN : X.N.Nodup) (ok : BlkOk X.N X.env.scope scope own) (hi : DE X iter tl Fi) (hgv : EvC X.K g (own.map (·.2)) Fg)
    (hg : ∀ (s : Shared) (H : Hp) (C : Addr) (cl : List (Str × Addr)) (fp : List Addr), PG (X.blk s H scope (compEnvC scope cl C X.env) fp) tg g) (ht : ∀ (s : Shared) (H : Hp) (C : Addr) (cl : List (Str × Addr)) (fp : List Addr), DTs (X.blk s H scope (compEnvC scope cl C X.env) fp) ifs tt T)
    (he : ∀ (s : Shared) (H : Hp) (C : Addr) (cl : List (Str × Addr)) (fp : List Addr), DE (X.blk s H scope (compEnvC scope cl C X.env) fp) elt te Fe) (s0 : Shared) (hs : ∀ x, foldedSetIterable iter X.env x = pure x := by intro _; rfl) :
    DE X (.ListComp elt [⟨tg, iter, ifs, 0⟩] scope pos) (tLc (iList X.K tl) g tt te (own.map (·.2))) (fLc itL (own.map (·.2)) Fi Fg T Fe) :=
  ⟨pe_lc hc hN (pi_list hi.pe) ok hg (fun s H C cl fp => (ht s H C cl fp).pt) (fun s H C cl fp => (he s H C cl fp).pe) hs, fun B H0 σ H ρ s R e Q q => by
    obtain ⟨s1, ds, tot, e1, e2, hl, e3, rfl⟩ := fLc_inv e
    have ev1 : EvB X.K tt T := (ht s0 H 0 [] []).ev
    have ev2 : EvD X.K te Fe := (he s0 H 0 [] []).ev
    refine hi.ev B H0 σ H ρ s1 R.toRp e1 _ fun y H1 x1 t1 _ => ?_
    have q1 : ∃ p, s1 = .lst p ds := by
      cases s1 with
      | v d => cases e2
      | lst o l =>
        simp [itL] at e2
        subst e2
        exact ⟨_, rfl⟩
      | dic o l => cases e2
    obtain ⟨p, rfl⟩ := q1
    obtain ⟨a, xs, rfl, hx, hd⟩ := t1
    refine ⟨a, rfl, ⟨xs, SqL.of hx⟩, fun A hA => lc_list (xs := xs) (fun i H' => Ex H1 H' ∧ ∃ acc out, H' A = some (.lst acc) ∧ DqAll X.K H' acc out ∧ out.length ≤ i ∧ ∃ r, lcGo Fg T Fe (wipeR ρ (own.map (·.2))) (ds.drop i) = some r ∧ tot = out ++ r)
      ⟨Ex.new hA, [], [], upd_same, .nil, Nat.zero_le _, tot, e3, rfl⟩ (fun i H' _ h => SqL.of (h.1 _ _ hx)) (fun i x H' hi' h => ?_) (fun H' h => ?_)⟩
    · obtain ⟨x2, acc, out, h1, h2, h3, r, h4, h5⟩ := h
      have hil := (List.getElem?_eq_some_iff.mp hi').1
      have hil2 : i < ds.length := by rw [← dpa_len hd]; exact hil
      have ed : ds.drop i = ds[i] :: ds.drop (i + 1) := List.drop_eq_getElem_cons hil2
      rw [ed] at h4
      obtain ⟨v, ev, dv⟩ := dpa_get hd (List.getElem?_eq_getElem hil2)
      rw [hi'] at ev
      have exv := Option.some.inj ev
      subst exv
      exact lc_turn hgv ev1 ev2 (R.mono x1) hA x2 (dp_ex x2 dv) h1 h2 ⟨r, h4, h5⟩ (few_step hl (by omega)) _ fun H2 acc' out' y1 y2 y3 y4 y5 => ⟨y1, acc', out', y2, y3, by omega, y5⟩
    · obtain ⟨x2, acc, out, h1, h2, h3, r, h4, h5⟩ := h
      rw [dpa_len hd, List.drop_length] at h4
      have er : r = [] := (Option.some.inj h4).symm
      subst er
      rw [List.append_nil] at h5
      subst h5
      exact q _ _ (x1.trans x2) ⟨A, acc, rfl, h1, h2⟩ fun _ a' ea => by
        cases ea
        exact fresh_back x1 hA⟩
end
end Dn
/-! Data, 6: dicts, sorted. -/
namespace Dn
open PySem PySem.Spec L2
open PyProof.Rows (envOfC IsTup)
open Evl (Ex Ex.refl Ex.trans Ex.new ex_rd ex_l ex_t fresh_back)
section
variable {X : Cx} {e a b c : Expr} {es : List Expr} {t ta tb tc : TE} {tr : TA} {u ua ub : TT} {F Fa Fb Fc : Rho → Option SD} {T : Rho → Option Bool} {FA : Rho → Option (List SD)} {pos : Pos}

/-! ### d.get(k, x), d[k], k not in d -/
def gGet : SD → SD → SD → Option SD
  | .dic _ kvs, .v kd, .v z => (toK kd).bind fun k => match valV kvs k with
    | some y => (ofV y).map .v
    | none => some (.v z)
  | _, _, _ => none
def fGet (Fd Fk Fz : Rho → Option SD) : Rho → Option SD := fun ρ => (Fd ρ).bind fun d => (Fk ρ).bind fun k => (Fz ρ).bind fun z => gGet d k z
theorem fGet_inv {Fd Fk Fz : Rho → Option SD} {ρ : Rho} {s : SD} (h : fGet Fd Fk Fz ρ = some s) : ∃ o kvs kd z k, Fd ρ = some (.dic o kvs) ∧ Fk ρ = some (.v kd) ∧ Fz ρ = some (.v z) ∧ toK kd = some k ∧ ((∃ y d, valV kvs k = some y ∧ ofV y = some d ∧ s = .v d) ∨ (valV kvs k = none ∧ s = .v z)) := by
  unfold fGet at h
  cases e1 : Fd ρ with
  | none => rw [e1] at h; cases h
  | some sd =>
    cases e2 : Fk ρ with
    | none => rw [e1] at h; simp [e2] at h
    | some sk =>
      cases e3 : Fz ρ with
      | none => rw [e1] at h; simp [e2, e3] at h
      | some sz =>
        rw [e1] at h
        simp only [e2, e3, Option.bind_some] at h
        unfold gGet at h
        split at h
        · rename_i o kvs kd z
          cases ek : toK kd with
          | none => rw [ek] at h; cases h
          | some k =>
            rw [ek] at h
            simp only [Option.bind_some] at h
            refine ⟨o, kvs, kd, z, k, rfl, rfl, rfl, ek, ?_⟩
            cases ev : valV kvs k with
            | none =>
              rw [ev] at h
              exact .inr ⟨rfl, (Option.some.inj h).symm⟩
            | some y =>
              rw [ev] at h
              cases eo : ofV y with
              | none => simp [eo] at h
              | some d =>
                simp [eo] at h
                exact .inl ⟨y, d, rfl, eo, h.symm⟩
        · cases h
theorem de_get2 {apos cpos : Pos} (hu : X.A.units + 1 < cLine) (ha : DE X a ta Fa) (hb : DE X b tb Fb) (hc : DE X c tc Fc) (m : M2 X a "get" apos b c cpos := by exact ⟨rfl, rfl, rfl, rfl⟩) : DE X (.Call (.Attribute a "get" apos) [b, c] [] cpos) (tDGet2 ta tb tc) (fGet Fa Fb Fc) :=
  ⟨pe_dget2 hu ha.pe hb.pe hc.pe m, fun B H0 σ H ρ s R e Q q => by
    obtain ⟨o, kvs, kd, z, k, e1, e2, e3, ek, h⟩ := fGet_inv e
    refine ha.ev B H0 σ H ρ _ R e1 _ fun x H1 x1 t1 _ => ?_
    obtain ⟨ad, rfl, hd⟩ := t1
    refine ⟨ad, rfl, .inl ⟨kvs, .inl hd⟩, hb.ev B H0 σ H1 ρ _ (R.mono x1) e2 _ fun y H2 x2 t2 _ => hc.ev B H0 σ H2 ρ _ (R.mono (x1.trans x2)) e3 _ fun w H3 x3 t3 _ => ?_⟩
    have ey := dp_toK t2 ek
    subst ey
    refine ⟨valV kvs k, DGet.k (x3 _ _ (x2 _ _ hd)), ?_⟩
    rcases h with ⟨y, d, h1, h2, rfl⟩ | ⟨h1, rfl⟩
    · rw [h1]
      exact q _ H3 ((x1.trans x2).trans x3) (dp_ofV h2) fr_v
    · rw [h1]
      exact q _ H3 ((x1.trans x2).trans x3) t3 fr_v⟩
def gDGet : SD → SD → Option SD
  | .dic _ kvs, .v kd => (toK kd).bind fun k => (valV kvs k).bind fun y => (ofV y).map .v
  | _, _ => none
theorem de_dget (hu : X.A.units + 1 < cLine) (ha : DE X a ta Fa) (hb : DE X b tb Fb) (hs : NoSl b := by intro _ _; rfl) : DE X (.Subscript a b pos) (tDGet ta tb) (fTwo gDGet Fa Fb) :=
  ⟨pe_dget hu ha.pe hb.pe hs, fun B H0 σ H ρ s R e Q q => by
    have e : ((Fa ρ).bind fun s1 => (Fb ρ).bind fun s2 => gDGet s1 s2) = some s := e
    cases e1 : Fa ρ with
    | none => rw [e1] at e; cases e
    | some sd =>
      cases e2 : Fb ρ with
      | none => rw [e1] at e; simp [e2] at e
      | some sk =>
        rw [e1] at e
        simp only [e2, Option.bind_some] at e
        unfold gDGet at e
        split at e
        · rename_i o kvs kd
          cases ek : toK kd with
          | none => rw [ek] at e; cases e
          | some k =>
            cases ev : valV kvs k with
            | none => rw [ek] at e; simp [ev] at e
            | some y =>
              cases eo : ofV y with
              | none => rw [ek] at e; simp [ev, eo] at e
              | some d =>
                rw [ek] at e
                simp [ev, eo] at e
                subst e
                refine ha.ev B H0 σ H ρ _ R e1 _ fun x H1 x1 t1 _ => hb.ev B H0 σ H1 ρ _ (R.mono x1) e2 _ fun w H2 x2 t2 _ => ?_
                obtain ⟨ad, rfl, hd⟩ := t1
                have ey := dp_toK t2 ek
                subst ey
                exact ⟨ad, y, rfl, by rw [← ev]; exact DGet.k (x2 _ _ hd), q _ H2 (x1.trans x2) (dp_ofV eo) fr_v⟩
        · cases e⟩
def fNotInD (Fk Fd : Rho → Option SD) : Rho → Option Bool := fun ρ => (Fk ρ).bind fun k => (Fd ρ).bind fun d => match k, d with
  | .v kd, .dic _ kvs => (toK kd).map fun k => !(valV kvs k).isSome
  | _, _ => none
theorem dt_notInD (hu : X.A.units + 1 < cLine) (ha : DE X a ta Fa) (hb : DE X b tb Fb) (h1 : behindInMarks .NotIn b = false := by rfl) : DT X (.Compare a [.NotIn] [b] pos) (tB (tDNotIn ta tb)) (fNotInD Fa Fb) :=
  ⟨pt_cmp (pc_dnotin hu ha.pe hb.pe) h1, fun B H0 σ H ρ x R e Q q => by
    unfold fNotInD at e
    cases e1 : Fa ρ with
    | none => rw [e1] at e; cases e
    | some sk =>
      cases e2 : Fb ρ with
      | none => rw [e1] at e; simp [e2] at e
      | some sd =>
        rw [e1] at e
        simp only [e2, Option.bind_some] at e
        split at e
        · rename_i kd o kvs
          cases ek : toK kd with
          | none => rw [ek] at e; cases e
          | some k =>
            rw [ek] at e
            have e3 := Option.some.inj e
            subst e3
            refine ha.ev B H0 σ H ρ _ R e1 _ fun w H1 x1 t1 _ => hb.ev B H0 σ H1 ρ _ (R.mono x1) e2 _ fun x H2 x2 t2 _ => ?_
            obtain ⟨ad, rfl, hd⟩ := t2
            have ey := dp_toK t1 ek
            subst ey
            exact ⟨ad, valV kvs k, rfl, DGet.k hd, _, rfl, q H2 (x1.trans x2)⟩
        · cases e⟩

/-! ### dict(pairs) -/
def pairs? : List D → Option (List (Key × V))
  | [] => some []
  | .tup _ [k, v] :: ds => (toK k).bind fun key => (toV v).bind fun z => (pairs? ds).map fun r => (key, z) :: r
  | _ => none
theorem pairs_dp {K : PySem.W.Frag} {H : Hp} : ∀ {ds : List D} {xs : List V} {kvs : List (Key × V)}, DqAll K H xs ds → pairs? ds = some kvs → ∃ ps : List Addr, xs = ps.map V.ref ∧ Paired (fun p kv => SqT K H p [kV kv.1, kv.2]) ps kvs
  | [], _, _, .nil, h => by
    have e := Option.some.inj h
    subst e
    exact ⟨[], rfl, .nil⟩
  | d :: ds, _, kvs, .cons a b, h => by
    unfold pairs? at h
    split at h
    · rename_i heq
      cases heq
    · rename_i p k v ds' heq
      cases heq
      cases ek : toK k with
      | none => rw [ek] at h; cases h
      | some key =>
        cases ez : toV v with
        | none => rw [ek] at h; simp [ez] at h
        | some z =>
          cases er : pairs? ds with
          | none => rw [ek] at h; simp [ez, er] at h
          | some r =>
            rw [ek] at h
            simp [ez, er] at h
            subst h
            obtain ⟨ps, e1, e2⟩ := pairs_dp b er
            obtain ⟨ad, ys, rfl, h1, h2, _⟩ := dp_tupT a
            cases h2 with
            | cons c1 h2 =>
              cases h2 with
              | cons c2 h2 =>
                cases h2
                rw [dp_toK c1 ek, dp_scal c2 ez] at h1
                exact ⟨ad :: ps, by rw [e1]; rfl, .cons h1 e2⟩
    · cases h
theorem pairs_two {pins : List (Addr × Obj)} {σ : L2.St} {H : Hp} {s : Shared} (I : Inv X pins σ H s) : ∀ {ps : List Addr} {kvs : List (Key × V)}, Paired (fun p kv => SqT X.K H p [kV kv.1, kv.2]) ps kvs →
    ∃ (prs : List (Key × Value)) (vs : List (Value × Value)), KV kvs prs ∧ prs.length = ps.length ∧ vs.length = ps.length ∧ ∀ (j : Nat) (k v : Value), vs[j]? = some (k, v) → ∃ (b : Addr) (key : Key), ps[j]? = some b ∧ IsTup s.heap b #[k, v] ∧ prs[j]? = some (key, v) ∧ keyIs key k = true
  | _, _, .nil => ⟨[], [], .nil, rfl, rfl, fun j k v e => by simp at e⟩
  | _, _, .cons (a := p) (b := kv) h r => by
    obtain ⟨prs, vs, q1, q2, q3, q4⟩ := pairs_two I r
    obtain ⟨its, rv, ht, _⟩ := I.tuple h
    obtain ⟨k, v, rfl, rk, rz⟩ := vals2 rv
    refine ⟨(kv.1, v) :: prs, (k, v) :: vs, .cons ⟨rfl, rz⟩ q1, by simp [q2], by simp [q3], fun j k' v' e => ?_⟩
    cases j with
    | zero =>
      have e' : (k, v) = (k', v') := Option.some.inj e
      cases e'
      exact ⟨p, kv.1, rfl, ht, rfl, kV_is (P := X.prog) (w := X.w) rk⟩
    | succ j =>
      obtain ⟨b, key, g1, g2, g3, g4⟩ := q4 j k' v' (by simpa using e)
      exact ⟨b, key, by simpa using g1, g2, by simpa using g3, g4⟩
def rDictS (K : PySem.W.Frag) : List V → Hp → VK → Prop := fun xs H Q => ∃ (a : Addr) (ps : List Addr) (kvs : List (Key × V)), xs = [.ref a] ∧ (SqL K H a (ps.map V.ref) ∨ (SqT K H a (ps.map V.ref) ∧ Pl H a)) ∧ Paired (fun p kv => SqT K H p [kV kv.1, kv.2]) ps kvs ∧
  ∀ p, H p = none → Q (.ref p) (upd H p (.dK (mergeK [] kvs)))
theorem cr_dictS (hcalm : X.calm = true) : CallR X (.type "dict") (rDictS X.K) := by
  intro pins s σ H xs us Q I r h
  obtain ⟨a, ps, kvs, rfl, hq, hp, q⟩ := h
  rcases hq with hq | ⟨hq, o, ys, hf, hd⟩
  · exact call_dictP hcalm pins s σ H _ us Q I r ⟨a, ps, kvs, rfl, hq, hp, q⟩
  · obtain ⟨u0, rfl, rx⟩ := vals1 r
    cases rx
    have ey : ys = ps.map V.ref := I.tuple_inj (.inl (.inr ⟨o, hf⟩)) hq
    subst ey
    obtain ⟨eo, z, its, rv, o', eo', hc, n, hdat⟩ := I.hok a _ hf
    rw [eo] at eo'
    cases eo'
    have ei := refs_at rv
    subst ei
    rw [List.length_map] at z
    obtain ⟨prs, vs, q1, q2, q3, q4⟩ := pairs_two I hp
    refine _root_.PySem.call_dict_pairs (knd := mixKind X.prog X.w) (kvs := prs) (PairArg.tuple a (ps.map Value.ref).toArray (fun j => (ps[j]?).getD 0) vs) (I.ok.hd hcalm) ⟨⟨o, n, eo, hc, hd, hdat⟩, by simp [q3], fun j k v e => ?_⟩ ⟨by rw [q2, q3], fun i key v e => ?_⟩ (by rw [q3]; exact z) fun h' tk hd' k => ?_
    · obtain ⟨b, key, g1, g2, _, _⟩ := q4 j k v e
      exact ⟨by simp [g1], .inl (by show IsTup s.heap ((ps[j]?).getD 0) #[k, v]; rw [g1]; exact g2)⟩
    · obtain ⟨b, key', g1, g2, g3, g4⟩ := q4 i key v e
      exact ⟨key', g3, g4⟩
    · have hm : (s.heap.objs.size == sysModules) = false := beq_eq_false_iff_ne.mpr (Nat.ne_of_gt I.big)
      have hlen : (mergeK [] kvs).length ≤ sizeLine := by
        refine Nat.le_trans (length_mergeK kvs []) ?_
        rw [List.length_nil, Nat.zero_add, q1.length, q2]
        exact z
      exact ⟨.ref s.heap.objs.size, upd H s.heap.objs.size (.dK (mergeK [] kvs)), I.laid (t' := tk) (fun b o e => k b o (by simp) e) (Nat.le_refl _) (show ObjOk X.prog X.w _ _ _ (.dK (mergeK [] kvs)) from ⟨hlen, hm, merged [] prs, KV.merge q1 .nil, hd'⟩), rfl, q _ (I.hok.fresh (Nat.le_refl _))⟩
def gDict : SD → Option SD
  | .v (.tup true ds) => (pairs? ds).map fun kvs => .dic .new (mergeK [] kvs)
  | .lst _ ds => (pairs? ds).map fun kvs => .dic .new (mergeK [] kvs)
  | _ => none
theorem ev_dict : EvU X.K (rDictS X.K) gDict := fun H x s1 s h e Q q => by
  unfold gDict at e
  split at e
  · rename_i ds
    cases ep : pairs? ds with
    | none => rw [ep] at e; cases e
    | some kvs =>
      rw [ep] at e
      have e2 := Option.some.inj e
      subst e2
      obtain ⟨a, xs, rfl, h1, h2, h3⟩ := dp_tupT h
      obtain ⟨ps, rfl, hp⟩ := pairs_dp h2 ep
      exact ⟨a, ps, kvs, rfl, .inr ⟨h1, h3 rfl⟩, hp, fun p hp => q_dic q hp⟩
  · rename_i o ds
    cases ep : pairs? ds with
    | none => rw [ep] at e; cases e
    | some kvs =>
      rw [ep] at e
      have e2 := Option.some.inj e
      subst e2
      obtain ⟨a, xs, rfl, h1, h2⟩ := h
      obtain ⟨ps, rfl, hp⟩ := pairs_dp h2 ep
      exact ⟨a, ps, kvs, rfl, .inl (SqL.of h1), hp, fun p hp => q_dic q hp⟩
  · cases e
theorem de_dict {p : Pos} (hc : X.calm = true) (hm : X.mg "dict" = none) (ha : DE X a t F) (hg : Gl X "dict" := by rfl) (he : starEach [a] X.env = (false, eval a X.env) :: starEach [] X.env := by rfl) (hpl : (backTo pos (starEach [] X.env)).any (·.1) = false := by rfl) : DE X (.Call (.Name "dict" p) [a] [] pos) (tCB (rDictS X.K) (tCons t tNil)) (fOne gDict F) :=
  de_ty (cr_dictS hc) ev_dict hm PyProof.Rows.boot_dict ha hg (by decide) (by decide) he hpl

/-! ### sorted -/
theorem ok_in1 (ok : X.Ok) : ({ X with A := X.A.in1 } : Cx).Ok := ⟨ok.mod, ok.kind, ok.glob, ok.blt, ok.above, ok.inj, ok.has, ok.cab, ok.hd, ok.frames, ok.stk, ok.exf, ok.bs, ok.bsz, ok.noex, ok.exfs, ok.funs, ok.frf⟩
theorem inv_in1 {pins : List (Addr × Obj)} {σ : L2.St} {H : Hp} {s : Shared} (I : Inv X pins σ H s) : Inv { X with A := X.A.in1 } pins σ H s := ⟨ok_in1 I.ok, I.os, I.bare, I.base, I.loc, I.cell, I.free, I.freeC, I.pin, I.hok, I.len⟩
theorem inv_out1 {pins : List (Addr × Obj)} {σ : L2.St} {H : Hp} {s : Shared} (ok : X.Ok) (I : Inv { X with A := X.A.in1 } pins σ H s) : Inv X pins σ H s := ⟨ok, I.os, I.bare, I.base, I.loc, I.cell, I.free, I.freeC, I.pin, I.hok, I.len⟩
theorem sorted_call {pins : List (Addr × Obj)} {σ : L2.St} {s : Shared} {v : Value} {Q : VK} (hcol : wpAny (model X.prog X.w) X.A.in1 (collect v) (fun vs s1 => ∃ xs H1, Inv X pins σ H1 s1 ∧ Vals xs vs ∧ xs.length ≤ sizeLine ∧
      ∃ rs : V → List V → Hp → VK → Prop, MtR { X with A := X.A.in1 } "list.sort" rs ∧ ∀ l, H1 l = none → rs (.ref l) [] (upd H1 l (.lst xs)) (fun _ H2 => Q (.ref l) H2)) X.xe s) :
    wpAny (model X.prog X.w) X.A (call (.builtin "sorted") [v]) (EP X pins σ Q) X.xe s := by
  refine PySem.Calls.call_function_entry PyProof.Rows.kind_sorted PyProof.Rows.plain_sorted PyProof.Rows.entry_sorted (PyProof.Rows.args_sorted1 _) ?_
  unfold Builtin.«sorted»
  refine wpAny_bind (m := checkCount "sorted" 1 1 _) (wpAny_pure ?_)
  refine wpAny_bind (thn hcol fun vs s1 ⟨xs, H1, I1, rv, hz, rs, hm, hr⟩ => ?_)
  refine wpAny_bind (wpAny_newList ?_ (by rw [← rv.length]; exact hz))
  have I2 : Inv X pins σ (upd H1 s1.heap.objs.size (.lst xs)) { s1 with heap := s1.heap.push { cls := .type "list", data := .seq vs.toArray } } :=
    I1.laid (t' := s1.toks) (fun b o e => Heap.get?_push_of_some _ e) (Nat.le_refl _) (show ObjOk X.prog X.w _ _ _ (.lst xs) from ⟨hz, vs, 0, rv, Heap.get?_push_size _ rfl⟩)
  have key := hm pins _ σ _ (.ref s1.heap.objs.size) [] (.ref s1.heap.objs.size) [] _ (inv_in1 I2) rfl .nil (hr _ (I1.hok.fresh (Nat.le_refl _)))
  refine wpAny_bind (wpAny_holding (thn key fun u s2 ⟨w, H2, I3, _, q⟩ => ?_))
  exact wpAny_pure ⟨_, rfl, .ref s1.heap.objs.size, H2, inv_out1 I1.ok I3, rfl, q⟩
def gSortI : SD → Option SD := fun s => s.items.bind fun ds => (ints? ds).map fun is => .lst .new ((sortI is).map D.int)
/-- sorted(xs), a list or a tuple of ints -/
def rSortLT (K : PySem.W.Frag) : List V → Hp → VK → Prop := fun vs H Q => ∃ (a : Addr) (ns : List Int), vs = [V.ref a] ∧ (SqT K H a (ns.map V.int) ∨ SqL K H a (ns.map V.int)) ∧
  ∀ p, H p = none → Q (.ref p) (upd H p (.lst ((sortI ns).map V.int)))
theorem cr_sortLT : CallR X (.builtin "sorted") (rSortLT X.K) := by
  intro pins s σ H vs us Q I r h
  obtain ⟨a, ns, rfl, hs, q⟩ := h
  rcases hs with hs | hs
  · obtain ⟨u, rfl, rx⟩ := vals1 r
    cases rx
    obtain ⟨its, rv, ⟨o, ho, hc, n, hd⟩, hz⟩ := I.tuple hs
    refine sorted_call (wpAny_collect_seq a (.inr rfl) ho hc hd (fun h' kp => ?_) (by rw [List.size_toArray, ← rv.length]; exact hz))
    refine ⟨ns.map V.int, H, I.kept (t' := s.toks) kp, by simpa using rv, hz, rSortI, mt_sortI, fun l hl => ⟨l, ns, rfl, rfl, upd_same, fun ns' h1 h2 => ?_⟩⟩
    rw [upd_upd, sortI_is h1 h2]
    exact q l hl
  · exact cr_sortedI pins s σ H _ us Q I r ⟨a, ns, rfl, hs, fun ns' p h1 h2 hp => by rw [sortI_is h1 h2]; exact q p hp⟩
theorem ev_sortI : EvU X.K (rSortLT X.K) gSortI := fun H x s1 s h e Q q => by
  unfold gSortI at e
  cases ei : s1.items with
  | none => rw [ei] at e; cases e
  | some ds =>
    cases en : ints? ds with
    | none => rw [ei] at e; simp [en] at e
    | some is =>
      rw [ei] at e
      simp [en] at e
      subst e
      obtain ⟨a, xs, rfl, hq, hd⟩ := imm_items h ei
      obtain ⟨rfl, _⟩ := ints_dp hd en
      exact ⟨a, is, rfl, hq, fun p hp => q_lst q (dpa_ints _) hp⟩
theorem de_sortI {p : Pos} (hm : X.mg "sorted" = none) (ha : DE X a t F) (hg : Gl X "sorted" := by rfl) (he : starEach [a] X.env = (false, eval a X.env) :: starEach [] X.env := by rfl) (hpl : (backTo pos (starEach [] X.env)).any (·.1) = false := by rfl) : DE X (.Call (.Name "sorted" p) [a] [] pos) (tCB (rSortLT X.K) (tCons t tNil)) (fOne gSortI F) :=
  de_bi cr_sortLT ev_sortI hm PyProof.Rows.boot_sorted ha hg (by decide) (by decide) he hpl

/-! ### sorted(d.items()), ints to ints -/
def insP (p : Int × Int) : List (Int × Int) → List (Int × Int)
  | [] => [p]
  | q :: qs => if SrtO.lexB q p then q :: insP p qs else p :: q :: qs
def sortP : List (Int × Int) → List (Int × Int)
  | [] => []
  | p :: ps => insP p (sortP ps)
theorem insP_perm (p : Int × Int) : ∀ qs : List (Int × Int), (insP p qs).Perm (p :: qs)
  | [] => .refl _
  | q :: qs => by
    unfold insP
    split
    · exact ((insP_perm p qs).cons q).trans (.swap p q qs)
    · exact .refl _
theorem sortP_perm : ∀ ps : List (Int × Int), (sortP ps).Perm ps
  | [] => .refl _
  | p :: ps => (insP_perm p _).trans ((sortP_perm ps).cons p)
theorem insP_ord (p : Int × Int) : ∀ {qs : List (Int × Int)}, qs.Pairwise (fun a b => SrtO.lexB b a = false) → (insP p qs).Pairwise (fun a b => SrtO.lexB b a = false)
  | [], _ => by simp [insP]
  | q :: qs, h => by
    have h' := List.pairwise_cons.mp h
    unfold insP
    split
    · rename_i c
      refine List.pairwise_cons.mpr ⟨fun r hr => ?_, insP_ord p h'.2⟩
      rcases List.mem_cons.mp ((insP_perm p qs).mem_iff.mp hr) with rfl | hr
      · have := SrtO.lexB_iff.mp c
        exact SrtO.lexB_no.mpr (by omega)
      · exact h'.1 r hr
    · rename_i c
      have c' := SrtO.lexB_no.mp (by simpa using c)
      refine List.pairwise_cons.mpr ⟨fun r hr => ?_, h⟩
      rcases List.mem_cons.mp hr with rfl | hr
      · exact SrtO.lexB_no.mpr c'
      · have := SrtO.lexB_no.mp (h'.1 r hr)
        exact SrtO.lexB_no.mpr (by omega)
theorem sortP_ord : ∀ ps : List (Int × Int), (sortP ps).Pairwise (fun a b => SrtO.lexB b a = false)
  | [] => .nil
  | p :: ps => insP_ord p (sortP_ord ps)
theorem permP_ord : ∀ {a b : List (Int × Int)}, a.Perm b → a.Pairwise (fun a b => SrtO.lexB b a = false) → b.Pairwise (fun a b => SrtO.lexB b a = false) → a = b
  | [], b, h, _, _ => (h.symm.eq_nil).symm
  | x :: a, b, h, ha, hb => by
    cases b with
    | nil => exact absurd h.eq_nil (by simp)
    | cons y b =>
      have ha' := List.pairwise_cons.mp ha
      have hb' := List.pairwise_cons.mp hb
      have q1 : x = y ∨ SrtO.lexB y x = false := by
        rcases List.mem_cons.mp (h.symm.mem_iff.mp (List.mem_cons_self (a := y) (l := b))) with e | m
        · exact .inl e.symm
        · exact .inr (ha'.1 y m)
      have q2 : x = y ∨ SrtO.lexB x y = false := by
        rcases List.mem_cons.mp (h.mem_iff.mp (List.mem_cons_self (a := x) (l := a))) with e | m
        · exact .inl e
        · exact .inr (hb'.1 x m)
      have e : x = y := by
        rcases q1 with e | q1
        · exact e
        · rcases q2 with e | q2
          · exact e
          · have r1 := SrtO.lexB_no.mp q1
            have r2 := SrtO.lexB_no.mp q2
            exact Prod.ext (by omega) (by omega)
      subst e
      rw [permP_ord (List.Perm.cons_inv h) ha'.2 hb'.2]
theorem sortP_is {a b : List (Int × Int)} (h : a.Perm b) (o : a.Pairwise (fun a b => SrtO.lexB b a = false)) : a = sortP b := permP_ord (h.trans (sortP_perm b).symm) o (sortP_ord b)
open LiI (putT putT_off putT_at paired_ix) in
/-- the tuples that a walk over items makes are tracked -/
theorem tups_laid {pins : List (Addr × Obj)} {σ : L2.St} {H : Hp} {s : Shared} {h' : Heap} {tk : Nat} {kvs : List (Key × V)} {vs : List (Key × Value)} {as : List Addr} (I : Inv X pins σ H s) (kv : KV kvs vs) (hk : ∀ b o, s.heap.get? b = some o → h'.get? b = some o) (hl : as.length = vs.length)
    (hG : PySem.W.KdxG (mixKind X.prog X.w) vs s.heap.objs.size h' as) : ∃ H' : Hp, Ex H H' ∧ (∀ t ∈ as, H t = none) ∧ Paired (fun (t : Addr) (q : Key × V) => H' t = some (.tup [kV q.1, q.2])) as kvs ∧ Inv X pins σ H' { s with heap := h', toks := tk } := by
  have lk : kvs.length = vs.length := Paired.length kv
  have nd : as.Nodup := List.Pairwise.imp (fun {a b} (h : a < b) => Nat.ne_of_lt h) hG.rise
  have new : ∀ t ∈ as, H t = none := fun t ht => I.hok.fresh (Nat.le_of_lt (hG.above t ht))
  have atP := putT_at as kvs H (by omega) nd
  have kp : Ex H (putT H as kvs) := fun b u e => by
    rw [putT_off as kvs _ (fun z => by rw [new b z] at e; cases e)]
    exact e
  refine ⟨putT H as kvs, kp, new, atP, ?_⟩
  refine I.call' (ch := []) rfl ⟨fun b o q _ _ _ => hk b o q, fun b o q _ _ _ => ⟨o.slots, hk b o q⟩, fun b o q n _ => ?_, fun b o q _ => ⟨o, hk b o q⟩, fun b xs q => kp b _ q, fun b o u q => kp b _ q, fun b ps q => ⟨#[], by rw [kp b _ q]; simp⟩⟩ (fun b u q => ?_) I.bare fun b z => by simp at z
  · have z1 : b ∉ as := fun z => absurd (Heap.lt_size q) (Nat.not_lt.mpr (Nat.le_of_lt (hG.above b z)))
    rw [putT_off as kvs _ z1]
    exact n
  · by_cases hb : b ∈ as
    · obtain ⟨j, pk, e1, e2, e3⟩ := paired_ix atP hb
      rw [e3] at q
      cases q
      obtain ⟨key, k, x, f1, f2, f3⟩ := hG.pairs j b e1
      obtain ⟨qv, g1, g2, g3⟩ := LiI.paired_get kv e2
      rw [f1] at g1
      cases g1
      have rk : RelV (kV pk.1) key := by
        rw [g2]
        exact relV_key (show keyIs k key = true from f2)
      exact ⟨by show 2 ≤ sizeLine; decide, [key, x], .cons rk (.cons g3 .nil), ⟨_, f3, rfl, _, rfl⟩⟩
    · rw [putT_off as kvs _ hb] at q
      exact (I.hok b u q).stay (fun d v _ y => hk d v y) (fun d y => kp d _ y) fun d xs y => kp d _ y
def kOf (H : Hp) : V → Int × Int
  | .ref t => match H t with
    | some (.tup [.int i, .int j]) => (i, j)
    | _ => (0, 0)
  | _ => (0, 0)
theorem kOf_at {H : Hp} {t : Addr} {i j : Int} (h : H t = some (.tup [.int i, .int j])) : kOf H (.ref t) = (i, j) := by simp [kOf, h]
def rSortItm : V → Hp → VK → Prop := fun x H Q => ∃ (d : Addr) (ps : List (Int × Int)), x = .ref d ∧ H d = some (.dK (ps.map fun p => (Sum.inl p.1, V.int p.2))) ∧
  ∀ (H' : Hp) (l : Addr) (ts : List V), Ex H H' → H l = none → H' l = some (.lst ts) → DqAll X.K H' ts ((sortP ps).map fun p => .tup false [.int p.1, .int p.2]) → Q (.ref l) H'
theorem dq_pairs {K : PySem.W.Frag} {H : Hp} : ∀ {ts : List V}, (∀ v ∈ ts, ∃ t i j, v = .ref t ∧ H t = some (.tup [.int i, .int j])) → DqAll K H ts ((ts.map (kOf H)).map fun p => .tup false [.int p.1, .int p.2])
  | [], _ => .nil
  | v :: ts, h => by
    obtain ⟨t, i, j, rfl, ht⟩ := h v List.mem_cons_self
    refine .cons ?_ (dq_pairs fun w hw => h w (List.mem_cons_of_mem _ hw))
    rw [kOf_at ht]
    exact .tup (.inl (.inl ht)) (fun z => nomatch z) (.cons (.int i) (.cons (.int j) .nil))
theorem k_of_paired {H : Hp} : ∀ {as : List Addr} {ps : List (Int × Int)}, Paired (fun (t : Addr) (q : Key × V) => H t = some (.tup [kV q.1, q.2])) as (ps.map fun p => (Sum.inl p.1, V.int p.2)) → (as.map V.ref).map (kOf H) = ps
  | as, [], h => by
    cases h
    rfl
  | as, p :: ps, h => by
    cases h with
    | cons a b =>
      rw [List.map_cons, List.map_cons, k_of_paired b, kOf_at a]
open LiI (paired_ix) in
/-- sorted(e.items()) -/
theorem pe_sortedItems {p apos cpos : Pos} (hc : X.calm = true) (he : PE X e t) (hm : X.mg "sorted" = none) (hg : Gl X "sorted" := by rfl) (hbase : attributeBase e "items" X.env (eval e X.env) = eval e X.env := by rfl) (hline : (apos.endLine == cpos.line) = true := by rfl)
    (hs : starEach [.Call (.Attribute e "items" apos) [] [] cpos] X.env = (false, eval (.Call (.Attribute e "items" apos) [] [] cpos) X.env) :: starEach [] X.env := by rfl) :
    PE X (.Call (.Name "sorted" p) [.Call (.Attribute e "items" apos) [] [] cpos] [] pos) (fun σ H Q => t σ H fun x H1 => rSortItm (X := X) x H1 Q) := by
  refine ⟨fun pins s σ H Q I hq => ?_⟩
  refine wpAny_Call_Name_kw (ld_blt I hg hm PyProof.Rows.boot_sorted ?_)
  refine PyProof.Rows.callWith_builtin1 ?_ hs rfl
  rw [hs]
  show wpAny _ _ (spliced ((false, eval (.Call (.Attribute e "items" apos) [] [] cpos) X.env) :: backTo pos (starEach [] X.env))) _ _ s
  refine Calls.spliced_cons ?_
  refine wpAny_Call_method (T := "dict") (id := "dict.items") hbase rfl hline F.plainAttrs_dict F.slot_dict_items F.type_dict_items (thn (he.run pins s σ H _ I hq) fun u s1 ⟨x, H1, I1, rx, d, ps, ex, hd, q⟩ => ?_)
  subst ex
  obtain rfl : u = Value.ref d := rx
  obtain ⟨hz, hs0, vs, kv, hdo⟩ := I1.hok d _ hd
  obtain ⟨ep, hat⟩ := hdo.dictAt
  have lk := Paired.length kv
  have I2 : Inv X pins σ H1 { s1 with heap := s1.heap.push { cls := .type "dict_items", data := .fields #[.ref d] } } := I1.kept (t' := s1.toks) fun b ob q => Heap.get?_push_of_some _ q
  refine ⟨hdo.typeIs, hdo.mapOf.noDict, ?_⟩
  show wpAny _ _ (callWith cpos (.builtin "dict.items") [.ref d] [] []) _ X.xe s1
  refine method_meetsIn F.slot_dict_items F.entry_dict_items rfl (PySem.evalArgs_none ⟨rfl, hdo.typeIs, F.args_dict_items_1 _, _, meets_dict_items (mixKind X.prog X.w) d hs0, ⟨vs, hdo⟩, ?_⟩)
  refine Calls.spliced_nil ?_
  refine sorted_call (X := X) (pins := pins) (σ := σ) (PySem.W.kdx_collect (A := X.A.in1) (knd := mixKind X.prog X.w) (kvs := vs) (ep := ep) (I1.ok.hd hc) ⟨_, Heap.get?_push_size _ rfl, rfl, rfl⟩ (hat.push _) (by omega) fun h' tk as hk hl hG => ?_)
  obtain ⟨H', k1, k2, k3, J⟩ := tups_laid (tk := tk) I2 kv hk hl hG
  have each : ∀ v ∈ as.map V.ref, ∃ t, v = V.ref t ∧ H' t = some (.tup [.int (kOf H' v).1, .int (kOf H' v).2]) := fun v hv => by
    obtain ⟨t, ht, rfl⟩ := List.mem_map.mp hv
    obtain ⟨j, pk, e1, e2, e3⟩ := paired_ix k3 ht
    obtain ⟨pr, hpr, rfl⟩ := List.mem_map.mp (List.mem_of_getElem? e2)
    exact ⟨t, rfl, by rw [kOf_at e3]; exact e3⟩
  refine ⟨as.map V.ref, H', J, LiI.vals_refs as, by rw [List.length_map, hl, ← lk]; exact hz, rSortPO, mt_sortPO, fun l hl' => ⟨l, as.map V.ref, kOf H', rfl, rfl, upd_same, fun v hv => ?_, fun zs h1 h2 => ?_⟩⟩
  · obtain ⟨t, e1, e2⟩ := each v hv
    exact ⟨t, e1, by rw [upd_ne (ne_of_none e2 hl')]; exact e2⟩
  · rw [upd_upd]
    have kk : Ex H' (upd H' l (.lst zs)) := Ex.new hl'
    have km : (as.map V.ref).map (kOf H') = ps := k_of_paired k3
    have kz : zs.map (kOf H') = sortP ps := by
      refine sortP_is (by rw [← km]; exact h2.perm.map _) (List.pairwise_map.mpr (h1.imp fun {x y} h => h))
    have kzz : zs.map (kOf (upd H' l (.lst zs))) = zs.map (kOf H') := List.map_congr_left fun v hv => by
      obtain ⟨t, e1, e2⟩ := each v (h2.perm.mem_iff.mp hv)
      rw [e1] at e2 ⊢
      rw [kOf_at e2]
      exact kOf_at (by rw [upd_ne (ne_of_none e2 hl')]; exact e2)
    refine q _ l zs (k1.trans kk) (fresh_back k1 hl') upd_same ?_
    rw [← kz, ← kzz]
    refine dq_pairs fun v hv => ?_
    obtain ⟨t, e1, e2⟩ := each v (h2.perm.mem_iff.mp hv)
    exact ⟨t, _, _, e1, by rw [upd_ne (ne_of_none e2 hl')]; exact e2⟩
end
end Dn
/-! Data, 7: sorted items, tuple(d), {**d, k: v}. -/
namespace Dn
open PySem PySem.Spec L2
open PyProof.Rows (envOfC IsTup)
open Evl (Ex Ex.refl Ex.trans Ex.new ex_rd ex_l ex_t fresh_back)
section
variable {X : Cx} {e a b c : Expr} {es : List Expr} {t ta tb tc : TE} {tr : TA} {u ua ub : TT} {F Fa Fb Fc : Rho → Option SD} {T : Rho → Option Bool} {FA : Rho → Option (List SD)} {pos : Pos}
/-- the pairs of a dict, ints to ints -/
def intPairs? : List (Key × V) → Option (List (Int × Int))
  | [] => some []
  | (.inl i, .int j) :: r => (intPairs? r).map fun ps => (i, j) :: ps
  | _ => none
theorem intPairs_is : ∀ {kvs : List (Key × V)} {ps : List (Int × Int)}, intPairs? kvs = some ps → kvs = ps.map fun p => (Sum.inl p.1, V.int p.2)
  | [], ps, h => by
    have e := Option.some.inj h
    subst e
    rfl
  | q :: r, ps, h => by
    unfold intPairs? at h
    split at h
    · rename_i heq
      cases heq
    · rename_i i j r' heq
      cases heq
      cases er : intPairs? r with
      | none => rw [er] at h; cases h
      | some qs =>
        rw [er] at h
        have e := Option.some.inj h
        subst e
        rw [intPairs_is er]
        rfl
    · cases h
theorem intPairs_map : ∀ ps : List (Int × Int), intPairs? (ps.map fun p => (Sum.inl p.1, V.int p.2)) = some ps
  | [] => rfl
  | p :: ps => by
    show ((intPairs? (ps.map fun p => (Sum.inl p.1, V.int p.2))).map fun qs => (p.1, p.2) :: qs) = _
    rw [intPairs_map ps]
    rfl
def pairD (p : Int × Int) : D := .tup false [.int p.1, .int p.2]
def gSortIt : SD → Option SD
  | .dic _ kvs => (intPairs? kvs).map fun ps => .lst .new ((sortP ps).map pairD)
  | _ => none
theorem de_sortIt {p apos cpos : Pos} (hc : X.calm = true) (hm : X.mg "sorted" = none) (he : DE X e t F) (hg : Gl X "sorted" := by rfl) (hbase : attributeBase e "items" X.env (eval e X.env) = eval e X.env := by rfl) (hline : (apos.endLine == cpos.line) = true := by rfl)
    (hs : starEach [.Call (.Attribute e "items" apos) [] [] cpos] X.env = (false, eval (.Call (.Attribute e "items" apos) [] [] cpos) X.env) :: starEach [] X.env := by rfl) :
    DE X (.Call (.Name "sorted" p) [.Call (.Attribute e "items" apos) [] [] cpos] [] pos) (fun σ H Q => t σ H fun x H1 => rSortItm (X := X) x H1 Q) (fOne gSortIt F) := ⟨pe_sortedItems hc he.pe hm hg hbase hline hs, fun B H0 σ H ρ s R e1 Q q => by
  unfold fOne at e1
  cases ef : F ρ with
  | none => rw [ef] at e1; cases e1
  | some s1 =>
    rw [ef] at e1
    cases s1 with
    | v d => cases e1
    | lst o l => cases e1
    | dic o kvs =>
      have e1 : ((intPairs? kvs).map fun ps => SD.lst .new ((sortP ps).map pairD)) = some s := e1
      cases ep : intPairs? kvs with
      | none => rw [ep] at e1; cases e1
      | some ps =>
        rw [ep] at e1
        have e2 := Option.some.inj e1
        subst e2
        refine he.ev B H0 σ H ρ _ R ef _ fun x H1 x1 t1 _ => ?_
        obtain ⟨ad, rfl, hd⟩ := t1
        refine ⟨ad, ps, rfl, by rw [← intPairs_is ep]; exact hd, fun H' l ts x2 hl h3 h4 => ?_⟩
        exact q _ H' (x1.trans x2) ⟨l, ts, rfl, h3, h4⟩ fun _ a' ea => by
          cases ea
          exact fresh_back x1 hl⟩

/-! ### tuple(d) -/
theorem meets_tuple_dict {prog : Program} {w : World} (d : Addr) (vs : List (Key × Value)) (ep : Nat) (lo : (d == sysModules) = false) (hsz : vs.length ≤ sizeLine) :
    MeetsIn prog w (Builtin.«tuple.__new__» ⟨[.type "tuple", .ref d], []⟩) (fun A R s => A.handled = none ∧ s.heap.DictAt (mixKind prog w) d vs ep ∧
      ∀ (h' : Heap) (tk : Nat) (acc : Array Value), (∀ b o, s.heap.get? b = some o → h'.get? b = some o) → ItemsOf (fun i v => ∃ k x, vs[i]? = some (k, x) ∧ (mixKind prog w).is k v = true) acc vs.length →
        R (.ok (.ret (.ref h'.objs.size))) { s with heap := h'.push { cls := .type "tuple", data := .seq acc }, toks := tk }) :=
  .of_wp fun A R s h => by
    obtain ⟨hh, hm, h⟩ := h
    have hsub := sub_tuple_self
    have hinit := init_tuple_lookup
    have hmh := madeHere_tuple
    have hT : s.TypeIs (.ref d) "dict" := hm.dictOf.typeIs
    obtain ⟨hp, g, dr, tk, os⟩ := s
    wp_walk using wpAny_typeOf hT, PySem.W.kdu_collect (A := A.in1) (PySem.W.kdl_dict (knd := mixKind prog w) (kvs := vs) (ep := ep) lo) hh hm hsz
    intro h' tk1 acc hk hacc
    refine wpAny_bind (wpAny_pure ?_)
    show wpAny _ _ (Builtin.Tuple.tupleExact acc.toList.toArray >>= fun v => ret v) _ _ _
    unfold Builtin.Tuple.tupleExact
    have e : acc.toList.toArray = acc := by simp
    rw [e]
    refine wpAny_bind (wpAny_newObj_type ?_ (by show acc.size ≤ sizeLine; rw [hacc.1]; exact hsz))
    exact wpAny_pure ⟨_, rfl, h h' tk1 acc hk hacc⟩
/-- tuple(d): its keys, a tuple whose object is known -/
def rTupD : List V → Hp → VK → Prop := fun xs H Q => ∃ (a : Addr) (kvs : List (Key × V)), xs = [.ref a] ∧ H a = some (.dK kvs) ∧ ∀ l o, H l = none → o.dict = none → Q (.ref l) (upd H l (.frz o (.tup (kvs.map fun kv => kV kv.1))))
theorem cr_tupD (hcalm : X.calm = true) : CallR X (.type "tuple") rTupD := by
  intro pins s σ H xs us Q I r h
  obtain ⟨a, kvs, rfl, hd, q⟩ := h
  obtain ⟨u, rfl, rx⟩ := vals1 r
  cases rx
  obtain ⟨z, lo, vs, rel, dd⟩ := I.hok a _ hd
  obtain ⟨ep, hat⟩ := dd.dictAt
  have ek : (kvs.map fun kv => kV kv.1) = vs.map fun p => kV p.1 := by
    have e := congrArg (List.map kV) rel.keys
    rw [List.map_map, List.map_map] at e
    exact e
  have hl : vs.length ≤ sizeLine := by rw [← rel.length]; exact z
  refine callType_newIn F.called_tuple (by decide) (F.typeCall_tuple_1 _) (F.newCall_tuple_1 _) (fun obj => F.args_object_init_2 obj _) F.entry_tuple_new
    (meets_tuple_dict a vs ep lo hl) ⟨I.ok.hd hcalm, hat, fun h' tk acc hk hacc => ⟨⟨_, Heap.get?_push_size _ rfl, rfl⟩, ?_⟩⟩
  have hv : Vals (kvs.map fun kv => kV kv.1) acc.toList := by
    rw [ek]
    exact keys_at (by rw [Array.length_toList]; exact hacc.1) fun j v e => hacc.2 j v (by rw [← Array.getElem?_toList]; exact e)
  have I1 : Inv X pins σ H { s with heap := h', toks := tk } := I.kept (t' := tk) hk
  have I2 := I1.laid (a := h'.objs.size) (o := .frz { cls := .type "tuple", data := .seq acc } (.tup (kvs.map fun kv => kV kv.1))) (h' := h'.push { cls := .type "tuple", data := .seq acc }) (t' := tk) (fun b o e => Heap.get?_push_of_some _ e) (Nat.le_refl _)
    ⟨Heap.get?_push_size _ rfl, by rw [List.length_map]; exact z, acc.toList, hv, _, Heap.get?_push_size _ rfl, rfl, 0, by simp⟩
  exact ⟨.ref h'.objs.size, _, I2, rfl, q _ _ (I1.hok.fresh (Nat.le_refl _)) rfl⟩
def ofK : Key → D
  | .inl i => .int i
  | .inr x => .str x
def gTupD : SD → Option SD
  | .dic _ kvs => some (.v (.tup false (kvs.map fun kv => ofK kv.1)))
  | _ => none
theorem dq_keys {K : PySem.W.Frag} {H : Hp} : ∀ kvs : List (Key × V), DqAll K H (kvs.map fun kv => kV kv.1) (kvs.map fun kv => ofK kv.1)
  | [] => .nil
  | (.inl i, v) :: r => .cons (.int i) (dq_keys r)
  | (.inr x, v) :: r => .cons (.str x) (dq_keys r)
theorem ev_tupD : EvU X.K rTupD gTupD := fun H x s1 s h e Q q => by
  cases s1 with
  | v d => cases e
  | lst o ds => cases e
  | dic o kvs =>
    have e2 := Option.some.inj e
    subst e2
    obtain ⟨a, rfl, h1⟩ := h
    exact ⟨a, kvs, rfl, h1, fun l o hl ho => q _ _ (Ex.new hl) (.tup (.inl (.inr ⟨o, upd_same⟩)) (fun z => nomatch z) (dq_keys kvs)) fr_v⟩
theorem de_tupD {p : Pos} (hc : X.calm = true) (hm : X.mg "tuple" = none) (ha : DE X a t F) (hg : Gl X "tuple" := by rfl) (he : starEach [a] X.env = (false, eval a X.env) :: starEach [] X.env := by rfl) (hpl : (backTo pos (starEach [] X.env)).any (·.1) = false := by rfl) : DE X (.Call (.Name "tuple" p) [a] [] pos) (tCB rTupD (tCons t tNil)) (fOne gTupD F) :=
  de_ty (cr_tupD hc) ev_tupD hm PyProof.Rows.boot_tuple ha hg (by decide) (by decide) he hpl
end

/-! ### {**d, k: v} -/
section
variable {prog : Program} {w : World} {κ : Type} [DecidableEq κ] {knd : KeyKind prog w κ} {A : Around} {E : Value → Shared → Prop} {s : Shared}
theorem put_ok {d : Addr} {kvs : List (κ × Value)} {k : κ} {key v : Value} {Q : Unit → Shared → Prop} (hkey : knd.is k key = true) (hm : s.heap.DictOf knd d kvs)
    (hQ : ∀ h', h'.DictOf knd d (stored kvs k v) → Heap.SameBut d s.heap h' → Q () { s with heap := h' }) (hsz : kvs.length ≤ sizeLine) :
    wpAny (model prog w) A (dictPut d (knd.hash k) key v) Q E s := by
  obtain ⟨o, es, ep, ho, hc, hd, hk, hp, hn⟩ := hm
  have hes : es.size ≤ sizeLine := by
    have e1 := hp.length
    have e2 : es.toList.length = es.size := by simp
    omega
  unfold dictPut
  refine wpAny_bind (wpAny_dictFind_of hkey ho hd hk ?_)
  have hidx : (es.findIdx? fun e => knd.is k e.key) = kvs.findIdx? fun kv => decide (kv.1 = k) := by
    rw [← hp.findIdx k]
    obtain ⟨l⟩ := es
    simp
  cases hi : es.findIdx? fun e => knd.is k e.key with
  | some i =>
    refine wpAny_updateDict ho hd (hQ _ ⟨_, _, ep, Heap.get?_update_self _ ho (Obj.isFreed_of_dict (Obj.data_mapDict hd _)), hc.mapDict _, Obj.data_mapDict hd _, hk.modify _ _, ?_, ?_⟩ (Heap.SameBut.update ..))
    · rw [stored, if_pos (any_of_findIdx_some (hidx ▸ hi))]
      have h3 : (es.toList.findIdx? fun e => knd.is k e.key) = some i := by
        rw [← hi]
        obtain ⟨l⟩ := es
        simp
      have h4 := hp.modify hn h3 v
      obtain ⟨l⟩ := es
      simpa using h4
    · rw [stored, if_pos (any_of_findIdx_some (hidx ▸ hi)), keys_map_store]
      exact hn
  | none =>
    have hnot : k ∉ kvs.map (·.1) := not_mem_of_findIdx_none (hidx ▸ hi)
    have hany : ¬ (kvs.any fun kv => decide (kv.1 = k)) = true := fun z => by
      obtain ⟨kv, h1, h2⟩ := List.any_eq_true.mp z
      exact hnot (List.mem_map.mpr ⟨kv, h1, of_decide_eq_true h2⟩)
    refine wpAny_updateDictKeys (hz := hes) ho hd (hQ _ ⟨_, _, ep + 1, Heap.get?_update_self _ ho (Obj.isFreed_of_dict (Obj.data_mapDictKeys hd _)), hc.mapDictKeys _, Obj.data_mapDictKeys hd _, hk.push hkey _, ?_, ?_⟩ (Heap.SameBut.update ..))
    · rw [stored, if_neg hany]
      have h4 := hp.append hkey (knd.hash k) v
      obtain ⟨l⟩ := es
      simpa using h4
    · rw [stored, if_neg hany, List.map_append, List.nodup_append]
      refine ⟨hn, by simp, fun x hx y hy => ?_⟩
      have ey : y = k := by simpa using hy
      rw [ey]
      exact fun z => hnot (z ▸ hx)
theorem merge_ok {d o : Addr} {kvs more : List (κ × Value)} {Q : Unit → Shared → Prop} (hdo : d ≠ o) (hoS : (o == sysModules) = false) (hd : s.heap.DictOf knd d kvs) (ho : s.heap.DictOf knd o more)
    (hQ : ∀ h', h'.DictOf knd d (merged kvs more) → h'.DictOf knd o more → Heap.SameBut d s.heap h' → Q () { s with heap := h' }) (hsz : kvs.length + more.length ≤ sizeLine) :
    wpAny (model prog w) A (mergeMapping d (.ref o) false) Q E s := by
  obtain ⟨od, esd, epd, hod, hcd, hdd, hkd, hpd, hnd⟩ := id hd
  obtain ⟨oo, eso, epo, hoo, hco, hdo', hko, hpo, hno⟩ := id ho
  unfold mergeMapping
  refine wpAny_bind (wpAny_isInstance ho.typeIs isSubtype_dict_dict ?_)
  rw [if_pos rfl]
  refine wpAny_bind (wpAny_specialOf ho.typeIs F.slot_dict_iter.lookup ?_)
  refine wpAny_bind (wpAny_pure ?_)
  dsimp only
  rw [show (some (Value.builtin "dict.__iter__") == some (Value.builtin "dict.__iter__")) = true from by simp]
  dsimp only
  rw [if_neg (by rw [hoS]; exact Bool.false_ne_true)]
  refine wpAny_bind (wpAny_dictEntries hod hdd ?_)
  have loop : wpAny (model prog w) A (do
      let l ← dictEntries o
      let epoch ← dictEpoch o
      forIn (List.range l.size) PUnit.unit fun i (_ : PUnit) => do
          let l' ← dictEntries o
          match l'[i]? with
            | some e => do
              holding [e.key, e.val] (dictPut d e.hash e.key e.val)
              let ep' ← dictEpoch o
              if (ep' != epoch) = true then do
                  (unsupported "dict.changed-during-merge" : Sem Unit)
                  pure (ForInStep.yield PUnit.unit)
                else pure (ForInStep.yield PUnit.unit)
            | _ => do
              (unsupported "dict.changed-during-merge" : Sem Unit)
              pure (ForInStep.yield PUnit.unit)
      pure ()) Q E s := by
    have hlen : more.length = eso.size := by
      rw [← hpo.length]
      simp
    refine wpAny_bind (wpAny_dictEntries hoo hdo' ?_)
    refine wpAny_bind (wpAny_dictEpoch hoo hdo' ?_)
    refine wpAny_bind ?_
    rw [List.range_eq_range']
    refine wpAny_forIn_list _ (fun rest _ s' => ∃ h' i, s' = { s with heap := h' } ∧ rest = List.range' i (eso.size - i) ∧ i ≤ eso.size ∧ h'.DictOf knd d (merged kvs (more.take i)) ∧ h'.get? o = some oo ∧ Heap.SameBut d s.heap h') _ ?_ ?_ _ _
      ⟨s.heap, 0, rfl, by simp, Nat.zero_le _, by simpa [merged] using hd, hoo, Heap.SameBut.refl _ _⟩
    · rintro x rest b s' ⟨h', i, rfl, hr, hi, m1, m2, m3⟩
      have hlt : i < eso.size := Nat.lt_of_not_le fun z => by
        rw [Nat.sub_eq_zero_of_le z] at hr
        cases hr
      have e : eso.size - i = (eso.size - (i + 1)) + 1 := by omega
      rw [e, List.range'_succ] at hr
      obtain ⟨rfl, rfl⟩ := List.cons.inj hr
      refine wpAny_bind (wpAny_dictEntries m2 hdo' ?_)
      rw [Array.getElem?_eq_getElem hlt]
      have hm' : x < more.length := by rw [hlen]; exact hlt
      obtain ⟨hkey, hval⟩ := hpo.get? (e := eso[x]) (k := (more[x]).1) (v := (more[x]).2) (by simp [hlt]) (List.getElem?_eq_getElem hm')
      obtain ⟨k', hkey', hhash⟩ := hko eso[x] (Array.getElem_mem hlt)
      obtain rfl : k' = (more[x]).1 := knd.inj _ _ _ hkey' hkey
      show wpAny _ _ (holding [eso[x].key, eso[x].val] (dictPut d eso[x].hash eso[x].key eso[x].val) >>= _) _ _ _
      rw [hhash, hval]
      refine wpAny_bind (wpAny_holding (put_ok hkey m1 (fun h2 m4 m5 => ?_) ?_))
      · have m6 : h2.get? o = some oo := (m5.2 o (Ne.symm hdo)).trans m2
        refine wpAny_bind (wpAny_dictEpoch m6 hdo' ?_)
        rw [if_neg (by simp)]
        exact wpAny_pure ⟨h2, x + 1, rfl, rfl, hlt, by rw [merged_take_succ kvs more x (more[x]) (List.getElem?_eq_getElem hm')]; exact m4, m6, m3.trans m5⟩
      · have e1 := merged_length_le kvs (more.take x)
        have e2 : (more.take x).length ≤ more.length := by rw [List.length_take]; omega
        omega
    · rintro b s' ⟨h', i, rfl, hr, hi, m1, m2, m3⟩
      have hin : i = eso.size := Nat.le_antisymm hi (Nat.le_of_not_lt fun z => by
        have e : eso.size - i = (eso.size - (i + 1)) + 1 := by omega
        rw [e, List.range'_succ] at hr
        cases hr)
      refine wpAny_pure (hQ h' ?_ ⟨oo, eso, epo, m2, hco, hdo', hko, hpo, hno⟩ m3)
      rw [hin, ← hlen, List.take_length] at m1
      exact m1
  split
  · refine wpAny_bind (wpAny_dictEntries hoo hdo' ?_)
    refine wpAny_bind (wpAny_of_eq (a := PUnit.unit) ?_ loop)
    rw [← Array.forIn_toList]
    refine forIn_yield_id _ fun e he c => ?_
    obtain ⟨k, hkey, _⟩ := hko e (Array.mem_toList_iff.mp he)
    have hb := knd.byValue k _ hkey
    cases ek : e.key <;> first | rfl | (rw [ek] at hb; exact absurd hb Bool.false_ne_true)
  · exact loop
/-- {**e, k: v} -/
theorem display_merge {v1 k2 v2 : Sem Value} {Q : Value → Shared → Prop}
    (h : wpAny (model prog w) A v1 (fun m s1 => ∃ o more, m = .ref o ∧ s.heap.objs.size ≠ o ∧ (o == sysModules) = false ∧ s1.heap.DictOf knd s.heap.objs.size [] ∧ s1.heap.DictOf knd o more ∧ more.length ≤ sizeLine ∧
      ∀ h1, h1.DictOf knd s.heap.objs.size (merged [] more) → Heap.SameBut s.heap.objs.size s1.heap h1 → wpAny (model prog w) A (subDict [(k2, v2)]) (fun sub s2 => ∃ acc kvs, s.heap.objs.size ≠ sub ∧ (sub == sysModules) = false ∧
        s2.heap.DictOf knd s.heap.objs.size acc ∧ s2.heap.DictOf knd sub kvs ∧ acc.length + kvs.length ≤ sizeLine ∧ ∀ h2, h2.DictOf knd s.heap.objs.size (merged acc kvs) → Heap.SameBut s.heap.objs.size s2.heap h2 → Q (.ref s.heap.objs.size) { s2 with heap := h2 }) E { s1 with heap := h1 }) E
      { s with heap := s.heap.push { cls := .type "dict", data := .dict #[] } }) :
    wpAny (model prog w) A (dictDisplay [(none, v1), (some k2, v2)]) Q E s := by
  unfold dictDisplay
  dsimp only
  rw [List.forIn_cons]
  refine wpAny_bind (wpAny_bind ?_)
  dsimp only
  rw [if_pos (by rfl)]
  refine wpAny_bind (wpAny_pure ?_)
  dsimp only
  refine wpAny_bind (wpAny_alloc ?_)
  refine wpAny_bind (wpAny_holding (wpAny_mono h (fun m s1 hm => ?_) fun _ _ e => e))
  obtain ⟨o, more, rfl, h1, h2, h3, h4, h5, h6⟩ := hm
  refine wpAny_bind (wpAny_onRaise (wpAny_tryCatch (wpAny_onRaise (wpAny_holding (merge_ok (knd := knd) h1 h2 h3 h4 (fun h' d1 d2 d3 => ?_) (by simpa using h5))))))
  refine wpAny_pure ?_
  dsimp only
  rw [List.forIn_cons]
  refine wpAny_bind ?_
  dsimp only
  rw [if_neg (by simp)]
  refine wpAny_pure ?_
  dsimp only
  rw [List.forIn_nil]
  refine wpAny_pure ?_
  dsimp only
  rw [if_neg (by simp)]
  refine wpAny_bind (wpAny_bind (wpAny_holding (wpAny_mono (h6 h' d1 d3) (fun sub s2 hs => ?_) fun _ _ e => e)))
  obtain ⟨acc, kvs, g1, g2, g3, g4, g5, g6⟩ := hs
  refine wpAny_bind (wpAny_onRaise (wpAny_holding (merge_ok (knd := knd) g1 g2 g3 g4 (fun h2 d1 d2 d3 => ?_) g5)))
  exact wpAny_pure (wpAny_pure (g6 h2 d1 d3))
end
end Dn
/-! Data, 8: {**d, k: v} as an expression. -/
namespace Dn
open PySem PySem.Spec L2
open PyProof.Rows (envOfC IsTup)
open Evl (Ex Ex.refl Ex.trans Ex.new ex_rd ex_l ex_t fresh_back)
section
variable {X : Cx} {e a b c : Expr} {es : List Expr} {t ta tb tc : TE} {tr : TA} {u ua ub : TT} {F Fa Fb Fc : Rho → Option SD} {T : Rho → Option Bool} {FA : Rho → Option (List SD)} {pos : Pos}
def tMerge (ta tb tc : TE) : TE := fun σ H Q => ∀ p, H p = none → ta σ (upd H p (.dK [])) fun x H1 => ∃ (o : Addr) (kvs : List (Key × V)), x = .ref o ∧ o ≠ p ∧ H1 p = some (.dK []) ∧ H1 o = some (.dK kvs) ∧ kvs.length + 1 ≤ sizeLine ∧
  ∀ r, upd H1 p (.dK (mergeK [] kvs)) r = none → tb σ (upd (upd H1 p (.dK (mergeK [] kvs))) r (.dK [])) fun y H2 => tc σ H2 fun z H3 => ∃ key, y = kV key ∧ r ≠ p ∧ H3 p = some (.dK (mergeK [] kvs)) ∧ H3 r = some (.dK []) ∧
    Q (.ref p) (upd (upd H3 r (.dK [(key, z)])) p (.dK (putK (mergeK [] kvs) key z)))
theorem pe_merge (ha : PE X a ta) (hb : PE X b tb) (hc : PE X c tc)
    (hz : (evalEachOpt [none, some b] X.env).zip ((evalEach [a, c] X.env).map fun v => do let x ← v; standAt pos; pure x) = [(none, do let x ← eval a X.env; standAt pos; pure x), (some (eval b X.env), do let x ← eval c X.env; standAt pos; pure x)] := by rfl) :
    PE X (.Dict [none, some b] [a, c] pos) (tMerge ta tb tc) := by
  refine ⟨fun pins s σ H Q I q => ?_⟩
  rw [PySem.arm_eval_Dict, hz]
  have hn := I.hok.fresh (Nat.le_refl s.heap.objs.size)
  have I1 := I.laid (a := s.heap.objs.size) (o := .dK []) (h' := s.heap.push { cls := .type "dict", data := .dict #[] }) (t' := s.toks) (fun _ _ q => Heap.get?_push_of_some _ q) (Nat.le_refl _) (dk_empty s.heap I.big)
  refine wpAny_bind (wpAny_standAt (display_merge (knd := mixKind X.prog X.w) (wpAny_bind (thn (ha.run pins _ σ _ _ I1 (q _ hn)) fun um s1 ⟨x, H1, J1, rx, o, kvs, ex, hop, hp1, ho1, hl, q1⟩ => ?_))))
  subst ex
  obtain rfl : um = Value.ref o := rx
  refine wpAny_bind (wpAny_standAt (wpAny_pure ?_))
  obtain ⟨z1, hd1, vs1, r1, dd1⟩ := dk_of J1.hok hp1
  cases r1
  obtain ⟨z2, hd2, vs2, r2, dd2⟩ := dk_of J1.hok ho1
  have hmk : (mergeK [] kvs).length ≤ kvs.length := by
    have h1 := length_mergeK kvs []
    simpa using h1
  refine ⟨o, vs2, rfl, Ne.symm hop, hd2, dd1, dd2, by rw [← r2.length]; exact z2, fun h1 d1 sb1 => ?_⟩
  have e1 : ∃ w, h1.get? s.heap.objs.size = some w := let ⟨w, _, _, hw, _⟩ := d1; ⟨w, hw⟩
  have J2 := d_write (t' := s1.toks) J1 (by rw [hp1]; exact True.intro) sb1 e1 (dk_new (by omega) hd1 (r2.merge .nil) d1)
  have hr := J2.hok.fresh (Nat.le_refl h1.objs.size)
  have J3 := J2.laid (a := h1.objs.size) (o := .dK []) (h' := h1.push { cls := .type "dict", data := .dict #[] }) (t' := s1.toks) (fun _ _ q => Heap.get?_push_of_some _ q) (Nat.le_refl _) (dk_empty h1 J2.big)
  refine wpAny_subDict (knd := mixKind X.prog X.w) (by simp) (evalPairs_cons (thn (hb.run pins _ σ _ _ J3 (q1 _ hr)) fun uk s3 ⟨y, H2, K1, ry, q2⟩ => ?_))
  refine wpAny_bind (thn (hc.run pins s3 σ H2 _ K1 q2) fun uv s4 ⟨z, H3, K2, rz, key, ey, hrp, hp3, hr3, q3⟩ => wpAny_bind (wpAny_standAt (wpAny_pure (evalPairs_nil ?_))))
  subst ey
  obtain ⟨z3, hd3, vs3, r3, dd3⟩ := dk_of K2.hok hr3
  cases r3
  refine ⟨[(key, uv)], ⟨kV_is ry, rfl, True.intro⟩, dd3, fun h2 d2 sb2 => ?_⟩
  have e2 : ∃ w, h2.get? h1.objs.size = some w := let ⟨w, _, _, hw, _⟩ := d2; ⟨w, hw⟩
  have rel : KV [(key, z)] [(key, uv)] := .cons ⟨rfl, rz⟩ .nil
  have em : merged [] [(key, uv)] = [(key, uv)] := rfl
  rw [em] at d2
  have K3 := d_write (t' := s4.toks + [(uk, uv)].length) K2 (by rw [hr3]; exact True.intro) sb2 e2 (dk_new (by rw [sizeLine_eq]; simp) hd3 rel d2)
  have hp4 : (upd H3 h1.objs.size (.dK [(key, z)])) s.heap.objs.size = some (.dK (mergeK [] kvs)) := by rw [upd_ne (Ne.symm hrp)]; exact hp3
  obtain ⟨z4, hd4, vs4, r4, dd4⟩ := dk_of K3.hok hp4
  refine ⟨vs4, [(key, uv)], Ne.symm hrp, hd3, dd4, d2, by rw [← r4.length]; simp; omega, fun h3 d3 sb3 => ?_⟩
  have e3 : ∃ w, h3.get? s.heap.objs.size = some w := let ⟨w, _, _, hw, _⟩ := d3; ⟨w, hw⟩
  have hput : (mergeK (mergeK [] kvs) [(key, z)]) = putK (mergeK [] kvs) key z := rfl
  have K4 := d_write (t' := s4.toks + [(uk, uv)].length) K3 (by rw [hp4]; exact True.intro) sb3 e3 (dk_new (kvs := putK (mergeK [] kvs) key z) (by
    have h1 := length_mergeK [(key, z)] (mergeK [] kvs)
    rw [hput] at h1
    simp at h1
    omega) hd4 (by rw [← hput]; exact rel.merge r4) d3)
  exact ⟨.ref s.heap.objs.size, _, K4, rfl, q3⟩
def gMerge : SD → SD → SD → Option SD
  | .dic .new kvs, .v kd, .v zd => (toK kd).bind fun k => (toV zd).bind fun z => if few (kvs.length + 1) then some (.dic .new (putK (mergeK [] kvs) k z)) else none
  | _, _, _ => none
def fMerge (Fd Fk Fz : Rho → Option SD) : Rho → Option SD := fun ρ => (Fd ρ).bind fun d => (Fk ρ).bind fun k => (Fz ρ).bind fun z => gMerge d k z
theorem fMerge_inv {Fd Fk Fz : Rho → Option SD} {ρ : Rho} {s : SD} (h : fMerge Fd Fk Fz ρ = some s) : ∃ kvs kd zd k z, Fd ρ = some (.dic .new kvs) ∧ Fk ρ = some (.v kd) ∧ Fz ρ = some (.v zd) ∧ toK kd = some k ∧ toV zd = some z ∧ few (kvs.length + 1) = true ∧ s = .dic .new (putK (mergeK [] kvs) k z) := by
  unfold fMerge at h
  cases e1 : Fd ρ with
  | none => rw [e1] at h; cases h
  | some sd =>
    cases e2 : Fk ρ with
    | none => rw [e1] at h; simp [e2] at h
    | some sk =>
      cases e3 : Fz ρ with
      | none => rw [e1] at h; simp [e2, e3] at h
      | some sz =>
        rw [e1] at h
        simp only [e2, e3, Option.bind_some] at h
        unfold gMerge at h
        split at h
        · rename_i kvs kd zd
          cases ek : toK kd with
          | none => rw [ek] at h; cases h
          | some k =>
            cases ez : toV zd with
            | none => rw [ek] at h; simp [ez] at h
            | some z =>
              rw [ek] at h
              simp only [ez, Option.bind_some] at h
              split at h
              · rename_i hl
                exact ⟨kvs, kd, zd, k, z, rfl, rfl, rfl, ek, ez, hl, (Option.some.inj h).symm⟩
              · cases h
        · cases h
theorem de_merge (ha : DE X a ta Fa) (hb : DE X b tb Fb) (hc : DE X c tc Fc)
    (hz : (evalEachOpt [none, some b] X.env).zip ((evalEach [a, c] X.env).map fun v => do let x ← v; standAt pos; pure x) = [(none, do let x ← eval a X.env; standAt pos; pure x), (some (eval b X.env), do let x ← eval c X.env; standAt pos; pure x)] := by rfl) :
    DE X (.Dict [none, some b] [a, c] pos) (tMerge ta tb tc) (fMerge Fa Fb Fc) := ⟨pe_merge ha.pe hb.pe hc.pe hz, fun B H0 σ H ρ s R e Q q => by
  obtain ⟨kvs, kd, zd, k, z, e1, e2, e3, ek, ez, hl, rfl⟩ := fMerge_inv e
  intro p hp
  have x0 : Ex H (upd H p (.dK [])) := Ex.new hp
  refine ha.ev B H0 σ _ ρ _ (R.mono x0) e1 _ fun x H1 x1 t1 f1 => ?_
  obtain ⟨ad, rfl, hd⟩ := t1
  have nap : ad ≠ p := fun z => by
    have f := f1 rfl ad rfl
    rw [z, upd_same] at f
    cases f
  have x01 := x0.trans x1
  refine ⟨ad, kvs, rfl, nap, x1 _ _ upd_same, hd, few_le hl, fun r hr => ?_⟩
  have nrp : r ≠ p := fun z => by
    rw [z, upd_same] at hr
    cases hr
  rw [upd_ne nrp] at hr
  have hr0 : H r = none := fresh_back x01 hr
  have x2 : Ex H (upd (upd H1 p (.dK (mergeK [] kvs))) r (.dK [])) := Evl.Ex.mut (Evl.Ex.mut x01 hp) hr0
  refine hb.ev B H0 σ _ ρ _ (R.mono x2) e2 _ fun y H2 x3 t3 _ => hc.ev B H0 σ _ ρ _ (R.mono (x2.trans x3)) e3 _ fun w H3 x4 t4 _ => ?_
  have ey := dp_toK t3 ek
  have ew := dp_scal t4 ez
  subst ey ew
  refine ⟨k, rfl, nrp, x4 _ _ (x3 _ _ (by rw [upd_ne (Ne.symm nrp), upd_same])), x4 _ _ (x3 _ _ upd_same), ?_⟩
  exact q _ _ (Evl.Ex.mut (Evl.Ex.mut ((x2.trans x3).trans x4) hr0) hp) ⟨p, rfl, upd_same⟩ fun _ a' ea => by
    cases ea
    exact hp⟩
end
end Dn
/-! Data, 9: -e, or/and as values, name = [..], [y for x in e for y in x]. -/
namespace Dn
open PySem PySem.Spec L2
open PyProof.Rows (envOfC IsTup)
open Evl (Ex Ex.refl Ex.trans Ex.new ex_rd ex_l ex_t fresh_back)
section
variable {X : Cx} {e a b c : Expr} {es : List Expr} {t ta tb tc : TE} {tr : TA} {u ua ub : TT} {F Fa Fb Fc : Rho → Option SD} {T : Rho → Option Bool} {FA : Rho → Option (List SD)} {pos : Pos}
theorem de_dnew : DE X (.Dict [] [] pos) tDNewK (fun _ => some (.dic .new [])) := ⟨pe_dnewK, fun B H0 σ H ρ s R e Q q => by
  have e2 := Option.some.inj e
  subst e2
  exact fun p hp => q_dic q hp⟩
def gNeg : SD → Option SD
  | .v (.int i) => some (.v (.int (-i)))
  | _ => none
theorem de_neg (ha : DE X a ta Fa) : DE X (.UnaryOp .USub a pos) (tUn (rU fun i => .int (-i)) ta) (fOne gNeg Fa) := ⟨pe_un un_neg ha.pe, fun B H0 σ H ρ s R e Q q => by
  unfold fOne at e
  cases ef : Fa ρ with
  | none => rw [ef] at e; cases e
  | some s1 =>
    rw [ef] at e
    refine ha.ev B H0 σ H ρ s1 R ef _ fun x H1 x1 t1 _ => ?_
    have e : gNeg s1 = some s := e
    unfold gNeg at e
    split at e
    · have e2 := Option.some.inj e
      subst e2
      have a1 := tw_i t1
      subst a1
      exact ⟨_, rfl, q _ H1 x1 (.int _) fr_v⟩
    · cases e⟩
def fOrV (F G : Rho → Option SD) : Rho → Option SD := fun ρ => (F ρ).bind fun s => s.bool?.bind fun x => if x then some (.v (.bl true)) else G ρ
theorem de_orV {rest : List Expr} (ha : DE X a ta Fa) (hb : DE X (.BoolOp .Or (b :: rest) pos) tb Fb) : DE X (.BoolOp .Or (a :: b :: rest) pos) (tOrV ta tb) (fOrV Fa Fb) := ⟨pe_or ha.pe hb.pe, fun B H0 σ H ρ s R e Q q => by
  unfold fOrV at e
  cases ef : Fa ρ with
  | none => rw [ef] at e; cases e
  | some s1 =>
    cases ei : s1.bool? with
    | none => rw [ef] at e; simp [ei] at e
    | some x =>
      rw [ef] at e
      simp only [ei, Option.bind_some] at e
      refine ha.ev B H0 σ H ρ s1 R ef _ fun y H1 x1 t1 _ => ⟨x, tw_bool t1 ei, ?_⟩
      cases x with
      | true =>
        rw [if_pos rfl]
        have e2 := Option.some.inj e
        subst e2
        exact q _ H1 x1 (.bl true) fr_v
      | false =>
        rw [if_neg (by decide)]
        exact hb.ev B H0 σ H1 ρ s (R.mono x1) e _ fun v H2 x2 t2 f2 => q v H2 (x1.trans x2) t2 fun n a' ea => fresh_back x1 (f2 n a' ea)⟩
theorem de_one {op : BoolOp} (ha : DE X a ta Fa) : DE X (.BoolOp op [a] pos) ta Fa := ⟨pe_one ha.pe, ha.ev⟩
/-- name = [.. for .. in a tuple], on one line -/
theorem ds_setLcT (i : Nat) {y : Str} {py spos : Pos} {elt tg iter : Expr} {ifs : List Expr} {scope : Scope} {own : List (Str × Nat)} {g : TG} {tt : TT} {te tl : TE} {Fi Fe : Rho → Option SD} {Fg : D → Rho → Option Rho} (hc : X.calm = true) (hN : X.N.Nodup) (ok : BlkOk X.N X.env.scope scope own) (hi : DE X iter tl Fi) (hgv : EvC X.K g (own.map (·.2)) Fg)
    (hg : ∀ (s : Shared) (H : Hp) (C : Addr) (cl : List (Str × Addr)) (fp : List Addr), PG (X.blk s H scope (compEnvC scope cl C X.env) fp) tg g) (ht : ∀ (s : Shared) (H : Hp) (C : Addr) (cl : List (Str × Addr)) (fp : List Addr), DTs (X.blk s H scope (compEnvC scope cl C X.env) fp) ifs tt T)
    (he : ∀ (s : Shared) (H : Hp) (C : Addr) (cl : List (Str × Addr)) (fp : List Addr), DE (X.blk s H scope (compEnvC scope cl C X.env) fp) elt te Fe) (s0 : Shared) (hs : ∀ x, foldedSetIterable iter X.env x = pure x := by intro _; rfl)
    (hy : X.N[i]? = some y := by rfl) (hyl : X.env.scope.names.lookup y = some .local := by rfl) (hsw : swapsWith (.ListComp elt [⟨tg, iter, ifs, 0⟩] scope pos) (some (.Name y py)) spos.line X.env = pure true := by exact sw_true rfl rfl rfl (by decide +kernel)) :
    DS X (.Assign [.Name y py] (.ListComp elt [⟨tg, iter, ifs, 0⟩] scope pos) spos) (tAsg (tLc (iTup X.K tl) g tt te (own.map (·.2))) (gName i)) (fSet i (fLc itT (own.map (·.2)) Fi Fg T Fe)) :=
  ⟨ps_setLc hc hN hy hyl hsw (pi_tup hi.pe) ok hg (fun s H C cl fp => (ht s H C cl fp).pt) (fun s H C cl fp => (he s H C cl fp).pe) hs, ev_set i (de_lcT (pos := pos) hc hN ok hi hgv hg ht he s0 hs).ev⟩

/-! ### [y for x in e for y in x], tuples of tuples -/
theorem lc_at {K : PySem.W.Frag} {a : Addr} {xs : List V} (Bd : V → L2.St → Hp → (Hp → Prop) → Prop) {σ : L2.St} {H4 : Hp} {Qd : Hp → Prop} (Pv : Nat → Hp → Prop) (h0 : Pv 0 H4) (hl : ∀ i H, i ≤ xs.length → Pv i H → SqT K H a xs)
    (hs : ∀ i x H, xs[i]? = some x → Pv i H → Bd x σ H (Pv (i + 1))) (hd : ∀ H, Pv xs.length H → Qd H) :
    ∃ W : Nat → Nat → Hp → Prop, (∃ m, W 0 m H4) ∧ ∀ i m H, W i m H → ((Itt K a).stop i H ∧ Qd H) ∨ ((Itt K a).go i H ∧ ∃ Nx : Hp → Prop, (∀ H', Nx H' → ∃ m', m' < m ∧ W (i + 1) m' H') ∧ ∀ x H', (Itt K a).yld i H x H' → Bd x σ H' Nx) := by
  refine ⟨fun i m H => m = xs.length - i ∧ i ≤ xs.length ∧ Pv i H, ⟨xs.length, by simp, Nat.zero_le _, h0⟩, ?_⟩
  rintro i m H ⟨rfl, hi, p⟩
  have q := hl i H hi p
  by_cases hlt : i < xs.length
  · refine .inr ⟨⟨xs, xs[i], q, by simp [hlt]⟩, Pv (i + 1), fun H' p' => ⟨xs.length - (i + 1), by omega, rfl, hlt, p'⟩, fun x H' y => ?_⟩
    obtain ⟨e, y⟩ := y
    subst e
    exact hs i x _ (y xs q) p
  · have e : i = xs.length := by omega
    subst e
    exact .inl ⟨⟨xs, q, Nat.le_refl _⟩, hd H p⟩
def flat? : List D → Option (List D)
  | [] => some []
  | .tup _ es :: ds => (flat? ds).map fun r => es ++ r
  | _ => none
def fFlat (i j : Nat) (F : Rho → Option SD) : Rho → Option SD := fun ρ => (F ρ).bind fun s => (itT s).bind fun ds => (flat? ds).bind fun r => if few r.length && decide (i < ρ.length) && decide (j < ρ.length) then some (.lst .new r) else none
theorem fFlat_inv {i j : Nat} {ρ : Rho} {s : SD} (h : fFlat i j F ρ = some s) : ∃ p ds r, F ρ = some (.v (.tup p ds)) ∧ flat? ds = some r ∧ few r.length = true ∧ i < ρ.length ∧ j < ρ.length ∧ s = .lst .new r := by
  unfold fFlat at h
  cases e1 : F ρ with
  | none => rw [e1] at h; cases h
  | some s1 =>
    rw [e1] at h
    cases s1 with
    | lst o l => cases h
    | dic o l => cases h
    | v d =>
      cases d with
      | tup p ds =>
        have h : ((flat? ds).bind fun r => if few r.length && decide (i < ρ.length) && decide (j < ρ.length) then some (SD.lst .new r) else none) = some s := h
        cases e2 : flat? ds with
        | none => rw [e2] at h; cases h
        | some r =>
          rw [e2] at h
          simp only [Option.bind_some] at h
          split at h
          · rename_i hl
            simp only [Bool.and_eq_true, decide_eq_true_eq] at hl
            exact ⟨p, ds, r, rfl, e2, hl.1.1, hl.1.2, hl.2, (Option.some.inj h).symm⟩
          · cases h
      | _ => cases h
theorem flat_cons {d : D} {ds r : List D} (h : flat? (d :: ds) = some r) : ∃ p es r', d = .tup p es ∧ flat? ds = some r' ∧ r = es ++ r' := by
  cases d with
  | tup p es =>
    have h : ((flat? ds).map fun r => es ++ r) = some r := h
    cases e : flat? ds with
    | none => rw [e] at h; cases h
    | some r' =>
      rw [e] at h
      exact ⟨p, es, r', rfl, rfl, (Option.some.inj h).symm⟩
  | _ => cases h
theorem de_flat {x y : Str} {i j : Nat} {px py px2 py2 : Pos} {iter : Expr} {scope : Scope} {tl : TE} {Fi : Rho → Option SD} (hc : X.calm = true) (hN : X.N.Nodup) (ok : BlkOk X.N X.env.scope scope [(x, i), (y, j)]) (hi : DE X iter tl Fi)
    (hg : ∀ (s : Shared) (H : Hp) (C : Addr) (cl : List (Str × Addr)) (fp : List Addr), PG (X.blk s H scope (compEnvC scope cl C X.env) fp) (.Name x px) (gName i))
    (hi1 : ∀ (s : Shared) (H : Hp) (C : Addr) (cl : List (Str × Addr)) (fp : List Addr), PE (X.blk s H scope (compEnvC scope cl C X.env) fp) (.Name x px2) (tVar i))
    (hg1 : ∀ (s : Shared) (H : Hp) (C : Addr) (cl : List (Str × Addr)) (fp : List Addr), PG (X.blk s H scope (compEnvC scope cl C X.env) fp) (.Name y py) (gName j))
    (he : ∀ (s : Shared) (H : Hp) (C : Addr) (cl : List (Str × Addr)) (fp : List Addr), PE (X.blk s H scope (compEnvC scope cl C X.env) fp) (.Name y py2) (tVar j))
    (hs : ∀ x, foldedSetIterable iter X.env x = pure x := by intro _; rfl) (hs1 : ∀ env z, foldedSetIterable (.Name x px2) env z = pure z := by intro _ _; rfl) :
    DE X (.ListComp (.Name y py2) [⟨.Name x px, iter, [], 0⟩, ⟨.Name y py, .Name x px2, [], 0⟩] scope pos) (tLc2 (iTup X.K tl) (gName i) tYes (iTup X.K (tVar i)) (gName j) tYes (tVar j) [i, j] [j]) (fFlat i j Fi) :=
  ⟨pe_lc2 (own := [(x, i), (y, j)]) hc hN (pi_tup hi.pe) ok (by intro z hz; simp at hz; simp [hz]) hg (fun _ _ _ _ _ => pts_nil) (fun s H C cl fp => pi_tup (hi1 s H C cl fp)) hg1 (fun _ _ _ _ _ => pts_nil) he hs hs1, fun B H0 σ H ρ s R e Q q => by
    obtain ⟨p, ds, tot, e1, e2, hl, hli, hlj, rfl⟩ := fFlat_inv e
    rw [← R.len] at hli hlj
    refine hi.ev B H0 σ H ρ _ R e1 _ fun w H1 x1 t1 _ => ?_
    obtain ⟨a, xs, rfl, hx, hd⟩ := tw_tup t1
    refine ⟨a, rfl, ⟨xs, hx⟩, fun A hA => ?_⟩
    refine lc_at (xs := xs) (σ := L2.wipe σ [i, j]) (Qd := fun H' => Q (.ref A) H') (fun x σw H' Nx => gName i x σw H' fun σ2 H2 => L2.wipe σ2 [i, j] = L2.wipe σ [i, j] ∧ tYes σ2 H2 fun b H3 => if b = true then iTup X.K (tVar i) σ2 H3 fun J1 H4 => ∃ W1 : Nat → Nat → Hp → Prop, (∃ m, W1 0 m H4) ∧ ∀ j' k H, W1 j' k H →
        (J1.stop j' H ∧ Nx H) ∨ (J1.go j' H ∧ ∃ Nx1 : Hp → Prop, (∀ H', Nx1 H' → ∃ k', k' < k ∧ W1 (j' + 1) k' H') ∧ ∀ x H', J1.yld j' H x H' → gName j x (L2.wipe σ2 [j]) H' fun σ3 H5 => L2.wipe σ3 [j] = L2.wipe σ2 [j] ∧ tYes σ3 H5 fun b H6 =>
          if b = true then tVar j σ3 H6 fun y H7 => ∃ acc, H7 A = some (.lst acc) ∧ acc.length < sizeLine ∧ Nx1 (upd H7 A (.lst (acc ++ [y]))) else Nx1 H6) else Nx H3)
      (fun n H' => Ex H1 H' ∧ ∃ acc out, H' A = some (.lst acc) ∧ DqAll X.K H' acc out ∧ ∃ r, flat? (ds.drop n) = some r ∧ tot = out ++ r)
      ⟨Ex.new hA, [], [], upd_same, .nil, tot, e2, rfl⟩ (fun n H' _ h => ex_t h.1 hx) (fun n v H' hn h => ?_) (fun H' h => ?_)
    · obtain ⟨x2, acc, out, h1, h2, r, h3, h4⟩ := h
      have hnl := (List.getElem?_eq_some_iff.mp hn).1
      have hnl2 : n < ds.length := by rw [← dpa_len hd]; exact hnl
      rw [List.drop_eq_getElem_cons hnl2] at h3
      obtain ⟨p2, es, r', ed, f1, rfl⟩ := flat_cons h3
      obtain ⟨v', ev, dv⟩ := dpa_get hd (List.getElem?_eq_getElem hnl2)
      rw [hn] at ev
      have exv := Option.some.inj ev
      subst exv
      rw [ed] at dv
      obtain ⟨a2, ys, rfl, hy, hdy, _⟩ := dp_tupT dv
      have htot : tot.length = out.length + (es.length + r'.length) := by rw [h4]; simp
      refine ⟨(wipe_set (by simp)).trans (wipe_wipe σ [i, j]), ?_⟩
      unfold tYes
      dsimp only
      rw [if_pos rfl]
      refine ⟨.ref a2, List.getElem?_set_self (by rw [wipe_length]; exact hli), a2, rfl, ⟨ys, ex_t x2 hy⟩, ?_⟩
      refine lc_at (xs := ys) (σ := L2.wipe ((L2.wipe σ [i, j]).set i (some (.ref a2))) [j]) (Qd := fun H => Ex H1 H ∧ ∃ acc out, H A = some (.lst acc) ∧ DqAll X.K H acc out ∧ ∃ r, flat? (ds.drop (n + 1)) = some r ∧ tot = out ++ r) (fun x σw H' Nx1 => gName j x σw H' fun σ3 H5 => L2.wipe σ3 [j] = L2.wipe ((L2.wipe σ [i, j]).set i (some (.ref a2))) [j] ∧ tYes σ3 H5 fun b H6 =>
          if b = true then tVar j σ3 H6 fun y H7 => ∃ acc, H7 A = some (.lst acc) ∧ acc.length < sizeLine ∧ Nx1 (upd H7 A (.lst (acc ++ [y]))) else Nx1 H6)
        (fun m H2 => Ex H1 H2 ∧ ∃ acc, H2 A = some (.lst acc) ∧ DqAll X.K H2 acc (out ++ es.take m)) ⟨x2, acc, h1, by simpa using h2⟩ (fun m H2 _ h => ex_t h.1 hy) (fun m y H2 hm h => ?_) (fun H2 h => ?_)
      · obtain ⟨y1, acc2, y2, y3⟩ := h
        have hml := (List.getElem?_eq_some_iff.mp hm).1
        have hml2 : m < es.length := by rw [← dpa_len hdy]; exact hml
        obtain ⟨v', ev, dv'⟩ := dpa_get hdy (List.getElem?_eq_getElem hml2)
        rw [hm] at ev
        have exv := Option.some.inj ev
        subst exv
        refine ⟨(wipe_set (by simp)).trans (wipe_wipe _ [j]), ?_⟩
        unfold tYes
        dsimp only
        rw [if_pos rfl]
        refine ⟨y, List.getElem?_set_self (by rw [wipe_length, List.length_set, wipe_length]; exact hlj), acc2, y2, ?_, Evl.Ex.mut y1 hA, acc2 ++ [y], upd_same, ?_⟩
        · rw [dpa_len y3]
          refine few_step hl ?_
          simp only [List.length_append, List.length_take]
          omega
        · have tu : Tu X.K H2 (upd H2 A (.lst (acc2 ++ [y]))) := tu_upd (lst_ntup y2)
          rw [List.take_succ_eq_append_getElem hml2, ← List.append_assoc]
          exact dpa_app (dpAll_tu tu y3) (.cons (dp_tu tu (dp_ex y1 dv')) .nil)
      · obtain ⟨y1, acc2, y2, y3⟩ := h
        rw [dpa_len hdy, List.take_length] at y3
        exact ⟨y1, acc2, out ++ es, y2, y3, r', f1, by rw [h4]; simp⟩
    · obtain ⟨x2, acc, out, h1, h2, r, h3, h4⟩ := h
      rw [dpa_len hd, List.drop_length] at h3
      have er : r = [] := (Option.some.inj h3).symm
      subst er
      rw [List.append_nil] at h4
      subst h4
      exact q _ _ (x1.trans x2) ⟨A, acc, rfl, h1, h2⟩ fun _ a' ea => by
        cases ea
        exact fresh_back x1 hA⟩

/-! ### within a comprehension: the written part named -/
theorem de_ixK (K : PySem.W.Frag) (hK : X.K = K) (ha : DE X a ta Fa) (hb : DE X b tb Fb) (hs : PlainIx b := by intro _ _; rfl) : DE X (.Subscript a b pos) (tOp (fun x y H Q => rIxL K x y H Q ∨ rIxT K x y H Q) ta tb) (fTwo gIx Fa Fb) := by
  subst hK
  exact de_ix ha hb hs
theorem op_inDK (K : PySem.W.Frag) (hK : X.K = K) : DOp X (compareOp .In) (rIn K false) (gIn false) := by
  subst hK
  exact op_inD
theorem op_notInDK (K : PySem.W.Frag) (hK : X.K = K) : DOp X (compareOp .NotIn) (rIn K true) (gIn true) := by
  subst hK
  exact op_notInD
theorem de_callK {x : Str} {ps : List Str} {k j : Nat} {Ff : List SD → Option SD} {p : Pos} (K : PySem.W.Frag) (hK : X.K = K) (G : FD X.prog X.w K X.mg X.base k x ps Ff) (hr : Room j X.A) (ha : DAs X (e :: es) tr FA) (hk : k ≤ j := by decide) (hg : Gl X x := by rfl) (hdb : (x == ("__debug__" : Str)) = false := by decide)
    (he : starEach (e :: es) X.env = (false, eval e X.env) :: starEach es X.env := by rfl) (hpl : (backTo pos (starEach es X.env)).any (·.1) = false := by rfl) :
    DE X (.Call (.Name x p) (e :: es) [] pos) (tCall (SpD K Ff) [] E0 tr) (fCall Ff FA) := by
  subst hK
  exact de_call G hr ha hk hg hdb he hpl
end
end Dn
/-! Equality of data by parts. -/
namespace Dn
open PySem L2 Evl
mutual
def er : D → PyData
  | .non => .none
  | .bl b => .bool b
  | .int i => .int i
  | .str x => .str x
  | .tup _ ds => .tuple (erAll ds)
def erAll : List D → List PyData
  | [] => []
  | d :: ds => er d :: erAll ds
end
mutual
theorem dq_dp {K : PySem.W.Frag} {H : Hp} : ∀ {v : V} {d : D}, Dq K H v d → Dp K H v (er d)
  | _, _, .non => .non
  | _, _, .bl b => .bl b
  | _, _, .int i => .int i
  | _, _, .str x => .str x
  | _, _, .tup hs _ ha => .tup hs (dqa_dp ha)
theorem dqa_dp {K : PySem.W.Frag} {H : Hp} : ∀ {vs : List V} {ds : List D}, DqAll K H vs ds → DpAll K H vs (erAll ds)
  | _, _, .nil => .nil
  | _, _, .cons h t => .cons (dq_dp h) (dqa_dp t)
end
def erS : SD → Option PyData
  | .v d => some (er d)
  | .lst _ ds => some (.list (erAll ds))
  | .dic _ _ => none
theorem tw_dp {K : PySem.W.Frag} {H : Hp} {v : V} {s : SD} {d : PyData} (h : Tw K H v s) (e : erS s = some d) : Dp K H v d := by
  cases s with
  | v d0 =>
    have e2 := Option.some.inj e
    subst e2
    exact dq_dp h
  | lst o ds =>
    have e2 := Option.some.inj e
    subst e2
    obtain ⟨a, xs, rfl, hx, hd⟩ := h
    exact .lst (SqL.of hx) (dqa_dp hd)
  | dic o kvs => cases e
def gEqD (neg : Bool) : SD → SD → Option SD := fun s1 s2 => (erS s1).bind fun d => (erS s2).bind fun e => if SeqAt.shaped d && SeqAt.shaped e then some (.v (.bl (if neg then !PyData.eqv d e else PyData.eqv d e))) else none
theorem gEqD_inv {neg : Bool} {s1 s2 s : SD} (h : gEqD neg s1 s2 = some s) : ∃ d e, erS s1 = some d ∧ erS s2 = some e ∧ SeqAt.shaped d = true ∧ SeqAt.shaped e = true ∧ s = .v (.bl (if neg then !PyData.eqv d e else PyData.eqv d e)) := by
  unfold gEqD at h
  obtain ⟨d, h1, h⟩ := Option.bind_eq_some_iff.mp h
  obtain ⟨e, h2, h⟩ := Option.bind_eq_some_iff.mp h
  by_cases c : (SeqAt.shaped d && SeqAt.shaped e) = true
  · rw [if_pos c] at h
    have c2 := Bool.and_eq_true_iff.mp c
    exact ⟨d, e, h1, h2, c2.1, c2.2, (Option.some.inj h).symm⟩
  · rw [if_neg c] at h
    cases h
section
variable {X : Cx}
theorem op_eqP (hu : X.A.units + 64 < cLine) : DOp X (compareOp .Eq) (rEqD X.K) (gEqD false) := ⟨op_eqD hu, fun H x y s1 s2 s h1 h2 e Q q => by
  obtain ⟨d, e', a1, a2, a3, a4, rfl⟩ := gEqD_inv e
  exact ⟨d, e', tw_dp h1 a1, tw_dp h2 a2, a3, a4, q _ H (Ex.refl H) (.bl _) fr_v⟩⟩
theorem op_neP (hu : X.A.units + 64 < cLine) : DOp X (compareOp .NotEq) (rNeD X.K) (gEqD true) := ⟨op_neD hu, fun H x y s1 s2 s h1 h2 e Q q => by
  obtain ⟨d, e', a1, a2, a3, a4, rfl⟩ := gEqD_inv e
  exact ⟨d, e', tw_dp h1 a1, tw_dp h2 a2, a3, a4, q _ H (Ex.refl H) (.bl _) fr_v⟩⟩
theorem hu64_of {k : Nat} {A : Around} (r : Room k A) : A.units + 64 < cLine := by have := r.un; omega
end
end Dn
/-! Drawing, 1: expressions beside a bag that changes. -/
namespace Dn
open PySem L2
open Evl (Ex Ex.refl Ex.trans Ex.new ex_rd ex_l ex_t fresh_back)
/-- the bag at a, its list at q -/
def Bg (H : Hp) (a q : Addr) : Prop := ∃ (x y z : Int) (ns : List Int), H a = some (.lst [.int x, .int y, .int z, .ref q]) ∧ H q = some (.lst (ns.map V.int)) ∧ 0 ≤ x ∧ 0 ≤ y ∧ 0 ≤ z ∧ (∀ n ∈ ns, 0 ≤ n) ∧ ns.length ≤ 100
abbrev At1 (a : Addr) : Addr → Prop := fun x => x = a
/-- no part of the bag -/
def NB (a q : Addr) (v : V) : Prop := v ≠ .ref a ∧ v ≠ .ref q
theorem Bg.ex {H H' : Hp} {a q : Addr} (h : Bg H a q) (e : Ex H H') : Bg H' a q := by
  obtain ⟨x, y, z, ns, h1, h2, r⟩ := h
  exact ⟨x, y, z, ns, e _ _ h1, e _ _ h2, r⟩
theorem Bg.ta {H : Hp} {a q : Addr} (h : Bg H a q) : H a ≠ none := by
  obtain ⟨x, y, z, ns, h1, h2, r⟩ := h
  rw [h1]
  simp
theorem Bg.tq {H : Hp} {a q : Addr} (h : Bg H a q) : H q ≠ none := by
  obtain ⟨x, y, z, ns, h1, h2, r⟩ := h
  rw [h2]
  simp
theorem Bg.nb {H : Hp} {a q : Addr} {v : V} (h : Bg H a q) (f : ∀ x, v = .ref x → H x = none) : NB a q v := ⟨fun e => h.ta (f a e), fun e => h.tq (f q e)⟩
theorem exb_tu {K : PySem.W.Frag} {H H' : Hp} {a q : Addr} (h : Bg H a q) (e : ExB (At1 a) H H') : Tu K H H' := by
  obtain ⟨x, y, z, ns, h1, h2, r⟩ := h
  refine ⟨fun c xs k => ?_, fun c ⟨o, xs, k, d⟩ => ⟨o, xs, e.1 c _ (fun n => ?_) k, d⟩⟩
  · rcases k with k | k
    · have hc : c ≠ a := fun n => by
        subst n
        rcases k with k | ⟨_, k⟩ <;> rw [h1] at k <;> cases k
      rcases k with k | ⟨o, k⟩
      · exact .inl (.inl (e.1 c _ hc k))
      · exact .inl (.inr ⟨o, e.1 c _ hc k⟩)
    · exact .inr k
  · subst n
    rw [h1] at k
    cases k
theorem tw_exb {K : PySem.W.Frag} {H H' : Hp} {a q : Addr} (h : Bg H a q) (e : ExB (At1 a) H H') {v : V} : ∀ {s : SD}, Tw K H v s → (s.own ≠ none → NB a q v) → Tw K H' v s
  | .v _, t, _ => dp_tu (exb_tu h e) t
  | .lst _ _, ⟨x, xs, h1, h2, h3⟩, n => ⟨x, xs, h1, e.1 x _ (fun z => (n (by simp [SD.own])).1 (by rw [h1, z])) h2, dpAll_tu (exb_tu h e) h3⟩
  | .dic _ _, ⟨x, h1, h2⟩, n => ⟨x, h1, e.1 x _ (fun z => (n (by simp [SD.own])).1 (by rw [h1, z])) h2⟩
structure RB (K : PySem.W.Frag) (a q : Addr) (b : Nat) (H0 : Hp) (σ : L2.St) (H : Hp) (ρ : Rho) : Prop where
  rp : Rp K (At1 a) H0 σ H ρ
  sa : σ[b]? = some (some (.ref a))
  rb : ρ[b]? = some none
  bg : Bg H a q
  sep : ∀ (i : Nat) s v, ρ[i]? = some (some s) → s.own ≠ none → σ[i]? = some (some v) → NB a q v
theorem RB.go {K : PySem.W.Frag} {a q : Addr} {b : Nat} {H0 H H' : Hp} {σ : L2.St} {ρ : Rho} (r : RB K a q b H0 σ H ρ) (e : ExB (At1 a) H H') (g : Bg H' a q) : RB K a q b H0 σ H' ρ :=
  ⟨⟨r.rp.ex.trans e, fun i s h => let ⟨v, h1, h2⟩ := r.rp.val i s h; ⟨v, h1, tw_exb r.bg e h2 fun n => r.sep i s v h n h1⟩, r.rp.nn, r.rp.own, r.rp.sep, r.rp.len⟩, r.sa, r.rb, g, r.sep⟩
theorem RB.mono {K : PySem.W.Frag} {a q : Addr} {b : Nat} {H0 H H' : Hp} {σ : L2.St} {ρ : Rho} (r : RB K a q b H0 σ H ρ) (e : Ex H H') : RB K a q b H0 σ H' ρ := r.go (.of e) (r.bg.ex e)
def SD.fin : SD → Bool
  | .v _ => true
  | .lst .new _ => true
  | .dic .new _ => true
  | _ => false
theorem fin_new {s : SD} (h : s.fin = true) (o : s.own ≠ none) : s.isNew = true := by
  cases s with
  | v d => exact absurd rfl o
  | lst w ds => cases w <;> simp [SD.fin] at h <;> rfl
  | dic w ds => cases w <;> simp [SD.fin] at h <;> rfl
/-- beside the bag: what holds of a value -/
structure OkV (K : PySem.W.Frag) (a q : Addr) (H H' : Hp) (v : V) (s : SD) : Prop where
  ex : ExB (At1 a) H H'
  bg : Bg H' a q
  tw : Tw K H' v s
  nb : s.own ≠ none → NB a q v
  fr : Fr0 H v s
theorem OkV.of {K : PySem.W.Frag} {a q : Addr} {H H' : Hp} {v : V} {s : SD} (g : Bg H a q) (e : Ex H H') (t : Tw K H' v s) (f : Fr0 H v s) (n : s.fin = true) : OkV K a q H H' v s :=
  ⟨.of e, g.ex e, t, fun o => g.nb (f (fin_new n o)), f⟩
theorem OkV.ofB {K : PySem.W.Frag} {a q : Addr} {H H1 H' : Hp} {v : V} {s : SD} (x : ExB (At1 a) H H1) (g0 : Bg H a q) (h : OkV K a q H1 H' v s) : OkV K a q H H' v s :=
  ⟨x.trans h.ex, h.bg, h.tw, h.nb, fun n y z => x.free (h.fr n y z)⟩
def EvW (K : PySem.W.Frag) (b : Nat) (t : TE) (W : Rho → (SD → Prop) → Prop) : Prop := ∀ a q H0 σ H ρ P, RB K a q b H0 σ H ρ → W ρ P → ∀ Q : VK, (∀ s v H', P s → OkV K a q H H' v s → Q v H') → t σ H Q
structure DEW (X : Cx) (b : Nat) (e : Expr) (t : TE) (W : Rho → (SD → Prop) → Prop) : Prop where
  pe : PE X e t
  ev : EvW X.K b t W
/-- several values -/
structure OkVs (K : PySem.W.Frag) (a q : Addr) (H H' : Hp) (vs : List V) (ss : List SD) : Prop where
  ex : ExB (At1 a) H H'
  bg : Bg H' a q
  tw : TwAll K H' vs ss
  nb : ∀ p ∈ ss.zip vs, p.1.own ≠ none → NB a q p.2
  fr : FrAll H vs ss
def EvWs (K : PySem.W.Frag) (b : Nat) (t : TA) (W : Rho → (List SD → Prop) → Prop) : Prop := ∀ a q H0 σ H ρ P, RB K a q b H0 σ H ρ → W ρ P → ∀ Q : List V → Hp → Prop, (∀ ss vs H', P ss → OkVs K a q H H' vs ss → Q vs H') → t σ H Q
structure DAW (X : Cx) (b : Nat) (es : List Expr) (t : TA) (W : Rho → (List SD → Prop) → Prop) : Prop where
  pa : PA X es t
  ev : EvWs X.K b t W
theorem twAll_exb {K : PySem.W.Frag} {H H' : Hp} {a q : Addr} (h : Bg H a q) (e : ExB (At1 a) H H') : ∀ {vs : List V} {ss : List SD}, TwAll K H vs ss → (∀ p ∈ ss.zip vs, p.1.own ≠ none → NB a q p.2) → TwAll K H' vs ss
  | _, _, .nil, _ => .nil
  | _, _, @TwAll.cons _ _ v s vs ss t r, n => .cons (tw_exb h e t (n (s, v) (by simp))) (twAll_exb h e r fun p hp => n p (by simp [hp]))
theorem FrAll.backB {B : Addr → Prop} {H H' : Hp} (e : ExB B H H') : ∀ {vs : List V} {ss : List SD}, FrAll H' vs ss → FrAll H vs ss
  | _, _, .nil => .nil
  | _, _, .cons a b c => .cons (fun n x q => e.free (a n x q)) b (c.backB e)
def wDet (F : Rho → Option SD) : Rho → (SD → Prop) → Prop := fun ρ P => ∃ s, F ρ = some s ∧ s.fin = true ∧ P s
def wVar (i : Nat) : Rho → (SD → Prop) → Prop := fun ρ P => ∃ s, ρ[i]? = some (some s) ∧ P s
def wTwo (g : SD → SD → Option SD) (W1 W2 : Rho → (SD → Prop) → Prop) : Rho → (SD → Prop) → Prop := fun ρ P => W1 ρ fun s1 => W2 ρ fun s2 => ∃ s, g s1 s2 = some s ∧ s.fin = true ∧ P s
def wNil : Rho → (List SD → Prop) → Prop := fun _ P => P []
def wCons (W : Rho → (SD → Prop) → Prop) (Ws : Rho → (List SD → Prop) → Prop) : Rho → (List SD → Prop) → Prop := fun ρ P => W ρ fun s => Ws ρ fun ss => P (s :: ss)
def wDisp (mk : List D → SD) (Ws : Rho → (List SD → Prop) → Prop) : Rho → (SD → Prop) → Prop := fun ρ P => Ws ρ fun ss => ∃ ds, vals ss = some ds ∧ few ds.length = true ∧ P (mk ds)
def wTup : (Rho → (List SD → Prop) → Prop) → Rho → (SD → Prop) → Prop := wDisp fun ds => .v (.tup false ds)
def wLst : (Rho → (List SD → Prop) → Prop) → Rho → (SD → Prop) → Prop := wDisp fun ds => .lst .new ds
section
variable {X : Cx} {b : Nat} {e e1 e2 : Expr} {es : List Expr} {t ta tb : TE} {tr : TA} {F : Rho → Option SD} {W W1 W2 : Rho → (SD → Prop) → Prop} {Ws : Rho → (List SD → Prop) → Prop} {r : R2} {g : SD → SD → Option SD} {pos : Pos}
theorem dw_det (h : DE X e t F) : DEW X b e t (wDet F) := ⟨h.pe, fun a q H0 σ H ρ P R ⟨s, e1, f1, p⟩ Q k => h.ev _ H0 σ H ρ s R.rp e1 Q fun v H' x t f => k s v H' p (.of R.bg x t f f1)⟩
theorem dw_var (i : Nat) {x : Str} (hN : X.N[i]? = some x := by rfl) (hv : Vis X.env.scope x := by first | exact Or.inl rfl | exact Or.inr (Or.inl rfl) | exact Or.inr (Or.inr rfl)) (hd : (x == ("__debug__" : Str)) = false := by decide) (hcd : (x == ("__classdict__" : Str)) = false := by decide) :
    DEW X b (.Name x pos) (tVar i) (wVar i) := ⟨pe_var hN hv hd hcd, fun a q H0 σ H ρ P R ⟨s, e1, p⟩ Q k => by
  obtain ⟨v, h1, h2⟩ := R.rp.val i s e1
  exact ⟨v, h1, k s v H p ⟨ExB.refl _ _, R.bg, h2, fun n => R.sep i s v e1 n h1, fun n => by rw [R.rp.nn i s e1] at n; cases n⟩⟩⟩
theorem ew_two (ha : EvW X.K b ta W1) (hb : EvW X.K b tb W2) (hr : EvR X.K r g) : EvW X.K b (tOp r ta tb) (wTwo g W1 W2) := fun a q H0 σ H ρ P R w Q k => by
  refine ha a q H0 σ H ρ _ R w _ fun s1 x H1 w1 o1 => hb a q H0 σ H1 ρ _ (R.go o1.ex o1.bg) w1 _ fun s2 y H2 ⟨s, e, f, p⟩ o2 => ?_
  exact hr H2 x y s1 s2 s (tw_exb o1.bg o2.ex o1.tw o1.nb) o2.tw e Q fun v H3 x3 t3 f3 => k s v H3 p (.ofB (o1.ex.trans o2.ex) R.bg (.of o2.bg x3 t3 f3 f))
theorem dw_op {op : Operator} (o : DOp X (binaryOp op) r g) (ha : DEW X b e1 ta W1) (hb : DEW X b e2 tb W2) : DEW X b (.BinOp e1 op e2 pos) (tOp r ta tb) (wTwo g W1 W2) := ⟨pe_op o.op ha.pe hb.pe, ew_two ha.ev hb.ev o.ev⟩
theorem dw_ix (ha : DEW X b e1 ta W1) (hb : DEW X b e2 tb W2) (hs : PlainIx e2 := by intro _ _; rfl) : DEW X b (.Subscript e1 e2 pos) (tOp (fun x y H Q => rIxL X.K x y H Q ∨ rIxT X.K x y H Q) ta tb) (wTwo gIx W1 W2) := ⟨pe_ix (IxR.or ix_list ix_tup) ha.pe hb.pe hs, ew_two ha.ev hb.ev ev_ix⟩
theorem daw_nil : DAW X b [] tNil wNil := ⟨pa_nil, fun a q H0 σ H ρ P R w Q k => k [] [] H w ⟨ExB.refl _ _, R.bg, .nil, fun p hp => by simp at hp, .nil⟩⟩
theorem daw_cons (he : DEW X b e t W) (hr : DAW X b es tr Ws) (hs : starEach (e :: es) X.env = (false, eval e X.env) :: starEach es X.env := by rfl) : DAW X b (e :: es) (tCons t tr) (wCons W Ws) := ⟨pa_cons he.pe hr.pa hs, fun a q H0 σ H ρ P R w Q k => by
  refine he.ev a q H0 σ H ρ _ R w _ fun s x H1 w1 o1 => hr.ev a q H0 σ H1 ρ _ (R.go o1.ex o1.bg) w1 _ fun ss xs H2 p o2 => ?_
  refine k (s :: ss) (x :: xs) H2 p ⟨o1.ex.trans o2.ex, o2.bg, .cons (tw_exb o1.bg o2.ex o1.tw o1.nb) o2.tw, fun p hp => ?_, .cons o1.fr (fun n p hp hn z => ?_) (o2.fr.backB o1.ex)⟩
  · rcases List.mem_cons.mp (by simpa using hp) with rfl | hp
    · exact o1.nb
    · exact o2.nb p hp
  · have key : ∀ {vs : List V} {ss : List SD}, FrAll H1 vs ss → ∀ p ∈ ss.zip vs, p.1.isNew = true → ∀ a, p.2 = .ref a → H1 a = none := by
      intro vs ss f
      induction f with
      | nil => intro p hp; simp at hp
      | cons a b c ih =>
        intro p hp
        rcases List.mem_cons.mp (by simpa using hp) with rfl | hp
        · exact fun n x e => a n x e
        · exact ih p hp
    obtain ⟨a', ex, na⟩ := tw_taken o1.tw (by
      intro c
      rw [SD.isNew, c] at n
      cases n)
    exact na (key o2.fr p hp hn a' (by rw [z, ex]))⟩
theorem dw_tup {k : Nat} (h : DAW X b es tr Ws) : DEW X b (.Tuple es k pos) (tTup tr) (wTup Ws) := ⟨pe_tup h.pa, fun a q H0 σ H ρ P R w Q k => by
  refine h.ev a q H0 σ H ρ _ R w _ fun ss vs H1 ⟨ds, ev, hl, p⟩ o1 => ?_
  have d1 := vals_dp o1.tw ev
  exact ⟨few_le (by rw [dpa_len d1]; exact hl), fun c hc => k _ _ _ p (.ofB o1.ex R.bg (.of o1.bg (Ex.new hc) (.tup (.inl (.inl upd_same)) (fun z => nomatch z) (dpAll_ex (Ex.new hc) d1)) fr_v rfl))⟩⟩
theorem dw_lst (h : DAW X b es tr Ws) : DEW X b (.List es pos) (tLst tr) (wLst Ws) := ⟨pe_lst h.pa, fun a q H0 σ H ρ P R w Q k => by
  refine h.ev a q H0 σ H ρ _ R w _ fun ss vs H1 ⟨ds, ev, hl, p⟩ o1 => ?_
  have d1 := vals_dp o1.tw ev
  exact ⟨few_le (by rw [dpa_len d1]; exact hl), fun c hc => k _ _ _ p (.ofB o1.ex R.bg (.of o1.bg (Ex.new hc) ⟨c, vs, rfl, upd_same, dpAll_ex (Ex.new hc) d1⟩ (fun _ y ey => by cases ey; exact hc) rfl))⟩⟩
end
/-! ### calls with the bag -/
def SpW (K : PySem.W.Frag) (Wf : List SD → (SD → Prop) → Prop) : Sp := fun vs H Q _ => ∃ a q vs' ss P, vs = .ref a :: vs' ∧ Bg H a q ∧ TwAll K H vs' ss ∧ (∀ p ∈ ss.zip vs', p.1.own ≠ none → NB a q p.2) ∧ Wf (ss.map SD.bor) P ∧ ∀ s v H', P s → OkV K a q H H' v s → Q v H'
structure FW (P : Program) (w : World) (K : PySem.W.Frag) (mg : Str → Option Value) (base : Heap) (k : Nat) (x : Str) (ps : List Str) (Wf : List SD → (SD → Prop) → Prop) : Prop where
  ex : ∃ f fd, mg x = some (.ref f) ∧ PySem.W.keepIn K (.ref f) = true ∧ Binds K fd ps [] ∧ FnOk P w K mg base CX0 k f fd ps (SpW K Wf)
def wCall (Wf : List SD → (SD → Prop) → Prop) (Ws : Rho → (List SD → Prop) → Prop) : Rho → (SD → Prop) → Prop := fun ρ P => Ws ρ fun ss => Wf (ss.map SD.bor) P
section
variable {X : Cx} {b : Nat} {e : Expr} {es : List Expr} {tr : TA} {Ws : Rho → (List SD → Prop) → Prop} {pos : Pos}
theorem dw_call {x y : Str} {ps : List Str} {k j : Nat} {Wf : List SD → (SD → Prop) → Prop} {p p2 : Pos} (D : FW X.prog X.w X.K X.mg X.base k x ps Wf) (hr : Room j X.A) (ha : DAW X b es tr Ws) (hk : k ≤ j := by decide) (hg : Gl X x := by rfl) (hdb : (x == ("__debug__" : Str)) = false := by decide)
    (hN : X.N[b]? = some y := by rfl) (hv : Vis X.env.scope y := by first | exact Or.inl rfl | exact Or.inr (Or.inl rfl) | exact Or.inr (Or.inr rfl)) (hd : (y == ("__debug__" : Str)) = false := by decide) (hcd : (y == ("__classdict__" : Str)) = false := by decide)
    (hs : starEach (.Name y p2 :: es) X.env = (false, eval (.Name y p2) X.env) :: starEach es X.env := by rfl) (hpl : (backTo pos (starEach es X.env)).any (·.1) = false := by rfl) :
    DEW X b (.Call (.Name x p) (.Name y p2 :: es) [] pos) (tCall (SpW X.K Wf) [] E0 (tCons (tVar b) tr)) (wCall Wf Ws) := by
  obtain ⟨f, fd, hm, kp, hb, G⟩ := D.ex
  refine ⟨pe_call G (hr.mono hk) hg hm kp hb .nil pass0 (pa_cons (pe_var hN hv hd hcd) ha.pa hs) hdb hs hpl, fun a q H0 σ H ρ P R w Q k => ?_⟩
  refine ⟨.ref a, R.sa, ha.ev a q H0 σ H ρ _ R w _ fun ss vs H1 w1 o1 => ?_⟩
  refine ⟨a, q, vs, ss, P, by rw [List.append_nil], o1.bg, o1.tw, o1.nb, w1, fun s v H2 p o2 => k s v H2 p (.ofB o1.ex R.bg o2)⟩
end
end Dn
/-! Drawing, 2: statements beside a bag. -/
namespace Dn
open PySem PySem.Spec L2
open PyProof.Rows (envOfC)
open Evl (Ex Ex.refl Ex.trans Ex.new ex_rd ex_l ex_t fresh_back)
def OutOkB (K : PySem.W.Frag) (a q : Addr) (b : Nat) (H0 : Hp) (D : Ends) : Out → Prop
  | .nx ρ => ∀ σ' H', RB K a q b H0 σ' H' ρ → D.nx σ' H'
  | .rt s => ∀ v H', OkV K a q H0 H' v s → D.rt v H'
  | .bk ρ => ∀ σ' H', RB K a q b H0 σ' H' ρ → D.bk σ' H'
  | .ct ρ => ∀ σ' H', RB K a q b H0 σ' H' ρ → D.ct σ' H'
abbrev WG := Rho → (Out → Prop) → Prop
def EvWS (K : PySem.W.Frag) (b : Nat) (t : TS) (G : WG) : Prop := ∀ a q H0 σ H ρ P, RB K a q b H0 σ H ρ → G ρ P → ∀ D : Ends, (∀ o, P o → OutOkB K a q b H0 D o) → t D σ H
structure DWS (X : Cx) (b : Nat) (st : Stmt) (t : TS) (G : WG) : Prop where
  ps : PS X st t
  ev : EvWS X.K b t G
structure DWSs (X : Cx) (b : Nat) (st : List Stmt) (t : TS) (G : WG) : Prop where
  ps : PSs X st t
  ev : EvWS X.K b t G
/-- a slot gets a value -/
theorem Rp.set2 {K : PySem.W.Frag} {B : Addr → Prop} {H0 H H' : Hp} {σ : St} {ρ : Rho} {v : V} {s s' : SD} (r : Rp K B H0 σ H ρ) (r' : Rp K B H0 σ H' ρ) (t : Tw K H' v s) (f : Fr0 H v s) (k : s.keep = some s') (i : Nat) : Rp K B H0 (σ.set i (some v)) H' (ρ.set i (some s')) := by
  obtain ⟨k1, k2, k3⟩ := keep_new k
  have get : ∀ {j : Nat} {x : SD}, (ρ.set i (some s'))[j]? = some (some x) → (j = i ∧ x = s' ∧ (σ.set i (some v))[j]? = some (some v)) ∨ (j ≠ i ∧ ρ[j]? = some (some x) ∧ (σ.set i (some v))[j]? = σ[j]?) := by
    intro j x h
    by_cases hj : i = j
    · subst hj
      have hl : i < ρ.length := by
        have := (List.getElem?_eq_some_iff.mp h).1
        simpa using this
      rw [List.getElem?_set_self hl] at h
      exact .inl ⟨rfl, (Option.some.inj (Option.some.inj h)).symm, List.getElem?_set_self (by rw [r.len]; exact hl)⟩
    · rw [List.getElem?_set_ne hj] at h
      exact .inr ⟨fun z => hj z.symm, h, List.getElem?_set_ne hj⟩
  have apart : ∀ {j : Nat} {x : SD} {a : Addr}, ρ[j]? = some (some x) → x.own ≠ none → σ[j]? = some (some (.ref a)) → s.isNew = true → v = .ref a → False := by
    intro j x a h1 h2 h3 n ev
    obtain ⟨w, e1, e2⟩ := r.val j x h1
    rw [h3] at e1
    have ew : w = .ref a := (Option.some.inj (Option.some.inj e1)).symm
    subst ew
    obtain ⟨a', ea, na⟩ := tw_taken e2 h2
    cases ea
    exact na (f n a ev)
  refine ⟨r'.ex, fun j x h => ?_, fun j x h => ?_, fun j x a h o q => ?_, fun j l x y a h o h' o' q q' => ?_, by simp [r.len]⟩
  · rcases get h with ⟨rfl, rfl, q⟩ | ⟨_, h1, q⟩
    · exact ⟨v, q, tw_keep k t⟩
    · obtain ⟨w, e1, e2⟩ := r'.val j x h1
      exact ⟨w, q.trans e1, e2⟩
  · rcases get h with ⟨_, rfl, _⟩ | ⟨_, h1, _⟩
    · exact k1
    · exact r.nn j x h1
  · rcases get h with ⟨rfl, rfl, q'⟩ | ⟨_, h1, q'⟩
    · rw [q'] at q
      exact r.ex.free (f (k2.mp o) a (Option.some.inj (Option.some.inj q)))
    · exact r.own j x a h1 o (q'.symm.trans q)
  · rcases get h with ⟨rfl, rfl, z⟩ | ⟨n1, h1, z⟩
    · rw [z] at q
      rcases get h' with ⟨rfl, _, _⟩ | ⟨n2, h2, z'⟩
      · rfl
      · exact (apart h2 o' (z'.symm.trans q') (k2.mp o) (Option.some.inj (Option.some.inj q))).elim
    · rcases get h' with ⟨rfl, rfl, z'⟩ | ⟨n2, h2, z'⟩
      · rw [z'] at q'
        exact (apart h1 (by rw [o]; simp) (z.symm.trans q) (k3 o') (Option.some.inj (Option.some.inj q'))).elim
      · exact r.sep j l x y a h1 o h2 o' (z.symm.trans q) (z'.symm.trans q')
theorem RB.put {K : PySem.W.Frag} {a q : Addr} {b : Nat} {H0 H H' : Hp} {σ : St} {ρ : Rho} {v : V} {s s' : SD} (r : RB K a q b H0 σ H ρ) (o : OkV K a q H H' v s) (k : s.keep = some s') (i : Nat) (hi : i ≠ b) : RB K a q b H0 (σ.set i (some v)) H' (ρ.set i (some s')) := by
  have r1 := r.go o.ex o.bg
  refine ⟨r.rp.set2 r1.rp o.tw o.fr k i, by rw [List.getElem?_set_ne hi]; exact r.sa, by rw [List.getElem?_set_ne hi]; exact r.rb, o.bg, fun j x w h n e => ?_⟩
  by_cases hj : i = j
  · subst hj
    have hl : i < ρ.length := by
      have := (List.getElem?_eq_some_iff.mp h).1
      simpa using this
    rw [List.getElem?_set_self hl] at h
    rw [List.getElem?_set_self (by rw [r.rp.len]; exact hl)] at e
    cases h
    cases e
    exact o.nb (fun z => by
      have := (keep_new k).2.2 n
      rw [SD.isNew, z] at this
      cases this)
  · rw [List.getElem?_set_ne hj] at h e
    exact r.sep j x w h n e
/-- one of its own lists changes -/
theorem RB.mut {K : PySem.W.Frag} {a q : Addr} {b : Nat} {H0 H : Hp} {σ : St} {ρ : Rho} {i : Nat} {c : Addr} {xs ys : List V} {ds es : List D} (R : RB K a q b H0 σ H ρ) (h : ρ[i]? = some (some (.lst .own ds))) (hσ : σ[i]? = some (some (.ref c))) (hH : H c = some (.lst xs)) (hd : DqAll K H ys es) : RB K a q b H0 σ (upd H c (.lst ys)) (ρ.set i (some (.lst .own es))) := by
  have nb := R.sep i _ _ h (by simp [SD.own]) hσ
  have ca : a ≠ c := fun z => nb.1 (by rw [z])
  have cq : q ≠ c := fun z => nb.2 (by rw [z])
  have tu : Tu K H (upd H c (.lst ys)) := tu_upd (lst_ntup hH)
  obtain ⟨R2, _⟩ := R.rp.mut (s' := .lst .own es) (o' := .lst ys) h rfl hσ hH (lst_ntup hH) rfl ⟨c, ys, rfl, upd_same, dpAll_tu tu hd⟩
  have hib : i ≠ b := fun z => by
    subst z
    rw [R.rb] at h
    cases h
  obtain ⟨x, y, z, ns, h1, h2, r⟩ := R.bg
  refine ⟨R2, R.sa, by rw [List.getElem?_set_ne hib]; exact R.rb, ⟨x, y, z, ns, by rw [upd_ne ca]; exact h1, by rw [upd_ne cq]; exact h2, r⟩, fun j s v e n k => ?_⟩
  by_cases hj : i = j
  · subst hj
    rw [hσ] at k
    cases k
    exact nb
  · rw [List.getElem?_set_ne hj] at e
    exact R.sep j s v e n k
section
variable {X : Cx} {b : Nat} {e e1 e2 c : Expr} {es : List Expr} {t ta tb : TE} {tr : TA} {u : TT} {T : Rho → Option Bool} {W W1 W2 : Rho → (SD → Prop) → Prop} {Ws : Rho → (List SD → Prop) → Prop} {pos : Pos} {st : Stmt} {rest : List Stmt} {ts ts' : TS} {G G' : WG}
def wNext : WG := fun ρ P => P (.nx ρ)
theorem dws_nil : DWSs X b [] tNext wNext := ⟨pss_nil, fun a q H0 σ H ρ P R w D k => k _ w σ H R⟩
def wSeq (G G' : WG) : WG := fun ρ P => G ρ fun o => match o with
  | .nx ρ' => G' ρ' P
  | o => P o
theorem ew_seq {K : PySem.W.Frag} (h1 : EvWS K b ts G) (h2 : EvWS K b ts' G') : EvWS K b (tSeq ts ts') (wSeq G G') := fun a q H0 σ H ρ P R w D k => by
  refine h1 a q H0 σ H ρ _ R w _ fun o p => ?_
  cases o with
  | nx ρ' => exact fun σ' H' R' => h2 a q H0 σ' H' ρ' P R' p D k
  | rt s => exact k _ p
  | bk s => exact k _ p
  | ct s => exact k _ p
theorem dws_cons (h1 : DWS X b st ts G) (h2 : DWSs X b rest ts' G') : DWSs X b (st :: rest) (tSeq ts ts') (wSeq G G') := ⟨pss_cons h1.ps h2.ps, ew_seq h1.ev h2.ev⟩
theorem dws_one (h1 : DWS X b st ts G) : DWSs X b [st] ts G := ⟨pss_one h1.ps, h1.ev⟩
def wSet (i : Nat) (W : Rho → (SD → Prop) → Prop) : WG := fun ρ P => W ρ fun s => ∃ s', s.keep = some s' ∧ P (.nx (ρ.set i (some s')))
theorem dws_set (i : Nat) {x : Str} {pos' : Pos} (he : DEW X b e t W) (hN : X.N.Nodup) (hib : i ≠ b := by decide) (hi : X.N[i]? = some x := by rfl) (hx : Loc X.env.scope x := by first | exact Or.inl rfl | exact Or.inr rfl) (hs : swapsWith e (some (.Name x pos')) pos.line X.env = pure false := by rfl)
    (hf : X.fn x = true ∨ X.env.scope.names.lookup x = some .local := by first | exact .inl rfl | exact .inr rfl) : DWS X b (.Assign [.Name x pos'] e pos) (tAsg t (gName i)) (wSet i W) := ⟨ps_set hN hi hx he.pe hs hf, fun a q H0 σ H ρ P R w D k => by
  refine he.ev a q H0 σ H ρ _ R w _ fun s v H' ⟨s', k1, p⟩ o => ?_
  exact k _ p _ H' (R.put o k1 i hib)⟩
def wRet (W : Rho → (SD → Prop) → Prop) : WG := fun ρ P => W ρ fun s => s.fin = true ∧ P (.rt s)
theorem dws_ret (he : DEW X b e t W) : DWS X b (.Return (some e) pos) (tRet t) (wRet W) := ⟨ps_ret he.pe, fun a q H0 σ H ρ P R w D k => by
  refine he.ev a q H0 σ H ρ _ R w _ fun s v H' ⟨f, p⟩ o => k _ p v H' ⟨R.rp.ex.trans o.ex, o.bg, o.tw, o.nb, fun n y z => R.rp.ex.free (o.fr n y z)⟩⟩
/-- a list of the frame's own is handed out -/
def wRetV (i : Nat) : WG := fun ρ P => ∃ ds, ρ[i]? = some (some (.lst .own ds)) ∧ P (.rt (.lst .new ds))
theorem dws_retV (i : Nat) {x : Str} {p : Pos} (hN : X.N[i]? = some x := by rfl) (hv : Vis X.env.scope x := by first | exact Or.inl rfl | exact Or.inr (Or.inl rfl) | exact Or.inr (Or.inr rfl)) (hd : (x == ("__debug__" : Str)) = false := by decide) (hcd : (x == ("__classdict__" : Str)) = false := by decide) :
    DWS X b (.Return (some (.Name x p)) pos) (tRet (tVar i)) (wRetV i) := ⟨ps_ret (pe_var hN hv hd hcd), fun a q H0 σ H ρ P R ⟨ds, e, p⟩ D k => by
  obtain ⟨v, h1, h2⟩ := R.rp.val i _ e
  obtain ⟨c, xs, rfl, h3, h4⟩ := h2
  exact ⟨.ref c, h1, k _ p _ H ⟨R.rp.ex, R.bg, ⟨c, xs, rfl, h3, h4⟩, fun n => R.sep i _ _ e (by simp [SD.own]) h1, fun n y z => by
    cases z
    exact R.rp.own i _ c e rfl h1⟩⟩⟩
def wIf (T : Rho → Option Bool) (G G' : WG) : WG := fun ρ P => ∃ x, T ρ = some x ∧ (if x then G ρ P else G' ρ P)
theorem dws_if {as bs : List Stmt} (hc : DT X c u T) (ha : DWSs X b as ts G) (hb : DWSs X b bs ts' G') : DWS X b (.If c as bs pos) (tIfS u ts ts') (wIf T G G') := ⟨ps_if hc.pt ha.ps hb.ps, fun a q H0 σ H ρ P R ⟨x, e, w⟩ D k => by
  refine hc.ev _ H0 σ H ρ x R.rp e _ fun H1 e1 => ?_
  cases x with
  | true => exact ha.ev a q H0 σ H1 ρ P (R.mono e1) w D k
  | false => exact hb.ev a q H0 σ H1 ρ P (R.mono e1) w D k⟩
theorem dws_break : DWS X b (.Break pos) tBreak (fun ρ P => P (.bk ρ)) := ⟨ps_break, fun a q H0 σ H ρ P R w D k => k _ w σ H R⟩
theorem dws_continue : DWS X b (.Continue pos) tCont (fun ρ P => P (.ct ρ)) := ⟨ps_continue, fun a q H0 σ H ρ P R w D k => k _ w σ H R⟩
theorem dws_pass : DWS X b (.Pass pos) tNext wNext := ⟨ps_pass, fun a q H0 σ H ρ P R w D k => k _ w σ H R⟩
/-- xs.append(e) -/
def wApp (i : Nat) (W : Rho → (SD → Prop) → Prop) : WG := fun ρ P => ∃ ds, ρ[i]? = some (some (.lst .own ds)) ∧ W ρ fun s => ∃ d, s = .v d ∧ few (ds.length + 1) = true ∧ P (.nx (ρ.set i (some (.lst .own (ds ++ [d])))))
theorem dws_app (i : Nat) {x : Str} {p apos cpos : Pos} (he : DEW X b e t W) (hN : X.N[i]? = some x := by rfl) (hv : Vis X.env.scope x := by first | exact Or.inl rfl | exact Or.inr (Or.inl rfl) | exact Or.inr (Or.inr rfl))
    (hbase : attributeBase (.Name x p) "append" X.env (eval (.Name x p) X.env) = eval (.Name x p) X.env := by rfl)
    (hfew : ((backTo cpos (starEach [e] X.env)).all (fun x => !x.1) && (backToKw cpos (keywordEach [] X.env)).all (fun x => x.1.isSome)
      && decide (([e] : List Expr).length + ([] : List Keyword).length + (if ([] : List Keyword).isEmpty then 0 else 1) < 30)) = true := by rfl)
    (hline : (apos.endLine == cpos.line) = true := by rfl) (hs : starEach [e] X.env = (false, eval e X.env) :: starEach [] X.env := by rfl) (hplain : (backTo cpos (starEach [] X.env)).any (·.1) = false := by rfl)
    (hsw : swapsWith (.Call (.Attribute (.Name x p) "append" apos) [e] [] cpos) none pos.line X.env = pure false := by rfl) (hd : (x == ("__debug__" : Str)) = false := by decide) (hcd : (x == ("__classdict__" : Str)) = false := by decide) :
    DWS X b (.Expr (.Call (.Attribute (.Name x p) "append" apos) [e] [] cpos) pos) (tDrop (tBM X.K "list" rAppend (tVar i) (tCons t tNil))) (wApp i W) :=
  ⟨ps_expr (pe_bm PySem.F.plainAttrs_list PySem.F.slot_list_append PySem.F.type_list_append mt_append (pe_var hN hv hd hcd) (pa_cons he.pe pa_nil hs) hbase hfew hline hs hplain) hsw, fun a q H0 σ H ρ P R ⟨ds, h1, w⟩ D k => by
    obtain ⟨w', hw, c, xs, rfl, ha, hx⟩ := R.rp.val i _ h1
    refine ⟨.ref c, hw, .inl ⟨rfl, xs, SqL.of ha⟩, he.ev a q H0 σ H ρ _ R w _ fun s y H1 ⟨d, es, hl, p⟩ o => ?_⟩
    subst es
    have R1 := R.go o.ex o.bg
    obtain ⟨w2, hw2, c2, xs2, e2, ha2, hx2⟩ := R1.rp.val i _ h1
    rw [hw] at hw2
    cases hw2
    cases e2
    exact ⟨c, xs2, y, rfl, rfl, ha2, Nat.lt_of_succ_le (by rw [dpa_len hx2]; exact few_le hl), k _ p σ _ (R1.mut h1 hw ha2 (dpa_app hx2 (.cons o.tw .nil)))⟩⟩
end
end Dn
/-! Drawing, 3: loops, stores, comprehensions beside a bag; what comes behind the last draw. -/
namespace Dn
open PySem PySem.Spec L2
open PyProof.Rows (envOfC)
open Evl (Ex Ex.refl Ex.trans Ex.new ex_rd ex_l ex_t fresh_back)
section
variable {X : Cx} {b : Nat} {e e1 e2 c : Expr} {es : List Expr} {t ta tb : TE} {tr : TA} {u : TT} {F : Rho → Option SD} {T : Rho → Option Bool} {W W1 W2 : Rho → (SD → Prop) → Prop} {Ws : Rho → (List SD → Prop) → Prop} {pos : Pos} {st : Stmt} {rest : List Stmt} {ts ts' : TS} {G G' : WG}
/-- how a turn ends -/
def turnP (I : Rho → Prop) (P : Out → Prop) : Out → Prop
  | .nx ρ => I ρ
  | .ct ρ => I ρ
  | .bk ρ => P (.nx ρ)
  | .rt s => P (.rt s)
def wFor (i : Nat) (F : Rho → Option SD) (G : WG) : WG := fun ρ P => ∃ n : Nat, F ρ = some (.v (.int n)) ∧ n ≤ 10000 ∧ ∃ I : Nat → Rho → Prop, I 0 ρ ∧ (∀ j ρ', j < n → I j ρ' → G (ρ'.set i (some (.v (.int j)))) (turnP (I (j + 1)) P)) ∧ ∀ ρ', I n ρ' → P (.nx ρ')
theorem RB.putI {K : PySem.W.Frag} {a q : Addr} {b : Nat} {H0 H : Hp} {σ : St} {ρ : Rho} (r : RB K a q b H0 σ H ρ) (i : Nat) (hi : i ≠ b) (v : V) (d : D) (h : Dq K H v d) : RB K a q b H0 (σ.set i (some v)) H (ρ.set i (some (.v d))) :=
  r.put (s := .v d) ⟨ExB.refl _ _, r.bg, h, fun n => absurd rfl n, fr_v⟩ rfl i hi
theorem dws_forR (i : Nat) {x : Str} {p1 p2 px : Pos} {body : List Stmt} (hc : X.calm = true) (hx0 : PassesOwn (model X.prog X.w) X.A X.env X.xe) (hm : X.mg "range" = none) (he : DE X e t F) (hb : DWSs X b body ts G) (hN : X.N.Nodup) (hib : i ≠ b := by decide) (hg : Gl X "range" := by rfl) (hi : X.N[i]? = some x := by rfl)
    (hx : Loc X.env.scope x := by first | exact Or.inl rfl | exact Or.inr rfl) (hf : X.fn x = true ∨ X.env.scope.names.lookup x = some .local := by first | exact .inl rfl | exact .inr rfl) (hs : starEach [e] X.env = [(false, eval e X.env)] := by rfl)
    (hs2 : ∀ x, foldedSetIterable (.Call (.Name "range" p1) [e] [] p2) X.env x = pure x := by intro _; rfl) :
    DWS X b (.For (.Name x px) (.Call (.Name "range" p1) [e] [] p2) body [] pos) (tFor (iRng1 (tCons t tNil)) (gName i) ts) (wFor i F G) :=
  ⟨ps_for hx0 hc (pi_range1 hg hm (pa_cons he.pe pa_nil hs) hs) (pg_name hN hi hx hf) hb.ps hs2, fun a q H0 σ H ρ P R ⟨n, ef, hn, I, i0, i1, i2⟩ D k => by
    refine he.ev _ H0 σ H ρ _ R.rp ef _ fun y H1 x1 t1 _ => ?_
    have ey := tw_i t1
    subst ey
    refine ⟨(n : Int), rfl, by omega, by omega, ?_⟩
    refine for_range (n := (n : Int).toNat) (fun j σ' H' => j ≤ n ∧ ∃ ρ', RB X.K a q b H0 σ' H' ρ' ∧ I j ρ') ⟨Nat.zero_le _, ρ, R.mono x1, i0⟩ (fun j σ' H' hj ⟨_, ρ', R', e'⟩ => ?_) (fun σ' H' ⟨_, ρ', R', e'⟩ => ?_)
    · have hj : j < n := by simpa using hj
      have ez : (0 : Int) + (j : Int) = (j : Int) := Int.zero_add _
      show ts _ (σ'.set i (some (.int (0 + (j : Int))))) H'
      rw [ez]
      refine hb.ev a q H0 _ H' _ _ (R'.putI i hib (.int (j : Int)) (.int (j : Int)) (.int _)) (i1 j ρ' hj e') _ fun o p => ?_
      cases o with
      | nx ρ2 => exact fun σ2 H2 R2 => ⟨hj, ρ2, R2, p⟩
      | ct ρ2 => exact fun σ2 H2 R2 => ⟨hj, ρ2, R2, p⟩
      | bk ρ2 => exact k (.nx ρ2) p
      | rt s2 => exact k (.rt s2) p
    · have e' : I n ρ' := by simpa using e'
      exact k _ (i2 ρ' e') σ' H' R'⟩
/-- a lent list stands as it is -/
def pinned (H0 H : Hp) (c : Addr) : Hp := fun x => if x = c then H c else H0 x
theorem RB.pin {K : PySem.W.Frag} {a q : Addr} {b l : Nat} {H0 H : Hp} {σ : St} {ρ : Rho} {c : Addr} {ds : List D} (R : RB K a q b H0 σ H ρ) (h : ρ[l]? = some (some (.lst .bor ds))) (hσ : σ[l]? = some (some (.ref c))) : RB K a q b (pinned H0 H c) σ H ρ := by
  have hc : ∃ xs, H c = some (.lst xs) := by
    obtain ⟨w, e1, c', xs, e2, e3, _⟩ := R.rp.val l _ h
    rw [hσ] at e1
    cases e1
    cases e2
    exact ⟨xs, e3⟩
  refine ⟨⟨⟨fun x o nb e => ?_, fun x e => ?_⟩, R.rp.val, R.rp.nn, fun i s x e1 e2 e3 => ?_, R.rp.sep, R.rp.len⟩, R.sa, R.rb, R.bg, R.sep⟩
  · by_cases hx : x = c
    · subst hx
      simpa [pinned] using e
    · exact R.rp.ex.1 x o nb (by simpa [pinned, hx] using e)
  · by_cases hx : x = c
    · subst hx
      obtain ⟨xs, h3⟩ := hc
      rw [h3]
      simp
    · exact R.rp.ex.2 x (by simpa [pinned, hx] using e)
  · have h0 := R.rp.own i s x e1 e2 e3
    by_cases hx : x = c
    · subst hx
      have := R.rp.sep i l s _ x e1 e2 h (by simp [SD.own]) e3 hσ
      subst this
      rw [h] at e1
      cases e1
      cases e2
    · simpa [pinned, hx] using h0
theorem RB.unpin {K : PySem.W.Frag} {a q : Addr} {b : Nat} {H0 H H' : Hp} {σ : St} {ρ : Rho} {c : Addr} (R : RB K a q b (pinned H0 H c) σ H' ρ) (e0 : ExB (At1 a) H0 H) (hc : H c ≠ none) : RB K a q b H0 σ H' ρ := by
  refine ⟨⟨⟨fun x o nb e => ?_, fun x e => ?_⟩, R.rp.val, R.rp.nn, fun i s x e1 e2 e3 => ?_, R.rp.sep, R.rp.len⟩, R.sa, R.rb, R.bg, R.sep⟩
  · refine R.rp.ex.1 x o nb ?_
    by_cases hx : x = c
    · subst hx
      simpa [pinned] using e0.1 x o nb e
    · simpa [pinned, hx] using e
  · refine R.rp.ex.2 x ?_
    by_cases hx : x = c
    · subst hx
      simpa [pinned] using hc
    · simpa [pinned, hx] using e
  · have h0 := R.rp.own i s x e1 e2 e3
    by_cases hx : x = c
    · subst hx
      exact absurd (by simpa [pinned] using h0) hc
    · simpa [pinned, hx] using h0
/-- for x in xs: xs a lent list of scalars -/
def wForL (i l : Nat) (G : WG) : WG := fun ρ P => ∃ ds vs, ρ[l]? = some (some (.lst .bor ds)) ∧ allV ds = some vs ∧ ∃ I : Nat → Rho → Prop, I 0 ρ ∧ (∀ j d ρ', ds[j]? = some d → I j ρ' → G (ρ'.set i (some (.v d))) (turnP (I (j + 1)) P)) ∧ ∀ ρ', I ds.length ρ' → P (.nx ρ')
theorem allV_any {K : PySem.W.Frag} : ∀ {ds : List D} {vs : List V}, allV ds = some vs → ∀ H, DqAll K H vs ds
  | [], vs, h, H => by
    have e := Option.some.inj h
    subst e
    exact .nil
  | d :: ds, vs, h, H => by
    unfold allV at h
    cases e1 : toV d with
    | none => rw [e1] at h; cases h
    | some v =>
      cases e2 : allV ds with
      | none => rw [e1] at h; simp [e2] at h
      | some ws =>
        rw [e1] at h
        simp [e2] at h
        subst h
        exact .cons (dp_toV e1) (allV_any e2 H)
theorem dws_forL (i l : Nat) {x y : Str} {py px : Pos} {body : List Stmt} (hc : X.calm = true) (hx0 : PassesOwn (model X.prog X.w) X.A X.env X.xe) (hb : DWSs X b body ts G) (hN : X.N.Nodup) (hib : i ≠ b := by decide) (hi : X.N[i]? = some x := by rfl)
    (hx : Loc X.env.scope x := by first | exact Or.inl rfl | exact Or.inr rfl) (hf : X.fn x = true ∨ X.env.scope.names.lookup x = some .local := by first | exact .inl rfl | exact .inr rfl)
    (hl : X.N[l]? = some y := by rfl) (hv : Vis X.env.scope y := by first | exact Or.inl rfl | exact Or.inr (Or.inl rfl) | exact Or.inr (Or.inr rfl)) (hd : (y == ("__debug__" : Str)) = false := by decide) (hcd : (y == ("__classdict__" : Str)) = false := by decide)
    (hs2 : ∀ x, foldedSetIterable (.Name y py) X.env x = pure x := by intro _; rfl) :
    DWS X b (.For (.Name x px) (.Name y py) body [] pos) (tFor (iList X.K (tVar l)) (gName i) ts) (wForL i l G) :=
  ⟨ps_for hx0 hc (pi_list (pe_var hl hv hd hcd)) (pg_name hN hi hx hf) hb.ps hs2, fun a q H0 σ H ρ P R ⟨ds, vs, h1, h2, I, i0, i1, i2⟩ D k => by
    obtain ⟨w, e1, c, xs, rfl, e3, e4⟩ := R.rp.val l _ h1
    obtain ⟨rfl, _⟩ := allV_dp e4 h2
    have hH : H c ≠ none := by rw [e3]; simp
    have ca : c ≠ a := fun z => (R.sep l _ _ h1 (by simp [SD.own]) e1).1 (by rw [z])
    refine ⟨.ref c, e1, c, rfl, ⟨xs, SqL.of e3⟩, ?_⟩
    have back : ∀ {σ' : St} {H' : Hp} {ρ' : Rho}, RB X.K a q b (pinned H0 H c) σ' H' ρ' → H' c = some (.lst xs) := fun R' => R'.rp.ex.1 c _ ca (by simpa [pinned] using e3)
    refine for_list (xs := xs) (fun j σ' H' => ∃ ρ', RB X.K a q b (pinned H0 H c) σ' H' ρ' ∧ I j ρ') ⟨ρ, R.pin h1 e1, i0⟩ (fun j σ' H' _ ⟨ρ', R', _⟩ => SqL.of (back R')) (fun j v σ' H' hv ⟨ρ', R', ij⟩ => ?_) (fun σ' H' ⟨ρ', R', ij⟩ => ?_)
    · have all := allV_any (K := X.K) h2 H'
      have hjl : j < ds.length := by rw [← dpa_len all]; exact (List.getElem?_eq_some_iff.mp hv).1
      obtain ⟨v', ev, dv⟩ := dpa_get all (List.getElem?_eq_getElem hjl)
      rw [hv] at ev
      cases ev
      refine hb.ev a q _ _ H' _ _ (R'.putI i hib v _ dv) (i1 j _ ρ' (List.getElem?_eq_getElem hjl) ij) _ fun o p => ?_
      cases o with
      | nx ρ2 => exact fun σ2 H2 R2 => ⟨ρ2, R2, p⟩
      | ct ρ2 => exact fun σ2 H2 R2 => ⟨ρ2, R2, p⟩
      | bk ρ2 => exact fun σ2 H2 R2 => k (.nx ρ2) p σ2 H2 (R2.unpin R.rp.ex hH)
      | rt s2 =>
        refine fun w2 H2 o2 => k (.rt s2) p w2 H2 ⟨⟨fun x o nb e => ?_, fun x e => ?_⟩, o2.bg, o2.tw, o2.nb, fun n x z => ?_⟩
        · refine o2.ex.1 x o nb ?_
          by_cases hx : x = c
          · subst hx
            simpa [pinned] using R.rp.ex.1 x o nb e
          · simpa [pinned, hx] using e
        · refine o2.ex.2 x ?_
          by_cases hx : x = c
          · subst hx
            simpa [pinned] using hH
          · simpa [pinned, hx] using e
        · have f := o2.fr n x z
          by_cases hx : x = c
          · subst hx
            exact absurd (by simpa [pinned] using f) hH
          · simpa [pinned, hx] using f
    · rw [dpa_len e4] at ij
      exact k _ (i2 ρ' ij) σ' H' (R'.unpin R.rp.ex hH)⟩
/-- xs.insert(i, e) -/
def wIns (i : Nat) (W1 W2 : Rho → (SD → Prop) → Prop) : WG := fun ρ P => ∃ ds, ρ[i]? = some (some (.lst .own ds)) ∧ W1 ρ fun s1 => W2 ρ fun s2 => ∃ n d, s1 = .v (.int (n : Nat)) ∧ s2 = .v d ∧ n ≤ 10000 ∧ few (ds.length + 1) = true ∧ P (.nx (ρ.set i (some (.lst .own (ds.take n ++ [d] ++ ds.drop n)))))
theorem dws_ins (i : Nat) {x : Str} {p apos cpos : Pos} (he : DEW X b e1 ta W1) (he2 : DEW X b e2 tb W2) (hN : X.N[i]? = some x := by rfl) (hv : Vis X.env.scope x := by first | exact Or.inl rfl | exact Or.inr (Or.inl rfl) | exact Or.inr (Or.inr rfl))
    (hbase : attributeBase (.Name x p) "insert" X.env (eval (.Name x p) X.env) = eval (.Name x p) X.env := by rfl)
    (hfew : ((backTo cpos (starEach [e1, e2] X.env)).all (fun x => !x.1) && (backToKw cpos (keywordEach [] X.env)).all (fun x => x.1.isSome)
      && decide (([e1, e2] : List Expr).length + ([] : List Keyword).length + (if ([] : List Keyword).isEmpty then 0 else 1) < 30)) = true := by rfl)
    (hline : (apos.endLine == cpos.line) = true := by rfl) (hs : starEach [e1, e2] X.env = (false, eval e1 X.env) :: starEach [e2] X.env := by rfl) (hs2 : starEach [e2] X.env = (false, eval e2 X.env) :: starEach [] X.env := by rfl) (hplain : (backTo cpos (starEach [e2] X.env)).any (·.1) = false := by rfl)
    (hsw : swapsWith (.Call (.Attribute (.Name x p) "insert" apos) [e1, e2] [] cpos) none pos.line X.env = pure false := by rfl) (hd : (x == ("__debug__" : Str)) = false := by decide) (hcd : (x == ("__classdict__" : Str)) = false := by decide) :
    DWS X b (.Expr (.Call (.Attribute (.Name x p) "insert" apos) [e1, e2] [] cpos) pos) (tDrop (tBM X.K "list" (fun x vs H Q => ∃ (l : Addr) (xs : List V) (i : Int) (y : V), x = .ref l ∧ vs = [.int i, y] ∧ H l = some (.lst xs) ∧ xs.length < sizeLine ∧ 0 ≤ i ∧ i < 2 ^ 63 ∧
      Q .non (upd H l (.lst (xs.take i.toNat ++ [y] ++ xs.drop i.toNat)))) (tVar i) (tCons ta (tCons tb tNil)))) (wIns i W1 W2) :=
  ⟨ps_expr (pe_bm PySem.F.plainAttrs_list PySem.F.slot_list_insert PySem.F.type_list_insert mt_insert (pe_var hN hv hd hcd) (pa_cons he.pe (pa_cons he2.pe pa_nil hs2) hs) hbase hfew hline hs hplain) hsw, fun a q H0 σ H ρ P R ⟨ds, h1, w⟩ D k => by
    obtain ⟨w', hw, c, xs, rfl, ha, hx⟩ := R.rp.val i _ h1
    refine ⟨.ref c, hw, .inl ⟨rfl, xs, SqL.of ha⟩, he.ev a q H0 σ H ρ _ R w _ fun s1 v1 H1 w1 o1 => he2.ev a q H0 σ H1 ρ _ (R.go o1.ex o1.bg) w1 _ fun s2 v2 H2 ⟨n, d, f1, f2, hn, hl, p⟩ o2 => ?_⟩
    subst f1 f2
    have ev1 := tw_i o1.tw
    subst ev1
    have R1 := (R.go o1.ex o1.bg).go o2.ex o2.bg
    obtain ⟨w2, hw2, c2, xs2, e2, ha2, hx2⟩ := R1.rp.val i _ h1
    rw [hw] at hw2
    cases hw2
    cases e2
    refine ⟨c, xs2, (n : Int), v2, rfl, rfl, ha2, Nat.lt_of_succ_le (by rw [dpa_len hx2]; exact few_le hl), by omega, by omega, ?_⟩
    exact k _ p σ _ (R1.mut h1 hw ha2 (dpa_app (dpa_app (dpa_take _ hx2) (.cons o2.tw .nil)) (dpa_drop _ hx2)))⟩
end
end Dn
/-! Drawing, 4: xs[i] = e, comprehensions, rows, tails, defs. -/
namespace Dn
open PySem PySem.Spec L2
open PyProof.Rows (envOfC)
open Evl (Ex Ex.refl Ex.trans Ex.new ex_rd ex_l ex_t fresh_back)
theorem RB.wipe {K : PySem.W.Frag} {a q : Addr} {b : Nat} {H0 H : Hp} {σ : St} {ρ : Rho} (r : RB K a q b H0 σ H ρ) : ∀ vs : List Nat, b ∉ vs → RB K a q b H0 (L2.wipe σ vs) H (wipeR ρ vs) := fun vs hb => by
  have key : ∀ (vs : List Nat) (j : Nat), (wipeR ρ vs)[j]? = if j ∈ vs ∧ j < ρ.length then some none else ρ[j]? := by
    intro vs j
    have gen : ∀ (vs : List Nat), (wipeR ρ vs).length = ρ.length ∧ (wipeR ρ vs)[j]? = if j ∈ vs ∧ j < ρ.length then some none else ρ[j]? := by
      intro vs
      induction vs with
      | nil => simp [wipeR]
      | cons i is ih =>
        obtain ⟨il, ih⟩ := ih
        refine ⟨by simp [wipeR, il], ?_⟩
        show ((wipeR ρ is).set i none)[j]? = _
        by_cases hji : i = j
        · subst hji
          by_cases hl : i < ρ.length
          · rw [List.getElem?_set_self (by rw [il]; exact hl)]
            simp [hl]
          · rw [if_neg (fun z => hl z.2), List.getElem?_eq_none (by simp [il]; omega), List.getElem?_eq_none (by omega)]
        · rw [List.getElem?_set_ne hji, ih]
          have hji' : ¬ j = i := fun z => hji z.symm
          simp [hji']
    exact (gen vs).2
  have hl := r.rp.len
  refine ⟨r.rp.wipe vs, ?_, ?_, r.bg, fun i s v h n e => ?_⟩
  · rw [wipe_get, if_neg (fun z => hb z.1)]
    exact r.sa
  · rw [key, if_neg (fun z => hb z.1)]
    exact r.rb
  · rw [key] at h
    rw [wipe_get] at e
    by_cases hi : i ∈ vs
    · by_cases hlt : i < ρ.length
      · rw [if_pos ⟨hi, hlt⟩] at h
        cases h
      · rw [if_neg (fun z => hlt z.2)] at h
        exact absurd (List.getElem?_eq_some_iff.mp h).1 hlt
    · rw [if_neg (fun z => hi z.1)] at h e
      exact r.sep i s v h n e
theorem ExB.mutN {B : Addr → Prop} {H H' : Hp} {D : Addr} {o : HO} (e : ExB B H H') (h : H D = none) : ExB B H (upd H' D o) := ⟨fun x u nb q => by
  have hx : x ≠ D := fun z => by rw [z, h] at q; cases q
  rw [upd_ne hx]
  exact e.1 x u nb q, fun x q => by
  by_cases hx : x = D
  · rw [hx, upd_same]
    simp
  · rw [upd_ne hx]
    exact e.2 x q⟩
theorem Bg.mut {H : Hp} {a q D : Addr} {o : HO} (g : Bg H a q) (ha : a ≠ D) (hq : q ≠ D) : Bg (upd H D o) a q := by
  obtain ⟨x, y, z, ns, h1, h2, r⟩ := g
  exact ⟨x, y, z, ns, by rw [upd_ne ha]; exact h1, by rw [upd_ne hq]; exact h2, r⟩
section
variable {X : Cx} {b : Nat} {e e1 e2 c : Expr} {es : List Expr} {t ta tb : TE} {tr : TA} {u : TT} {F : Rho → Option SD} {T : Rho → Option Bool} {W W1 W2 : Rho → (SD → Prop) → Prop} {Ws : Rho → (List SD → Prop) → Prop} {pos : Pos} {st : Stmt} {rest : List Stmt} {ts ts' : TS} {G G' : WG}
/-- xs[i] = e -/
def wSub (i : Nat) (W W2 : Rho → (SD → Prop) → Prop) : WG := fun ρ P => ∃ ds, ρ[i]? = some (some (.lst .own ds)) ∧ W ρ fun s => W2 ρ fun s2 => ∃ d k j, s = .v d ∧ s2 = .v (.int k) ∧ ixN ds.length k = some j ∧ P (.nx (ρ.set i (some (.lst .own (ds.set j d)))))
theorem dws_sub (i : Nat) {x : Str} {p p2 : Pos} (he : DEW X b e t W) (he2 : DEW X b e2 tb W2) (hN : X.N[i]? = some x := by rfl) (hv : Vis X.env.scope x := by first | exact Or.inl rfl | exact Or.inr (Or.inl rfl) | exact Or.inr (Or.inr rfl))
    (ha : ∀ v, assign (.Subscript (.Name x p) e2 p2) X.env v = (do
      let ov ← holding [v] (eval (.Name x p) X.env)
      let iv ← holding [v, ov] (eval e2 X.env)
      standAt p2
      holding [v, ov, iv] (setItem ov iv v)
      release [v, ov, iv] []) := by intro _; rfl) (hd : (x == ("__debug__" : Str)) = false := by decide) (hcd : (x == ("__classdict__" : Str)) = false := by decide)
    (hs : swapsWithSole [.Subscript (.Name x p) e2 p2] e pos.line X.env = pure false := by rfl) (hw : swappedStores [.Subscript (.Name x p) e2 p2] e X.env = pure none := by rfl)
    (h1 : (assignEach [.Subscript (.Name x p) e2 p2] X.env).map (·.2) = [assign (.Subscript (.Name x p) e2 p2) X.env] := by rfl) :
    DWS X b (.Assign [.Subscript (.Name x p) e2 p2] e pos) (tAsg t (gSub (tVar i) tb rSetL)) (wSub i W W2) :=
  ⟨ps_asg he.pe (pg_sub (pe_var hN hv hd hcd) he2.pe set_list ha) hs hw h1, fun a q H0 σ H ρ P R ⟨ds, g1, w⟩ D k => by
    obtain ⟨w0, hσ, _⟩ := R.rp.val i _ g1
    refine he.ev a q H0 σ H ρ _ R w _ fun s v H1 w1 o1 => ?_
    have R1 := R.go o1.ex o1.bg
    refine ⟨w0, hσ, he2.ev a q H0 σ H1 ρ _ R1 w1 _ fun s2 v2 H2 ⟨d, kk, j, g2, g3, g4, p⟩ o2 => ?_⟩
    subst g2 g3
    have ev2 := tw_i o2.tw
    subst ev2
    have R2 := R1.go o2.ex o2.bg
    obtain ⟨w2, hw2, c2, xs2, ec, ha2, hx2⟩ := R2.rp.val i _ g1
    rw [hσ] at hw2
    cases hw2
    subst ec
    have dv : Dq X.K H2 v d := tw_exb (s := .v d) o1.bg o2.ex o1.tw o1.nb
    exact ⟨c2, xs2, kk, j, rfl, rfl, ha2, by rw [dpa_len hx2]; exact g4, k _ p σ _ (R2.mut g1 hσ ha2 (dpa_set dv j hx2))⟩⟩
/-- y = [e for x in range(n)], on one line -/
def wLcR (i j : Nat) (F : Rho → Option SD) (W : Rho → (SD → Prop) → Prop) : WG := fun ρ P => ∃ n : Nat, F ρ = some (.v (.int n)) ∧ n ≤ 10000 ∧ ∃ R : D → Prop, (∀ k : Nat, k < n → W ((wipeR ρ [j]).set j (some (.v (.int k)))) fun s => ∃ d, s = .v d ∧ R d) ∧ ∀ ds, ds.length = n → (∀ d ∈ ds, R d) → P (.nx (ρ.set i (some (.lst .own ds))))
theorem dws_lcR (i j : Nat) {y z : Str} {py spos p1 p2 pz : Pos} {elt n : Expr} {scope : Scope} (hc : X.calm = true) (hN : X.N.Nodup) (hm : X.mg "range" = none) (ok : BlkOk X.N X.env.scope scope [(z, j)]) (hi : DE X n t F)
    (hg : ∀ (s : Shared) (H : Hp) (C : Addr) (cl : List (Str × Addr)) (fp : List Addr), PG (X.blk s H scope (compEnvC scope cl C X.env) fp) (.Name z pz) (gName j))
    (he : ∀ (s : Shared) (H : Hp) (C : Addr) (cl : List (Str × Addr)) (fp : List Addr), DEW (X.blk s H scope (compEnvC scope cl C X.env) fp) b elt tb W) (s0 : Shared) (hib : i ≠ b := by decide) (hjb : j ≠ b := by decide) (hgr : Gl X "range" := by rfl)
    (hs : starEach [n] X.env = [(false, eval n X.env)] := by rfl) (hs2 : ∀ x, foldedSetIterable (.Call (.Name "range" p1) [n] [] p2) X.env x = pure x := by intro _; rfl)
    (hy : X.N[i]? = some y := by rfl) (hyl : X.env.scope.names.lookup y = some .local := by rfl) (hsw : swapsWith (.ListComp elt [⟨.Name z pz, .Call (.Name "range" p1) [n] [] p2, [], 0⟩] scope pos) (some (.Name y py)) spos.line X.env = pure true := by exact sw_true rfl rfl rfl (by decide +kernel)) :
    DWS X b (.Assign [.Name y py] (.ListComp elt [⟨.Name z pz, .Call (.Name "range" p1) [n] [] p2, [], 0⟩] scope pos) spos) (tAsg (tLc (iRng1 (tCons t tNil)) (gName j) tYes tb [j]) (gName i)) (wLcR i j F W) :=
  ⟨ps_setLc (own := [(z, j)]) hc hN hy hyl hsw (pi_range1 hgr hm (pa_cons hi.pe pa_nil hs) hs) ok hg (fun s H C cl fp => pts_nil) (fun s H C cl fp => (he s H C cl fp).pe) hs2, fun a q H0 σ H ρ P R ⟨m, ef, hm, Rd, w1, w2⟩ D k => by
    have evE : EvW X.K b tb W := (he s0 H 0 [] []).ev
    refine hi.ev _ H0 σ H ρ _ R.rp ef _ fun y H1 x1 t1 _ => ?_
    have ey := tw_i t1
    subst ey
    have R1 := R.mono x1
    refine ⟨(m : Int), rfl, by omega, by omega, fun A hA => ?_⟩
    have aA : a ≠ A := fun z => R1.bg.ta (by rw [z]; exact hA)
    have qA : q ≠ A := fun z => R1.bg.tq (by rw [z]; exact hA)
    refine lc_range (lo := 0) (n := (m : Int).toNat) (fun i H' => ExB (At1 a) H1 H' ∧ Bg H' a q ∧ ∃ acc ds, H' A = some (.lst acc) ∧ DqAll X.K H' acc ds ∧ ds.length = i ∧ ∀ d ∈ ds, Rd d)
      ⟨.of (Ex.new hA), R1.bg.ex (Ex.new hA), [], [], upd_same, .nil, rfl, fun d hd => by simp at hd⟩ (fun i H' hi h => ?_) (fun H' h => ?_)
    · obtain ⟨x2, g2, acc, ds, h1, h2, h3, h4⟩ := h
      have hi : i < m := by simpa using hi
      have ez : (0 : Int) + (i : Int) = (i : Int) := Int.zero_add _
      rw [ez]
      have R2 := (R1.go x2 g2).wipe [j] (by simpa using fun z => hjb z.symm)
      have R3 := R2.putI j hjb (.int (i : Int)) (.int (i : Int)) (.int _)
      refine ⟨(wipe_set (by simp)).trans (wipe_wipe σ [j]), ?_⟩
      show tb _ H' _
      refine evE a q H0 _ H' _ _ R3 (w1 i hi) _ fun s v H4 ⟨d, es, rd⟩ o => ?_
      subst es
      have hA4 : H4 A = some (.lst acc) := o.ex.1 A _ (fun z => aA z.symm) h1
      have tu : Tu X.K H4 (upd H4 A (.lst (acc ++ [v]))) := tu_upd (lst_ntup hA4)
      refine ⟨acc, hA4, by rw [dpa_len h2, h3]; exact Nat.lt_of_lt_of_le hi (Nat.le_trans hm (by decide)), (x2.trans o.ex).mutN hA, o.bg.mut aA qA, acc ++ [v], ds ++ [d], upd_same, dpa_app (dpAll_tu tu (dpAll_tu (exb_tu g2 o.ex) h2)) (.cons (dp_tu tu o.tw) .nil), by simp [h3], fun d' hd => ?_⟩
      rcases List.mem_append.mp hd with hd | hd
      · exact h4 d' hd
      · have : d' = d := by simpa using hd
        rw [this]
        exact rd
    · obtain ⟨x2, g2, acc, ds, h1, h2, h3, h4⟩ := h
      have h3 : ds.length = m := by simpa using h3
      refine k _ (w2 ds h3 h4) _ H' (R.put (s := .lst .new ds) ⟨(ExB.of x1).trans x2, g2, ⟨A, acc, rfl, h1, h2⟩, fun _ => ⟨fun z => aA (by cases z; rfl), fun z => qA (by cases z; rfl)⟩, fun _ a' ea => by
        cases ea
        exact fresh_back x1 hA⟩ rfl i hib)⟩
/-- a row of values into names -/
theorem setMany_at {b : Nat} : ∀ {is : List Nat} {ss : List SD} {ρ ρ' : Rho}, b ∉ is → Dn.setMany ρ is ss = some ρ' → ρ'[b]? = ρ[b]?
  | [], [], ρ, ρ', _, h => by
    have e := Option.some.inj h
    rw [e]
  | [], _ :: _, _, _, _, h => by cases h
  | _ :: _, [], _, _, _, h => by cases h
  | i :: is, s :: ss, ρ, ρ', hb, h => by
    have h : (s.keep.bind fun s' => Dn.setMany (ρ.set i (some s')) is ss) = some ρ' := h
    obtain ⟨s', _, h⟩ := Option.bind_eq_some_iff.mp h
    have ib : i ≠ b := fun z => hb (by rw [z]; exact List.mem_cons_self)
    rw [setMany_at (fun z => hb (List.mem_cons_of_mem _ z)) h, List.getElem?_set_ne ib]
theorem setV_at {b : Nat} : ∀ {is : List Nat} {vs : List V} {σ : L2.St}, b ∉ is → (setV σ is vs)[b]? = σ[b]?
  | [], _, _, _ => by simp [setV]
  | _ :: _, [], _, _ => by simp [setV]
  | i :: is, v :: vs, σ, hb => by
    have ib : i ≠ b := fun z => hb (by rw [z]; exact List.mem_cons_self)
    show (setV (σ.set i (some v)) is vs)[b]? = _
    rw [setV_at (fun z => hb (List.mem_cons_of_mem _ z)), List.getElem?_set_ne ib]
theorem setMany_nb {a q : Addr} : ∀ {is : List Nat} {vs : List V} {ss : List SD} {σ : L2.St} {ρ ρ' : Rho}, σ.length = ρ.length → vs.length = ss.length → (∀ (i : Nat) s v, ρ[i]? = some (some s) → s.own ≠ none → σ[i]? = some (some v) → NB a q v) → (∀ p ∈ ss.zip vs, p.1.own ≠ none → NB a q p.2) →
    Dn.setMany ρ is ss = some ρ' → ∀ (i : Nat) s v, ρ'[i]? = some (some s) → s.own ≠ none → (setV σ is vs)[i]? = some (some v) → NB a q v
  | [], _, [], σ, ρ, ρ', _, _, h1, _, h => by
    have e := Option.some.inj h
    rw [← e]
    simpa [setV] using h1
  | [], _, _ :: _, _, _, _, _, _, _, _, h => by cases h
  | _ :: _, _, [], _, _, _, _, _, _, _, h => by cases h
  | _ :: _, [], _ :: _, _, _, _, _, hl, _, _, _ => by cases hl
  | i :: is, v :: vs, s :: ss, σ, ρ, ρ', hlen, hl, h1, h2, h => by
    have h : (s.keep.bind fun s' => Dn.setMany (ρ.set i (some s')) is ss) = some ρ' := h
    obtain ⟨s', ks, h⟩ := Option.bind_eq_some_iff.mp h
    refine setMany_nb (σ := σ.set i (some v)) (by simp [hlen]) (by simpa using hl) (fun j x w e n f => ?_) (fun p hp => h2 p (by simp [hp])) h
    by_cases hj : i = j
    · subst hj
      have hi : i < ρ.length := by
        have := (List.getElem?_eq_some_iff.mp e).1
        simpa using this
      rw [List.getElem?_set_self hi] at e
      rw [List.getElem?_set_self (by rw [hlen]; exact hi)] at f
      cases e
      cases f
      exact h2 (s, v) (by simp) (fun z => by
        have := (keep_new ks).2.2 n
        rw [SD.isNew, z] at this
        cases this)
    · rw [List.getElem?_set_ne hj] at e f
      exact h1 j x w e n f
theorem RB.row {K : PySem.W.Frag} {a q : Addr} {H0 H H' : Hp} {is : List Nat} {vs : List V} {ss : List SD} {σ : L2.St} {ρ ρ' : Rho} (R : RB K a q b H0 σ H ρ) (o : OkVs K a q H H' vs ss) (hb : b ∉ is) (e : Dn.setMany ρ is ss = some ρ') : RB K a q b H0 (setV σ is vs) H' ρ' := by
  have R1 := R.go o.ex o.bg
  refine ⟨Rp.setMany R1.rp (fun v s hz n a' ea => ?_) o.tw (fun _ _ => trivial) (fr_pw o.fr) e, by rw [setV_at hb]; exact R.sa, by rw [setMany_at hb e]; exact R.rb, o.bg, setMany_nb R.rp.len (twa_len o.tw) R.sep o.nb e⟩
  have free : H a' = none := fr_zip o.fr (s, v) hz n a' ea
  refine ⟨R.rp.ex.free free, fun j t' h ow c => ?_⟩
  obtain ⟨w, e1, e2⟩ := R.rp.val j t' h
  rw [c] at e1
  cases e1
  obtain ⟨a2, ea', na⟩ := tw_taken e2 ow
  cases ea'
  exact na free
def wRow (is : List Nat) (Ws : Rho → (List SD → Prop) → Prop) : WG := fun ρ P => Ws ρ fun ss => ∃ ρ', Dn.setMany ρ is ss = some ρ' ∧ P (.nx ρ')
theorem dws_par3 (i j l : Nat) {x y z : Str} {f g h : Expr} {px py pz pt : Pos} {kt k2 : Nat} {pt2 : Pos} (hc : X.calm = true) (hN : X.N.Nodup) (ha : DAW X b [f, g, h] tr Ws) (hb : b ∉ [i, j, l] := by decide) (hi : X.N[i]? = some x := by rfl) (hj : X.N[j]? = some y := by rfl) (hl : X.N[l]? = some z := by rfl) (hij : i ≠ j := by decide) (hil : i ≠ l := by decide) (hjl : j ≠ l := by decide)
    (hx : X.env.scope.names.lookup x = some .local := by rfl) (hy : X.env.scope.names.lookup y = some .local := by rfl) (hz : X.env.scope.names.lookup z = some .local := by rfl)
    (hw : swappedStores [.Tuple [.Name x px, .Name y py, .Name z pz] kt pt] (.Tuple [f, g, h] k2 pt2) X.env = pure (some [x, y, z]) := by rfl)
    (hs : swapsWithSole [.Tuple [.Name x px, .Name y py, .Name z pz] kt pt] (.Tuple [f, g, h] k2 pt2) pos.line X.env = pure false := by rfl) :
    DWS X b (.Assign [.Tuple [.Name x px, .Name y py, .Name z pz] kt pt] (.Tuple [f, g, h] k2 pt2) pos) (tPar3 i j l tr) (wRow [i, j, l] Ws) := ⟨ps_par3 hc hN hi hj hl hij hil hjl hx hy hz ha.pa hw hs, fun a q H0 σ H ρ P R w D k => by
  refine ha.ev a q H0 σ H ρ _ R w _ fun ss vs H' ⟨ρ', e, p⟩ o => ?_
  have R' := R.row o hb e
  have hlen := setMany_len e
  have hv := twa_len o.tw
  match vs, hv.trans hlen.symm, R' with
  | [v1, v2, v3], _, R' => exact ⟨v1, v2, v3, rfl, k _ p _ H' R'⟩⟩
/-- behind the last draw: plain statements that give a value -/
def wTail (G : Rho → Option Out) : WG := fun ρ P => ∃ s, G (ρ.map fun o => o.map SD.bor) = some (.rt s) ∧ s.fin = true ∧ P (.rt s)
theorem rp_bor {K : PySem.W.Frag} {B B' : Addr → Prop} {H0 H : Hp} {σ : L2.St} {ρ : Rho} (r : Rp K B H0 σ H ρ) : Rp K B' H σ H (ρ.map fun o => o.map SD.bor) := by
  have get : ∀ {i : Nat} {s : SD}, (ρ.map fun o => o.map SD.bor)[i]? = some (some s) → ∃ t, ρ[i]? = some (some t) ∧ s = t.bor := by
    intro i s h
    rw [List.getElem?_map] at h
    cases e : ρ[i]? with
    | none => rw [e] at h; cases h
    | some x =>
      rw [e] at h
      cases x with
      | none => cases h
      | some t => exact ⟨t, rfl, (Option.some.inj (Option.some.inj h)).symm⟩
  refine ⟨ExB.refl _ _, fun i s h => ?_, fun i s h => ?_, fun i s a h o => ?_, fun i j s t a h o => ?_, by simp [r.len]⟩
  · obtain ⟨t, h1, rfl⟩ := get h
    obtain ⟨v, e1, e2⟩ := r.val i t h1
    exact ⟨v, e1, tw_bor e2⟩
  · obtain ⟨t, h1, rfl⟩ := get h
    exact bor_new t
  · obtain ⟨t, h1, rfl⟩ := get h
    exact absurd o (bor_own t)
  · obtain ⟨t, h1, rfl⟩ := get h
    exact absurd o (bor_own t)
theorem dws_tail {G : Rho → Option Out} (h : DSs X rest ts G) : DWSs X b rest ts (wTail G) := ⟨h.ps, fun a q H0 σ H ρ P R ⟨s, e, fs, p⟩ D k => by
  refine h.ev (fun _ => False) H σ H _ _ (rp_bor R.rp) e D ?_
  show ∀ v H', ExB (fun _ => False) H H' → Tw X.K H' v s → Fr0 H v s → D.rt v H'
  intro v H' x t f
  have ex : Ex H H' := fun a o h => x.1 a o (fun z => z) h
  exact k _ p v H' ⟨R.rp.ex.trans (.of ex), R.bg.ex ex, t, fun n => R.bg.nb (f (fin_new fs n)), fun n y z => R.rp.ex.free (f n y z)⟩⟩
end
end Dn
/-! Drawing, 5: defs that take a bag. -/
namespace Dn
open PySem PySem.Spec L2
open PyProof.Rows (envOfC)
open Evl (Ex Ex.refl Ex.trans Ex.new ex_rd ex_l ex_t fresh_back)
def wRun (n m : Nat) (G : WG) : List SD → (SD → Prop) → Prop := fun args Post => args.length + 1 = m ∧ G (none :: (args.map some ++ List.replicate (n - m) none)) fun o => match o with
  | .rt s => s.fin = true ∧ Post s
  | .nx _ => Post (.v .non)
  | _ => False
theorem rb_start {K : PySem.W.Frag} {H : Hp} {a q : Addr} {vs : List V} {ss : List SD} {N : List Str} {m : Nat} (g : Bg H a q) (t : TwAll K H vs ss) (nb : ∀ p ∈ ss.zip vs, p.1.own ≠ none → NB a q p.2) (hm : ss.length + 1 = m) (hmn : m ≤ N.length) :
    RB K a q 0 H (L2.start N (.ref a :: vs)) H (none :: ((ss.map SD.bor).map some ++ List.replicate (N.length - m) none)) := by
  have hv := twa_len t
  have est : L2.start N (.ref a :: vs) = some (.ref a) :: (vs.map some ++ List.replicate (N.length - m) none) := by
    unfold L2.start
    simp only [List.map_cons, List.cons_append, List.length_cons]
    rw [show N.length - (vs.length + 1) = N.length - m by omega]
  have get : ∀ {i : Nat} {s : SD}, (none :: ((ss.map SD.bor).map some ++ List.replicate (N.length - m) none))[i]? = some (some s) → ∃ j t', i = j + 1 ∧ ss[j]? = some t' ∧ s = t'.bor := by
    intro i s h
    cases i with
    | zero => cases h
    | succ j =>
      have h : ((ss.map SD.bor).map some ++ List.replicate (N.length - m) none)[j]? = some (some s) := h
      by_cases hi : j < ss.length
      · rw [List.getElem?_append_left (by simpa using hi), List.getElem?_map, List.getElem?_map, List.getElem?_eq_getElem hi] at h
        have h2 : ss[j].bor = s := Option.some.inj (Option.some.inj h)
        exact ⟨j, ss[j], rfl, List.getElem?_eq_getElem hi, h2.symm⟩
      · rw [List.getElem?_append_right (by simpa using hi), List.getElem?_replicate] at h
        split at h <;> cases h
  have val : ∀ {j : Nat} {t' : SD}, ss[j]? = some t' → ∃ v, (L2.start N (.ref a :: vs))[j + 1]? = some (some v) ∧ Tw K H v t' ∧ vs[j]? = some v := by
    intro j t' h
    obtain ⟨v, e, tw⟩ := TwAll.get t h
    have hj : j < vs.length := (List.getElem?_eq_some_iff.mp e).1
    refine ⟨v, ?_, tw, e⟩
    rw [est]
    show (vs.map some ++ List.replicate (N.length - m) none)[j]? = _
    rw [List.getElem?_append_left (by simpa using hj), List.getElem?_map, e]
    rfl
  refine ⟨⟨ExB.refl _ _, fun i s h => ?_, fun i s h => ?_, fun i s x h o => ?_, fun i j s t' x h o => ?_, ?_⟩, by rw [est]; rfl, rfl, g, fun i s v h n e => ?_⟩
  · obtain ⟨j, t', rfl, h1, rfl⟩ := get h
    obtain ⟨v, e1, e2, _⟩ := val h1
    exact ⟨v, e1, tw_bor e2⟩
  · obtain ⟨j, t', rfl, h1, rfl⟩ := get h
    exact bor_new t'
  · obtain ⟨j, t', rfl, h1, rfl⟩ := get h
    exact absurd o (bor_own t')
  · obtain ⟨j, t', rfl, h1, rfl⟩ := get h
    exact absurd o (bor_own t')
  · rw [est]
    simp only [List.length_cons, List.length_append, List.length_map, List.length_replicate]
    omega
  · obtain ⟨j, t', rfl, h1, rfl⟩ := get h
    obtain ⟨v', e1, e2, e3⟩ := val h1
    rw [e1] at e
    cases e
    have hz : (t', v) ∈ ss.zip vs := by
      have : (ss.zip vs)[j]? = some (t', v) := by
        rw [List.getElem?_zip_eq_some]
        exact ⟨h1, e3⟩
      exact List.mem_of_getElem? this
    refine nb _ hz fun z => n ?_
    show t'.bor.own = none
    cases t' <;> simp [SD.own, SD.bor] at z ⊢
section
variable {P : Program} {w : World} {K : PySem.W.Frag} {mg : Str → Option Value} {base : Heap}
theorem okW_of {x qual : Str} {st : Stmt} {f : Addr} {fd : FuncData} {N ps : List Str} {k : Nat} {G : WG} (Fn : Fun K x qual st f fd) (S : FnScope N ps (defScope st)) (hl : ps.length ≤ N.length)
    (hbody : ∀ (cdv : Value) (A : Around) (outer : List Env) (s : Shared) (H : Hp) (E : XK), Room k (A.deeper (envOfC qual (defScope st) s.heap.objs.size f cdv)) → ∃ t, DWSs (cxOf CX0 P w K mg base N qual (defScope st) f cdv A outer s H E).nox 0 (defBody st) t G) :
    FnOk P w K mg base CX0 (k + 1) f fd ps (SpW K (wRun N.length ps.length G)) := by
  refine Fn.ok S (fun vs H Q E h => ?_) (fun cdv A outer s H vs Q E hr h => ?_)
  · obtain ⟨a, q, vs', ss, Po, rfl, g, t, nb, ⟨hm, _⟩, _⟩ := h
    rw [List.length_cons, twa_len t]
    simpa using hm
  · obtain ⟨a, q, vs', ss, Po, rfl, g, t, nb, ⟨hm, hG⟩, kk⟩ := h
    obtain ⟨t1, h1⟩ := hbody cdv A outer s H E hr
    refine ⟨t1, h1.ps, ?_⟩
    refine h1.ev a q H _ H _ _ (rb_start g t nb (by simpa using hm) hl) hG _ fun o p => ?_
    cases o with
    | nx ρ => exact fun σ' H' R => kk _ .non H' p ⟨R.rp.ex, R.bg, .non, fun n => absurd rfl n, fr_v⟩
    | rt s1 => exact fun v H' o => kk _ v H' p.2 o
    | bk ρ => exact p.elim
    | ct ρ => exact p.elim
theorem FW.mk' {x qual : Str} {st : Stmt} {f : Addr} {fd : FuncData} {ps : List Str} {k : Nat} {W : List SD → (SD → Prop) → Prop} (Fn : Fun K x qual st f fd) (hm : mg x = some (.ref f)) (b : Binds K fd ps []) (ok : FnOk P w K mg base CX0 k f fd ps (SpW K W)) : FW P w K mg base k x ps W := ⟨f, fd, hm, Fn.kp, b, ok⟩
end
section
variable {X : Cx} {b : Nat} {e : Expr} {es : List Expr} {tr : TA} {Ws : Rho → (List SD → Prop) → Prop} {pos : Pos}
theorem dw_callK {x y : Str} {ps : List Str} {k j : Nat} {Wf : List SD → (SD → Prop) → Prop} {p p2 : Pos} (K : PySem.W.Frag) (hK : X.K = K) (D : FW X.prog X.w K X.mg X.base k x ps Wf) (hr : Room j X.A) (ha : DAW X b es tr Ws) (hk : k ≤ j := by decide) (hg : Gl X x := by rfl) (hdb : (x == ("__debug__" : Str)) = false := by decide)
    (hN : X.N[b]? = some y := by rfl) (hv : Vis X.env.scope y := by first | exact Or.inl rfl | exact Or.inr (Or.inl rfl) | exact Or.inr (Or.inr rfl)) (hd : (y == ("__debug__" : Str)) = false := by decide) (hcd : (y == ("__classdict__" : Str)) = false := by decide)
    (hs : starEach (.Name y p2 :: es) X.env = (false, eval (.Name y p2) X.env) :: starEach es X.env := by rfl) (hpl : (backTo pos (starEach es X.env)).any (·.1) = false := by rfl) :
    DEW X b (.Call (.Name x p) (.Name y p2 :: es) [] pos) (tCall (SpW K Wf) [] E0 (tCons (tVar b) tr)) (wCall Wf Ws) := by
  subst hK
  exact dw_call D hr ha hk hg hdb hN hv hd hcd hs hpl
end
end Dn
namespace K9
open PySem L2 Dn
def top (i : Nat) : Stmt := PySem.Challenge.pw_listwright_k09_whole_single_instructions.main.body.getD i (.Pass ⟨0, 0, 0, 0⟩)
structure Txt (mg : Str → Option Value) : Prop where
  len : mg "len" = none
  tuple : mg "tuple" = none
  list : mg "list" = none
  dict : mg "dict" = none
  sorted : mg "sorted" = none
  max : mg "max" = none
  range : mg "range" = none
section
variable {P : Program} {w : World} {K : PySem.W.Frag} {mg : Str → Option Value} {base : Heap}
abbrev s_entered : Stmt := top 7
abbrev N_entered : List Str := ["functions", "number", "words", "into"]
abbrev P_entered : List Str := ["functions", "number", "words", "into"]
theorem sc_entered : FnScope N_entered P_entered (defScope s_entered) := ⟨rfl, rfl, rfl, by decide +kernel, rfl, by decide +kernel, by decide +kernel⟩
def F_entered : List SD → Option SD := fRun 4 4 ((fRetE (fTup (fCons (fVar 1) (fCons (fC (.int 0)) (fCons (fTwo gAdd (fVar 2) (fTwo gMul (fTup (fCons (fC (.int 0)) fNil)) (fTwo gSub2 (fTwo gIx (fTwo gIx (fVar 0) (fVar 1)) (fC (.int 1))) (fOne gLen (fVar 2))))) (fCons (fVar 3) fNil)))))))
theorem ok_entered {f : Addr} {fd : FuncData} (Fn : Fun K "entered" "entered" s_entered f fd) (T : Txt mg) : FnOk P w K mg base CX0 1 f fd P_entered (SpD K F_entered) := by
  refine ok_of Fn sc_entered (by decide) fun cdv A outer s H E hr => ?_
  have hu := hu_of hr
  exact ⟨_, (dss_one (ds_ret (de_tup (das_cons (dv 1) (das_cons de_int (das_cons (de_op op_addD (dv 2) (de_op op_mulD (de_tup (das_cons de_int das_nil)) (de_op op_subD (de_ix (de_ix (dv 0) (dv 1)) de_int) (de_len T.len (dv 2))))) (das_cons (dv 3) das_nil)))))))⟩
abbrev s_is_ended : Stmt := top 8
abbrev N_is_ended : List Str := ["stand"]
abbrev P_is_ended : List Str := ["stand"]
theorem sc_is_ended : FnScope N_is_ended P_is_ended (defScope s_is_ended) := ⟨rfl, rfl, rfl, by decide +kernel, rfl, by decide +kernel, by decide +kernel⟩
def F_is_ended : List SD → Option SD := fRun 1 1 ((fRetE (fTwo (gEq false) (fTwo gIx (fTwo gIx (fTwo gIx (fVar 0) (fC (.int 0))) (fC (.int 0))) (fC (.int 0))) (fOne gNeg (fC (.int 1))))))
theorem ok_is_ended {f : Addr} {fd : FuncData} (Fn : Fun K "is_ended" "is_ended" s_is_ended f fd) (T : Txt mg) : FnOk P w K mg base CX0 1 f fd P_is_ended (SpD K F_is_ended) := by
  refine ok_of Fn sc_is_ended (by decide) fun cdv A outer s H E hr => ?_
  have hu := hu_of hr
  exact ⟨_, (dss_one (ds_ret (de_cmp op_eqS (de_ix (de_ix (de_ix (dv 0) de_int) de_int) de_int) (de_neg de_int))))⟩
abbrev s_instruction_at : Stmt := top 9
abbrev N_instruction_at : List Str := ["functions", "stand", "number", "index"]
abbrev P_instruction_at : List Str := ["functions", "stand"]
theorem sc_instruction_at : FnScope N_instruction_at P_instruction_at (defScope s_instruction_at) := ⟨rfl, rfl, rfl, by decide +kernel, rfl, by decide +kernel, by decide +kernel⟩
def F_instruction_at : List SD → Option SD := fRun 4 2 ((fSeq (fIfS (fTest (fCall F_is_ended (fCons (fVar 1) fNil))) (fun _ => none) (fun ρ => some (.nx ρ)))
    (fSeq (fAsg (fSl (fTwo gIx (fTwo gIx (fVar 1) (fC (.int 0))) (fOne gNeg (fC (.int 1)))) (fun _ => some none) (fun ρ => ((fC (.int 2)) ρ).bind fun s => s.int?.map some)) (hTup 2 (hCons (hName 2) (hCons (hName 3) hNil))))
    (fRetE (fTwo gIx (fTwo gIx (fTwo gIx (fVar 0) (fVar 2)) (fC (.int 2))) (fVar 3))))))
theorem ok_instruction_at {f : Addr} {fd : FuncData} (Fn : Fun K "instruction_at" "instruction_at" s_instruction_at f fd) (T : Txt mg) (D_is_ended : FD P w K mg base 1 "is_ended" P_is_ended F_is_ended) : FnOk P w K mg base CX0 2 f fd P_instruction_at (SpD K F_instruction_at) := by
  refine ok_of Fn sc_instruction_at (by decide) fun cdv A outer s H E hr => ?_
  have hu := hu_of hr
  exact ⟨_, (dss_cons (ds_if (dt_val (de_call D_is_ended hr (das_cons (dv 1) das_nil))) (dss_one ds_never) dss_nil)
      (dss_cons (ds_asg (de_sl (de_ix (de_ix (dv 1) de_int) (de_neg de_int)) do_none (do_some de_int)) (dg_tup rfl (dgs_cons (dg_name 2 sc_instruction_at.nd) (dgs_cons (dg_name 3 sc_instruction_at.nd) dgs_nil))))
      (dss_one (ds_ret (de_ix (de_ix (de_ix (dv 0) (dv 2)) de_int) (dv 3))))))⟩
abbrev s_asked_by : Stmt := top 10
abbrev N_asked_by : List Str := ["functions", "stand", "one", "registers"]
abbrev P_asked_by : List Str := ["functions", "stand"]
theorem sc_asked_by : FnScope N_asked_by P_asked_by (defScope s_asked_by) := ⟨rfl, rfl, rfl, by decide +kernel, rfl, by decide +kernel, by decide +kernel⟩
def F_asked_by : List SD → Option SD := fRun 4 2 ((fSeq (fRow [2, 3] (fCons (fCall F_instruction_at (fCons (fVar 0) (fCons (fVar 1) fNil))) (fCons (fTwo gIx (fTwo gIx (fTwo gIx (fVar 1) (fC (.int 0))) (fOne gNeg (fC (.int 1)))) (fC (.int 2))) fNil)))
    (fSeq (fIfS (fTest (fTwo (gEq false) (fTwo gIx (fVar 2) (fC (.int 0))) (fC (.str "load")))) (fRetE (fTwo gIx (fVar 3) (fTwo gIx (fVar 2) (fC (.int 2))))) (fun ρ => some (.nx ρ)))
    (fRetE (fIf (fTest (fTwo (gIn false) (fTwo gIx (fVar 2) (fC (.int 0))) (fTup (fCons (fC (.str "store")) (fCons (fC (.str "clear")) (fCons (fC (.str "release")) fNil)))))) (fTwo gIx (fVar 3) (fTwo gIx (fVar 2) (fC (.int 1)))) (fC .non))))))
theorem ok_asked_by {f : Addr} {fd : FuncData} (Fn : Fun K "asked_by" "asked_by" s_asked_by f fd) (T : Txt mg) (D_instruction_at : FD P w K mg base 2 "instruction_at" P_instruction_at F_instruction_at) : FnOk P w K mg base CX0 3 f fd P_asked_by (SpD K F_asked_by) := by
  refine ok_of Fn sc_asked_by (by decide) fun cdv A outer s H E hr => ?_
  have hu := hu_of hr
  exact ⟨_, (dss_cons (ds_par 2 3 rfl sc_asked_by.nd (das_cons (de_call D_instruction_at hr (das_cons (dv 0) (das_cons (dv 1) das_nil))) (das_cons (de_ix (de_ix (de_ix (dv 1) de_int) (de_neg de_int)) de_int) das_nil)))
      (dss_cons (ds_if (dt_cmp op_eqS (de_ix (dv 2) de_int) de_str) (dss_one (ds_ret (de_ix (dv 3) (de_ix (dv 2) de_int)))) dss_nil)
      (dss_one (ds_ret (de_if (dt_cmp op_inD (de_ix (dv 2) de_int) (de_tup (das_cons de_str (das_cons de_str (das_cons de_str das_nil))))) (de_ix (dv 3) (de_ix (dv 2) de_int)) de_non)))))⟩
abbrev s_with_register : Stmt := top 11
abbrev N_with_register : List Str := ["stand", "r", "word", "number", "index", "registers", "into", "row"]
abbrev P_with_register : List Str := ["stand", "r", "word"]
theorem sc_with_register : FnScope N_with_register P_with_register (defScope s_with_register) := ⟨rfl, rfl, rfl, by decide +kernel, rfl, by decide +kernel, by decide +kernel⟩
def F_with_register : List SD → Option SD := fRun 8 3 ((fSeq (fAsg (fTwo gIx (fTwo gIx (fVar 0) (fC (.int 0))) (fOne gNeg (fC (.int 1)))) (hTup 4 (hCons (hName 3) (hCons (hName 4) (hCons (hName 5) (hCons (hName 6) hNil))))))
    (fSeq (fSet 7 (fIf (fTest (fTwo (gIs false) (fVar 1) (fC .non))) (fVar 5) (fTup (fStar (fSl (fVar 5) (fun _ => some none) (fun ρ => ((fVar 1) ρ).bind fun s => s.int?.map some)) (fCons (fVar 2) (fStar (fSl (fVar 5) (fun ρ => ((fTwo gAdd (fVar 1) (fC (.int 1))) ρ).bind fun s => s.int?.map some) (fun _ => some none)) fNil))))))
    (fRetE (fTup (fCons (fTup (fStar (fSl (fTwo gIx (fVar 0) (fC (.int 0))) (fun _ => some none) (fun ρ => ((fOne gNeg (fC (.int 1))) ρ).bind fun s => s.int?.map some)) (fCons (fTup (fCons (fVar 3) (fCons (fTwo gAdd (fVar 4) (fC (.int 1))) (fCons (fVar 7) (fCons (fVar 6) fNil))))) fNil))) (fStar (fSl (fVar 0) (fun ρ => ((fC (.int 1)) ρ).bind fun s => s.int?.map some) (fun _ => some none)) fNil)))))))
theorem ok_with_register {f : Addr} {fd : FuncData} (Fn : Fun K "with_register" "with_register" s_with_register f fd) (T : Txt mg) : FnOk P w K mg base CX0 1 f fd P_with_register (SpD K F_with_register) := by
  refine ok_of Fn sc_with_register (by decide) fun cdv A outer s H E hr => ?_
  have hu := hu_of hr
  exact ⟨_, (dss_cons (ds_asg (de_ix (de_ix (dv 0) de_int) (de_neg de_int)) (dg_tup rfl (dgs_cons (dg_name 3 sc_with_register.nd) (dgs_cons (dg_name 4 sc_with_register.nd) (dgs_cons (dg_name 5 sc_with_register.nd) (dgs_cons (dg_name 6 sc_with_register.nd) dgs_nil))))))
      (dss_cons (ds_set 7 (de_if (dt_cmp op_isD (dv 1) de_non) (dv 5) (de_tup (das_star (de_sl (dv 5) do_none (do_some (dv 1))) (das_cons (dv 2) (das_star (de_sl (dv 5) (do_some (de_op op_addD (dv 1) de_int)) do_none) das_nil))))) sc_with_register.nd)
      (dss_one (ds_ret (de_tup (das_cons (de_tup (das_star (de_sl (de_ix (dv 0) de_int) do_none (do_some (de_neg de_int))) (das_cons (de_tup (das_cons (dv 3) (das_cons (de_op op_addD (dv 4) de_int) (das_cons (dv 7) (das_cons (dv 6) das_nil))))) das_nil))) (das_star (de_sl (dv 0) (do_some de_int) do_none) das_nil)))))))⟩
abbrev s_at_index : Stmt := top 12
abbrev N_at_index : List Str := ["stand", "index", "number", "_here", "registers", "into"]
abbrev P_at_index : List Str := ["stand", "index"]
theorem sc_at_index : FnScope N_at_index P_at_index (defScope s_at_index) := ⟨rfl, rfl, rfl, by decide +kernel, rfl, by decide +kernel, by decide +kernel⟩
def F_at_index : List SD → Option SD := fRun 6 2 ((fSeq (fAsg (fTwo gIx (fTwo gIx (fVar 0) (fC (.int 0))) (fOne gNeg (fC (.int 1)))) (hTup 4 (hCons (hName 2) (hCons (hName 3) (hCons (hName 4) (hCons (hName 5) hNil))))))
    (fRetE (fTup (fCons (fTup (fStar (fSl (fTwo gIx (fVar 0) (fC (.int 0))) (fun _ => some none) (fun ρ => ((fOne gNeg (fC (.int 1))) ρ).bind fun s => s.int?.map some)) (fCons (fTup (fCons (fVar 2) (fCons (fVar 1) (fCons (fVar 4) (fCons (fVar 5) fNil))))) fNil))) (fStar (fSl (fVar 0) (fun ρ => ((fC (.int 1)) ρ).bind fun s => s.int?.map some) (fun _ => some none)) fNil))))))
theorem ok_at_index {f : Addr} {fd : FuncData} (Fn : Fun K "at_index" "at_index" s_at_index f fd) (T : Txt mg) : FnOk P w K mg base CX0 1 f fd P_at_index (SpD K F_at_index) := by
  refine ok_of Fn sc_at_index (by decide) fun cdv A outer s H E hr => ?_
  have hu := hu_of hr
  exact ⟨_, (dss_cons (ds_asg (de_ix (de_ix (dv 0) de_int) (de_neg de_int)) (dg_tup rfl (dgs_cons (dg_name 2 sc_at_index.nd) (dgs_cons (dg_name 3 sc_at_index.nd) (dgs_cons (dg_name 4 sc_at_index.nd) (dgs_cons (dg_name 5 sc_at_index.nd) dgs_nil))))))
      (dss_one (ds_ret (de_tup (das_cons (de_tup (das_star (de_sl (de_ix (dv 0) de_int) do_none (do_some (de_neg de_int))) (das_cons (de_tup (das_cons (dv 2) (das_cons (dv 1) (das_cons (dv 4) (das_cons (dv 5) das_nil))))) das_nil))) (das_star (de_sl (dv 0) (do_some de_int) do_none) das_nil))))))⟩
abbrev s_with_word : Stmt := top 13
abbrev N_with_word : List Str := ["stand", "address", "word", "heap"]
abbrev P_with_word : List Str := ["stand", "address", "word"]
theorem sc_with_word : FnScope N_with_word P_with_word (defScope s_with_word) := ⟨rfl, rfl, rfl, by decide +kernel, rfl, by decide +kernel, by decide +kernel⟩
def F_with_word : List SD → Option SD := fRun 4 3 ((fSeq (fSet 3 (fMerge (fOne gDict (fTwo gIx (fVar 0) (fC (.int 1)))) (fVar 1) (fVar 2)))
    (fRetE (fCall F_with_register (fCons (fTup (fCons (fTwo gIx (fVar 0) (fC (.int 0))) (fCons (fOne gTuple (fOne gSortIt (fVar 3))) (fCons (fTwo gIx (fVar 0) (fC (.int 2))) (fCons (fTwo gIx (fVar 0) (fC (.int 3))) fNil))))) (fCons (fC .non) (fCons (fC .non) fNil)))))))
theorem ok_with_word {f : Addr} {fd : FuncData} (Fn : Fun K "with_word" "with_word" s_with_word f fd) (T : Txt mg) (D_with_register : FD P w K mg base 1 "with_register" P_with_register F_with_register) : FnOk P w K mg base CX0 2 f fd P_with_word (SpD K F_with_word) := by
  refine ok_of Fn sc_with_word (by decide) fun cdv A outer s H E hr => ?_
  have hu := hu_of hr
  exact ⟨_, (dss_cons (ds_set 3 (de_merge (de_dict rfl T.dict (de_ix (dv 0) de_int)) (dv 1) (dv 2)) sc_with_word.nd)
      (dss_one (ds_ret (de_call D_with_register hr (das_cons (de_tup (das_cons (de_ix (dv 0) de_int) (das_cons (de_tuple T.tuple (de_sortIt rfl T.sorted (dv 3))) (das_cons (de_ix (dv 0) de_int) (das_cons (de_ix (dv 0) de_int) das_nil))))) (das_cons de_non (das_cons de_non das_nil)))))))⟩
abbrev s_taken : Stmt := top 14
abbrev N_taken : List Str := ["stand", "r", "frames", "heap", "free", "top", "words", "address", "later"]
abbrev P_taken : List Str := ["stand", "r"]
theorem sc_taken : FnScope N_taken P_taken (defScope s_taken) := ⟨rfl, rfl, rfl, by decide +kernel, rfl, by decide +kernel, by decide +kernel⟩
def F_taken : List SD → Option SD := fRun 9 2 ((fSeq (fAsg (fVar 0) (hTup 4 (hCons (hName 2) (hCons (hName 3) (hCons (hName 4) (hCons (hName 5) hNil))))))
    (fSeq (fSet 6 (fOne gDict (fVar 3)))
    (fSeq (fSet 7 (fIf (fTest (fTwo (gEq true) (fVar 4) (fC (.int 0)))) (fVar 4) (fVar 5)))
    (fSeq (fSet 8 (fIf (fTest (fTwo (gEq true) (fVar 4) (fC (.int 0)))) (fTup (fCons (fGet (fVar 6) (fVar 4) (fC (.int 0))) (fCons (fVar 5) fNil))) (fTup (fCons (fC (.int 0)) (fCons (fTwo gAdd (fVar 5) (fC (.int 1))) fNil)))))
    (fSeq (fAsg (fC (.int 0)) (hSubD 6 (fVar 7)))
    (fRetE (fCall F_with_register (fCons (fTup (fCons (fVar 2) (fCons (fOne gTuple (fOne gSortIt (fVar 6))) (fStar (fVar 8) fNil)))) (fCons (fVar 1) (fCons (fVar 7) fNil)))))))))))
theorem ok_taken {f : Addr} {fd : FuncData} (Fn : Fun K "taken" "taken" s_taken f fd) (T : Txt mg) (D_with_register : FD P w K mg base 1 "with_register" P_with_register F_with_register) : FnOk P w K mg base CX0 2 f fd P_taken (SpD K F_taken) := by
  refine ok_of Fn sc_taken (by decide) fun cdv A outer s H E hr => ?_
  have hu := hu_of hr
  exact ⟨_, (dss_cons (ds_asg (dv 0) (dg_tup rfl (dgs_cons (dg_name 2 sc_taken.nd) (dgs_cons (dg_name 3 sc_taken.nd) (dgs_cons (dg_name 4 sc_taken.nd) (dgs_cons (dg_name 5 sc_taken.nd) dgs_nil))))))
      (dss_cons (ds_set 6 (de_dict rfl T.dict (dv 3)) sc_taken.nd)
      (dss_cons (ds_set 7 (de_if (dt_cmp op_neS (dv 4) de_int) (dv 4) (dv 5)) sc_taken.nd)
      (dss_cons (ds_set 8 (de_if (dt_cmp op_neS (dv 4) de_int) (de_tup (das_cons (de_get2 hu (dv 6) (dv 4) de_int) (das_cons (dv 5) das_nil))) (de_tup (das_cons de_int (das_cons (de_op op_addD (dv 5) de_int) das_nil)))) sc_taken.nd)
      (dss_cons (ds_asg de_int (dg_subD 6 hu (dv 7)))
      (dss_one (ds_ret (de_call D_with_register hr (das_cons (de_tup (das_cons (dv 2) (das_cons (de_tuple T.tuple (de_sortIt rfl T.sorted (dv 6))) (das_star (dv 8) das_nil)))) (das_cons (dv 1) (das_cons (dv 7) das_nil)))))))))))⟩
abbrev s_given_back : Stmt := top 15
abbrev N_given_back : List Str := ["stand", "address", "frames", "heap", "free", "top"]
abbrev P_given_back : List Str := ["stand", "address"]
theorem sc_given_back : FnScope N_given_back P_given_back (defScope s_given_back) := ⟨rfl, rfl, rfl, by decide +kernel, rfl, by decide +kernel, by decide +kernel⟩
def F_given_back : List SD → Option SD := fRun 6 2 ((fSeq (fAsg (fCall F_with_word (fCons (fVar 0) (fCons (fVar 1) (fCons (fTwo gIx (fVar 0) (fC (.int 2))) fNil)))) (hTup 4 (hCons (hName 2) (hCons (hName 3) (hCons (hName 4) (hCons (hName 5) hNil))))))
    (fRetE (fTup (fCons (fVar 2) (fCons (fVar 3) (fCons (fVar 1) (fCons (fVar 5) fNil))))))))
theorem ok_given_back {f : Addr} {fd : FuncData} (Fn : Fun K "given_back" "given_back" s_given_back f fd) (T : Txt mg) (D_with_word : FD P w K mg base 2 "with_word" P_with_word F_with_word) : FnOk P w K mg base CX0 3 f fd P_given_back (SpD K F_given_back) := by
  refine ok_of Fn sc_given_back (by decide) fun cdv A outer s H E hr => ?_
  have hu := hu_of hr
  exact ⟨_, (dss_cons (ds_asg (de_call D_with_word hr (das_cons (dv 0) (das_cons (dv 1) (das_cons (de_ix (dv 0) de_int) das_nil)))) (dg_tup rfl (dgs_cons (dg_name 2 sc_given_back.nd) (dgs_cons (dg_name 3 sc_given_back.nd) (dgs_cons (dg_name 4 sc_given_back.nd) (dgs_cons (dg_name 5 sc_given_back.nd) dgs_nil))))))
      (dss_one (ds_ret (de_tup (das_cons (dv 2) (das_cons (dv 3) (das_cons (dv 1) (das_cons (dv 5) das_nil))))))))⟩
abbrev s_called : Stmt := top 16
abbrev N_called : List Str := ["functions", "stand", "one", "registers", "words", "later", "r"]
abbrev P_called : List Str := ["functions", "stand", "one"]
theorem sc_called : FnScope N_called P_called (defScope s_called) := ⟨rfl, rfl, rfl, by decide +kernel, rfl, by decide +kernel, by decide +kernel⟩
def F_called : List SD → Option SD := fRun 7 3 ((fSeq (fSet 3 (fTwo gIx (fTwo gIx (fTwo gIx (fVar 1) (fC (.int 0))) (fOne gNeg (fC (.int 1)))) (fC (.int 2))))
    (fSeq (fSet 4 (fOne gTupleW (fLc itT [6] (fTwo gIx (fVar 2) (fC (.int 2))) (hName 6) (fun _ => some true) (fIf (fTest (fTwo (gIs false) (fVar 6) (fC .non))) (fC (.int 0)) (fTwo gIx (fVar 3) (fVar 6))))))
    (fSeq (fSet 5 (fCall F_with_register (fCons (fVar 1) (fCons (fC .non) (fCons (fC .non) fNil)))))
    (fRetE (fTup (fCons (fTup (fStar (fTwo gIx (fVar 5) (fC (.int 0))) (fCons (fCall F_entered (fCons (fVar 0) (fCons (fTwo gIx (fVar 2) (fC (.int 1))) (fCons (fVar 4) (fCons (fTwo gIx (fVar 2) (fC (.int 3))) fNil))))) fNil))) (fStar (fSl (fVar 5) (fun ρ => ((fC (.int 1)) ρ).bind fun s => s.int?.map some) (fun _ => some none)) fNil))))))))
theorem ok_called {f : Addr} {fd : FuncData} (Fn : Fun K "called" "called" s_called f fd) (T : Txt mg) (D_entered : FD P w K mg base 1 "entered" P_entered F_entered) (D_with_register : FD P w K mg base 1 "with_register" P_with_register F_with_register) : FnOk P w K mg base CX0 2 f fd P_called (SpD K F_called) := by
  refine ok_of Fn sc_called (by decide) fun cdv A outer s H E hr => ?_
  have hu := hu_of hr
  exact ⟨_, (dss_cons (ds_set 3 (de_ix (de_ix (de_ix (dv 1) de_int) (de_neg de_int)) de_int) sc_called.nd)
      (dss_cons (ds_set 4 (de_tupleW T.tuple (de_lcT (own := [("r", 6)]) rfl sc_called.nd (blkOk_by (N := N_called) (sc := defScope s_called) (by decide +kernel)) (de_ix (dv 2) de_int) (ec_name 6) (fun _ _ _ _ _ => pg_name (i := 6) sc_called.nd rfl (Or.inl rfl)) (fun _ _ _ _ _ => dts_nil) (fun _ _ _ _ _ => (de_if (dt_cmp op_isD (dv 6) de_non) de_int (de_ixK K rfl (dv 3) (dv 6)))) s)) sc_called.nd)
      (dss_cons (ds_set 5 (de_call D_with_register hr (das_cons (dv 1) (das_cons de_non (das_cons de_non das_nil)))) sc_called.nd)
      (dss_one (ds_ret (de_tup (das_cons (de_tup (das_star (de_ix (dv 5) de_int) (das_cons (de_call D_entered hr (das_cons (dv 0) (das_cons (de_ix (dv 2) de_int) (das_cons (dv 4) (das_cons (de_ix (dv 2) de_int) das_nil))))) das_nil))) (das_star (de_sl (dv 5) (do_some de_int) do_none) das_nil))))))))⟩
abbrev s_left : Stmt := top 17
abbrev N_left : List Str := ["stand", "given", "number", "index", "registers", "into", "behind", "later"]
abbrev P_left : List Str := ["stand", "given"]
theorem sc_left : FnScope N_left P_left (defScope s_left) := ⟨rfl, rfl, rfl, by decide +kernel, rfl, by decide +kernel, by decide +kernel⟩
def F_left : List SD → Option SD := fRun 8 2 ((fSeq (fAsg (fTwo gIx (fTwo gIx (fVar 0) (fC (.int 0))) (fOne gNeg (fC (.int 1)))) (hTup 4 (hCons (hName 2) (hCons (hName 3) (hCons (hName 4) (hCons (hName 5) hNil))))))
    (fSeq (fIfS (fTest (fTwo (gEq false) (fOne gLen (fTwo gIx (fVar 0) (fC (.int 0)))) (fC (.int 1)))) (fRetE (fTup (fCons (fTup (fCons (fTup (fCons (fOne gNeg (fC (.int 1))) (fCons (fVar 1) (fCons (fVar 4) (fCons (fC .non) fNil))))) fNil)) (fStar (fSl (fVar 0) (fun ρ => ((fC (.int 1)) ρ).bind fun s => s.int?.map some) (fun _ => some none)) fNil)))) (fun ρ => some (.nx ρ)))
    (fSeq (fSet 6 (fTup (fCons (fSl (fTwo gIx (fVar 0) (fC (.int 0))) (fun _ => some none) (fun ρ => ((fOne gNeg (fC (.int 1))) ρ).bind fun s => s.int?.map some)) (fStar (fSl (fVar 0) (fun ρ => ((fC (.int 1)) ρ).bind fun s => s.int?.map some) (fun _ => some none)) fNil))))
    (fSeq (fIfS (fTest (fTwo (gIs false) (fVar 5) (fC .non))) (fRetE (fVar 6)) (fun ρ => some (.nx ρ)))
    (fSeq (fSet 7 (fCall F_with_register (fCons (fVar 6) (fCons (fVar 5) (fCons (fIf (fTest (fTwo (gIs false) (fVar 1) (fC .non))) (fC (.int 0)) (fVar 1)) fNil)))))
    (fRetE (fCall F_at_index (fCons (fVar 7) (fCons (fTwo gIx (fTwo gIx (fTwo gIx (fVar 6) (fC (.int 0))) (fOne gNeg (fC (.int 1)))) (fC (.int 1))) fNil))))))))))
theorem ok_left {f : Addr} {fd : FuncData} (Fn : Fun K "left" "left" s_left f fd) (T : Txt mg) (D_with_register : FD P w K mg base 1 "with_register" P_with_register F_with_register) (D_at_index : FD P w K mg base 1 "at_index" P_at_index F_at_index) : FnOk P w K mg base CX0 2 f fd P_left (SpD K F_left) := by
  refine ok_of Fn sc_left (by decide) fun cdv A outer s H E hr => ?_
  have hu := hu_of hr
  exact ⟨_, (dss_cons (ds_asg (de_ix (de_ix (dv 0) de_int) (de_neg de_int)) (dg_tup rfl (dgs_cons (dg_name 2 sc_left.nd) (dgs_cons (dg_name 3 sc_left.nd) (dgs_cons (dg_name 4 sc_left.nd) (dgs_cons (dg_name 5 sc_left.nd) dgs_nil))))))
      (dss_cons (ds_if (dt_cmp op_eqS (de_len T.len (de_ix (dv 0) de_int)) de_int) (dss_one (ds_ret (de_tup (das_cons (de_tup (das_cons (de_tup (das_cons (de_neg de_int) (das_cons (dv 1) (das_cons (dv 4) (das_cons de_non das_nil))))) das_nil)) (das_star (de_sl (dv 0) (do_some de_int) do_none) das_nil))))) dss_nil)
      (dss_cons (ds_set 6 (de_tup (das_cons (de_sl (de_ix (dv 0) de_int) do_none (do_some (de_neg de_int))) (das_star (de_sl (dv 0) (do_some de_int) do_none) das_nil))) sc_left.nd)
      (dss_cons (ds_if (dt_cmp op_isD (dv 5) de_non) (dss_one (ds_ret (dv 6))) dss_nil)
      (dss_cons (ds_set 7 (de_call D_with_register hr (das_cons (dv 6) (das_cons (dv 5) (das_cons (de_if (dt_cmp op_isD (dv 1) de_non) de_int (dv 1)) das_nil)))) sc_left.nd)
      (dss_one (ds_ret (de_call D_at_index hr (das_cons (dv 7) (das_cons (de_ix (de_ix (de_ix (dv 6) de_int) (de_neg de_int)) de_int) das_nil))))))))))⟩
abbrev s_given_by : Stmt := top 18
abbrev N_given_by : List Str := ["one", "registers"]
abbrev P_given_by : List Str := ["one", "registers"]
theorem sc_given_by : FnScope N_given_by P_given_by (defScope s_given_by) := ⟨rfl, rfl, rfl, by decide +kernel, rfl, by decide +kernel, by decide +kernel⟩
def F_given_by : List SD → Option SD := fRun 2 2 ((fSeq (fIfS (fTest (fTwo (gEq false) (fTwo gIx (fVar 0) (fC (.int 0))) (fC (.str "retnone")))) (fRetE (fC (.int 0))) (fun ρ => some (.nx ρ)))
    (fRetE (fIf (fTest (fTwo (gIs false) (fTwo gIx (fVar 0) (fC (.int 1))) (fC .non))) (fC .non) (fTwo gIx (fVar 1) (fTwo gIx (fVar 0) (fC (.int 1))))))))
theorem ok_given_by {f : Addr} {fd : FuncData} (Fn : Fun K "given_by" "given_by" s_given_by f fd) (T : Txt mg) : FnOk P w K mg base CX0 1 f fd P_given_by (SpD K F_given_by) := by
  refine ok_of Fn sc_given_by (by decide) fun cdv A outer s H E hr => ?_
  have hu := hu_of hr
  exact ⟨_, (dss_cons (ds_if (dt_cmp op_eqS (de_ix (dv 0) de_int) de_str) (dss_one (ds_ret de_int)) dss_nil)
      (dss_one (ds_ret (de_if (dt_cmp op_isD (de_ix (dv 0) de_int) de_non) de_non (de_ix (dv 1) (de_ix (dv 0) de_int))))))⟩
abbrev s_jumped : Stmt := top 19
abbrev N_jumped : List Str := ["stand", "one", "registers", "so"]
abbrev P_jumped : List Str := ["stand", "one", "registers"]
theorem sc_jumped : FnScope N_jumped P_jumped (defScope s_jumped) := ⟨rfl, rfl, rfl, by decide +kernel, rfl, by decide +kernel, by decide +kernel⟩
def F_jumped : List SD → Option SD := fRun 4 3 ((fSeq (fIfS (fTest (fTwo (gEq false) (fTwo gIx (fVar 1) (fC (.int 0))) (fC (.str "jump")))) (fRetE (fCall F_at_index (fCons (fVar 0) (fCons (fTwo gIx (fVar 1) (fC (.int 1))) fNil)))) (fun ρ => some (.nx ρ)))
    (fSeq (fSet 3 (fTwo (gEq false) (fTwo gIx (fVar 2) (fTwo gIx (fVar 1) (fC (.int 1)))) (fIf (fTest (fTwo (gEq false) (fTwo gIx (fVar 1) (fC (.int 0))) (fC (.str "none")))) (fC (.int 0)) (fTwo gIx (fVar 2) (fTwo gIx (fVar 1) (fC (.int 2)))))))
    (fRetE (fIf (fTest (fVar 3)) (fCall F_at_index (fCons (fVar 0) (fCons (fTwo gIx (fVar 1) (fOne gNeg (fC (.int 1)))) fNil))) (fCall F_with_register (fCons (fVar 0) (fCons (fC .non) (fCons (fC .non) fNil)))))))))
theorem ok_jumped {f : Addr} {fd : FuncData} (Fn : Fun K "jumped" "jumped" s_jumped f fd) (T : Txt mg) (D_with_register : FD P w K mg base 1 "with_register" P_with_register F_with_register) (D_at_index : FD P w K mg base 1 "at_index" P_at_index F_at_index) : FnOk P w K mg base CX0 2 f fd P_jumped (SpD K F_jumped) := by
  refine ok_of Fn sc_jumped (by decide) fun cdv A outer s H E hr => ?_
  have hu := hu_of hr
  exact ⟨_, (dss_cons (ds_if (dt_cmp op_eqS (de_ix (dv 1) de_int) de_str) (dss_one (ds_ret (de_call D_at_index hr (das_cons (dv 0) (das_cons (de_ix (dv 1) de_int) das_nil))))) dss_nil)
      (dss_cons (ds_set 3 (de_cmp op_eqS (de_ix (dv 2) (de_ix (dv 1) de_int)) (de_if (dt_cmp op_eqS (de_ix (dv 1) de_int) de_str) de_int (de_ix (dv 2) (de_ix (dv 1) de_int)))) sc_jumped.nd)
      (dss_one (ds_ret (de_if (dt_val (dv 3)) (de_call D_at_index hr (das_cons (dv 0) (das_cons (de_ix (dv 1) (de_neg de_int)) das_nil))) (de_call D_with_register hr (das_cons (dv 0) (das_cons de_non (das_cons de_non das_nil)))))))))⟩
abbrev s_touched : Stmt := top 20
abbrev N_touched : List Str := ["stand", "one", "registers", "address"]
abbrev P_touched : List Str := ["stand", "one", "registers"]
theorem sc_touched : FnScope N_touched P_touched (defScope s_touched) := ⟨rfl, rfl, rfl, by decide +kernel, rfl, by decide +kernel, by decide +kernel⟩
def F_touched : List SD → Option SD := fRun 4 3 ((fSeq (fSet 3 (fTwo gIx (fVar 2) (fIf (fTest (fTwo (gEq false) (fTwo gIx (fVar 1) (fC (.int 0))) (fC (.str "load")))) (fTwo gIx (fVar 1) (fC (.int 2))) (fTwo gIx (fVar 1) (fC (.int 1))))))
    (fSeq (fIfS (fTest (fTwo (gEq false) (fTwo gIx (fVar 1) (fC (.int 0))) (fC (.str "load")))) (fRetE (fCall F_with_register (fCons (fVar 0) (fCons (fTwo gIx (fVar 1) (fC (.int 1))) (fCons (fGet (fOne gDict (fTwo gIx (fVar 0) (fC (.int 1)))) (fVar 3) (fC (.int 0))) fNil))))) (fun ρ => some (.nx ρ)))
    (fSeq (fIfS (fTest (fTwo (gEq false) (fTwo gIx (fVar 1) (fC (.int 0))) (fC (.str "release")))) (fRetE (fCall F_given_back (fCons (fVar 0) (fCons (fVar 3) fNil)))) (fun ρ => some (.nx ρ)))
    (fRetE (fCall F_with_word (fCons (fVar 0) (fCons (fVar 3) (fCons (fIf (fTest (fTwo (gEq false) (fTwo gIx (fVar 1) (fC (.int 0))) (fC (.str "store")))) (fTwo gIx (fVar 2) (fTwo gIx (fVar 1) (fC (.int 2)))) (fC (.int 0))) fNil)))))))))
theorem ok_touched {f : Addr} {fd : FuncData} (Fn : Fun K "touched" "touched" s_touched f fd) (T : Txt mg) (D_with_register : FD P w K mg base 1 "with_register" P_with_register F_with_register) (D_with_word : FD P w K mg base 2 "with_word" P_with_word F_with_word) (D_given_back : FD P w K mg base 3 "given_back" P_given_back F_given_back) : FnOk P w K mg base CX0 4 f fd P_touched (SpD K F_touched) := by
  refine ok_of Fn sc_touched (by decide) fun cdv A outer s H E hr => ?_
  have hu := hu_of hr
  exact ⟨_, (dss_cons (ds_set 3 (de_ix (dv 2) (de_if (dt_cmp op_eqS (de_ix (dv 1) de_int) de_str) (de_ix (dv 1) de_int) (de_ix (dv 1) de_int))) sc_touched.nd)
      (dss_cons (ds_if (dt_cmp op_eqS (de_ix (dv 1) de_int) de_str) (dss_one (ds_ret (de_call D_with_register hr (das_cons (dv 0) (das_cons (de_ix (dv 1) de_int) (das_cons (de_get2 hu (de_dict rfl T.dict (de_ix (dv 0) de_int)) (dv 3) de_int) das_nil)))))) dss_nil)
      (dss_cons (ds_if (dt_cmp op_eqS (de_ix (dv 1) de_int) de_str) (dss_one (ds_ret (de_call D_given_back hr (das_cons (dv 0) (das_cons (dv 3) das_nil))))) dss_nil)
      (dss_one (ds_ret (de_call D_with_word hr (das_cons (dv 0) (das_cons (dv 3) (das_cons (de_if (dt_cmp op_eqS (de_ix (dv 1) de_int) de_str) (de_ix (dv 2) (de_ix (dv 1) de_int)) de_int) das_nil)))))))))⟩
abbrev s_step : Stmt := top 21
abbrev N_step : List Str := ["functions", "stand", "one", "registers", "word"]
abbrev P_step : List Str := ["functions", "stand"]
theorem sc_step : FnScope N_step P_step (defScope s_step) := ⟨rfl, rfl, rfl, by decide +kernel, rfl, by decide +kernel, by decide +kernel⟩
def F_step : List SD → Option SD := fRun 5 2 ((fSeq (fRow [2, 3] (fCons (fCall F_instruction_at (fCons (fVar 0) (fCons (fVar 1) fNil))) (fCons (fTwo gIx (fTwo gIx (fTwo gIx (fVar 1) (fC (.int 0))) (fOne gNeg (fC (.int 1)))) (fC (.int 2))) fNil)))
    (fSeq (fSet 4 (fTwo gIx (fVar 2) (fC (.int 0))))
    (fSeq (fIfS (fTest (fTwo (gIn false) (fVar 4) (fTup (fCons (fC (.str "move")) (fCons (fC (.str "zero")) fNil))))) (fRetE (fCall F_with_register (fCons (fVar 1) (fCons (fTwo gIx (fVar 2) (fC (.int 1))) (fCons (fIf (fTest (fTwo (gEq false) (fVar 4) (fC (.str "move")))) (fTwo gIx (fVar 3) (fTwo gIx (fVar 2) (fC (.int 2)))) (fC (.int 0))) fNil))))) (fun ρ => some (.nx ρ)))
    (fSeq (fIfS (fTest (fTwo (gEq false) (fVar 4) (fC (.str "alloc")))) (fRetE (fCall F_taken (fCons (fVar 1) (fCons (fTwo gIx (fVar 2) (fC (.int 1))) fNil)))) (fun ρ => some (.nx ρ)))
    (fSeq (fIfS (fTest (fTwo (gEq false) (fVar 4) (fC (.str "call")))) (fRetE (fCall F_called (fCons (fVar 0) (fCons (fVar 1) (fCons (fVar 2) fNil))))) (fun ρ => some (.nx ρ)))
    (fSeq (fIfS (fTest (fTwo (gIn false) (fVar 4) (fTup (fCons (fC (.str "ret")) (fCons (fC (.str "retnone")) fNil))))) (fRetE (fCall F_left (fCons (fVar 1) (fCons (fCall F_given_by (fCons (fVar 2) (fCons (fVar 3) fNil))) fNil)))) (fun ρ => some (.nx ρ)))
    (fSeq (fIfS (fTest (fTwo (gIn false) (fVar 4) (fTup (fCons (fC (.str "jump")) (fCons (fC (.str "none")) (fCons (fC (.str "same")) fNil)))))) (fRetE (fCall F_jumped (fCons (fVar 1) (fCons (fVar 2) (fCons (fVar 3) fNil))))) (fun ρ => some (.nx ρ)))
    (fRetE (fCall F_touched (fCons (fVar 1) (fCons (fVar 2) (fCons (fVar 3) fNil)))))))))))))
theorem ok_step {f : Addr} {fd : FuncData} (Fn : Fun K "step" "step" s_step f fd) (T : Txt mg) (D_instruction_at : FD P w K mg base 2 "instruction_at" P_instruction_at F_instruction_at) (D_with_register : FD P w K mg base 1 "with_register" P_with_register F_with_register) (D_taken : FD P w K mg base 2 "taken" P_taken F_taken) (D_called : FD P w K mg base 2 "called" P_called F_called) (D_left : FD P w K mg base 2 "left" P_left F_left) (D_given_by : FD P w K mg base 1 "given_by" P_given_by F_given_by) (D_jumped : FD P w K mg base 2 "jumped" P_jumped F_jumped) (D_touched : FD P w K mg base 4 "touched" P_touched F_touched) : FnOk P w K mg base CX0 5 f fd P_step (SpD K F_step) := by
  refine ok_of Fn sc_step (by decide) fun cdv A outer s H E hr => ?_
  have hu := hu_of hr
  exact ⟨_, (dss_cons (ds_par 2 3 rfl sc_step.nd (das_cons (de_call D_instruction_at hr (das_cons (dv 0) (das_cons (dv 1) das_nil))) (das_cons (de_ix (de_ix (de_ix (dv 1) de_int) (de_neg de_int)) de_int) das_nil)))
      (dss_cons (ds_set 4 (de_ix (dv 2) de_int) sc_step.nd)
      (dss_cons (ds_if (dt_cmp op_inD (dv 4) (de_tup (das_cons de_str (das_cons de_str das_nil)))) (dss_one (ds_ret (de_call D_with_register hr (das_cons (dv 1) (das_cons (de_ix (dv 2) de_int) (das_cons (de_if (dt_cmp op_eqS (dv 4) de_str) (de_ix (dv 3) (de_ix (dv 2) de_int)) de_int) das_nil)))))) dss_nil)
      (dss_cons (ds_if (dt_cmp op_eqS (dv 4) de_str) (dss_one (ds_ret (de_call D_taken hr (das_cons (dv 1) (das_cons (de_ix (dv 2) de_int) das_nil))))) dss_nil)
      (dss_cons (ds_if (dt_cmp op_eqS (dv 4) de_str) (dss_one (ds_ret (de_call D_called hr (das_cons (dv 0) (das_cons (dv 1) (das_cons (dv 2) das_nil)))))) dss_nil)
      (dss_cons (ds_if (dt_cmp op_inD (dv 4) (de_tup (das_cons de_str (das_cons de_str das_nil)))) (dss_one (ds_ret (de_call D_left hr (das_cons (dv 1) (das_cons (de_call D_given_by hr (das_cons (dv 2) (das_cons (dv 3) das_nil))) das_nil))))) dss_nil)
      (dss_cons (ds_if (dt_cmp op_inD (dv 4) (de_tup (das_cons de_str (das_cons de_str (das_cons de_str das_nil))))) (dss_one (ds_ret (de_call D_jumped hr (das_cons (dv 1) (das_cons (dv 2) (das_cons (dv 3) das_nil)))))) dss_nil)
      (dss_one (ds_ret (de_call D_touched hr (das_cons (dv 1) (das_cons (dv 2) (das_cons (dv 3) das_nil)))))))))))))⟩
abbrev s_checked_step : Stmt := top 22
abbrev N_checked_step : List Str := ["functions", "stand", "cells", "word", "address", "number", "index", "later", "taken_one", "one"]
abbrev P_checked_step : List Str := ["functions", "stand", "cells"]
theorem sc_checked_step : FnScope N_checked_step P_checked_step (defScope s_checked_step) := ⟨rfl, rfl, rfl, by decide +kernel, rfl, by decide +kernel, by decide +kernel⟩
def F_checked_step : List SD → Option SD := fRun 10 3 ((fSeq (fRow [3, 4] (fCons (fTwo gIx (fCall F_instruction_at (fCons (fVar 0) (fCons (fVar 1) fNil))) (fC (.int 0))) (fCons (fCall F_asked_by (fCons (fVar 0) (fCons (fVar 1) fNil))) fNil)))
    (fSeq (fIfS (fAnd (fTest (fTwo (gIs true) (fVar 4) (fC .non))) (fTest (fTwo (gIn true) (fVar 4) (fVar 2)))) (fSeq (fAsg (fSl (fTwo gIx (fTwo gIx (fVar 1) (fC (.int 0))) (fOne gNeg (fC (.int 1)))) (fun _ => some none) (fun ρ => ((fC (.int 2)) ρ).bind fun s => s.int?.map some)) (hTup 2 (hCons (hName 5) (hCons (hName 6) hNil))))
    (fun _ => none)) (fun ρ => some (.nx ρ)))
    (fSeq (fSet 7 (fCall F_step (fCons (fVar 0) (fCons (fVar 1) fNil))))
    (fSeq (fIfS (fTest (fTwo (gEq false) (fVar 3) (fC (.str "alloc")))) (fSeq (fSet 8 (fIf (fTest (fTwo (gEq true) (fTwo gIx (fVar 1) (fC (.int 2))) (fC (.int 0)))) (fTwo gIx (fVar 1) (fC (.int 2))) (fTwo gIx (fVar 1) (fC (.int 3)))))
    (fRetE (fTup (fCons (fVar 7) (fCons (fOne gTupleW (fOne gSortI (fTup (fStar (fVar 2) (fCons (fVar 8) fNil))))) fNil))))) (fun ρ => some (.nx ρ)))
    (fSeq (fIfS (fTest (fTwo (gEq false) (fVar 3) (fC (.str "release")))) (fRetE (fTup (fCons (fVar 7) (fCons (fOne gTupleW (fLc itT [9] (fVar 2) (hName 9) (fTest (fTwo (gEq true) (fVar 9) (fVar 4))) (fVar 9))) fNil)))) (fun ρ => some (.nx ρ)))
    (fRetE (fTup (fCons (fVar 7) (fCons (fVar 2) fNil))))))))))
theorem ok_checked_step {f : Addr} {fd : FuncData} (Fn : Fun K "checked_step" "checked_step" s_checked_step f fd) (T : Txt mg) (D_instruction_at : FD P w K mg base 2 "instruction_at" P_instruction_at F_instruction_at) (D_asked_by : FD P w K mg base 3 "asked_by" P_asked_by F_asked_by) (D_step : FD P w K mg base 5 "step" P_step F_step) : FnOk P w K mg base CX0 6 f fd P_checked_step (SpD K F_checked_step) := by
  refine ok_of Fn sc_checked_step (by decide) fun cdv A outer s H E hr => ?_
  have hu := hu_of hr
  exact ⟨_, (dss_cons (ds_row [3, 4] rfl (das_cons (de_ix (de_call D_instruction_at hr (das_cons (dv 0) (das_cons (dv 1) das_nil))) de_int) (das_cons (de_call D_asked_by hr (das_cons (dv 0) (das_cons (dv 1) das_nil))) das_nil)) (pgs_cons (pg_name (i := 3) sc_checked_step.nd rfl (Or.inl rfl)) (pgs_cons (pg_name (i := 4) sc_checked_step.nd rfl (Or.inr rfl)) pgs_nil)))
      (dss_cons (ds_if (DW.dt (dw_and (dt_cmp op_notD (dv 4) de_non) (dw_and1 (dt_cmp op_notInD (dv 4) (dv 2))))) (dss_cons (ds_asg (de_sl (de_ix (de_ix (dv 1) de_int) (de_neg de_int)) do_none (do_some de_int)) (dg_tup rfl (dgs_cons (dg_name 5 sc_checked_step.nd) (dgs_cons (dg_name 6 sc_checked_step.nd) dgs_nil))))
      (dss_one ds_never)) dss_nil)
      (dss_cons (ds_set 7 (de_call D_step hr (das_cons (dv 0) (das_cons (dv 1) das_nil))) sc_checked_step.nd)
      (dss_cons (ds_if (dt_cmp op_eqS (dv 3) de_str) (dss_cons (ds_set 8 (de_if (dt_cmp op_neS (de_ix (dv 1) de_int) de_int) (de_ix (dv 1) de_int) (de_ix (dv 1) de_int)) sc_checked_step.nd)
      (dss_one (ds_ret (de_tup (das_cons (dv 7) (das_cons (de_tupleW T.tuple (de_sortI T.sorted (de_tup (das_star (dv 2) (das_cons (dv 8) das_nil))))) das_nil)))))) dss_nil)
      (dss_cons (ds_if (dt_cmp op_eqS (dv 3) de_str) (dss_one (ds_ret (de_tup (das_cons (dv 7) (das_cons (de_tupleW T.tuple (de_lcT (own := [("one", 9)]) rfl sc_checked_step.nd (blkOk_by (N := N_checked_step) (sc := defScope s_checked_step) (by decide +kernel)) (dv 2) (ec_name 9) (fun _ _ _ _ _ => pg_name (i := 9) sc_checked_step.nd rfl (Or.inl rfl)) (fun _ _ _ _ _ => dts_one (dt_cmp op_neS (dv 9) (dv 4))) (fun _ _ _ _ _ => (dv 9)) s)) das_nil))))) dss_nil)
      (dss_one (ds_ret (de_tup (das_cons (dv 7) (das_cons (dv 2) das_nil))))))))))⟩
abbrev s_run : Stmt := top 23
abbrev N_run : List Str := ["functions", "stand", "count", "_step"]
abbrev P_run : List Str := ["functions", "stand", "count"]
theorem sc_run : FnScope N_run P_run (defScope s_run) := ⟨rfl, rfl, rfl, by decide +kernel, rfl, by decide +kernel, by decide +kernel⟩
def F_run : List SD → Option SD := fRun 4 3 ((fSeq (fFor 3 (fVar 2) (fSeq (fIfS (fTest (fCall F_is_ended (fCons (fVar 1) fNil))) (fun ρ => some (.bk ρ)) (fun ρ => some (.nx ρ)))
    (fSet 1 (fCall F_step (fCons (fVar 0) (fCons (fVar 1) fNil))))))
    (fRetE (fVar 1))))
theorem ok_run {f : Addr} {fd : FuncData} (Fn : Fun K "run" "run" s_run f fd) (T : Txt mg) (D_is_ended : FD P w K mg base 1 "is_ended" P_is_ended F_is_ended) (D_step : FD P w K mg base 5 "step" P_step F_step) : FnOk P w K mg base CX0 6 f fd P_run (SpD K F_run) := by
  refine ok_of Fn sc_run (by decide) fun cdv A outer s H E hr => ?_
  have hu := hu_of hr
  exact ⟨_, (dss_cons (ds_forR 3 rfl PassesOwn.never T.range (dv 2) (dss_cons (ds_if (dt_val (de_call D_is_ended hr (das_cons (dv 1) das_nil))) (dss_one ds_break) dss_nil)
      (dss_one (ds_set 1 (de_call D_step hr (das_cons (dv 0) (das_cons (dv 1) das_nil))) sc_run.nd))) sc_run.nd)
      (dss_one (ds_ret (dv 1))))⟩
abbrev s_checked_run : Stmt := top 24
abbrev N_checked_run : List Str := ["functions", "stand", "cells", "count", "_step"]
abbrev P_checked_run : List Str := ["functions", "stand", "cells", "count"]
theorem sc_checked_run : FnScope N_checked_run P_checked_run (defScope s_checked_run) := ⟨rfl, rfl, rfl, by decide +kernel, rfl, by decide +kernel, by decide +kernel⟩
def F_checked_run : List SD → Option SD := fRun 5 4 ((fSeq (fFor 4 (fVar 3) (fSeq (fIfS (fTest (fCall F_is_ended (fCons (fVar 1) fNil))) (fun ρ => some (.bk ρ)) (fun ρ => some (.nx ρ)))
    (fAsg (fCall F_checked_step (fCons (fVar 0) (fCons (fVar 1) (fCons (fVar 2) fNil)))) (hTup 2 (hCons (hName 1) (hCons (hName 2) hNil))))))
    (fRetE (fTup (fCons (fVar 1) (fCons (fVar 2) fNil))))))
theorem ok_checked_run {f : Addr} {fd : FuncData} (Fn : Fun K "checked_run" "checked_run" s_checked_run f fd) (T : Txt mg) (D_is_ended : FD P w K mg base 1 "is_ended" P_is_ended F_is_ended) (D_checked_step : FD P w K mg base 6 "checked_step" P_checked_step F_checked_step) : FnOk P w K mg base CX0 7 f fd P_checked_run (SpD K F_checked_run) := by
  refine ok_of Fn sc_checked_run (by decide) fun cdv A outer s H E hr => ?_
  have hu := hu_of hr
  exact ⟨_, (dss_cons (ds_forR 4 rfl PassesOwn.never T.range (dv 3) (dss_cons (ds_if (dt_val (de_call D_is_ended hr (das_cons (dv 1) das_nil))) (dss_one ds_break) dss_nil)
      (dss_one (ds_asg (de_call D_checked_step hr (das_cons (dv 0) (das_cons (dv 1) (das_cons (dv 2) das_nil)))) (dg_tup rfl (dgs_cons (dg_name 1 sc_checked_run.nd) (dgs_cons (dg_name 2 sc_checked_run.nd) dgs_nil)))))) sc_checked_run.nd)
      (dss_one (ds_ret (de_tup (das_cons (dv 1) (das_cons (dv 2) das_nil))))))⟩
abbrev s_free_cells : Stmt := top 25
abbrev N_free_cells : List Str := ["stand", "words", "found", "address"]
abbrev P_free_cells : List Str := ["stand"]
theorem sc_free_cells : FnScope N_free_cells P_free_cells (defScope s_free_cells) := ⟨rfl, rfl, rfl, by decide +kernel, rfl, by decide +kernel, by decide +kernel⟩
def F_free_cells : List SD → Option SD := fRun 4 1 ((fSeq (fRow [1, 2, 3] (fCons (fOne gDict (fTwo gIx (fVar 0) (fC (.int 1)))) (fCons (fun _ => some (.dic .new [])) (fCons (fTwo gIx (fVar 0) (fC (.int 2))) fNil))))
    (fSeq (fWhile (fAnd (fTest (fTwo (gEq true) (fVar 3) (fC (.int 0)))) (fNotInD (fVar 3) (fVar 2))) (fSeq (fAsg (fC (.bl true)) (hSubD 2 (fVar 3)))
    (fSet 3 (fGet (fVar 1) (fVar 3) (fC (.int 0))))))
    (fRetE (fOne gTupD (fVar 2))))))
theorem ok_free_cells {f : Addr} {fd : FuncData} (Fn : Fun K "free_cells" "free_cells" s_free_cells f fd) (T : Txt mg) : FnOk P w K mg base CX0 1 f fd P_free_cells (SpD K F_free_cells) := by
  refine ok_of Fn sc_free_cells (by decide) fun cdv A outer s H E hr => ?_
  have hu := hu_of hr
  exact ⟨_, (dss_cons (ds_par3 1 2 3 rfl sc_free_cells.nd (das_cons (de_dict rfl T.dict (de_ix (dv 0) de_int)) (das_cons de_dnew (das_cons (de_ix (dv 0) de_int) das_nil))))
      (dss_cons (ds_while PassesOwn.never (DW.dt (dw_and (dt_cmp op_neS (dv 3) de_int) (dw_and1 (dt_notInD hu (dv 3) (dv 2))))) (dss_cons (ds_asg de_bl (dg_subD 2 hu (dv 3)))
      (dss_one (ds_set 3 (de_get2 hu (dv 1) (dv 3) de_int) sc_free_cells.nd))))
      (dss_one (ds_ret (de_tupD rfl T.tuple (dv 2))))))⟩
abbrev s_live_cells : Stmt := top 26
abbrev N_live_cells : List Str := ["stand", "free", "address", "word"]
abbrev P_live_cells : List Str := ["stand"]
theorem sc_live_cells : FnScope N_live_cells P_live_cells (defScope s_live_cells) := ⟨rfl, rfl, rfl, by decide +kernel, rfl, by decide +kernel, by decide +kernel⟩
def F_live_cells : List SD → Option SD := fRun 4 1 ((fSeq (fSet 1 (fCall F_free_cells (fCons (fVar 0) fNil)))
    (fRetE (fOne gTupleW (fLc itT [2, 3] (fTwo gIx (fVar 0) (fC (.int 1))) (hTup 2 (hNames [2, 3])) (fTest (fTwo (gIn true) (fVar 2) (fVar 1))) (fTup (fCons (fVar 2) (fCons (fVar 3) fNil))))))))
theorem ok_live_cells {f : Addr} {fd : FuncData} (Fn : Fun K "live_cells" "live_cells" s_live_cells f fd) (T : Txt mg) (D_free_cells : FD P w K mg base 1 "free_cells" P_free_cells F_free_cells) : FnOk P w K mg base CX0 2 f fd P_live_cells (SpD K F_live_cells) := by
  refine ok_of Fn sc_live_cells (by decide) fun cdv A outer s H E hr => ?_
  have hu := hu_of hr
  exact ⟨_, (dss_cons (ds_set 1 (de_call D_free_cells hr (das_cons (dv 0) das_nil)) sc_live_cells.nd)
      (dss_one (ds_ret (de_tupleW T.tuple (de_lcT (own := [("address", 2), ("word", 3)]) rfl sc_live_cells.nd (blkOk_by (N := N_live_cells) (sc := defScope s_live_cells) (by decide +kernel)) (de_ix (dv 0) de_int) (ec_tup [2, 3]) (fun _ _ _ _ _ => pg_tup rfl (pgs_cons (pg_name (i := 2) sc_live_cells.nd rfl (Or.inl rfl)) (pgs_cons (pg_name (i := 3) sc_live_cells.nd rfl (Or.inl rfl)) pgs_nil))) (fun _ _ _ _ _ => dts_one (dt_cmp (op_notInDK K rfl) (dv 2) (dv 1))) (fun _ _ _ _ _ => (de_tup (das_cons (dv 2) (das_cons (dv 3) das_nil)))) s)))))⟩
abbrev s_begin : Stmt := top 6
abbrev N_begin : List Str := ["functions", "number", "words", "cells", "top", "row", "word"]
abbrev P_begin : List Str := ["functions", "number", "words", "cells"]
theorem sc_begin : FnScope N_begin P_begin (defScope s_begin) := ⟨rfl, rfl, rfl, by decide +kernel, rfl, by decide +kernel, by decide +kernel⟩
def F_begin : List SD → Option SD := fRun 7 4 ((fSeq (fIfS (fOr (fNot (fTest (fChain (gII fun i j => decide (i ≤ j)) (gII fun i j => decide (i < j)) (fC (.int 0)) (fVar 1) (fOne gLen (fVar 0))))) (fTest (fTwo (gEq true) (fOne gLen (fVar 2)) (fTwo gIx (fTwo gIx (fVar 0) (fVar 1)) (fC (.int 0)))))) (fun _ => none) (fun ρ => some (.nx ρ)))
    (fSeq (fSet 4 (fTwo gAdd (fOne gMax (fTwo gAdd (fLst (fCons (fC (.int 0)) (fStar (fVar 2) fNil))) (fFlat 5 6 (fVar 3)))) (fC (.int 1))))
    (fRetE (fTup (fCons (fTup (fCons (fCall F_entered (fCons (fVar 0) (fCons (fVar 1) (fCons (fOne gTupleW (fVar 2)) (fCons (fC .non) fNil))))) fNil)) (fCons (fVar 3) (fCons (fC (.int 0)) (fCons (fVar 4) fNil)))))))))
theorem ok_begin {f : Addr} {fd : FuncData} (Fn : Fun K "begin" "begin" s_begin f fd) (T : Txt mg) (D_entered : FD P w K mg base 1 "entered" P_entered F_entered) : FnOk P w K mg base CX0 2 f fd P_begin (SpD K F_begin) := by
  refine ok_of Fn sc_begin (by decide) fun cdv A outer s H E hr => ?_
  have hu := hu_of hr
  exact ⟨_, (dss_cons (ds_if (DW.dt (dw_or (dt_not (dt_chain op_leD op_ltD de_int (dv 1) (de_len T.len (dv 0)))) (dw_or1 (dt_cmp op_neS (de_len T.len (dv 2)) (de_ix (de_ix (dv 0) (dv 1)) de_int))))) (dss_one ds_never) dss_nil)
      (dss_cons (ds_set 4 (de_op op_addD (de_max rfl T.max (de_op op_addD (de_lst (das_cons de_int (das_star (dv 2) das_nil))) (de_flat (i := 5) (j := 6) rfl sc_begin.nd (blkOk_by (N := N_begin) (sc := defScope s_begin) (own := [("row", 5), ("word", 6)]) (by decide +kernel)) (dv 3) (fun _ _ _ _ _ => pg_name (i := 5) sc_begin.nd rfl (Or.inl rfl)) (fun _ _ _ _ _ => pv 5) (fun _ _ _ _ _ => pg_name (i := 6) sc_begin.nd rfl (Or.inl rfl)) (fun _ _ _ _ _ => pv 6)))) de_int) sc_begin.nd)
      (dss_one (ds_ret (de_tup (das_cons (de_tup (das_cons (de_call D_entered hr (das_cons (dv 0) (das_cons (dv 1) (das_cons (de_tupleW T.tuple (dv 2)) (das_cons de_non das_nil))))) das_nil)) (das_cons (dv 3) (das_cons de_int (das_cons (dv 4) das_nil)))))))))⟩
abbrev s_law_place : Stmt := top 33
abbrev N_law_place : List Str := ["memory", "term"]
abbrev P_law_place : List Str := ["memory", "term"]
theorem sc_law_place : FnScope N_law_place P_law_place (defScope s_law_place) := ⟨rfl, rfl, rfl, by decide +kernel, rfl, by decide +kernel, by decide +kernel⟩
def F_law_place : List SD → Option SD := fRun 2 2 ((fRetE (fIf (fTest (fTwo (gIs false) (fVar 1) (fC .non))) (fC (.int 0)) (fTwo gDGet (fOne gDict (fTwo gIx (fVar 0) (fC (.int 0)))) (fVar 1)))))
theorem ok_law_place {f : Addr} {fd : FuncData} (Fn : Fun K "_law_place" "_law_place" s_law_place f fd) (T : Txt mg) : FnOk P w K mg base CX0 1 f fd P_law_place (SpD K F_law_place) := by
  refine ok_of Fn sc_law_place (by decide) fun cdv A outer s H E hr => ?_
  have hu := hu_of hr
  exact ⟨_, (dss_one (ds_ret (de_if (dt_cmp op_isD (dv 1) de_non) de_int (de_dget hu (de_dict rfl T.dict (de_ix (dv 0) de_int)) (dv 1)))))⟩
abbrev s_law_left : Stmt := top 38
abbrev N_law_left : List Str := ["frames", "rest", "given", "registers", "into", "number", "at", "row", "its"]
abbrev P_law_left : List Str := ["frames", "rest", "given", "registers", "into"]
theorem sc_law_left : FnScope N_law_left P_law_left (defScope s_law_left) := ⟨rfl, rfl, rfl, by decide +kernel, rfl, by decide +kernel, by decide +kernel⟩
def F_law_left : List SD → Option SD := fRun 9 5 ((fSeq (fIfS (fTest (fTwo (gEqD false) (fVar 0) (fLst fNil))) (fRetE (fTwo gAdd (fTup (fCons (fTup (fCons (fTup (fCons (fOne gNeg (fC (.int 1))) (fCons (fVar 2) (fCons (fVar 3) (fCons (fC .non) fNil))))) fNil)) fNil)) (fVar 1))) (fun ρ => some (.nx ρ)))
    (fSeq (fAsg (fTwo gIx (fVar 0) (fOne gNeg (fC (.int 1)))) (hTup 4 (hCons (hName 5) (hCons (hName 6) (hCons (hName 7) (hCons (hName 8) hNil))))))
    (fSeq (fIfS (fTest (fTwo (gIs true) (fVar 4) (fC .non))) (fSet 7 (fTwo gAdd (fTwo gAdd (fSl (fVar 7) (fun _ => some none) (fun ρ => ((fVar 4) ρ).bind fun s => s.int?.map some)) (fTup (fCons (fIf (fTest (fTwo (gIs false) (fVar 2) (fC .non))) (fC (.int 0)) (fVar 2)) fNil))) (fSl (fVar 7) (fun ρ => ((fTwo gAdd (fVar 4) (fC (.int 1))) ρ).bind fun s => s.int?.map some) (fun _ => some none)))) (fun ρ => some (.nx ρ)))
    (fRetE (fTwo gAdd (fTup (fCons (fOne gTupleW (fTwo gAdd (fSl (fVar 0) (fun _ => some none) (fun ρ => ((fOne gNeg (fC (.int 1))) ρ).bind fun s => s.int?.map some)) (fLst (fCons (fTup (fCons (fVar 5) (fCons (fVar 6) (fCons (fVar 7) (fCons (fVar 8) fNil))))) fNil)))) fNil)) (fVar 1)))))))
theorem ok_law_left {f : Addr} {fd : FuncData} (Fn : Fun K "_law_left" "_law_left" s_law_left f fd) (T : Txt mg) : FnOk P w K mg base CX0 1 f fd P_law_left (SpD K F_law_left) := by
  refine ok_of Fn sc_law_left (by decide) fun cdv A outer s H E hr => ?_
  have hu := hu_of hr
  exact ⟨_, (dss_cons (ds_if (dt_cmp (op_eqP (hu64_of hr)) (dv 0) (de_lst das_nil)) (dss_one (ds_ret (de_op op_addD (de_tup (das_cons (de_tup (das_cons (de_tup (das_cons (de_neg de_int) (das_cons (dv 2) (das_cons (dv 3) (das_cons de_non das_nil))))) das_nil)) das_nil)) (dv 1)))) dss_nil)
      (dss_cons (ds_asg (de_ix (dv 0) (de_neg de_int)) (dg_tup rfl (dgs_cons (dg_name 5 sc_law_left.nd) (dgs_cons (dg_name 6 sc_law_left.nd) (dgs_cons (dg_name 7 sc_law_left.nd) (dgs_cons (dg_name 8 sc_law_left.nd) dgs_nil))))))
      (dss_cons (ds_if (dt_cmp op_notD (dv 4) de_non) (dss_one (ds_set 7 (de_op op_addD (de_op op_addD (de_sl (dv 7) do_none (do_some (dv 4))) (de_tup (das_cons (de_if (dt_cmp op_isD (dv 2) de_non) de_int (dv 2)) das_nil))) (de_sl (dv 7) (do_some (de_op op_addD (dv 4) de_int)) do_none)) sc_law_left.nd)) dss_nil)
      (dss_one (ds_ret (de_op op_addD (de_tup (das_cons (de_tupleW T.tuple (de_op op_addD (de_sl (dv 0) do_none (do_some (de_neg de_int))) (de_lst (das_cons (de_tup (das_cons (dv 5) (das_cons (dv 6) (das_cons (dv 7) (das_cons (dv 8) das_nil))))) das_nil)))) das_nil)) (dv 1)))))))⟩
abbrev s_law_do : Stmt := top 37
abbrev N_law_do : List Str := ["functions", "stand", "frames", "heap", "free", "top", "number", "at", "registers", "into", "one", "row", "later", "word", "place", "so", "words", "params", "many", "code", "given", "r"]
abbrev P_law_do : List Str := ["functions", "stand"]
theorem sc_law_do : FnScope N_law_do P_law_do (defScope s_law_do) := ⟨rfl, rfl, rfl, by decide +kernel, rfl, by decide +kernel, by decide +kernel⟩
def F_law_do : List SD → Option SD := fRun 22 2 ((fSeq (fRow [2, 3, 4, 5] (fCons (fOne gList (fTwo gIx (fVar 1) (fC (.int 0)))) (fCons (fOne gDict (fOne gList (fTwo gIx (fVar 1) (fC (.int 1))))) (fCons (fTwo gIx (fVar 1) (fC (.int 2))) (fCons (fTwo gIx (fVar 1) (fC (.int 3))) fNil)))))
    (fSeq (fPop 2 (hTup 4 (hCons (hName 6) (hCons (hName 7) (hCons (hName 8) (hCons (hName 9) hNil))))))
    (fSeq (fRow [10, 11, 12] (fCons (fTwo gIx (fTwo gIx (fTwo gIx (fVar 0) (fVar 6)) (fC (.int 2))) (fVar 7)) (fCons (fOne gList (fVar 8)) (fCons (fTwo gAdd (fVar 7) (fC (.int 1))) fNil))))
    (fSeq (fSet 13 (fTwo gIx (fVar 10) (fC (.int 0))))
    (fSeq (fIfS (fTest (fTwo (gIn false) (fVar 13) (fTup (fCons (fC (.str "move")) (fCons (fC (.str "zero")) (fCons (fC (.str "load")) fNil)))))) (fAsg (fIf (fTest (fTwo (gEq false) (fVar 13) (fC (.str "move")))) (fTwo gIx (fVar 11) (fTwo gIx (fVar 10) (fC (.int 2)))) (fIf (fTest (fTwo (gEq false) (fVar 13) (fC (.str "load")))) (fGet (fVar 3) (fTwo gIx (fVar 11) (fTwo gIx (fVar 10) (fC (.int 2)))) (fC (.int 0))) (fC (.int 0)))) (hSubL 11 (fTwo gIx (fVar 10) (fC (.int 1))))) (fIfS (fTest (fTwo (gIn false) (fVar 13) (fTup (fCons (fC (.str "store")) (fCons (fC (.str "clear")) fNil))))) (fAsg (fIf (fTest (fTwo (gEq false) (fVar 13) (fC (.str "store")))) (fTwo gIx (fVar 11) (fTwo gIx (fVar 10) (fC (.int 2)))) (fC (.int 0))) (hSubD 3 (fTwo gIx (fVar 11) (fTwo gIx (fVar 10) (fC (.int 1)))))) (fIfS (fTest (fTwo (gEq false) (fVar 13) (fC (.str "alloc")))) (fSeq (fSet 14 (fIf (fTest (fTwo (gEq true) (fVar 4) (fC (.int 0)))) (fVar 4) (fVar 5)))
    (fSeq (fAsg (fIf (fTest (fTwo (gEq true) (fVar 4) (fC (.int 0)))) (fTup (fCons (fGet (fVar 3) (fVar 4) (fC (.int 0))) (fCons (fVar 5) fNil))) (fTup (fCons (fC (.int 0)) (fCons (fTwo gAdd (fVar 5) (fC (.int 1))) fNil)))) (hTup 2 (hCons (hName 4) (hCons (hName 5) hNil))))
    (fAsg (fTup (fCons (fC (.int 0)) (fCons (fVar 14) fNil))) (hTup 2 (hCons (hSubD 3 (fVar 14)) (hCons (hSubL 11 (fTwo gIx (fVar 10) (fC (.int 1)))) hNil)))))) (fIfS (fTest (fTwo (gEq false) (fVar 13) (fC (.str "release")))) (fAsg (fTup (fCons (fVar 4) (fCons (fTwo gIx (fVar 11) (fTwo gIx (fVar 10) (fC (.int 1)))) fNil))) (hTup 2 (hCons (hSubD 3 (fTwo gIx (fVar 11) (fTwo gIx (fVar 10) (fC (.int 1))))) (hCons (hName 4) hNil)))) (fIfS (fTest (fTwo (gIn false) (fVar 13) (fTup (fCons (fC (.str "same")) (fCons (fC (.str "none")) (fCons (fC (.str "jump")) fNil)))))) (fSeq (fSet 15 (fOrV (fTwo (gEq false) (fVar 13) (fC (.str "jump"))) (fTwo (gEq false) (fTwo gIx (fVar 11) (fTwo gIx (fVar 10) (fC (.int 1)))) (fIf (fTest (fTwo (gEq false) (fVar 13) (fC (.str "same")))) (fTwo gIx (fVar 11) (fTwo gIx (fVar 10) (fC (.int 2)))) (fC (.int 0))))))
    (fSet 12 (fIf (fTest (fVar 15)) (fTwo gIx (fVar 10) (fOne gNeg (fC (.int 1)))) (fVar 12)))) (fIfS (fTest (fTwo (gEq false) (fVar 13) (fC (.str "call")))) (fSeq (fApp 2 (fTup (fCons (fVar 6) (fCons (fVar 12) (fCons (fOne gTupleW (fVar 11)) (fCons (fVar 9) fNil))))))
    (fSeq (fSet 16 (fLc itT [21] (fTwo gIx (fVar 10) (fC (.int 2))) (hName 21) (fun _ => some true) (fIf (fTest (fTwo (gIs false) (fVar 21) (fC .non))) (fC (.int 0)) (fTwo gIx (fVar 11) (fVar 21)))))
    (fSeq (fAsg (fTwo gIx (fVar 0) (fTwo gIx (fVar 10) (fC (.int 1)))) (hTup 3 (hCons (hName 17) (hCons (hName 18) (hCons (hName 19) hNil)))))
    (fRow [6, 12, 11, 9] (fCons (fTwo gIx (fVar 10) (fC (.int 1))) (fCons (fC (.int 0)) (fCons (fTwo gAdd (fVar 16) (fTwo gMul (fLst (fCons (fC (.int 0)) fNil)) (fTwo gSub2 (fVar 18) (fOne gLen (fVar 16))))) (fCons (fTwo gIx (fVar 10) (fC (.int 3))) fNil)))))))) (fSeq (fSet 20 (fIf (fTest (fTwo (gEq false) (fVar 13) (fC (.str "retnone")))) (fC (.int 0)) (fIf (fTest (fTwo (gIs false) (fTwo gIx (fVar 10) (fC (.int 1))) (fC .non))) (fC .non) (fTwo gIx (fVar 11) (fTwo gIx (fVar 10) (fC (.int 1)))))))
    (fRetE (fCall F_law_left (fCons (fVar 2) (fCons (fTup (fCons (fOne gTuple (fOne gSortIt (fVar 3))) (fCons (fVar 4) (fCons (fVar 5) fNil)))) (fCons (fVar 20) (fCons (fOne gTupleW (fVar 11)) (fCons (fVar 9) fNil))))))))))))))
    (fRetE (fTup (fCons (fOne gTupleW (fTwo gAdd (fVar 2) (fLst (fCons (fTup (fCons (fVar 6) (fCons (fVar 12) (fCons (fOne gTupleW (fVar 11)) (fCons (fVar 9) fNil))))) fNil)))) (fCons (fOne gTuple (fOne gSortIt (fVar 3))) (fCons (fVar 4) (fCons (fVar 5) fNil))))))))))))
theorem ok_law_do {f : Addr} {fd : FuncData} (Fn : Fun K "_law_do" "_law_do" s_law_do f fd) (T : Txt mg) (D_law_left : FD P w K mg base 1 "_law_left" P_law_left F_law_left) : FnOk P w K mg base CX0 2 f fd P_law_do (SpD K F_law_do) := by
  refine ok_of Fn sc_law_do (by decide) fun cdv A outer s H E hr => ?_
  have hu := hu_of hr
  exact ⟨_, (dss_cons (ds_row [2, 3, 4, 5] rfl (das_cons (de_list T.list (de_ix (dv 1) de_int)) (das_cons (de_dict rfl T.dict (de_list T.list (de_ix (dv 1) de_int))) (das_cons (de_ix (dv 1) de_int) (das_cons (de_ix (dv 1) de_int) das_nil)))) (pgs_cons (pg_name (i := 2) sc_law_do.nd rfl (Or.inl rfl)) (pgs_cons (pg_name (i := 3) sc_law_do.nd rfl (Or.inl rfl)) (pgs_cons (pg_name (i := 4) sc_law_do.nd rfl (Or.inl rfl)) (pgs_cons (pg_name (i := 5) sc_law_do.nd rfl (Or.inl rfl)) pgs_nil)))))
      (dss_cons (ds_pop 2 (dg_tup rfl (dgs_cons (dg_name 6 sc_law_do.nd) (dgs_cons (dg_name 7 sc_law_do.nd) (dgs_cons (dg_name 8 sc_law_do.nd) (dgs_cons (dg_name 9 sc_law_do.nd) dgs_nil))))))
      (dss_cons (ds_row [10, 11, 12] rfl (das_cons (de_ix (de_ix (de_ix (dv 0) (dv 6)) de_int) (dv 7)) (das_cons (de_list T.list (dv 8)) (das_cons (de_op op_addD (dv 7) de_int) das_nil))) (pgs_cons (pg_name (i := 10) sc_law_do.nd rfl (Or.inl rfl)) (pgs_cons (pg_name (i := 11) sc_law_do.nd rfl (Or.inr rfl)) (pgs_cons (pg_name (i := 12) sc_law_do.nd rfl (Or.inl rfl)) pgs_nil))))
      (dss_cons (ds_set 13 (de_ix (dv 10) de_int) sc_law_do.nd)
      (dss_cons (ds_if (dt_cmp op_inD (dv 13) (de_tup (das_cons de_str (das_cons de_str (das_cons de_str das_nil))))) (dss_one (ds_asg (de_if (dt_cmp op_eqS (dv 13) de_str) (de_ix (dv 11) (de_ix (dv 10) de_int)) (de_if (dt_cmp op_eqS (dv 13) de_str) (de_get2 hu (dv 3) (de_ix (dv 11) (de_ix (dv 10) de_int)) de_int) de_int)) (dg_subL 11 (de_ix (dv 10) de_int)))) (dss_one (ds_if (dt_cmp op_inD (dv 13) (de_tup (das_cons de_str (das_cons de_str das_nil)))) (dss_one (ds_asg (de_if (dt_cmp op_eqS (dv 13) de_str) (de_ix (dv 11) (de_ix (dv 10) de_int)) de_int) (dg_subD 3 hu (de_ix (dv 11) (de_ix (dv 10) de_int))))) (dss_one (ds_if (dt_cmp op_eqS (dv 13) de_str) (dss_cons (ds_set 14 (de_if (dt_cmp op_neS (dv 4) de_int) (dv 4) (dv 5)) sc_law_do.nd)
      (dss_cons (ds_asg (de_if (dt_cmp op_neS (dv 4) de_int) (de_tup (das_cons (de_get2 hu (dv 3) (dv 4) de_int) (das_cons (dv 5) das_nil))) (de_tup (das_cons de_int (das_cons (de_op op_addD (dv 5) de_int) das_nil)))) (dg_tup rfl (dgs_cons (dg_name 4 sc_law_do.nd) (dgs_cons (dg_name 5 sc_law_do.nd) dgs_nil))))
      (dss_one (ds_asg (de_tup (das_cons de_int (das_cons (dv 14) das_nil))) (dg_tup rfl (dgs_cons (dg_subD 3 hu (dv 14)) (dgs_cons (dg_subL 11 (de_ix (dv 10) de_int)) dgs_nil))))))) (dss_one (ds_if (dt_cmp op_eqS (dv 13) de_str) (dss_one (ds_asg (de_tup (das_cons (dv 4) (das_cons (de_ix (dv 11) (de_ix (dv 10) de_int)) das_nil))) (dg_tup rfl (dgs_cons (dg_subD 3 hu (de_ix (dv 11) (de_ix (dv 10) de_int))) (dgs_cons (dg_name 4 sc_law_do.nd) dgs_nil))))) (dss_one (ds_if (dt_cmp op_inD (dv 13) (de_tup (das_cons de_str (das_cons de_str (das_cons de_str das_nil))))) (dss_cons (ds_set 15 (de_orV (de_cmp op_eqS (dv 13) de_str) (de_one (de_cmp op_eqS (de_ix (dv 11) (de_ix (dv 10) de_int)) (de_if (dt_cmp op_eqS (dv 13) de_str) (de_ix (dv 11) (de_ix (dv 10) de_int)) de_int)))) sc_law_do.nd)
      (dss_one (ds_set 12 (de_if (dt_val (dv 15)) (de_ix (dv 10) (de_neg de_int)) (dv 12)) sc_law_do.nd))) (dss_one (ds_if (dt_cmp op_eqS (dv 13) de_str) (dss_cons (ds_app 2 (de_tup (das_cons (dv 6) (das_cons (dv 12) (das_cons (de_tupleW T.tuple (dv 11)) (das_cons (dv 9) das_nil))))))
      (dss_cons (ds_setLcT 16 (own := [("r", 21)]) rfl sc_law_do.nd (blkOk_by (N := N_law_do) (sc := defScope s_law_do) (by decide +kernel)) (de_ix (dv 10) de_int) (ec_name 21) (fun _ _ _ _ _ => pg_name (i := 21) sc_law_do.nd rfl (Or.inl rfl)) (fun _ _ _ _ _ => dts_nil) (fun _ _ _ _ _ => (de_if (dt_cmp op_isD (dv 21) de_non) de_int (de_ixK K rfl (dv 11) (dv 21)))) s)
      (dss_cons (ds_asg (de_ix (dv 0) (de_ix (dv 10) de_int)) (dg_tup rfl (dgs_cons (dg_name 17 sc_law_do.nd) (dgs_cons (dg_name 18 sc_law_do.nd) (dgs_cons (dg_name 19 sc_law_do.nd) dgs_nil)))))
      (dss_one (ds_row [6, 12, 11, 9] rfl (das_cons (de_ix (dv 10) de_int) (das_cons de_int (das_cons (de_op op_addD (dv 16) (de_op op_mulD (de_lst (das_cons de_int das_nil)) (de_op op_subD (dv 18) (de_len T.len (dv 16))))) (das_cons (de_ix (dv 10) de_int) das_nil)))) (pgs_cons (pg_name (i := 6) sc_law_do.nd rfl (Or.inl rfl)) (pgs_cons (pg_name (i := 12) sc_law_do.nd rfl (Or.inl rfl)) (pgs_cons (pg_name (i := 11) sc_law_do.nd rfl (Or.inr rfl)) (pgs_cons (pg_name (i := 9) sc_law_do.nd rfl (Or.inl rfl)) pgs_nil))))))))) (dss_cons (ds_set 20 (de_if (dt_cmp op_eqS (dv 13) de_str) de_int (de_if (dt_cmp op_isD (de_ix (dv 10) de_int) de_non) de_non (de_ix (dv 11) (de_ix (dv 10) de_int)))) sc_law_do.nd)
      (dss_one (ds_ret (de_call D_law_left hr (das_cons (dv 2) (das_cons (de_tup (das_cons (de_tuple T.tuple (de_sortIt rfl T.sorted (dv 3))) (das_cons (dv 4) (das_cons (dv 5) das_nil)))) (das_cons (dv 20) (das_cons (de_tupleW T.tuple (dv 11)) (das_cons (dv 9) das_nil))))))))))))))))))))
      (dss_one (ds_ret (de_tup (das_cons (de_tupleW T.tuple (de_op op_addD (dv 2) (de_lst (das_cons (de_tup (das_cons (dv 6) (das_cons (dv 12) (das_cons (de_tupleW T.tuple (dv 11)) (das_cons (dv 9) das_nil))))) das_nil)))) (das_cons (de_tuple T.tuple (de_sortIt rfl T.sorted (dv 3))) (das_cons (dv 4) (das_cons (dv 5) das_nil))))))))))))⟩
abbrev s_law_asked : Stmt := top 39
abbrev N_law_asked : List Str := ["functions", "stand", "number", "at", "registers", "into", "one"]
abbrev P_law_asked : List Str := ["functions", "stand"]
theorem sc_law_asked : FnScope N_law_asked P_law_asked (defScope s_law_asked) := ⟨rfl, rfl, rfl, by decide +kernel, rfl, by decide +kernel, by decide +kernel⟩
def F_law_asked : List SD → Option SD := fRun 7 2 ((fSeq (fAsg (fTwo gIx (fTwo gIx (fVar 1) (fC (.int 0))) (fOne gNeg (fC (.int 1)))) (hTup 4 (hCons (hName 2) (hCons (hName 3) (hCons (hName 4) (hCons (hName 5) hNil))))))
    (fSeq (fSet 6 (fTwo gIx (fTwo gIx (fTwo gIx (fVar 0) (fVar 2)) (fC (.int 2))) (fVar 3)))
    (fSeq (fIfS (fTest (fTwo (gEq false) (fTwo gIx (fVar 6) (fC (.int 0))) (fC (.str "load")))) (fRetE (fTwo gIx (fVar 4) (fTwo gIx (fVar 6) (fC (.int 2))))) (fun ρ => some (.nx ρ)))
    (fRetE (fIf (fTest (fTwo (gIn false) (fTwo gIx (fVar 6) (fC (.int 0))) (fTup (fCons (fC (.str "store")) (fCons (fC (.str "clear")) (fCons (fC (.str "release")) fNil)))))) (fTwo gIx (fVar 4) (fTwo gIx (fVar 6) (fC (.int 1)))) (fC .non)))))))
theorem ok_law_asked {f : Addr} {fd : FuncData} (Fn : Fun K "_law_asked" "_law_asked" s_law_asked f fd) (T : Txt mg) : FnOk P w K mg base CX0 1 f fd P_law_asked (SpD K F_law_asked) := by
  refine ok_of Fn sc_law_asked (by decide) fun cdv A outer s H E hr => ?_
  have hu := hu_of hr
  exact ⟨_, (dss_cons (ds_asg (de_ix (de_ix (dv 1) de_int) (de_neg de_int)) (dg_tup rfl (dgs_cons (dg_name 2 sc_law_asked.nd) (dgs_cons (dg_name 3 sc_law_asked.nd) (dgs_cons (dg_name 4 sc_law_asked.nd) (dgs_cons (dg_name 5 sc_law_asked.nd) dgs_nil))))))
      (dss_cons (ds_set 6 (de_ix (de_ix (de_ix (dv 0) (dv 2)) de_int) (dv 3)) sc_law_asked.nd)
      (dss_cons (ds_if (dt_cmp op_eqS (de_ix (dv 6) de_int) de_str) (dss_one (ds_ret (de_ix (dv 4) (de_ix (dv 6) de_int)))) dss_nil)
      (dss_one (ds_ret (de_if (dt_cmp op_inD (de_ix (dv 6) de_int) (de_tup (das_cons de_str (das_cons de_str (das_cons de_str das_nil))))) (de_ix (dv 4) (de_ix (dv 6) de_int)) de_non))))))⟩
abbrev s_law_cells : Stmt := top 40
abbrev N_law_cells : List Str := ["functions", "stand", "cells", "number", "at", "registers", "into", "word", "one"]
abbrev P_law_cells : List Str := ["functions", "stand", "cells"]
theorem sc_law_cells : FnScope N_law_cells P_law_cells (defScope s_law_cells) := ⟨rfl, rfl, rfl, by decide +kernel, rfl, by decide +kernel, by decide +kernel⟩
def F_law_cells : List SD → Option SD := fRun 9 3 ((fSeq (fAsg (fTwo gIx (fTwo gIx (fVar 1) (fC (.int 0))) (fOne gNeg (fC (.int 1)))) (hTup 4 (hCons (hName 3) (hCons (hName 4) (hCons (hName 5) (hCons (hName 6) hNil))))))
    (fSeq (fSet 7 (fTwo gIx (fTwo gIx (fTwo gIx (fTwo gIx (fVar 0) (fVar 3)) (fC (.int 2))) (fVar 4)) (fC (.int 0))))
    (fSeq (fIfS (fTest (fTwo (gEq false) (fVar 7) (fC (.str "alloc")))) (fRetE (fOne gSortI (fTwo gAdd (fVar 2) (fLst (fCons (fIf (fTest (fTwo (gEq true) (fTwo gIx (fVar 1) (fC (.int 2))) (fC (.int 0)))) (fTwo gIx (fVar 1) (fC (.int 2))) (fTwo gIx (fVar 1) (fC (.int 3)))) fNil))))) (fun ρ => some (.nx ρ)))
    (fRetE (fLc itL [8] (fVar 2) (hName 8) (fOr (fTest (fTwo (gEq true) (fVar 7) (fC (.str "release")))) (fTest (fTwo (gEq true) (fVar 8) (fCall F_law_asked (fCons (fVar 0) (fCons (fVar 1) fNil)))))) (fVar 8)))))))
theorem ok_law_cells {f : Addr} {fd : FuncData} (Fn : Fun K "_law_cells" "_law_cells" s_law_cells f fd) (T : Txt mg) (D_law_asked : FD P w K mg base 1 "_law_asked" P_law_asked F_law_asked) : FnOk P w K mg base CX0 2 f fd P_law_cells (SpD K F_law_cells) := by
  refine ok_of Fn sc_law_cells (by decide) fun cdv A outer s H E hr => ?_
  have hu := hu_of hr
  exact ⟨_, (dss_cons (ds_asg (de_ix (de_ix (dv 1) de_int) (de_neg de_int)) (dg_tup rfl (dgs_cons (dg_name 3 sc_law_cells.nd) (dgs_cons (dg_name 4 sc_law_cells.nd) (dgs_cons (dg_name 5 sc_law_cells.nd) (dgs_cons (dg_name 6 sc_law_cells.nd) dgs_nil))))))
      (dss_cons (ds_set 7 (de_ix (de_ix (de_ix (de_ix (dv 0) (dv 3)) de_int) (dv 4)) de_int) sc_law_cells.nd)
      (dss_cons (ds_if (dt_cmp op_eqS (dv 7) de_str) (dss_one (ds_ret (de_sortI T.sorted (de_op op_addD (dv 2) (de_lst (das_cons (de_if (dt_cmp op_neS (de_ix (dv 1) de_int) de_int) (de_ix (dv 1) de_int) (de_ix (dv 1) de_int)) das_nil)))))) dss_nil)
      (dss_one (ds_ret (de_lcL (own := [("one", 8)]) rfl sc_law_cells.nd (blkOk_by (N := N_law_cells) (sc := defScope s_law_cells) (by decide +kernel)) (dv 2) (ec_name 8) (fun _ _ _ _ _ => pg_name (i := 8) sc_law_cells.nd rfl (Or.inl rfl)) (fun _ _ _ _ _ => dts_one (DW.dt (dw_or (dt_cmp op_neS (dv 7) de_str) (dw_or1 (dt_cmp op_neS (dv 8) (de_callK K rfl D_law_asked hr (das_cons (dv 0) (das_cons (dv 1) das_nil)))))))) (fun _ _ _ _ _ => (dv 8)) s))))))⟩
abbrev s_law_at : Stmt := top 42
abbrev N_law_at : List Str := ["memory", "row"]
abbrev P_law_at : List Str := ["memory"]
theorem sc_law_at : FnScope N_law_at P_law_at (defScope s_law_at) := ⟨rfl, rfl, rfl, by decide +kernel, rfl, by decide +kernel, by decide +kernel⟩
def F_law_at : List SD → Option SD := fRun 2 1 ((fRetE (fOne gTupleW (fLc itT [1] (fTwo gIx (fVar 0) (fC (.int 1))) (hName 1) (fun _ => some true) (fTwo gIx (fVar 1) (fC (.int 0)))))))
theorem ok_law_at {f : Addr} {fd : FuncData} (Fn : Fun K "_law_at" "_law_at" s_law_at f fd) (T : Txt mg) : FnOk P w K mg base CX0 1 f fd P_law_at (SpD K F_law_at) := by
  refine ok_of Fn sc_law_at (by decide) fun cdv A outer s H E hr => ?_
  have hu := hu_of hr
  exact ⟨_, (dss_one (ds_ret (de_tupleW T.tuple (de_lcT (own := [("row", 1)]) rfl sc_law_at.nd (blkOk_by (N := N_law_at) (sc := defScope s_law_at) (by decide +kernel)) (de_ix (dv 0) de_int) (ec_name 1) (fun _ _ _ _ _ => pg_name (i := 1) sc_law_at.nd rfl (Or.inl rfl)) (fun _ _ _ _ _ => dts_nil) (fun _ _ _ _ _ => (de_ixK K rfl (dv 1) de_int)) s))))⟩
end
end K9
namespace K9
open PySem L2 Dn
abbrev P_law_take : List Str := ["bag", "many"]
def W_law_take : List SD → (SD → Prop) → Prop := fun args P => ∃ m : Nat, args = [.v (.int m)] ∧ 1 ≤ m ∧ m ≤ 10000 ∧ ∀ r : Nat, r < m → P (.v (.int r))
section
variable {P : Program} {w : World} {K : PySem.W.Frag} {mg : Str → Option Value} {base : Heap}
abbrev s_law_some : Stmt := top 30
abbrev N_law_some : List Str := ["bag", "things"]
abbrev P_law_some : List Str := ["bag", "things"]
theorem sc_law_some : FnScope N_law_some P_law_some (defScope s_law_some) := ⟨rfl, rfl, rfl, by decide +kernel, rfl, by decide +kernel, by decide +kernel⟩
def W_law_some : List SD → (SD → Prop) → Prop := wRun 2 2 ((wRet (wTwo gIx (wVar 1) (wCall W_law_take (wCons (wDet (fOne gLen (fVar 1))) wNil)))))
theorem ok_law_some {f : Addr} {fd : FuncData} (Fn : Fun K "_law_some" "_law_some" s_law_some f fd) (T : Txt mg) (D_law_take : FW P w K mg base 1 "_law_take" P_law_take W_law_take) : FnOk P w K mg base CX0 2 f fd P_law_some (SpW K W_law_some) := by
  refine okW_of Fn sc_law_some (by decide) fun cdv A outer s H E hr => ?_
  have hu := hu_of hr
  exact ⟨_, (dws_one (dws_ret (dw_ix (dw_var 1) (dw_call D_law_take hr (daw_cons (dw_det (de_len T.len (dv 1))) daw_nil)))))⟩
abbrev s_law_mixed : Stmt := top 31
abbrev N_law_mixed : List Str := ["bag", "things", "found", "thing"]
abbrev P_law_mixed : List Str := ["bag", "things"]
theorem sc_law_mixed : FnScope N_law_mixed P_law_mixed (defScope s_law_mixed) := ⟨rfl, rfl, rfl, by decide +kernel, rfl, by decide +kernel, by decide +kernel⟩
def W_law_mixed : List SD → (SD → Prop) → Prop := wRun 4 2 ((wSeq (wSet 2 (wDet (fLst fNil)))
    (wSeq (wForL 3 1 (wIns 2 (wCall W_law_take (wCons (wDet (fTwo gAdd (fOne gLen (fVar 2)) (fC (.int 1)))) wNil)) (wVar 3)))
    (wRetV 2))))
theorem ok_law_mixed {f : Addr} {fd : FuncData} (Fn : Fun K "_law_mixed" "_law_mixed" s_law_mixed f fd) (T : Txt mg) (D_law_take : FW P w K mg base 1 "_law_take" P_law_take W_law_take) : FnOk P w K mg base CX0 2 f fd P_law_mixed (SpW K W_law_mixed) := by
  refine okW_of Fn sc_law_mixed (by decide) fun cdv A outer s H E hr => ?_
  have hu := hu_of hr
  exact ⟨_, (dws_cons (dws_set 2 (dw_det (de_lst das_nil)) sc_law_mixed.nd)
      (dws_cons (dws_forL 3 1 rfl PassesOwn.never (dws_one (dws_ins 2 (dw_call D_law_take hr (daw_cons (dw_det (de_op op_addD (de_len T.len (dv 2)) de_int)) daw_nil)) (dw_var 3))) sc_law_mixed.nd)
      (dws_one (dws_retV 2))))⟩
abbrev s_law_instruction : Stmt := top 35
abbrev N_law_instruction : List Str := ["bag", "many", "at", "size", "words", "word", "r", "s", "to"]
abbrev P_law_instruction : List Str := ["bag", "many", "at", "size"]
theorem sc_law_instruction : FnScope N_law_instruction P_law_instruction (defScope s_law_instruction) := ⟨rfl, rfl, rfl, by decide +kernel, rfl, by decide +kernel, by decide +kernel⟩
def W_law_instruction : List SD → (SD → Prop) → Prop := wRun 9 4 ((wSeq (wSet 4 (wDet (fLst (fCons (fC (.str "move")) (fCons (fC (.str "zero")) (fCons (fC (.str "load")) (fCons (fC (.str "store")) (fCons (fC (.str "clear")) (fCons (fC (.str "alloc")) (fCons (fC (.str "alloc")) (fCons (fC (.str "release")) (fCons (fC (.str "same")) (fCons (fC (.str "none")) (fCons (fC (.str "jump")) fNil))))))))))))))
    (wSeq (wSet 5 (wCall W_law_some (wCons (wVar 4) wNil)))
    (wSeq (wRow [6, 7, 8] (wCons (wCall W_law_take (wCons (wVar 1) wNil)) (wCons (wCall W_law_take (wCons (wVar 1) wNil)) (wCons (wCall W_law_take (wCons (wVar 3) wNil)) wNil))))
    (wSeq (wIf (fTest (fTwo (gIn false) (fVar 5) (fTup (fCons (fC (.str "zero")) (fCons (fC (.str "clear")) (fCons (fC (.str "alloc")) (fCons (fC (.str "release")) fNil))))))) (wRet (wDet (fTup (fCons (fVar 5) (fCons (fVar 6) fNil))))) wNext)
    (wSeq (wIf (fTest (fTwo (gIn false) (fVar 5) (fTup (fCons (fC (.str "move")) (fCons (fC (.str "load")) (fCons (fC (.str "store")) fNil)))))) (wRet (wDet (fTup (fCons (fVar 5) (fCons (fVar 6) (fCons (fVar 7) fNil)))))) wNext)
    (wSeq (wIf (fTest (fTwo (gEq false) (fVar 5) (fC (.str "same")))) (wRet (wDet (fTup (fCons (fVar 5) (fCons (fVar 6) (fCons (fVar 7) (fCons (fVar 8) fNil))))))) wNext)
    (wRet (wDet (fIf (fTest (fTwo (gEq false) (fVar 5) (fC (.str "none")))) (fTup (fCons (fVar 5) (fCons (fVar 6) (fCons (fVar 8) fNil)))) (fTup (fCons (fVar 5) (fCons (fVar 8) fNil)))))))))))))
theorem ok_law_instruction {f : Addr} {fd : FuncData} (Fn : Fun K "_law_instruction" "_law_instruction" s_law_instruction f fd) (T : Txt mg) (D_law_take : FW P w K mg base 1 "_law_take" P_law_take W_law_take) (D_law_some : FW P w K mg base 2 "_law_some" P_law_some W_law_some) : FnOk P w K mg base CX0 3 f fd P_law_instruction (SpW K W_law_instruction) := by
  refine okW_of Fn sc_law_instruction (by decide) fun cdv A outer s H E hr => ?_
  have hu := hu_of hr
  exact ⟨_, (dws_cons (dws_set 4 (dw_det (de_lst (das_cons de_str (das_cons de_str (das_cons de_str (das_cons de_str (das_cons de_str (das_cons de_str (das_cons de_str (das_cons de_str (das_cons de_str (das_cons de_str (das_cons de_str das_nil))))))))))))) sc_law_instruction.nd)
      (dws_cons (dws_set 5 (dw_call D_law_some hr (daw_cons (dw_var 4) daw_nil)) sc_law_instruction.nd)
      (dws_cons (dws_par3 6 7 8 rfl sc_law_instruction.nd (daw_cons (dw_call D_law_take hr (daw_cons (dw_var 1) daw_nil)) (daw_cons (dw_call D_law_take hr (daw_cons (dw_var 1) daw_nil)) (daw_cons (dw_call D_law_take hr (daw_cons (dw_var 3) daw_nil)) daw_nil))))
      (dws_cons (dws_if (dt_cmp op_inD (dv 5) (de_tup (das_cons de_str (das_cons de_str (das_cons de_str (das_cons de_str das_nil)))))) (dws_one (dws_ret (dw_det (de_tup (das_cons (dv 5) (das_cons (dv 6) das_nil)))))) dws_nil)
      (dws_cons (dws_if (dt_cmp op_inD (dv 5) (de_tup (das_cons de_str (das_cons de_str (das_cons de_str das_nil))))) (dws_one (dws_ret (dw_det (de_tup (das_cons (dv 5) (das_cons (dv 6) (das_cons (dv 7) das_nil))))))) dws_nil)
      (dws_cons (dws_if (dt_cmp op_eqS (dv 5) de_str) (dws_one (dws_ret (dw_det (de_tup (das_cons (dv 5) (das_cons (dv 6) (das_cons (dv 7) (das_cons (dv 8) das_nil)))))))) dws_nil)
      (dws_one (dws_ret (dw_det (de_if (dt_cmp op_eqS (dv 5) de_str) (de_tup (das_cons (dv 5) (das_cons (dv 6) (das_cons (dv 8) das_nil)))) (de_tup (das_cons (dv 5) (das_cons (dv 8) das_nil)))))))))))))⟩
abbrev s_law_code : Stmt := top 36
abbrev N_law_code : List Str := ["bag", "calls", "found", "k", "size", "code", "at"]
abbrev P_law_code : List Str := ["bag", "calls"]
theorem sc_law_code : FnScope N_law_code P_law_code (defScope s_law_code) := ⟨rfl, rfl, rfl, by decide +kernel, rfl, by decide +kernel, by decide +kernel⟩
def W_law_code : List SD → (SD → Prop) → Prop := wRun 7 2 ((wSeq (wSet 2 (wDet (fLst fNil)))
    (wSeq (wFor 3 (fTwo gAdd (fC (.int 1)) (fVar 1)) (wSeq (wSet 4 (wTwo gAdd (wDet (fC (.int 3))) (wCall W_law_take (wCons (wDet (fC (.int 5))) wNil))))
    (wSeq (wLcR 5 6 (fTwo gSub2 (fVar 4) (fC (.int 1))) (wCall W_law_instruction (wCons (wDet (fC (.int 3))) (wCons (wVar 6) (wCons (wVar 4) wNil)))))
    (wSeq (wApp 5 (wCall W_law_some (wCons (wDet (fLst (fCons (fTup (fCons (fC (.str "ret")) (fCons (fC (.int 0)) fNil))) (fCons (fTup (fCons (fC (.str "ret")) (fCons (fC .non) fNil))) (fCons (fTup (fCons (fC (.str "retnone")) fNil)) fNil))))) wNil)))
    (wSeq (wIf (fAnd (fTest (fTwo (gEq false) (fVar 3) (fC (.int 0)))) (fTest (fTwo (gEq false) (fVar 1) (fC (.int 1))))) (wSub 5 (wTup (wCons (wDet (fC (.str "call"))) (wCons (wDet (fC (.int 1))) (wCons (wTup (wCons (wCall W_law_some (wCons (wDet (fLst (fCons (fC (.int 0)) (fCons (fC (.int 1)) (fCons (fC .non) fNil))))) wNil)) wNil)) (wCons (wCall W_law_some (wCons (wDet (fLst (fCons (fC .non) (fCons (fC (.int 2)) fNil)))) wNil)) wNil))))) (wCall W_law_take (wCons (wDet (fTwo gSub2 (fVar 4) (fC (.int 1)))) wNil))) wNext)
    (wApp 2 (wDet (fTup (fCons (fC (.int 1)) (fCons (fC (.int 3)) (fCons (fOne gTupleW (fVar 5)) fNil)))))))))))
    (wRet (wDet (fOne gTupleW (fVar 2)))))))
theorem ok_law_code {f : Addr} {fd : FuncData} (Fn : Fun K "_law_code" "_law_code" s_law_code f fd) (T : Txt mg) (D_law_take : FW P w K mg base 1 "_law_take" P_law_take W_law_take) (D_law_some : FW P w K mg base 2 "_law_some" P_law_some W_law_some) (D_law_instruction : FW P w K mg base 3 "_law_instruction" P_law_instruction W_law_instruction) : FnOk P w K mg base CX0 4 f fd P_law_code (SpW K W_law_code) := by
  refine okW_of Fn sc_law_code (by decide) fun cdv A outer s H E hr => ?_
  have hu := hu_of hr
  exact ⟨_, (dws_cons (dws_set 2 (dw_det (de_lst das_nil)) sc_law_code.nd)
      (dws_cons (dws_forR 3 rfl PassesOwn.never T.range (de_op op_addD de_int (dv 1)) (dws_cons (dws_set 4 (dw_op op_addD (dw_det de_int) (dw_call D_law_take hr (daw_cons (dw_det de_int) daw_nil))) sc_law_code.nd)
      (dws_cons (dws_lcR 5 6 rfl sc_law_code.nd T.range (blkOk_by (N := N_law_code) (sc := defScope s_law_code) (own := [("at", 6)]) (by decide +kernel)) (de_op op_subD (dv 4) de_int) (fun _ _ _ _ _ => pg_name (i := 6) sc_law_code.nd rfl (Or.inl rfl)) (fun _ _ _ _ _ => (dw_callK K rfl D_law_instruction hr (daw_cons (dw_det de_int) (daw_cons (dw_var 6) (daw_cons (dw_var 4) daw_nil))))) s)
      (dws_cons (dws_app 5 (dw_call D_law_some hr (daw_cons (dw_det (de_lst (das_cons (de_tup (das_cons de_str (das_cons de_int das_nil))) (das_cons (de_tup (das_cons de_str (das_cons de_non das_nil))) (das_cons (de_tup (das_cons de_str das_nil)) das_nil))))) daw_nil)))
      (dws_cons (dws_if (DW.dt (dw_and (dt_cmp op_eqS (dv 3) de_int) (dw_and1 (dt_cmp op_eqS (dv 1) de_int)))) (dws_one (dws_sub 5 (dw_tup (daw_cons (dw_det de_str) (daw_cons (dw_det de_int) (daw_cons (dw_tup (daw_cons (dw_call D_law_some hr (daw_cons (dw_det (de_lst (das_cons de_int (das_cons de_int (das_cons de_non das_nil))))) daw_nil)) daw_nil)) (daw_cons (dw_call D_law_some hr (daw_cons (dw_det (de_lst (das_cons de_non (das_cons de_int das_nil)))) daw_nil)) daw_nil))))) (dw_call D_law_take hr (daw_cons (dw_det (de_op op_subD (dv 4) de_int)) daw_nil)))) dws_nil)
      (dws_one (dws_app 2 (dw_det (de_tup (das_cons de_int (das_cons de_int (das_cons (de_tupleW T.tuple (dv 5)) das_nil))))))))))) sc_law_code.nd)
      (dws_one (dws_ret (dw_det (de_tupleW T.tuple (dv 2)))))))⟩
end
end K9
/-! One draw. -/
namespace K9
open PySem PySem.Spec L2 Dn
open PyProof.Rows (envOfC)
open Evl (Ex Ex.refl Ex.trans Ex.new ex_rd ex_l ex_t fresh_back)
structure Txt2 (mg : Str → Option Value) : Prop where
  T : Txt mg
  int : mg "int" = none
  abs : mg "abs" = none
  sum : mg "sum" = none
  zip : mg "zip" = none
  set : mg "set" = none
  repr : mg "repr" = none
abbrev s_law_take : Stmt := top 29
abbrev N_law_take : List Str := ["bag", "many", "cell", "stirred", "value", "first", "second"]
theorem sc_law_take : FnScope N_law_take P_law_take (defScope s_law_take) := ⟨rfl, rfl, rfl, by decide +kernel, rfl, by decide +kernel, by decide +kernel⟩
def rGetL (K : PySem.W.Frag) : V → V → Hp → VK → Prop := fun o i H Q => ∃ p xs k v, o = .ref p ∧ i = .int (k : Nat) ∧ SqL K H p xs ∧ xs[k]? = some v ∧ Q v H
theorem get_list {X : Cx} : PGet X (rGetL X.K) := by
  intro pins s σ H o i ov iv Q I ro ri h
  obtain ⟨p, xs, k, z, rfl, rfl, hq, he, q⟩ := h
  cases ro
  obtain ⟨t, rfl⟩ := ri
  obtain ⟨its, r, pl, hz⟩ := I.list hq
  obtain ⟨w, ew, rw'⟩ := r.get he
  have hl := r.length
  have hk := (List.getElem?_eq_some_iff.mp he).1
  have hn := line63
  exact wpAny_getItem_list pl.isList (by omega) (by omega) (by simpa using ew) ⟨z, H, I, rw', q⟩
/-- the bag's parts by their places -/
theorem bagIx {K : PySem.W.Frag} {σ : L2.St} {H : Hp} {a : Addr} {xs : List V} {i : Int} {v : V} {Q : VK} (h : σ[0]? = some (some (.ref a))) (hH : H a = some (.lst xs)) (e : atI xs i = some v) (q : Q v H) : tOp (rIxL K) (tVar 0) (tC (.int i)) σ H Q :=
  ⟨.ref a, h, a, xs, i, v, rfl, rfl, SqL.of hH, e, q⟩
theorem cut_ints (ns : List Int) (lo hi : Option Int) : ∃ ms : List Int, cutV (ns.map V.int) lo hi = ms.map V.int ∧ ms.length ≤ ns.length ∧ ∀ m ∈ ms, m ∈ ns := by
  refine ⟨(ns.drop (HT.sIx (ns.map V.int).length 0 lo)).take (HT.sIx (ns.map V.int).length (ns.map V.int).length hi - HT.sIx (ns.map V.int).length 0 lo), ?_, ?_, fun m h => ?_⟩
  · unfold cutV
    rw [List.map_take, List.map_drop]
  · rw [List.length_take, List.length_drop]
    omega
  · exact List.mem_of_mem_drop (List.mem_of_mem_take h)
theorem head_int (ms : List Int) (h : ∀ m ∈ ms, 0 ≤ m) : ∃ c : Int, 0 ≤ c ∧ atI (ms.map V.int ++ [V.int 0]) 0 = some (.int c) := by
  cases ms with
  | nil => exact ⟨0, by decide, rfl⟩
  | cons m r =>
    refine ⟨m, h m List.mem_cons_self, ?_⟩
    unfold atI ixN
    simp only [List.length_append, List.length_map, List.length_cons, List.length_nil]
    rw [if_pos (by decide), if_pos (by omega)]
    rfl
/-- the bag's state -/
structure BS (H H' : Hp) (a q : Addr) (ns : List Int) (x y z : Int) : Prop where
  ex : ExB (At1 a) H H'
  la : H' a = some (.lst [.int x, .int y, .int z, .ref q])
  lq : H' q = some (.lst (ns.map V.int))
  x0 : 0 ≤ x
  y0 : 0 ≤ y
  z0 : 0 ≤ z
theorem BS.put {H H' : Hp} {a q : Addr} {ns : List Int} {x y z x' y' z' : Int} (b : BS H H' a q ns x y z) (h1 : 0 ≤ x') (h2 : 0 ≤ y') (h3 : 0 ≤ z') : BS H (upd H' a (.lst [.int x', .int y', .int z', .ref q])) a q ns x' y' z' := by
  have qa : q ≠ a := fun e => by
    have := b.lq
    rw [e, b.la] at this
    have h := (HO.lst.inj (Option.some.inj this))
    cases ns with
    | nil => cases h
    | cons n1 ns => cases ns with
      | nil => cases h
      | cons n2 ns => cases ns with
        | nil => cases h
        | cons n3 ns => cases ns with
          | nil => cases h
          | cons n4 ns => simp at h
  refine ⟨⟨fun c o nb e => ?_, fun c e => ?_⟩, upd_same, by rw [upd_ne qa]; exact b.lq, h1, h2, h3⟩
  · have nb : c ≠ a := nb
    rw [upd_ne nb]
    exact b.ex.1 c o nb e
  · by_cases hc : c = a
    · rw [hc, upd_same]
      simp
    · rw [upd_ne hc]
      exact b.ex.2 c e
theorem BS.ext {H H' H2 : Hp} {a q : Addr} {ns : List Int} {x y z : Int} (b : BS H H' a q ns x y z) (e : Ex H' H2) : BS H H2 a q ns x y z := ⟨b.ex.trans (.of e), e _ _ b.la, e _ _ b.lq, b.x0, b.y0, b.z0⟩
section
variable {P : Program} {w : World} {K : PySem.W.Frag} {mg : Str → Option Value} {base : Heap}
theorem emod_0 (i : Int) {j : Int} (h : 0 < j) : 0 ≤ i % j := Int.emod_nonneg _ (by omega)
theorem ok_law_take {f : Addr} {fd : FuncData} (Fn : Fun K "_law_take" "_law_take" s_law_take f fd) (T2 : Txt2 mg) : FnOk P w K mg base CX0 1 f fd P_law_take (SpW K W_law_take) := by
  have T := T2.T
  have nd := sc_law_take.nd
  refine Fn.ok sc_law_take (fun vs H Q E h => ?_) (fun cdv A outer s H vs Q E hr h => ?_)
  · obtain ⟨a, q, vs', ss, Po, rfl, g, t, nb, ⟨m, e, _⟩, _⟩ := h
    have := congrArg List.length e
    rw [List.length_cons, twa_len t]
    simpa using this
  · obtain ⟨a, q, vs', ss, Po, rfl, g, t, nb, ⟨m, e, m1, m2, pr⟩, kk⟩ := h
    have hvs : vs' = [.int m] := by
      cases t with
      | nil => exact absurd (congrArg List.length e) (by simp)
      | @cons v1 s1 vs1 ss1 t1 t2 =>
        cases t2 with
        | cons _ _ => exact absurd (congrArg List.length e) (by simp)
        | nil =>
          have e1 : s1.bor = .v (.int m) := (List.cons.inj e).1
          have t1 := tw_bor t1
          rw [e1] at t1
          rw [tw_i t1]
    subst hvs
    obtain ⟨x, y, z, ns, ha, hq, x0, y0, z0, n0, nl⟩ := g
    have b0 : BS H H a q ns x y z := ⟨ExB.refl _ _, ha, hq, x0, y0, z0⟩
    have hm0 : (0 : Int) < (m : Int) := by omega
    have fin : ∀ {H' : Hp} {x y z r : Int}, BS H H' a q ns x y z → 0 ≤ r → r < m → Q (.int r) H' := fun {H' x y z r} b r0 r1 => by
      obtain ⟨k, rfl⟩ := Int.eq_ofNat_of_zero_le r0
      exact kk (.v (.int k)) (.int k) H' (pr k (by omega)) ⟨b.ex, ⟨x, y, z, ns, b.la, b.lq, b.x0, b.y0, b.z0, n0, nl⟩, .int _, fun n => absurd rfl n, fr_v⟩
    obtain ⟨t2, h2, q2⟩ : ∃ t2, PSs (cxOf CX0 P w K mg base N_law_take "_law_take" (defScope s_law_take) f cdv A outer s H E).nox ((defBody s_law_take).tail) t2 ∧ ∀ u2 u3 H' x y z, BS H H' a q ns x y z → t2 { nx := fun _ H' => Q .non H', rt := Q } [some (.ref a), some (.int m), u2, u3, none, none, none] H' := by
      refine ⟨_, (pss_cons (ps_if (pt_cmpR op_gt (pe_ix ix_list (pv 0) pe_int (fun _ _ => rfl)) pe_int (nomark _))
        (pss_cons (ps_set (i := 4) nd rfl (Or.inl rfl) (pe_op op_mod (pe_callTy call_int1 (by rfl) T2.int (by decide +kernel) (pa_cons (pe_ix ix_list (pv 0) pe_int (fun _ _ => rfl)) pa_nil)) (pv 1)))
        (pss_cons (ps_asg (pe_op op_fdiv (pe_callTy call_int1 (by rfl) T2.int (by decide +kernel) (pa_cons (pe_ix ix_list (pv 0) pe_int (fun _ _ => rfl)) pa_nil)) (pv 1)) (pg_sub (pv 0) pe_int set_list))
        (pss_one (ps_ret (pv 4))))) pss_nil)
      (pss_cons (ps_set (i := 5) nd rfl (Or.inl rfl) (pe_op op_mod (pe_callTy call_int1 (by rfl) T2.int (by decide +kernel) (pa_cons (pe_op op_mul (pe_op op_add (pe_ix ix_list (pv 0) pe_int (fun _ _ => rfl)) pe_int) pe_int) pa_nil)) pe_int))
      (pss_cons (ps_set (i := 6) nd rfl (Or.inl rfl) (pe_op op_mod (pe_callTy call_int1 (by rfl) T2.int (by decide +kernel) (pa_cons (pe_op op_mul (pe_op op_mod (pe_callTy call_int1 (by rfl) T2.int (by decide +kernel) (pa_cons (pe_op op_mul (pv 5) (pv 5)) pa_nil)) pe_int) pe_int) pa_nil)) pe_int))
      (pss_one (ps_ret (pe_op op_mod (pe_callTy call_int1 (by rfl) T2.int (by decide +kernel) (pa_cons (pe_op op_fdiv (pv 6) pe_int) pa_nil)) (pv 1))))))), fun u2 u3 H' x y z b => ?_⟩
      refine bagIx rfl b.la rfl ?_
      refine ⟨_, _, rfl, rfl, _, rfl, ?_⟩
      refine ite2 (fun _ => ?_) (fun _ => ?_)
      · refine bagIx rfl b.la rfl (.inl ⟨_, rfl, _, rfl, _, _, rfl, rfl, hm0, ?_⟩)
        refine bagIx rfl b.la rfl (.inl ⟨_, rfl, _, rfl, _, _, rfl, rfl, ⟨hm0, by omega⟩, ?_⟩)
        refine ⟨_, rfl, _, _, _, 0, rfl, rfl, b.la, rfl, ?_⟩
        refine ⟨_, rfl, fin (b.put (x' := x / m) (y' := y) (z' := z) ?_ b.y0 b.z0) (emod_0 _ hm0) (Int.emod_lt_of_pos _ hm0)⟩
        exact Int.ediv_nonneg b.x0 (by omega)
      · refine bagIx rfl b.la rfl ⟨_, _, rfl, rfl, _, _, rfl, rfl, .inr ⟨by decide, by decide⟩, .inl ⟨_, rfl, _, _, rfl, rfl, (by decide : (0 : Int) < 1000000007), ?_⟩⟩
        refine ⟨_, rfl, _, rfl, _, _, rfl, rfl, .inl ⟨?_, ?_⟩, .inl ⟨_, rfl, _, _, rfl, rfl, (by decide : (0 : Int) < 998244353), _, _, rfl, rfl, .inr ⟨by decide, by decide⟩, .inl ⟨_, rfl, _, _, rfl, rfl, (by decide : (0 : Int) < 998244353), ?_⟩⟩⟩
        · have := emod_0 ((y + 1) * 39373) (show (0 : Int) < 1000000007 by decide)
          omega
        · have := Int.emod_lt_of_pos ((y + 1) * 39373) (show (0 : Int) < 1000000007 by decide)
          omega
        · exact ⟨_, rfl, _, _, rfl, rfl, ⟨by decide, by decide⟩, .inl ⟨_, rfl, _, rfl, _, _, rfl, rfl, hm0, fin b (emod_0 _ hm0) (Int.emod_lt_of_pos _ hm0)⟩⟩
    refine ⟨_, pss_cons (ps_if (pt_cmpR op_eq (pe_ix ix_list (pv 0) pe_int (fun _ _ => rfl)) pe_int (nomark _))
        (pss_cons (ps_set (i := 2) nd rfl (Or.inl rfl) (pe_ix ix_list (pe_op op_cat (pe_slice sl_list (pe_ix ix_list (pv 0) pe_int (fun _ _ => rfl)) (po_some (pe_ix ix_list (pv 0) pe_int (fun _ _ => rfl))) po_none) (pe_lst (pa_cons pe_int pa_nil))) pe_int (fun _ _ => rfl)))
        (pss_cons (ps_augS (pv 0) pe_int get_list pe_int ip_add set_list)
        (pss_cons (ps_if (pt_cmpR op_ge (pv 2) (pe_op op_pow pe_int pe_int) (nomark _)) (pss_one (ps_asg (pv 2) (pg_sub (pv 0) pe_int set_list))) pss_nil)
        (pss_cons (ps_set (i := 3) nd rfl (Or.inl rfl) (pe_op op_add (pe_op op_add (pe_op op_mul (pe_ix ix_list (pv 0) pe_int (fun _ _ => rfl)) pe_int) (pe_op op_mod (pe_callTy call_int1 (by rfl) T2.int (by decide +kernel) (pa_cons (pv 2) pa_nil)) pe_int)) (pe_op op_mul pe_int (pe_ix ix_list (pv 0) pe_int (fun _ _ => rfl)))))
        (pss_one (ps_asg (pe_op op_mod (pe_callTy call_int1 (by rfl) T2.int (by decide +kernel) (pa_cons (pv 3) pa_nil)) pe_int) (pg_sub (pv 0) pe_int set_list))))))) pss_nil) h2, ?_⟩
    refine bagIx rfl ha rfl ⟨rfl, _, rfl, ?_⟩
    refine ite2 (fun _ => ?_) (fun _ => q2 _ _ H x y z b0)
    obtain ⟨ms, em, lm, mm⟩ := cut_ints ns (some z) none
    obtain ⟨c, c0, ec⟩ := head_int ms fun m h => n0 m (mm m h)
    refine bagIx rfl ha rfl ?_
    refine bagIx rfl ha rfl ⟨_, rfl, q, ns.map V.int, rfl, SqL.of hq, fun p1 h1 => ⟨(by decide : 1 ≤ sizeLine), fun p2 h2 => ?_⟩⟩
    have h12 : p1 ≠ p2 := fun e => by rw [e] at h2; rw [upd_same] at h2; cases h2
    refine ⟨p1, p2, _, _, rfl, rfl, (upd_ne h12).trans upd_same, upd_same, ?_, fun p3 h3 => ?_⟩
    · have := cutV_length (ns.map V.int) (some z) none
      have e3 : (ns.map V.int).length = ns.length := List.length_map _
      refine Nat.le_trans (Nat.add_le_add_right this 1) ?_
      rw [e3]
      exact Nat.le_trans (Nat.add_le_add_right nl 1) (by decide)
    refine ⟨p3, _, 0, .int c, rfl, rfl, SqL.of upd_same, by rw [em]; exact ec, ?_⟩
    have e3 : Ex H (upd (upd (upd H p1 (.lst (cutV (ns.map V.int) (some z) none))) p2 (.lst [.int 0])) p3 (.lst (cutV (ns.map V.int) (some z) none ++ [.int 0]))) := ((Ex.new h1).trans (Ex.new h2)).trans (Ex.new h3)
    have b3 := b0.ext e3
    refine ⟨.ref a, rfl, a, _, 2, .int z, rfl, rfl, SqL.of b3.la, rfl, _, _, rfl, rfl, a, _, 2, 2, rfl, rfl, b3.la, rfl, ?_⟩
    have b4 := b3.put (x' := x) (y' := y) (z' := z + 1) b3.x0 b3.y0 (by omega)
    refine ⟨_, rfl, 10, 18, rfl, rfl, ⟨by decide, by decide, by decide⟩, _, _, rfl, rfl, _, rfl, ?_⟩
    refine ite2 (fun _ => ?_) (fun _ => ?_)
    · refine ⟨_, rfl, _, rfl, a, _, 0, 0, rfl, rfl, b4.la, rfl, ?_⟩
      have bb : BS H _ a q ns c y (z + 1) := b4.put c0 b4.y0 b4.z0
      refine bagIx rfl bb.la rfl ⟨_, _, rfl, rfl, .inr ⟨by decide, by decide⟩, ?_⟩
      refine ⟨_, rfl, .inl ⟨_, rfl, _, _, rfl, rfl, (by decide : (0 : Int) < 2147483647), _, _, rfl, rfl, ?_⟩⟩
      refine bagIx rfl bb.la rfl ⟨_, _, rfl, rfl, .inl ⟨by decide, by decide⟩, _, _, rfl, rfl, ?_⟩
      refine ⟨_, rfl, .inl ⟨_, rfl, _, _, rfl, rfl, (by decide : (0 : Int) < 2147483647), _, rfl, a, _, 1, 1, rfl, rfl, bb.la, rfl, ?_⟩⟩
      exact q2 _ _ _ _ _ _ (bb.put (y' := _ % 2147483647) bb.x0 (emod_0 _ (by decide)) bb.z0)
    · have bb : BS H _ a q ns x y (z + 1) := b4
      refine bagIx rfl bb.la rfl ⟨_, _, rfl, rfl, .inr ⟨by decide, by decide⟩, ?_⟩
      refine ⟨_, rfl, .inl ⟨_, rfl, _, _, rfl, rfl, (by decide : (0 : Int) < 2147483647), _, _, rfl, rfl, ?_⟩⟩
      refine bagIx rfl bb.la rfl ⟨_, _, rfl, rfl, .inl ⟨by decide, by decide⟩, _, _, rfl, rfl, ?_⟩
      refine ⟨_, rfl, .inl ⟨_, rfl, _, _, rfl, rfl, (by decide : (0 : Int) < 2147483647), _, rfl, a, _, 1, 1, rfl, rfl, bb.la, rfl, ?_⟩⟩
      exact q2 _ _ _ _ _ _ (bb.put (y' := _ % 2147483647) bb.x0 (emod_0 _ (by decide)) bb.z0)
end
end K9
/-! Two values alike: by their texts and by ==. -/
namespace K9
open PySem PySem.Spec L2 Dn
open PySem.W PyProof.Rows
open Evl (Ex Ex.refl Ex.trans Ex.new ex_rd ex_l ex_t fresh_back)
structure AlkOk (d : PyData) : Prop where
  sh : SeqAt.shaped d = true
  sw : d.showable = true
  ln : d.shown.length ≤ sizeLine
def rRepr (K : PySem.W.Frag) : List V → Hp → VK → Prop := fun xs H Q => ∃ x d, xs = [x] ∧ Dp K H x d ∧ AlkOk d ∧ Q (.str d.shown) H
theorem shaped_dp {d : PyData} (h : SeqAt.shaped d = true) : d.hasDict = false ∧ d.depth ≤ 64 := by
  unfold SeqAt.shaped at h
  have h2 := Bool.and_eq_true_iff.mp h
  exact ⟨PyData.hasDict_of_canLay d h2.1, of_decide_eq_true h2.2⟩
theorem cr_repr {X : Cx} (hg : X.A.guards = some []) (hu : X.A.units + 80 < cLine) : CallR X (.builtin "repr") (rRepr X.K) := fun pins s σ H xs us Q I r h => by
  obtain ⟨x, d, rfl, hd, ok, q⟩ := h
  obtain ⟨u, rfl, rx⟩ := vals1 r
  obtain ⟨nd, dd⟩ := shaped_dp ok.sh
  cases hd with
  | non =>
    cases (show u = Value.none from rx)
    exact P.repr_of_none ⟨.str "None", H, I.tok _, ⟨_, rfl⟩, q⟩
  | bl b =>
    cases (show u = Value.bool b from rx)
    exact P.repr_of_bool ⟨.str _, H, I.tok _, ⟨_, rfl⟩, q⟩
  | int i =>
    obtain ⟨t, rfl⟩ := (show ∃ t, u = Value.int i t from rx)
    exact P.repr_of_int (of_decide_eq_true ok.sw) ⟨.str _, H, I.tok _, ⟨_, rfl⟩, q⟩
  | str z =>
    obtain ⟨t, rfl⟩ := (show ∃ t, u = Value.str z t from rx)
    exact P.repr_of_str ⟨.str _, H, I.tok _, ⟨_, rfl⟩, q⟩ (hsz := ok.ln)
  | @lst a ys ds h1 h2 =>
    cases (show u = Value.ref a from rx)
    obtain ⟨as, rd⟩ := Dp.reads I _ _ _ (.lst h1 h2) rfl
    exact repr_of_reads' rd ok.sw (PyData.noDict_hsm nd) hg (by omega) (fun _ _ e => e) (fun h' u tk hk => ⟨.str _, H, I.kept (t' := tk) hk, ⟨_, rfl⟩, q⟩) ok.ln
  | @tup a ys ds h1 h2 =>
    cases (show u = Value.ref a from rx)
    obtain ⟨as, rd⟩ := Dp.reads I _ _ _ (.tup h1 h2) rfl
    exact repr_of_reads' rd ok.sw (PyData.noDict_hsm nd) hg (by omega) (fun _ _ e => e) (fun h' u tk hk => ⟨.str _, H, I.kept (t' := tk) hk, ⟨_, rfl⟩, q⟩) ok.ln
abbrev s_law_alike : Stmt := top 32
abbrev N_law_alike : List Str := ["found", "due"]
def cxA (P : Program) (w : World) (K : PySem.W.Frag) (mg : Str → Option Value) (base : Heap) (f : Addr) (cdv : Value) (A : Around) (outer : List Env) (s : Shared) (H : Hp) : Cx where
  prog := P
  w := w
  K := K
  mg := mg
  base := base
  A := A.deeper (envX "_law_alike" (defScope s_law_alike) s.heap.objs.size f cdv [])
  N := N_law_alike
  s_0 := s
  H_0 := H
  env := envX "_law_alike" (defScope s_law_alike) s.heap.objs.size f cdv []
  outer := outer
  stack := envX "_law_alike" (defScope s_law_alike) s.heap.objs.size f cdv [] :: outer
  ex := []
  calm := false
  fn := fun _ => false
  pn := []
  xe := fun _ _ => False
def spAlike (K : PySem.W.Frag) : Sp := fun vs H Q _ => ∃ x y d, vs = [x, y] ∧ Dp K H x d ∧ Dp K H y d ∧ AlkOk d ∧ Q (.bl true) H
section
variable {P : Program} {w : World} {K : PySem.W.Frag} {mg : Str → Option Value} {base : Heap}
theorem inv_cxA {f : Addr} {cdv : Value} {A : Around} {outer : List Env} {s : Shared} {H : Hp} {h₁ : Heap} {tk : Nat} {u0 u1 : Value} {x y : V} (e0 : Env0 P w K mg base A outer s H) (r0 : RelV x u0) (r1 : RelV y u1)
    (hns : h₁.Ns s.heap.objs.size (fun z => [(("found" : Str), u0), ("due", u1)].reverse.lookup z)) (hk : ∀ b o, s.heap.get? b = some o → h₁.get? b = some o) :
    Inv (cxA P w K mg base f cdv A outer s H) [] [some x, some y] H { s with heap := h₁, toks := tk } := by
  refine ⟨⟨e0.mod, rfl, rfl, rfl, Nat.le_refl _, fun y z c h1 h2 => (nomatch h1), fun y hy => ?_, (fun _ _ h => Bool.noConfusion (show false = true from h)), (fun z => Bool.noConfusion (show false = true from z)), Around.frames_deeper e0.frames, .inr ⟨rfl, rfl⟩, fun b z => (nomatch (show b ∈ ([] : List Addr) from z)), e0.bs, e0.bsz, fun b _ _ z => (nomatch (show b ∈ ([] : List Addr) from z)), fun b z => (nomatch (show b ∈ ([] : List Addr) from z)), e0.funs, e0.frf⟩,
    rfl, e0.bare, Un.kept hk, ⟨_, hns, fun i z v h1 h2 h3 => ?_⟩, fun y c h => (nomatch h), e0.hok.fresh (Nat.le_refl _), fun y c h => (nomatch h), fun p hp => (nomatch (show p ∈ ([] : List (Addr × Obj)) from hp)), e0.hok.kept hk, rfl⟩
  · exfalso
    have : ∀ p ∈ (defScope s_law_alike).names, p.2 ≠ .cell ∧ p.2 ≠ .free := by decide +kernel
    have hy : (defScope s_law_alike).names.lookup y = some .cell ∨ (defScope s_law_alike).names.lookup y = some .free := hy
    rcases hy with h | h
    · exact (this _ (PySem.mem_of_lookup h)).1 rfl
    · exact (this _ (PySem.mem_of_lookup h)).2 rfl
  · match i, h1, h2 with
    | 0, h1, h2 =>
      cases h1
      cases h2
      exact ⟨u0, r0, .inl ⟨rfl, rfl⟩⟩
    | 1, h1, h2 =>
      cases h1
      cases h2
      exact ⟨u1, r1, .inl ⟨rfl, rfl⟩⟩
    | i + 2, h1, h2 => cases h2
/-- _law_alike, called anywhere where no repr runs -/
theorem alike_run {f : Addr} {fd : FuncData} (Fn : Fun K "_law_alike" "_law_alike" s_law_alike f fd) (T2 : Txt2 mg) {A : Around} {outer : List Env} {s : Shared} {H : Hp} {args : Args} {us : List Value} {vs : List V} {Q : VK} (hr : L2H.RoomH 1 A) (hg : A.guards = some []) (e0 : Env0 P w K mg base A outer s H)
    (hb : BindsTo s fd args (N_law_alike.zip us)) (r : Vals vs us) (h : spAlike K vs H Q E0) : codeAny (model P w) A (.call (.ref f) args) (CR CX0 outer P w H s Q E0) s := by
  obtain ⟨oc, od, kV, doc, pm, an, cdv, ct, osl, rfl, lk, hcd⟩ := Fn.ex
  obtain ⟨x, y, d, rfl, hx, hy, ok, q⟩ := h
  have KX : K.In s.heap := e0.mod.kin.keeps fun b o e => (e0.bs b o e).1
  have lim : s.heap.NoLimit := e0.mod.nolimit.keeps fun b o e => (e0.bs b o e).1
  obtain ⟨u0, u1, rfl, r0, r1⟩ := Vals.two r
  refine ks_codeAny_call_defAt (body := defBody s_law_alike) (binds := [(("found" : Str), u0), ("due", u1)]) hr.depth (KX _ _ lk) rfl lim (codeRec_of KX hcd) rfl hb (show ∀ z ∈ (defScope s_law_alike).names, z.2 ≠ .cell by decide +kernel) (fun z hz => ?_) (fun h₁ hns hk => ?_)
  · have : ∀ n ∈ N_law_alike, (defScope s_law_alike).names.lookup n = some .local := by decide +kernel
    refine this z.1 ?_
    rcases List.mem_cons.mp hz with rfl | hz
    · simp
    · have : z = (("due" : Str), u1) := by simpa using hz
      subst this
      simp
  · have I1 := inv_cxA (f := f) (cdv := cdv) (A := A) (tk := s.toks + 2) e0 r0 r1 hns hk
    have hu : (cxA P w K mg base f cdv A outer s H).A.units + 80 < cLine := by
      have := (hr.deeper (k := 0) (envX "_law_alike" (defScope s_law_alike) s.heap.objs.size f cdv [])).un
      show (A.deeper _).units + 80 < cLine
      omega
    have hps : ∃ t, PSs (cxA P w K mg base f cdv A outer s H) (defBody s_law_alike) t ∧ t { nx := fun _ H' => Q .non H', rt := Q } [some x, some y] H := by
      refine ⟨_, pss_one (ps_ret (pe_and (pe_cmpR op_eq (pe_callB (cr_repr hg hu) (by rfl) T2.repr (by decide +kernel) (pa_cons (pv 0) pa_nil)) (pe_callB (cr_repr hg hu) (by rfl) T2.repr (by decide +kernel) (pa_cons (pv 1) pa_nil)) (nomark _)) (pe_one (pe_cmpR (op_eqD (by omega)) (pv 0) (pv 1) (nomark _))))), ?_⟩
      refine ⟨_, rfl, x, d, rfl, hx, ok, _, rfl, y, d, rfl, hy, ok, rfl, _, rfl, ?_⟩
      have ed : decide (V.str d.shown = V.str d.shown) = true := decide_eq_true rfl
      rw [ed]
      refine iteT ⟨x, rfl, y, rfl, d, d, hx, hy, ok.sh, ok.sh, ?_⟩
      rw [SeqAt.eqv_refl]
      · exact q
      · exact (Bool.and_eq_true_iff.mp ok.sh).1
    obtain ⟨t, ht, hq⟩ := hps
    refine wpAt_of_wpAny (wpAny_mono (ht.run [] _ [some x, some y] H _ I1 hq) (fun fl s7 hs => ?_) fun e s' z => False.elim z)
    cases fl with
    | ret u =>
      obtain ⟨v, σ', H', J, rv, q⟩ := hs
      exact ⟨v, H', J.os, J.bare, J.base, J.hok, rv, q⟩
    | next =>
      obtain ⟨σ', H', J, q⟩ := hs
      exact ⟨.non, H', J.os, J.bare, J.base, J.hok, rfl, q⟩
    | brk =>
      obtain ⟨_, _, _, z⟩ := hs
      exact False.elim z
    | cont =>
      obtain ⟨_, _, _, z⟩ := hs
      exact False.elim z
end
end K9
/-! An exception's own __init__ that calls super().__init__ with its arguments. -/
namespace K9
open PySem PySem.Spec L2 Dn
open PySem.W PySem.Calls PyProof.Rows
abbrev s_trap : Stmt := top 3
def s_init : Stmt := match s_trap with
  | .ClassDef (body := s :: _) .. => s
  | s => s
abbrev N_init : List Str := ["self", "function", "index"]
/-- what is written of that __init__, at f, of the class at C -/
structure SupI (P : Program) (K : PySem.W.Frag) (C f : Addr) (fd : FuncData) : Prop where
  ex : ∃ (oc kV doc pm ct ccl cl : Value) (od an cdd cld : Option Addr) (osl ccs csl : Array (Option Value)) (cda cc : Addr) (vs : Array Value) (file : Str) (tf : Tok),
    fd = ksFn "__init__" "Trap.__init__" (defArgs s_init) (defBody s_init) (defScope s_init) .none kV doc pm an (.ref cda) ct cc ∧ K.lookup f = some ⟨oc, od, .func fd, osl⟩ ∧ codeIn K (.ref cda) "Trap.__init__" = true ∧
    K.lookup cda = some ⟨ccl, cdd, .fields vs, ccs⟩ ∧ vs[2]? = some (.str file tf) ∧ ((P.main.file : Str) == file) = true ∧ K.lookup cc = some ⟨cl, cld, .cell (some (.ref C)), csl⟩
  htop : (P.main.scope.names.lookup ("super" : Str)).isSome = false
  oex : OexC K C
  mro : mroIn K C (.ref C) = some true
  sup : ks_superIn K C C "__init__" = some (some (.builtin "ValueError.__init__"))
  sub : subIn K (.ref C) (.type "ValueError") = some true
  opq : nsIn K cStatics "thirdparty.any" = some none
  fF : PySem.W.findIn K (.ref C) "function" = some none
  fI : PySem.W.findIn K (.ref C) "index" = some none
def cxS (P : Program) (w : World) (K : PySem.W.Frag) (mg : Str → Option Value) (base : Heap) (f cda cc : Addr) (A : Around) (outer : List Env) (s : Shared) (H : Hp) : Cx where
  prog := P
  w := w
  K := K
  mg := mg
  base := base
  A := A.deeper (ksEnv "Trap.__init__" (defScope s_init) s.heap.objs.size f (.ref cda) cc)
  N := N_init
  s_0 := s
  H_0 := H
  env := ksEnv "Trap.__init__" (defScope s_init) s.heap.objs.size f (.ref cda) cc
  outer := outer
  stack := ksEnv "Trap.__init__" (defScope s_init) s.heap.objs.size f (.ref cda) cc :: outer
  ex := []
  calm := true
  fn := fun _ => false
  pn := []
  xe := fun _ _ => False
def spInit (C : Addr) : Sp := fun vs H Q _ => ∃ (a : Addr) (x y : V), vs = [.ref a, x, y] ∧ H a = some (exo a C none) ∧ ∀ dx, H dx = none → dx ≠ a → Q .non (upd (upd (upd H dx (exd dx [("function", x)])) a (exo a C (some dx))) dx (exd dx [("index", y), ("function", x)]))
theorem lookup_one {x y : Str} {c d : Addr} (h : List.lookup x [(y, c)] = some d) : x = y ∧ d = c := by
  by_cases e : x = y
  · subst e
    simp at h
    exact ⟨rfl, h.symm⟩
  · have : (x == y) = false := by simpa using e
    simp [List.lookup, this] at h
section
variable {P : Program} {w : World} {K : PySem.W.Frag} {mg : Str → Option Value} {base : Heap}
theorem inv_cxS {f cda cc C : Addr} {A : Around} {outer : List Env} {s : Shared} {H : Hp} {h₁ : Heap} {tk : Nat} {u0 u1 u2 : Value} {a : Addr} {x y : V} {cl : Value} {cld : Option Addr} {csl : Array (Option Value)} (hd : A.handled = none) (e0 : Env0 P w K mg base A outer s H)
    (hcc : K.lookup cc = some ⟨cl, cld, .cell (some (.ref C)), csl⟩) (r0 : RelV (.ref a) u0) (r1 : RelV x u1) (r2 : RelV y u2)
    (hns : h₁.Ns s.heap.objs.size (fun z => [(("self" : Str), u0), ("function", u1), ("index", u2)].reverse.lookup z)) (hk : ∀ b o, s.heap.get? b = some o → h₁.get? b = some o) :
    Inv (cxS P w K mg base f cda cc A outer s H) [] [some (.ref a), some x, some y] H { s with heap := h₁, toks := tk } := by
  have KX : K.In s.heap := e0.mod.kin.keeps fun b o e => (e0.bs b o e).1
  have ccb := e0.bs cc _ (e0.mod.kin _ _ hcc)
  refine ⟨⟨e0.mod, rfl, rfl, rfl, Nat.le_refl _, fun y z c h1 h2 => ?_, fun y hy => ?_, (fun _ _ h => Bool.noConfusion (show false = true from h)), fun _ => hd, Around.frames_deeper e0.frames, .inr ⟨rfl, rfl⟩, fun b z => (nomatch (show b ∈ ([] : List Addr) from z)), e0.bs, e0.bsz, fun b _ _ z => (nomatch (show b ∈ ([] : List Addr) from z)), fun b z => (nomatch (show b ∈ ([] : List Addr) from z)), e0.funs, e0.frf⟩,
    rfl, e0.bare, Un.kept hk, ⟨_, hns, fun i z v h1 h2 h3 => ?_⟩, fun y c h => ?_, e0.hok.fresh (Nat.le_refl _), fun y c h => ?_, fun p hp => (nomatch (show p ∈ ([] : List (Addr × Obj)) from hp)), e0.hok.kept hk, rfl⟩
  · exact (lookup_one h1).1.trans (lookup_one h2).1.symm
  · have key : (defScope s_init).names.lookup y = some .cell ∨ (defScope s_init).names.lookup y = some .free → y = "__class__" := by
      intro h
      by_cases e : y = "__class__"
      · exact e
      · exfalso
        rcases h with h | h
        · have hm := PySem.mem_of_lookup h
          have : ∀ p ∈ (defScope s_init).names, p.2 ≠ .cell := by decide +kernel
          exact this _ hm rfl
        · have hm := PySem.mem_of_lookup h
          have : ∀ p ∈ (defScope s_init).names, p.2 = .free → p.1 = ("__class__" : Str) := by decide +kernel
          exact e (this _ hm rfl)
    exact ⟨cc, by rw [key hy]; rfl⟩
  · match i, h1, h2 with
    | 0, h1, h2 =>
      cases h1
      cases h2
      exact ⟨u0, r0, .inl ⟨rfl, rfl⟩⟩
    | 1, h1, h2 =>
      cases h1
      cases h2
      exact ⟨u1, r1, .inl ⟨rfl, rfl⟩⟩
    | 2, h1, h2 =>
      cases h1
      cases h2
      exact ⟨u2, r2, .inl ⟨rfl, rfl⟩⟩
    | i + 3, h1, h2 => cases h2
  · obtain ⟨_, rfl⟩ := lookup_one h
    exact ⟨_, _, hk _ _ (KX _ _ hcc), rfl⟩
  · obtain ⟨_, rfl⟩ := lookup_one h
    exact ccb.2
/-- super().__init__(function, index): the object's args are laid anew -/
theorem call_mw {X : Cx} {pins : List (Addr × Obj)} {σ : L2.St} {H : Hp} {s : Shared} {a C u : Addr} {us : List Value} {A : Around} {E : Value → Shared → Prop} {Q : Value → Shared → Prop} (T : OexC X.K C) (I : Inv X pins σ H s) (e : H a = some (exo a C none)) (hu : s.heap.get? u = some (kxs_mw "ValueError.__init__" a)) (hl : us.length ≤ sizeLine)
    (h : ∀ s', Inv X pins σ H s' → Q .none s') : wpAny (model X.prog X.w) A (call (.ref u) us) Q E s := by
  obtain ⟨nm, q, N, bs, bm, sn, sub, ab, col, dd, k0, k1, k2, k3, k5, hC, hbm⟩ := T.cls
  obtain ⟨t1, ho⟩ := exo_at I.hok e
  have KX := I.kIn
  obtain ⟨hp, g, d, t, os⟩ := s
  have fin : ∀ h', (∀ b o, b ≠ a → hp.get? b = some o → h'.get? b = some o) → h'.get? a = some (excObj C hp.objs.size none .none) → h'.get? hp.objs.size = some (excTup us) → Q .none ⟨h', g, d, t, os⟩ := fun h' k hx _ => by
    have J := I.write (t' := t) (x := a) (e := a) (o := exo a C none) (by rw [e]; exact True.intro) (.inl rfl) k ⟨_, hx⟩ (exo_ok hx)
    have eu : upd H a (exo a C none) = H := by
      funext b
      by_cases hb : b = a
      · rw [hb, upd_same, e]
      · rw [upd_ne hb]
    rw [eu] at J
    exact h _ J
  refine wpAny_call (codeAny_of_tree ?_)
  show wpAny _ A.in1 (callAny (.ref u) ⟨us, []⟩) _ _ _
  simp only [callAny]
  refine wpAny_bind (wpAny_load hu ?_)
  refine KFB.if_so rfl ?_
  refine wpAny_bind (check_bound_init F.excBase_ValueError.toExcCallFacts (KX _ _ hC) ho rfl (wpAny_pure ?_))
  exact ⟨plainId_quiet F.excBase_ValueError.init.plain _, codeAny_builtin F.excBase_ValueError.initEntry (exc_init_tree (cls := .ref C) (t0 := t1) (dv := none) (c2 := .none) (c3 := .none) (b4 := .bool false) ho hl fin)⟩
theorem ok_init {C f : Addr} {fd : FuncData} (S : SupI P K C f fd) (hs : mg "super" = none) : FnOk P w K mg base CX0 1 f fd N_init (spInit C) := by
  obtain ⟨oc, kV, doc, pm, ct, ccl, cl, od, an, cdd, cld, osl, ccs, csl, cda, cc, vs0, file, tf, rfl, lk, hcd, hcode, hvs, hfile, hcc⟩ := S.ex
  refine ⟨fun vs H Q E h => ?_, fun A outer s H args us vs Q E hr e0 hb r h => ?_⟩
  · obtain ⟨a, x, y, rfl, _⟩ := h
    rfl
  · obtain ⟨a, x, y, rfl, ha, q⟩ := h
    have KX : K.In s.heap := e0.mod.kin.keeps fun b o e => (e0.bs b o e).1
    have lim : s.heap.NoLimit := e0.mod.nolimit.keeps fun b o e => (e0.bs b o e).1
    obtain ⟨u0, us', rfl⟩ : ∃ u us', us = u :: us' := by cases r; exact ⟨_, _, rfl⟩
    cases r with
    | cons r0 r =>
    obtain ⟨u1, u2, rfl, r1, r2⟩ := Vals.two r
    refine ks_codeAny_call_defAt (body := defBody s_init) (binds := [(("self" : Str), u0), ("function", u1), ("index", u2)]) hr.depth (KX _ _ lk) rfl lim (codeRec_of KX hcd) rfl hb (show ∀ z ∈ (defScope s_init).names, z.2 ≠ .cell by decide +kernel) (fun z hz => ?_) (fun h₁ hns hk => ?_)
    · have : ∀ n ∈ N_init, (defScope s_init).names.lookup n = some .local := by decide +kernel
      refine this z.1 ?_
      rcases List.mem_cons.mp hz with rfl | hz
      · simp
      · rcases List.mem_cons.mp hz with rfl | hz
        · simp
        · have : z = (("index" : Str), u2) := by simpa using hz
          subst this
          simp
    · have I1 := inv_cxS (f := f) (cda := cda) (A := A) (C := C) (tk := s.toks + 3) hr.hd e0 hcc r0 r1 r2 hns hk
      cases r0
      have T := S.oex
      obtain ⟨cdC, hD⟩ : ∃ cd, clsIn K C = some cd := by
        obtain ⟨b, e1, _⟩ := Option.bind_eq_some_iff.mp S.mro
        exact ⟨b, e1⟩
      obtain ⟨oD, hD1, hD2⟩ : ∃ oD, h₁.get? C = some oD ∧ oD.data = .cls cdC := by
        unfold clsIn at hD
        split at hD
        · rename_i c d cd' sl ho
          cases hD
          exact ⟨_, I1.kIn _ _ ho, rfl⟩
        · cases hD
      obtain ⟨t1, hx⟩ := exo_at I1.hok ha
      obtain ⟨mb, hmb1, hmb2⟩ := I1.mod.blt
      refine ks_wpAt_execs_cons (ks_wpAt_Expr_any (ks_wpAt_MethodCall ?_))
      refine ks_wpAt_super_base (cc := cda) rfl rfl (by decide) rfl (I1.kIn _ _ lk) rfl rfl rfl (I1.kIn _ _ hcode) rfl hvs hfile S.htop ?_
      refine ks_loadName_global rfl rfl (loadGlobal_builtin (I1.mod.glob.keeps I1.bk) hs (hmb1.keeps I1.bk) ((hmb2 _ (by decide)).trans (show bootBuiltins "super" = some (.type "super") by decide +kernel)) ⟨rfl, ?_⟩)
      refine wpAny_loadName_free rfl rfl rfl ⟨_, I1.kIn _ _ hcc, rfl⟩ ?_
      refine wpAny_loadName_local rfl rfl hns rfl ?_
      refine ks_wpAny_isType_cls hD1 hD2 ⟨rfl, ?_⟩
      refine ks_wpAny_call_super hD1 hD2 hx rfl (fun c e => by cases e) (looks_mroIn I1.kIn S.mro) (fun h2 hso k2 => ?_)
      have I2 : Inv (cxS P w K mg base f cda cc A outer s H) [] [some (.ref a), some x, some y] H { s with heap := h2, toks := s.toks + 3 } := I1.kept k2
      obtain ⟨t2, hx2⟩ := exo_at I2.hok ha
      refine kxs_getMethod kxs_ValueError hso (looks_opaque I2.kIn S.opq) (l₀ := cdC.mro) (fun A Q E s k q => wpAny_bind ((looks_clsIn I2.kIn hD) A _ E s k (wpAny_pure q))) rfl I2.kIn ?_ ?_ (fun e => ?_) (by decide) ?_
      · have := S.sup
        unfold ks_superIn at this
        rw [hD] at this
        exact this
      · have hinst : W.InstAt h2 a ({ cls := .ref C, dict := none, data := .fields #[.ref t2, .none, .none, .none, .bool false, .none] } : Obj) C none := ⟨hx2, rfl, rfl, trivial⟩
        exact hinst.type.andThen (looks_subIn I2.kIn S.sub)
      · have := hx2
        rw [e, k2 _ _ hD1] at this
        cases this
        cases hD2
      · have I3 : Inv (cxS P w K mg base f cda cc A outer s H) [] [some (.ref a), some x, some y] H { s with heap := h2.push (kxs_mw "ValueError.__init__" a), toks := s.toks + 3 + 1 } := I2.kept (t' := s.toks + 3 + 1) fun b o e => Heap.get?_push_of_some _ e
        have I3p := I3.pins_of (pins' := [(h2.objs.size, kxs_mw "ValueError.__init__" a)]) fun p hp => by
          have ep : p = (h2.objs.size, kxs_mw "ValueError.__init__" a) := by simpa using hp
          subst ep
          exact ⟨Heap.get?_push_size _ rfl, I2.hok.fresh (Nat.le_refl _), Nat.ne_of_gt I2.lt, I2.nofs (Nat.le_refl _), fun v => nofun⟩
        have hpa : PA (cxS P w K mg base f cda cc A outer s H) [.Name "function" ⟨12, 25, 12, 33⟩, .Name "index" ⟨12, 35, 12, 40⟩] (tCons (tVar 1) (tCons (tVar 2) tNil)) := pa_cons (pv 1) (pa_cons (pv 2) pa_nil)
        refine kxs_callWith (i := "ValueError.__init__") (x := a) rfl (evalArgs_plain ?_)
        refine wpAny_mono (hpa.run ⟨12, 8, 12, 41⟩ _ _ [some (.ref a), some x, some y] H (fun vs H' => vs = [x, y] ∧ H' = H) I3p ⟨x, rfl, y, rfl, rfl, rfl⟩) (fun us3 s3 hh => ?_) fun e s' z => False.elim z
        obtain ⟨vs3, H3, I4, rv3, ev3, eH⟩ := hh
        subst ev3
        rw [eH] at I4
        have hmw := (I4.pin (h2.objs.size, kxs_mw "ValueError.__init__" a) (List.mem_append_right _ List.mem_cons_self)).1
        refine ⟨hmw, ?_⟩
        have hl3 : us3.length ≤ sizeLine := by
          rw [← rv3.length]
          exact (by decide : 2 ≤ sizeLine)
        refine call_mw T I4 ha hmw hl3 fun s5 I5 => ?_
        have I6 : Inv (cxS P w K mg base f cda cc A outer s H) [] [some (.ref a), some x, some y] H s5 := I5.pins_of fun p hp => (nomatch hp)
        have hps : PSs (cxS P w K mg base f cda cc A outer s H) [.Assign [.Attribute (.Name "self" ⟨13, 8, 13, 12⟩) "function" ⟨13, 8, 13, 21⟩] (.Name "function" ⟨13, 24, 13, 32⟩) ⟨13, 8, 13, 32⟩, .Assign [.Attribute (.Name "self" ⟨14, 8, 14, 12⟩) "index" ⟨14, 8, 14, 18⟩] (.Name "index" ⟨14, 21, 14, 26⟩) ⟨14, 8, 14, 26⟩]
            (tSeq (tOst K "function" (tVar 0) (tVar 1)) (tOst K "index" (tVar 0) (tVar 2))) := pss_cons (ps_ost (pv 0) (pv 1)) (pss_one (ps_ost (pv 0) (pv 2)))
        refine wpAt_of_wpAny (wpAny_mono (hps.run [] s5 [some (.ref a), some x, some y] H { nx := fun _ H' => Q .non H', rt := fun _ _ => False } I6 ?_) (fun fl s7 hq => ?_) fun e s' z => False.elim z)
        · refine ⟨x, rfl, .ref a, rfl, a, C, rfl, T, S.fF, .inl ⟨ha, fun dx ndx ne => ?_⟩⟩
          exact ⟨y, rfl, .ref a, rfl, a, C, rfl, T, S.fI, .inr ⟨dx, _, upd_same, (upd_ne ne).trans upd_same, by show 1 ≤ 900; decide, q dx ndx ne⟩⟩
        · cases fl with
          | next =>
            obtain ⟨σ7, H7, J, q7⟩ := hq
            exact ⟨.non, H7, J.os, J.bare, J.base, J.hok, rfl, q7⟩
          | ret u =>
            obtain ⟨_, _, _, _, _, z⟩ := hq
            exact False.elim z
          | brk =>
            obtain ⟨_, _, _, z⟩ := hq
            exact False.elim z
          | cont =>
            obtain ⟨_, _, _, z⟩ := hq
            exact False.elim z
end
end K9
/-! Data: defs that may raise. -/
namespace Dn
open PySem PySem.Spec L2
open PyProof.Rows (envOfC)
open Evl (Ex Ex.refl Ex.trans Ex.new ex_rd ex_l ex_t fresh_back)
/-- R: when and how it raises -/
def SpX (K : PySem.W.Frag) (F : List SD → Option SD) (R : List SD → XK → Hp → Prop) : Sp := fun vs H Q E => (∃ ss s, TwAll K H vs ss ∧ F (ss.map SD.bor) = some s ∧ ∀ v H', Ex H H' → Tw K H' v s → Fr0 H v s → Q v H') ∨ ∃ ss, TwAll K H vs ss ∧ R (ss.map SD.bor) E H
structure FDX (P : Program) (w : World) (K : PySem.W.Frag) (mg : Str → Option Value) (base : Heap) (k : Nat) (x : Str) (ps : List Str) (F : List SD → Option SD) (R : List SD → XK → Hp → Prop) : Prop where
  ex : ∃ f fd, mg x = some (.ref f) ∧ PySem.W.keepIn K (.ref f) = true ∧ Binds K fd ps [] ∧ FnOk P w K mg base (L2.CX P w) k f fd ps (SpX K F R)
section
variable {P : Program} {w : World} {K : PySem.W.Frag} {mg : Str → Option Value} {base : Heap}
theorem FDX.mk' {x qual : Str} {st : Stmt} {f : Addr} {fd : FuncData} {ps : List Str} {k : Nat} {F : List SD → Option SD} {R : List SD → XK → Hp → Prop} (Fn : Fun K x qual st f fd) (hm : mg x = some (.ref f)) (b : Binds K fd ps []) (ok : FnOk P w K mg base (L2.CX P w) k f fd ps (SpX K F R)) : FDX P w K mg base k x ps F R := ⟨f, fd, hm, Fn.kp, b, ok⟩
theorem okX_of {x qual : Str} {st : Stmt} {f : Addr} {fd : FuncData} {N ps : List Str} {k : Nat} {G : Rho → Option Out} {R : List SD → XK → Hp → Prop} (Fn : Fun K x qual st f fd) (S : FnScope N ps (defScope st)) (hl : ps.length ≤ N.length) (hR : ∀ ss E H, R ss E H → ss.length = ps.length)
    (hbody : ∀ (cdv : Value) (A : Around) (outer : List Env) (s : Shared) (H : Hp) (E : XK), Room k (A.deeper (envOfC qual (defScope st) s.heap.objs.size f cdv)) →
      ∃ t, DSs (cxOf (L2.CX P w) P w K mg base N qual (defScope st) f cdv A outer s H E) (defBody st) t G ∧ ∀ σ ss D, Rp K (fun _ => False) H σ H (ss.map some ++ List.replicate (N.length - ps.length) none) → R ss E H → t D σ H) :
    FnOk P w K mg base (L2.CX P w) (k + 1) f fd ps (SpX K (fRun N.length ps.length G) R) := by
  refine Fn.okX S (fun vs H Q E h => ?_) (fun cdv A outer s H vs Q E hr h => ?_)
  · rcases h with ⟨ss, s, t, e, _⟩ | ⟨ss, t, r⟩
    · unfold fRun at e
      split at e
      · rename_i q
        rw [twa_len t]
        simpa using q
      · cases e
    · have := hR _ _ _ r
      rw [twa_len t]
      simpa using this
  · obtain ⟨t1, h1, h2⟩ := hbody cdv A outer s H E hr
    refine ⟨t1, h1.ps, ?_⟩
    rcases h with ⟨ss, s', t, e, q⟩ | ⟨ss, t, r⟩
    · unfold fRun at e
      split at e
      · rename_i hm
        cases eg : G ((ss.map SD.bor).map some ++ List.replicate (N.length - ps.length) none) with
        | none => rw [eg] at e; cases e
        | some o =>
          rw [eg] at e
          refine h1.ev (fun _ => False) H _ H _ o (start_ok t.bors hm hl fun s hs => ?_) eg _ ?_
          · obtain ⟨z, _, rfl⟩ := List.mem_map.mp hs
            exact ⟨bor_new z, bor_own z⟩
          · have ex : ∀ {H' : Hp}, ExB (fun _ => False) H H' → Ex H H' := fun x a o h => x.1 a o (fun z => z) h
            cases o with
            | nx ρ =>
              have e2 := Option.some.inj e
              subst e2
              exact fun σ' H' R => q .non H' (ex R.ex) .non fr_v
            | rt s1 =>
              have e2 := Option.some.inj e
              subst e2
              exact fun v H' x t f => q v H' (ex x) t f
            | bk ρ => cases e
            | ct ρ => cases e
      · cases e
    · refine h2 _ _ _ (start_ok t.bors (hR _ _ _ r) hl fun s hs => ?_) r
      obtain ⟨z, _, rfl⟩ := List.mem_map.mp hs
      exact ⟨bor_new z, bor_own z⟩
end
section
variable {X : Cx} {e a b c : Expr} {es : List Expr} {t ta tb tc : TE} {tr : TA} {F : Rho → Option SD} {FA : Rho → Option (List SD)} {pos : Pos}
theorem ev_callX {K : PySem.W.Frag} {Ff : List SD → Option SD} {R : List SD → XK → Hp → Prop} {E : L2.St → XK} (ha : EvAs K tr FA) : EvD K (tCallS (SpX K Ff R) E tr) (fCall Ff FA) := fun B H0 σ H ρ s R' e Q q => by
  unfold fCall at e
  cases ef : FA ρ with
  | none => rw [ef] at e; cases e
  | some ss =>
    rw [ef] at e
    exact ha B H0 σ H ρ ss R' ef _ fun vs H1 x1 t1 _ => .inl ⟨ss, s, t1, e, fun v H2 x2 t2 f2 => q v H2 (x1.trans x2) t2 fun n a ea => fresh_back x1 (f2 n a ea)⟩
theorem de_callX {x : Str} {ps : List Str} {k j : Nat} {Ff : List SD → Option SD} {R : List SD → XK → Hp → Prop} {W : WX} {p : Pos} (D : FDX X.prog X.w X.K X.mg X.base k x ps Ff R) (hr : Room j X.A) (tk : Takes X W) (ha : DAs X (e :: es) tr FA) (hk : k ≤ j := by decide) (hg : Gl X x := by rfl) (hdb : (x == ("__debug__" : Str)) = false := by decide)
    (he : starEach (e :: es) X.env = (false, eval e X.env) :: starEach es X.env := by rfl) (hpl : (backTo pos (starEach es X.env)).any (·.1) = false := by rfl) :
    DE X (.Call (.Name x p) (e :: es) [] pos) (tCallS (SpX X.K Ff R) (WE W) tr) (fCall Ff FA) := by
  obtain ⟨f, fd, hm, kp, hb, G⟩ := D.ex
  exact ⟨pe_callS G (hr.mono hk) hg hm kp hb (fun σ => passAt tk σ) ha.pa hdb he hpl, ev_callX ha.ev⟩
/-- that call, raising -/
theorem raise_call {K : PySem.W.Frag} {Ff : List SD → Option SD} {R : List SD → XK → Hp → Prop} {E : L2.St → XK} {B : Addr → Prop} {H0 H : Hp} {σ : L2.St} {ρ : Rho} {ss : List SD} {Q : VK} (ha : EvAs K tr FA) (Rr : Rp K B H0 σ H ρ) (ef : FA ρ = some ss) (h : ∀ H', Ex H H' → R (ss.map SD.bor) (E σ) H') : tCallS (SpX K Ff R) E tr σ H Q :=
  ha B H0 σ H ρ ss Rr ef _ fun vs H1 x1 t1 _ => .inr ⟨ss, t1, h H1 x1⟩
/-- X() of an own class without an __init__ -/
theorem pmk_own0 {C : Addr} {bmB : List Value} {B newId initId : String} {x : Str} {p : Pos} (F : ExcBaseFacts B newId initId bmB) (q : PySem.W.excIn X.K C bmB newId = true) (gC : X.mg x = some (.ref C)) (kC : PySem.W.keepIn X.K (.ref C) = true) (r : Raises X (.ref C)) (hg : Gl X x := by rfl)
    (hdb : (x == ("__debug__" : Str)) = false := by decide) : PMk X (.Call (.Name x p) [] [] pos) (fun _ H Q => Q (.ref C) none H) := fun pins s σ H Q I h => by
  obtain ⟨bm, N, nm, qn, bs, hdct, sn, sub, ab, col, dd, k0, k1, k2, k3, k5, mN, hC, hN, hni, T⟩ := exc_obj I.kIn q
  exact wpAny_Call_Name_kw (ld_glob I hg gC (PySem.W.callWith_K0 (first := []) I.kIn kC (wpAny_call_exc_subT F T hC hN hni (fun h' e hm => mk_of I hm r h (I.hok.gone hm.new)) (Nat.zero_le _))) hdb)
end
/-- raising an own error that holds nothing -/
def RNo (C : Addr) (cond : List SD → Prop) (n : Nat) : List SD → XK → Hp → Prop := fun ss E H => ss.length = n ∧ cond ss ∧ ∀ H', Ex H H' → E (.ref C) none H'
end Dn
/-! The defs that raise. -/
namespace K9
open PySem PySem.Spec L2 Dn
open PyProof.Rows (envOfC)
open Evl (Ex Ex.refl Ex.trans Ex.new ex_rd ex_l ex_t fresh_back)
def ifT : Stmt → Expr
  | .If t _ _ _ => t
  | _ => .Constant .none 0 ⟨0, 0, 0, 0⟩
def ifB : Stmt → List Stmt
  | .If _ b _ _ => b
  | _ => []
def raiseE : Stmt → Expr
  | .Raise (some e) _ _ => e
  | _ => .Constant .none 0 ⟨0, 0, 0, 0⟩
def nth (l : List Stmt) (i : Nat) : Stmt := l.getD i (.Pass ⟨0, 0, 0, 0⟩)
theorem raise_if {K : PySem.W.Frag} {tc : TT} {tb u rest : TS} {T : Rho → Option Bool} {B : Addr → Prop} {H0 H : Hp} {σ : L2.St} {ρ : Rho} {D : Ends} (hc : EvB K tc T) (R : Rp K B H0 σ H ρ) (e : T ρ = some true) (h : ∀ H1, Ex H H1 → tb { D with nx := rest D } σ H1) : tSeq (tIfS tc tb u) rest D σ H :=
  hc B H0 σ H ρ true R e _ fun H1 x1 => iteT (h H1 x1)
section
variable {P : Program} {w : World} {K : PySem.W.Frag} {mg : Str → Option Value} {base : Heap}
/-- the class of an error that holds nothing -/
structure NoC (K : PySem.W.Frag) (mg : Str → Option Value) (C : Addr) : Prop where
  g : mg "Nothing" = some (.ref C)
  x : PySem.W.excIn K C [.type "ValueError", .type "Exception", .type "BaseException", .type "object"] "ValueError.__new__" = true
  k : PySem.W.keepIn K (.ref C) = true
  b : PySem.W.subIn K (.ref C) (.type "BaseException") = some true
  t : PySem.W.typeIn K (.ref C) = some (.type "type")
def R_instruction_at (C : Addr) : List SD → XK → Hp → Prop := RNo C (fun ss => ∃ f st, ss = [f, st] ∧ F_is_ended [st.bor] = some (.v (.bl true))) 2
theorem okx_instruction_at {C : Addr} {f : Addr} {fd : FuncData} (Fn : Fun K "instruction_at" "instruction_at" s_instruction_at f fd) (T : Txt mg) (TN : NoC K mg C) (D_is_ended : FD P w K mg base 1 "is_ended" P_is_ended F_is_ended) : FnOk P w K mg base (L2.CX P w) 2 f fd P_instruction_at (SpX K F_instruction_at (R_instruction_at C)) := by
  refine okX_of Fn sc_instruction_at (by decide) (fun ss E H h => h.1) fun cdv A outer s H E hr => ?_
  have hu := hu_of hr
  obtain ⟨tc, hc⟩ : ∃ tc, DT (cxOf (L2.CX P w) P w K mg base N_instruction_at "instruction_at" (defScope s_instruction_at) f cdv A outer s H E) (ifT (nth (defBody s_instruction_at) 0)) tc (fTest (fCall F_is_ended (fCons (fVar 1) fNil))) := ⟨_, (dt_val (de_call D_is_ended hr (das_cons (dv 1) das_nil)))⟩
  refine ⟨_, (dss_cons (ds_if hc (dss_one (ds_any (ps_raise rfl (takes_of rfl rfl rfl rfl) (pmk_own0 PySem.F.excBase_ValueError TN.x TN.g TN.k (raises_own TN.b TN.t))))) dss_nil)
      (dss_cons (ds_asg (de_sl (de_ix (de_ix (dv 1) de_int) (de_neg de_int)) do_none (do_some de_int)) (dg_tup rfl (dgs_cons (dg_name 2 sc_instruction_at.nd) (dgs_cons (dg_name 3 sc_instruction_at.nd) dgs_nil))))
      (dss_one (ds_ret (de_ix (de_ix (de_ix (dv 0) (dv 2)) de_int) (dv 3)))))), fun σ ss D Rr h => ?_⟩
  obtain ⟨_, ⟨f0, st, rfl, he⟩, k⟩ := h
  refine raise_if hc.ev Rr ?_ fun H1 x1 => k H1 x1
  show (F_is_ended [st.bor]).bind SD.bool? = some true
  rw [he]
  rfl
def R_begin (C : Addr) : List SD → XK → Hp → Prop := RNo C (fun ss => (fOr (fNot (fTest (fChain (gII fun i j => decide (i ≤ j)) (gII fun i j => decide (i < j)) (fC (.int 0)) (fVar 1) (fOne gLen (fVar 0))))) (fTest (fTwo (gEq true) (fOne gLen (fVar 2)) (fTwo gIx (fTwo gIx (fVar 0) (fVar 1)) (fC (.int 0)))))) (ss.map some ++ List.replicate 3 none) = some true) 4
theorem okx_begin {C : Addr} {f : Addr} {fd : FuncData} (Fn : Fun K "begin" "begin" s_begin f fd) (T : Txt mg) (TN : NoC K mg C) (D_entered : FD P w K mg base 1 "entered" P_entered F_entered) : FnOk P w K mg base (L2.CX P w) 2 f fd P_begin (SpX K F_begin (R_begin C)) := by
  refine okX_of Fn sc_begin (by decide) (fun ss E H h => h.1) fun cdv A outer s H E hr => ?_
  have hu := hu_of hr
  obtain ⟨tc, hc⟩ : ∃ tc, DT (cxOf (L2.CX P w) P w K mg base N_begin "begin" (defScope s_begin) f cdv A outer s H E) (ifT (nth (defBody s_begin) 0)) tc (fOr (fNot (fTest (fChain (gII fun i j => decide (i ≤ j)) (gII fun i j => decide (i < j)) (fC (.int 0)) (fVar 1) (fOne gLen (fVar 0))))) (fTest (fTwo (gEq true) (fOne gLen (fVar 2)) (fTwo gIx (fTwo gIx (fVar 0) (fVar 1)) (fC (.int 0)))))) := ⟨_, (DW.dt (dw_or (dt_not (dt_chain op_leD op_ltD de_int (dv 1) (de_len T.len (dv 0)))) (dw_or1 (dt_cmp op_neS (de_len T.len (dv 2)) (de_ix (de_ix (dv 0) (dv 1)) de_int)))))⟩
  refine ⟨_, (dss_cons (ds_if hc (dss_one (ds_any (ps_raise rfl (takes_of rfl rfl rfl rfl) (pmk_own0 PySem.F.excBase_ValueError TN.x TN.g TN.k (raises_own TN.b TN.t))))) dss_nil)
      (dss_cons (ds_set 4 (de_op op_addD (de_max rfl T.max (de_op op_addD (de_lst (das_cons de_int (das_star (dv 2) das_nil))) (de_flat (i := 5) (j := 6) rfl sc_begin.nd (blkOk_by (N := N_begin) (sc := defScope s_begin) (own := [("row", 5), ("word", 6)]) (by decide +kernel)) (dv 3) (fun _ _ _ _ _ => pg_name (i := 5) sc_begin.nd rfl (Or.inl rfl)) (fun _ _ _ _ _ => pv 5) (fun _ _ _ _ _ => pg_name (i := 6) sc_begin.nd rfl (Or.inl rfl)) (fun _ _ _ _ _ => pv 6)))) de_int) sc_begin.nd)
      (dss_one (ds_ret (de_tup (das_cons (de_tup (das_cons (de_call D_entered hr (das_cons (dv 0) (das_cons (dv 1) (das_cons (de_tupleW T.tuple (dv 2)) (das_cons de_non das_nil))))) das_nil)) (das_cons (dv 3) (das_cons de_int (das_cons (dv 4) das_nil))))))))), fun σ ss D Rr h => ?_⟩
  obtain ⟨_, he, k⟩ := h
  exact raise_if hc.ev Rr he fun H1 x1 => k H1 x1
theorem okx_step {C : Addr} {f : Addr} {fd : FuncData} (Fn : Fun K "step" "step" s_step f fd) (T : Txt mg) (D_instruction_at : FDX P w K mg base 2 "instruction_at" P_instruction_at F_instruction_at (R_instruction_at C)) (D_with_register : FD P w K mg base 1 "with_register" P_with_register F_with_register) (D_taken : FD P w K mg base 2 "taken" P_taken F_taken) (D_called : FD P w K mg base 2 "called" P_called F_called) (D_left : FD P w K mg base 2 "left" P_left F_left) (D_given_by : FD P w K mg base 1 "given_by" P_given_by F_given_by) (D_jumped : FD P w K mg base 2 "jumped" P_jumped F_jumped) (D_touched : FD P w K mg base 4 "touched" P_touched F_touched) : FnOk P w K mg base (L2.CX P w) 5 f fd P_step (SpX K F_step (R_instruction_at C)) := by
  refine okX_of Fn sc_step (by decide) (fun ss E H h => h.1) fun cdv A outer s H E hr => ?_
  have hu := hu_of hr
  refine ⟨_, (dss_cons (ds_par 2 3 rfl sc_step.nd (das_cons (de_callX D_instruction_at hr (takes_of rfl rfl rfl rfl) (das_cons (dv 0) (das_cons (dv 1) das_nil))) (das_cons (de_ix (de_ix (de_ix (dv 1) de_int) (de_neg de_int)) de_int) das_nil)))
      (dss_cons (ds_set 4 (de_ix (dv 2) de_int) sc_step.nd)
      (dss_cons (ds_if (dt_cmp op_inD (dv 4) (de_tup (das_cons de_str (das_cons de_str das_nil)))) (dss_one (ds_ret (de_call D_with_register hr (das_cons (dv 1) (das_cons (de_ix (dv 2) de_int) (das_cons (de_if (dt_cmp op_eqS (dv 4) de_str) (de_ix (dv 3) (de_ix (dv 2) de_int)) de_int) das_nil)))))) dss_nil)
      (dss_cons (ds_if (dt_cmp op_eqS (dv 4) de_str) (dss_one (ds_ret (de_call D_taken hr (das_cons (dv 1) (das_cons (de_ix (dv 2) de_int) das_nil))))) dss_nil)
      (dss_cons (ds_if (dt_cmp op_eqS (dv 4) de_str) (dss_one (ds_ret (de_call D_called hr (das_cons (dv 0) (das_cons (dv 1) (das_cons (dv 2) das_nil)))))) dss_nil)
      (dss_cons (ds_if (dt_cmp op_inD (dv 4) (de_tup (das_cons de_str (das_cons de_str das_nil)))) (dss_one (ds_ret (de_call D_left hr (das_cons (dv 1) (das_cons (de_call D_given_by hr (das_cons (dv 2) (das_cons (dv 3) das_nil))) das_nil))))) dss_nil)
      (dss_cons (ds_if (dt_cmp op_inD (dv 4) (de_tup (das_cons de_str (das_cons de_str (das_cons de_str das_nil))))) (dss_one (ds_ret (de_call D_jumped hr (das_cons (dv 1) (das_cons (dv 2) (das_cons (dv 3) das_nil)))))) dss_nil)
      (dss_one (ds_ret (de_call D_touched hr (das_cons (dv 1) (das_cons (dv 2) (das_cons (dv 3) das_nil))))))))))))), fun σ ss D Rr h => ?_⟩
  obtain ⟨_, ⟨f0, st, rfl, he⟩, k⟩ := h
  have ha : EvAs K (tCons (tVar 0) (tCons (tVar 1) tNil)) (fCons (fVar 0) (fCons (fVar 1) fNil)) := fun B H0 σ H ρ ss R e Q q => by
    unfold fCons at e
    obtain ⟨s1, e1, e⟩ := Option.bind_eq_some_iff.mp e
    obtain ⟨ss1, e2, e⟩ := Option.bind_eq_some_iff.mp e
    obtain ⟨s2, e3, e2⟩ := Option.bind_eq_some_iff.mp e2
    obtain ⟨ss2, e4, e2⟩ := Option.bind_eq_some_iff.mp e2
    cases Option.some.inj e
    cases Option.some.inj e2
    cases Option.some.inj e4
    refine ev_var 0 B H0 σ H ρ s1 R e1 _ fun v H1 x1 t1 f1 => ev_var 1 B H0 σ H1 ρ s2 (R.mono x1) e3 _ fun v2 H2 x2 t2 f2 => ?_
    refine q _ H2 (x1.trans x2) (.cons (tw_ex x2 t1) (.cons t2 .nil)) (.cons f1 (fun n => ?_) (.cons (fun n a ea => fresh_back x1 (f2 n a ea)) (fun _ _ h => by simp at h) .nil))
    have := R.nn 0 s1 (fVar_at e1)
    rw [this] at n
    cases n
  refine raise_call ha Rr rfl fun H' x => ⟨rfl, ⟨f0.bor, st.bor, rfl, ?_⟩, fun H2 x2 => k H2 (x.trans x2)⟩
  rw [show st.bor.bor = st.bor by cases st <;> rfl]
  exact he
end
end K9
/-! The checked step, raising. -/
namespace K9
open PySem PySem.Spec L2 Dn
open PyProof.Rows (envOfC)
open Evl (Ex Ex.refl Ex.trans Ex.new ex_rd ex_l ex_t fresh_back)
section
variable {P : Program} {w : World} {K : PySem.W.Frag} {mg : Str → Option Value} {base : Heap}
structure TrC (P : Program) (w : World) (K : PySem.W.Frag) (mg : Str → Option Value) (base : Heap) (C : Addr) : Prop where
  g : mg "Trap" = some (.ref C)
  oex : OexC K C
  ex : ∃ fI fd, PySem.W.findIn K (.ref C) "__init__" = some (some (.ref fI)) ∧ PySem.W.typeIn K (.ref fI) = some (.type "function") ∧ FnOk P w K mg base CX0 1 fI fd N_init (spInit C) ∧ Binds K fd N_init []
def gCk1 : Rho → Option Out := (fRow [3, 4] (fCons (fTwo gIx (fCall F_instruction_at (fCons (fVar 0) (fCons (fVar 1) fNil))) (fC (.int 0))) (fCons (fCall F_asked_by (fCons (fVar 0) (fCons (fVar 1) fNil))) fNil)))
def tCk : Rho → Option Bool := (fAnd (fTest (fTwo (gIs true) (fVar 4) (fC .non))) (fTest (fTwo (gIn true) (fVar 4) (fVar 2))))
def gCk2 : Rho → Option Out := (fAsg (fSl (fTwo gIx (fTwo gIx (fVar 1) (fC (.int 0))) (fOne gNeg (fC (.int 1)))) (fun _ => some none) (fun ρ => ((fC (.int 2)) ρ).bind fun s => s.int?.map some)) (hTup 2 (hCons (hName 5) (hCons (hName 6) hNil))))
def R_checked_step (C : Addr) : List SD → XK → Hp → Prop := fun ss E H => ss.length = 3 ∧ ∃ ρ1 ρ2 n i, gCk1 (ss.map some ++ List.replicate 7 none) = some (.nx ρ1) ∧ tCk ρ1 = some true ∧ gCk2 ρ1 = some (.nx ρ2) ∧ ρ2[5]? = some (some (.v (.int n))) ∧ ρ2[6]? = some (some (.v (.int i))) ∧
  ∀ d H', Ex H H' → H' d = some (.xd [("index", .int i), ("function", .int n)]) → E (.ref C) (some d) H'
theorem ex_xd {H H1 : Hp} {a dx : Addr} {u1 u2 u3 u4 u5 : HO} (e : Ex H H1) (na : H1 a = none) (nd : H1 dx = none) : Ex H (upd (del (upd (upd (upd (upd H1 a u1) dx u2) a u3) dx u4) a) dx u5) := fun b o h => by
  have h1 := e b o h
  have ba : b ≠ a := fun z => by rw [z, na] at h1; cases h1
  have bd : b ≠ dx := fun z => by rw [z, nd] at h1; cases h1
  rw [upd_ne bd, del_ne ba, upd_ne bd, upd_ne ba, upd_ne bd, upd_ne ba]
  exact h1
theorem okx_checked_step {C : Addr} {f : Addr} {fd : FuncData} (Fn : Fun K "checked_step" "checked_step" s_checked_step f fd) (T : Txt mg) (TT : TrC P w K mg base C) (D_instruction_at : FD P w K mg base 2 "instruction_at" P_instruction_at F_instruction_at) (D_asked_by : FD P w K mg base 3 "asked_by" P_asked_by F_asked_by) (D_step : FD P w K mg base 5 "step" P_step F_step) : FnOk P w K mg base (L2.CX P w) 6 f fd P_checked_step (SpX K F_checked_step (R_checked_step C)) := by
  obtain ⟨fI, fdI, iC, tI, F1, hbI⟩ := TT.ex
  refine okX_of Fn sc_checked_step (by decide) (fun ss E H h => h.1) fun cdv A outer s H E hr => ?_
  have hu := hu_of hr
  obtain ⟨tc, hc⟩ : ∃ tc, DT (cxOf (L2.CX P w) P w K mg base N_checked_step "checked_step" (defScope s_checked_step) f cdv A outer s H E) (ifT (nth (defBody s_checked_step) 1)) tc tCk := ⟨_, (DW.dt (dw_and (dt_cmp op_notD (dv 4) de_non) (dw_and1 (dt_cmp op_notInD (dv 4) (dv 2)))))⟩
  obtain ⟨t1, e1⟩ : ∃ t1, DS (cxOf (L2.CX P w) P w K mg base N_checked_step "checked_step" (defScope s_checked_step) f cdv A outer s H E) (nth (defBody s_checked_step) 0) t1 gCk1 := ⟨_, (ds_row [3, 4] rfl (das_cons (de_ix (de_call D_instruction_at hr (das_cons (dv 0) (das_cons (dv 1) das_nil))) de_int) (das_cons (de_call D_asked_by hr (das_cons (dv 0) (das_cons (dv 1) das_nil))) das_nil)) (pgs_cons (pg_name (i := 3) sc_checked_step.nd rfl (Or.inl rfl)) (pgs_cons (pg_name (i := 4) sc_checked_step.nd rfl (Or.inr rfl)) pgs_nil)))⟩
  obtain ⟨t2, e2⟩ : ∃ t2, DS (cxOf (L2.CX P w) P w K mg base N_checked_step "checked_step" (defScope s_checked_step) f cdv A outer s H E) (nth (ifB (nth (defBody s_checked_step) 1)) 0) t2 gCk2 := ⟨_, (ds_asg (de_sl (de_ix (de_ix (dv 1) de_int) (de_neg de_int)) do_none (do_some de_int)) (dg_tup rfl (dgs_cons (dg_name 5 sc_checked_step.nd) (dgs_cons (dg_name 6 sc_checked_step.nd) dgs_nil))))⟩
  have hR : PS (cxOf (L2.CX P w) P w K mg base N_checked_step "checked_step" (defScope s_checked_step) f cdv A outer s H E) (nth (ifB (nth (defBody s_checked_step) 1)) 1) _ := ps_raise rfl (takes_of rfl rfl rfl rfl) (pmk_oex TT.oex iC tI F1 (hr.mono (by decide)) hbI .nil pass0 (by rfl) TT.g (pa_cons (pv 5) (pa_cons (pv 6) pa_nil)))
  refine ⟨_, (dss_cons e1
      (dss_cons (ds_if hc (dss_cons e2
      (dss_one (ds_any hR))) dss_nil)
      (dss_cons (ds_set 7 (de_call D_step hr (das_cons (dv 0) (das_cons (dv 1) das_nil))) sc_checked_step.nd)
      (dss_cons (ds_if (dt_cmp op_eqS (dv 3) de_str) (dss_cons (ds_set 8 (de_if (dt_cmp op_neS (de_ix (dv 1) de_int) de_int) (de_ix (dv 1) de_int) (de_ix (dv 1) de_int)) sc_checked_step.nd)
      (dss_one (ds_ret (de_tup (das_cons (dv 7) (das_cons (de_tupleW T.tuple (de_sortI T.sorted (de_tup (das_star (dv 2) (das_cons (dv 8) das_nil))))) das_nil)))))) dss_nil)
      (dss_cons (ds_if (dt_cmp op_eqS (dv 3) de_str) (dss_one (ds_ret (de_tup (das_cons (dv 7) (das_cons (de_tupleW T.tuple (de_lcT (own := [("one", 9)]) rfl sc_checked_step.nd (blkOk_by (N := N_checked_step) (sc := defScope s_checked_step) (by decide +kernel)) (dv 2) (ec_name 9) (fun _ _ _ _ _ => pg_name (i := 9) sc_checked_step.nd rfl (Or.inl rfl)) (fun _ _ _ _ _ => dts_one (dt_cmp op_neS (dv 9) (dv 4))) (fun _ _ _ _ _ => (dv 9)) s)) das_nil))))) dss_nil)
      (dss_one (ds_ret (de_tup (das_cons (dv 7) (das_cons (dv 2) das_nil)))))))))), fun σ ss D Rr h => ?_⟩
  obtain ⟨_, ρ1, ρ2, n, i, g1, g2, g3, g4, g5, k⟩ := h
  refine e1.ev _ _ σ H _ (.nx ρ1) Rr g1 _ fun σ1 H1 R1 => raise_if hc.ev R1 g2 fun H2 x2 => e2.ev _ _ σ1 H2 ρ1 (.nx ρ2) (R1.mono x2) g3 _ fun σ3 H3 R3 => ?_
  obtain ⟨v5, a5, b5⟩ := R3.val 5 _ g4
  obtain ⟨v6, a6, b6⟩ := R3.val 6 _ g5
  have c5 := tw_i b5
  have c6 := tw_i b6
  subst c5 c6
  have ex : Ex H H3 := fun a o h => R3.ex.1 a o (fun z => z) h
  refine ⟨_, a5, _, a6, (by show 2 ≤ 1000; decide), fun a na => ⟨a, .int n, .int i, rfl, upd_same, fun dx ndx ne => ⟨rfl, dx, _, (upd_ne (Ne.symm ne)).trans upd_same, upd_same, ?_, ?_⟩⟩⟩
  · rw [upd_ne ne] at ndx
    exact ndx
  · rw [upd_ne ne] at ndx
    exact k dx _ (ex_xd ex na ndx) upd_same
end
end K9
/-! A tuple taken apart while an error is handled. -/
namespace K9
open PySem PySem.Spec L2 Dn
open PySem.W PySem.Calls PyProof.Rows
section
variable {prog : Program} {w : World} {A : Around} {E : Value → Shared → Prop} {s : Shared}
theorem tup_end_hot {it t x1 : Addr} {i : Nat} {items : Array Value} {Q : Option Value → Shared → Prop} (hot : HotX.HotAt A x1 s.heap) (hit : IsTupIter s.heap it t i) (ht : IsTup s.heap t items) (hx : items[i]? = none) (nx : x1 ≠ it)
    (hQ : ∀ h', Heap.ExtBut it s.heap h' → Q none { s with heap := h' }) : wpAny (model prog w) A (pyNext (.ref it)) Q E s := by
  obtain ⟨hh, o1, vs1, g1, d1, c1⟩ := hot
  obtain ⟨o, ho, hc, hd⟩ := id hit
  obtain ⟨ol, hol, hcl, nl, hdl⟩ := ht
  unfold pyNext
  refine wpAny_bind (wpAny_attempt (wpAny_callSpecial?_slot (name := Str.ofString "__next__") hit.typeIs slot_tupleiter_next (wpAny_call_entry slot_tupleiter_next hit.typeIs entry_tupleiter_next ?_ (args_tupleiter_next _))))
  show wpAny _ A.in1 (field (.ref it) 0 >>= _) _ _ s
  refine wpAny_bind (wpAny_field ho hd (x := .ref t) rfl ?_)
  show wpAny _ A.in1 (if (Value.ref t == Value.none) = true then _ else _) _ _ s
  refine (if_neg (show ¬ (Value.ref t == Value.none) = true from Bool.false_ne_true)).symm ▸ ?_
  show wpAny _ A.in1 (field (.ref it) 1 >>= _) _ _ s
  refine wpAny_bind (wpAny_field ho hd (x := .int i 0) rfl ?_)
  show wpAny _ A.in1 (seqItems? (.ref t) >>= _) _ _ s
  refine wpAny_bind (wpAny_seqItems hol hdl ?_)
  simp only [Int.toNat_natCast, hx]
  refine wpAny_bind (wpAny_rule (wpAny_bind (wpAny_setField ho hd (by simp) ?_)))
  show wpAny _ A.in1 (newExc (.type "StopIteration") [] >>= _) _ _ _
  refine wpAny_bind ?_
  simp only [newExc, newTuple]
  refine wpAny_bind (wpAny_newObj_type ?_ (by size_fits))
  refine wpAny_bind (m := firstArgMember _ _) (wpAny_of_eq (a := Value.none) (by first | rfl | (simp only [firstArgMember]; rfl)) ?_)
  refine wpAny_newObj_type ?_ (by size_fits)
  have u2 : ∀ {b : Addr} {o : Obj}, b ≠ it → s.heap.get? b = some o → (s.heap.update it (Obj.mapFields fun x => x.setIfInBounds 0 Value.none)).get? b = some o := fun {b o} hb e => by
    rw [Heap.get?_update_other _ _ (Ne.symm hb)]
    exact e
  refine HotX.raiseNew_hot ⟨hh, o1, vs1, Heap.get?_push_of_some _ (Heap.get?_push_of_some _ (u2 nx g1)), d1, c1⟩ (Nat.ne_of_lt (Nat.lt_of_lt_of_le (Heap.lt_size g1) ?_)) (Heap.get?_push_size _ rfl) rfl (by first | (simp; done) | (simp; omega) | (simp only [Array.size_append]; simp; omega)) ?_
  · simp only [Heap.size_push, Heap.size_update]
    omega
  · refine wpAny_bind (wpAny_isInstance (T := "StopIteration") (b := true) ⟨_, Heap.get?_update_self _ (Heap.get?_push_size _ rfl) rfl, rfl⟩ isSubtype_stop ?_)
    refine wpAny_pure (hQ _ fun b o hb e => ?_)
    rw [Heap.get?_update_other _ _ (Nat.ne_of_gt (Nat.lt_of_lt_of_le (Heap.lt_size e) ?_))]
    · exact Heap.get?_push_of_some _ (Heap.get?_push_of_some _ (u2 hb e))
    · simp only [Heap.size_push, Heap.size_update]
      omega
theorem unpack_hot {t x1 : Addr} {items : Array Value} {targets : List (Bool × (Value → Sem Unit))} {Q : Unit → Shared → Prop} (hot : HotX.HotAt A x1 s.heap) (ht : IsTup s.heap t items) (hn : targets.length = items.size) (hstar : targets.findIdx? (·.1) = none)
    (h : ∀ h', (∀ b o, s.heap.get? b = some o → h'.get? b = some o) → wpAny (model prog w) A (assignInOrder (targets.map (·.2)) items.toList) Q E { s with heap := h' }) : wpAny (model prog w) A (unpack (.ref t) targets) Q E s := by
  have tlt : t < s.heap.objs.size := by
    obtain ⟨o, ho, _⟩ := ht
    exact Heap.lt_size ho
  obtain ⟨hh, o1, vs1, g1, d1, c1⟩ := hot
  have xlt := Heap.lt_size g1
  unfold unpack
  rw [hn, hstar]
  refine wpAny_bind (wpAny_holding ?_)
  unfold unpackItems
  refine wpAny_bind ?_
  unfold notIterableAtAll
  refine wpAny_bind (wpAny_specialOf ht.typeIs slot_tuple_iter.lookup (wpAny_pure ?_))
  simp only [Bool.false_eq_true, if_false]
  refine wpAny_bind (wpAny_holding (iter_tuple ht ?_))
  refine wpAny_bind (wpAny_holding (draw_tuple (Nat.ne_of_lt tlt) items.size 0 _ _ ⟨_, Heap.get?_push_size _ rfl, rfl, rfl⟩ (ht.push _) (by omega) fun h1 hit1 hs1 => ?_))
  have hall : (items.toList.drop 0).take items.size = items.toList := by
    rw [List.drop_zero]
    exact List.take_of_length_le (Nat.le_of_eq (Array.length_toList ..))
  rw [hall, if_neg (by simp)]
  have up1 : ∀ {b : Addr} {o : Obj}, s.heap.get? b = some o → h1.get? b = some o := fun {b o} e => hs1.extBut b o (Nat.ne_of_lt (Heap.lt_size e)) (Heap.get?_push_of_some _ e)
  refine wpAny_bind (wpAny_holding (tup_end_hot ⟨hh, o1, vs1, up1 g1, d1, c1⟩ hit1 ((ht.push _).extBut hs1.extBut (Nat.ne_of_lt tlt)) (by simp) (Nat.ne_of_lt xlt) fun h2 he2 => ?_))
  simp only [Option.isSome_none, Bool.false_eq_true, if_false]
  exact wpAny_pure (h h2 fun b o e => he2 b o (Nat.ne_of_lt (Heap.lt_size e)) (up1 e))
end
theorem pg_tupH {X : Cx} {es : List Expr} {k : Nat} {t : TGs} {n : Nat} {pos : Pos} (hc : L2H.HotC X) (h : PGs X es t) (hn : (assignEach es X.env).length = n := by rfl) (hst : (assignEach es X.env).findIdx? (·.1) = none := by rfl) : PG X (.Tuple es k pos) (gTup X.K n t) := ⟨fun pins s σ H v u Q I r hw => by
  obtain ⟨a, xs, rfl, hq, hl, hw⟩ := hw
  cases r
  obtain ⟨x1, hot⟩ := hc.at I
  obtain ⟨its, rv, ht, hz⟩ := I.tuple hq
  rw [PyProof.Rows.assign_Tuple]
  exact wpAny_bind (wpAny_standAt (unpack_hot hot ht (by rw [hn, ← hl, rv.length]; simp) hst fun h' hx => h.run pins _ σ H xs _ Q (I.kept (t' := s.toks) hx) (by simpa using rv) hw))⟩
end K9
/-! An error with an own __init__, whose context is told; defs that raise it. -/
namespace K9
open PySem PySem.Spec L2 Dn
open PySem.W PySem.Calls PyProof.Rows
theorem pmkN_oex {X : Cx} {x : Str} {C fI : Addr} {k : Nat} {fd : FuncData} {ps : List Str} {sp : Sp} {e : Expr} {es : List Expr} {ta : TA} {p pos : Pos} (T : OexC X.K C) (iC : findIn X.K (.ref C) "__init__" = some (some (.ref fI))) (tI : typeIn X.K (.ref fI) = some (.type "function"))
    (F1 : FnOk X.prog X.w X.K X.mg X.base CX0 k fI fd ps sp) (hr : Room (k + 1) X.A) (hb : Binds X.K fd ps []) (hg : Gl X x) (hm : X.mg x = some (.ref C)) (ha : PA X (e :: es) ta)
    (hdb : (x == ("__debug__" : Str)) = false := by decide) (he : starEach (e :: es) X.env = (false, eval e X.env) :: starEach es X.env := by rfl) (hpl : (backTo pos (starEach es X.env)).any (·.1) = false := by rfl) :
    L2N.PMk X (.Call (.Name x p) (e :: es) [] pos) (tMkO C sp [] ta) := fun pins s σ H Q I h => by
  obtain ⟨nm, qn, Nn, bs, bm, sn, sub, ab, col, dd, k0, k1, k2, k3, k5, hC, hbm⟩ := T.cls
  refine wpAny_Call_Name_kw (ld_glob I hg hm (callWith_K (h₀ := X.base) I.ok.mod.kin T.kC (thn (ha.run pos pins s σ H _ I h) fun us s1 ⟨vs, H1, I1, r1, hz, q1⟩ => ⟨I1.kIn, ?_⟩) he hpl) hdb)
  show wpAny _ _ (call (.ref C) us) _ _ _
  obtain ⟨hp, g, dr, tk, os⟩ := s1
  have hsz : hp.objs.size ≤ hp.objs.size + 1 := Nat.le_succ _
  have hq := q1 (hp.objs.size + 1) (I1.hok.fresh hsz)
  rw [List.append_nil] at hq
  have kk : ∀ b o, hp.get? b = some o → ((hp.push (kdv_tup us)).push (PySem.HandSPX.excO C hp.objs.size)).get? b = some o := fun b o z => Heap.get?_push_of_some _ (Heap.get?_push_of_some _ z)
  have hget : ((hp.push (kdv_tup us)).push (PySem.HandSPX.excO C hp.objs.size)).get? (hp.objs.size + 1) = some (PySem.HandSPX.excO C hp.objs.size) := by heap_get
  have I2 := I1.laid (t' := tk) (a := hp.objs.size + 1) (o := exo (hp.objs.size + 1) C none) (h' := (hp.push (kdv_tup us)).push (PySem.HandSPX.excO C hp.objs.size)) kk hsz (exo_ok hget)
  have r2 : Vals (V.ref (hp.objs.size + 1) :: vs) (Value.ref (hp.objs.size + 1) :: us) := .cons rfl r1
  have hl : (Value.ref (hp.objs.size + 1) :: us).length = ps.length := by rw [← r2.length]; exact F1.len _ _ _ _ hq
  have hus : us.length ≤ sizeLine := by rw [← r1.length, sizeLine_eq]; omega
  have hb2 := hb _ (Value.ref (hp.objs.size + 1) :: us) I2.kIn (by rw [List.append_nil]; exact hl)
  rw [List.append_nil] at hb2
  refine wpAny_call (PySem.HandSPX.call_own F.excBase_ValueError (fun Y => PySem.HandSPX.refsVE_contains Y bm hbm) (I1.kIn _ _ hC) (looks_findIn I1.kIn iC) (fun self => bind_fn I1.kIn self tI) hus
    (codeAny_mono (F1.run _ X.stack _ _ ⟨Value.ref (hp.objs.size + 1) :: us, []⟩ (Value.ref (hp.objs.size + 1) :: us) _ _ (fun _ _ _ => False) (hr.make C us []) (I2.env0.make C us []) hb2 r2 hq) fun r s' hq' => ?_))
  match r, hq' with
  | .error er, hq' => exact (show False from hq').elim
  | .ok (.ret u), hq' =>
    obtain ⟨v, H2, os2, bare2, un2, hok2, rv, ev, d, fs, ea, ed, hd1, q2⟩ := hq'
    subst ev
    obtain ⟨h2, g2, d2, t2, os'⟩ := s'
    obtain ⟨t0, G, J, kG, ge, hoe, na⟩ := mk_end0 (d2 := d2) (t2 := t2) I1 hsz kk un2 hok2 os2 bare2 ea ed hd1
    exact ⟨rv, _, _, _, ⟨G, g2, d2, t2, os'⟩, _, .ref C, some d, rfl, J, kG, ge, hoe, ⟨rfl, rfl, fun vs e => by cases e; rfl⟩, rfl, rfl, na, rfl, bare2, raises_own T.exC T.tyC, q2⟩
section
variable {P : Program} {w : World} {K : PySem.W.Frag} {mg : Str → Option Value} {base : Heap}
theorem okN_of {x qual : Str} {st : Stmt} {f : Addr} {fd : FuncData} {N ps : List Str} {k : Nat} {G : Rho → Option Out} {R : List SD → XK → Hp → Prop} (Fn : Fun K x qual st f fd) (S : FnScope N ps (defScope st)) (hl : ps.length ≤ N.length) (hR : ∀ ss E H, R ss E H → ss.length = ps.length)
    (hbody : ∀ (cdv : Value) (A : Around) (outer : List Env) (s : Shared) (H : Hp) (E : XK), Room k (A.deeper (envOfC qual (defScope st) s.heap.objs.size f cdv)) →
      ∃ t, DSs (cxOf (L2N.CX P w) P w K mg base N qual (defScope st) f cdv A outer s H E) (defBody st) t G ∧ ∀ σ ss D, Rp K (fun _ => False) H σ H (ss.map some ++ List.replicate (N.length - ps.length) none) → R ss E H → t D σ H) :
    FnOk P w K mg base (L2N.CX P w) (k + 1) f fd ps (SpX K (fRun N.length ps.length G) R) := by
  obtain ⟨oc, od, kV, doc, pm, an, cdv, ct, osl, rfl, lk, hcd⟩ := Fn.ex
  refine fn_of lk hcd S (fun vs H Q E h => ?_) (fun A outer s H vs Q E hr h => ?_)
  · rcases h with ⟨ss, s, t, e, _⟩ | ⟨ss, t, r⟩
    · unfold fRun at e
      split at e
      · rename_i q
        rw [twa_len t]
        simpa using q
      · cases e
    · have := hR _ _ _ r
      rw [twa_len t]
      simpa using this
  · obtain ⟨t1, h1, h2⟩ := hbody cdv A outer s H E hr
    refine ⟨t1, h1.ps, ?_⟩
    rcases h with ⟨ss, s', t, e, q⟩ | ⟨ss, t, r⟩
    · unfold fRun at e
      split at e
      · rename_i hm
        obtain ⟨o, eg, e⟩ := Option.bind_eq_some_iff.mp e
        refine h1.ev (fun _ => False) H _ H _ o (start_ok t.bors hm hl fun s hs => ?_) eg _ ?_
        · obtain ⟨z, _, rfl⟩ := List.mem_map.mp hs
          exact ⟨bor_new z, bor_own z⟩
        · have ex : ∀ {H' : Hp}, ExB (fun _ => False) H H' → Evl.Ex H H' := fun x a o h => x.1 a o (fun z => z) h
          cases o with
          | nx ρ =>
            cases Option.some.inj e
            exact fun σ' H' R => q .non H' (ex R.ex) .non fr_v
          | rt s1 =>
            cases Option.some.inj e
            exact fun v H' x t f => q v H' (ex x) t f
          | bk ρ => cases e
          | ct ρ => cases e
      · cases e
    · refine h2 _ _ _ (start_ok t.bors (hR _ _ _ r) hl fun s hs => ?_) r
      obtain ⟨z, _, rfl⟩ := List.mem_map.mp hs
      exact ⟨bor_new z, bor_own z⟩
end
end K9
/-! The checked step, raising, the error's context told. -/
namespace K9
open PySem PySem.Spec L2 Dn
open PyProof.Rows (envOfC)
open Evl (Ex Ex.refl Ex.trans Ex.new ex_rd ex_l ex_t fresh_back)
structure FDN (P : Program) (w : World) (K : PySem.W.Frag) (mg : Str → Option Value) (base : Heap) (k : Nat) (x : Str) (ps : List Str) (F : List SD → Option SD) (R : List SD → XK → Hp → Prop) : Prop where
  ex : ∃ f fd, mg x = some (.ref f) ∧ PySem.W.keepIn K (.ref f) = true ∧ Binds K fd ps [] ∧ FnOk P w K mg base (L2N.CX P w) k f fd ps (SpX K F R)
section
variable {P : Program} {w : World} {K : PySem.W.Frag} {mg : Str → Option Value} {base : Heap}
theorem okn_checked_step {C : Addr} {f : Addr} {fd : FuncData} (Fn : Fun K "checked_step" "checked_step" s_checked_step f fd) (T : Txt mg) (TT : TrC P w K mg base C) (D_instruction_at : FD P w K mg base 2 "instruction_at" P_instruction_at F_instruction_at) (D_asked_by : FD P w K mg base 3 "asked_by" P_asked_by F_asked_by) (D_step : FD P w K mg base 5 "step" P_step F_step) : FnOk P w K mg base (L2N.CX P w) 6 f fd P_checked_step (SpX K F_checked_step (R_checked_step C)) := by
  obtain ⟨fI, fdI, iC, tI, F1, hbI⟩ := TT.ex
  refine okN_of Fn sc_checked_step (by decide) (fun ss E H h => h.1) fun cdv A outer s H E hr => ?_
  have hu := hu_of hr
  obtain ⟨tc, hc⟩ : ∃ tc, DT (cxOf (L2N.CX P w) P w K mg base N_checked_step "checked_step" (defScope s_checked_step) f cdv A outer s H E) (ifT (nth (defBody s_checked_step) 1)) tc tCk := ⟨_, (DW.dt (dw_and (dt_cmp op_notD (dv 4) de_non) (dw_and1 (dt_cmp op_notInD (dv 4) (dv 2)))))⟩
  obtain ⟨t1, e1⟩ : ∃ t1, DS (cxOf (L2N.CX P w) P w K mg base N_checked_step "checked_step" (defScope s_checked_step) f cdv A outer s H E) (nth (defBody s_checked_step) 0) t1 gCk1 := ⟨_, (ds_row [3, 4] rfl (das_cons (de_ix (de_call D_instruction_at hr (das_cons (dv 0) (das_cons (dv 1) das_nil))) de_int) (das_cons (de_call D_asked_by hr (das_cons (dv 0) (das_cons (dv 1) das_nil))) das_nil)) (pgs_cons (pg_name (i := 3) sc_checked_step.nd rfl (Or.inl rfl)) (pgs_cons (pg_name (i := 4) sc_checked_step.nd rfl (Or.inr rfl)) pgs_nil)))⟩
  obtain ⟨t2, e2⟩ : ∃ t2, DS (cxOf (L2N.CX P w) P w K mg base N_checked_step "checked_step" (defScope s_checked_step) f cdv A outer s H E) (nth (ifB (nth (defBody s_checked_step) 1)) 0) t2 gCk2 := ⟨_, (ds_asg (de_sl (de_ix (de_ix (dv 1) de_int) (de_neg de_int)) do_none (do_some de_int)) (dg_tup rfl (dgs_cons (dg_name 5 sc_checked_step.nd) (dgs_cons (dg_name 6 sc_checked_step.nd) dgs_nil))))⟩
  have hR : PS (cxOf (L2N.CX P w) P w K mg base N_checked_step "checked_step" (defScope s_checked_step) f cdv A outer s H E) (nth (ifB (nth (defBody s_checked_step) 1)) 1) _ := L2N.ps_raise rfl (L2N.takes_of rfl rfl rfl rfl) (pmkN_oex TT.oex iC tI F1 (hr.mono (by decide)) hbI (by rfl) TT.g (pa_cons (pv 5) (pa_cons (pv 6) pa_nil)))
  refine ⟨_, (dss_cons e1
      (dss_cons (ds_if hc (dss_cons e2
      (dss_one (ds_any hR))) dss_nil)
      (dss_cons (ds_set 7 (de_call D_step hr (das_cons (dv 0) (das_cons (dv 1) das_nil))) sc_checked_step.nd)
      (dss_cons (ds_if (dt_cmp op_eqS (dv 3) de_str) (dss_cons (ds_set 8 (de_if (dt_cmp op_neS (de_ix (dv 1) de_int) de_int) (de_ix (dv 1) de_int) (de_ix (dv 1) de_int)) sc_checked_step.nd)
      (dss_one (ds_ret (de_tup (das_cons (dv 7) (das_cons (de_tupleW T.tuple (de_sortI T.sorted (de_tup (das_star (dv 2) (das_cons (dv 8) das_nil))))) das_nil)))))) dss_nil)
      (dss_cons (ds_if (dt_cmp op_eqS (dv 3) de_str) (dss_one (ds_ret (de_tup (das_cons (dv 7) (das_cons (de_tupleW T.tuple (de_lcT (own := [("one", 9)]) rfl sc_checked_step.nd (blkOk_by (N := N_checked_step) (sc := defScope s_checked_step) (by decide +kernel)) (dv 2) (ec_name 9) (fun _ _ _ _ _ => pg_name (i := 9) sc_checked_step.nd rfl (Or.inl rfl)) (fun _ _ _ _ _ => dts_one (dt_cmp op_neS (dv 9) (dv 4))) (fun _ _ _ _ _ => (dv 9)) s)) das_nil))))) dss_nil)
      (dss_one (ds_ret (de_tup (das_cons (dv 7) (das_cons (dv 2) das_nil)))))))))), fun σ ss D Rr h => ?_⟩
  obtain ⟨_, ρ1, ρ2, n, i, g1, g2, g3, g4, g5, k⟩ := h
  refine e1.ev _ _ σ H _ (.nx ρ1) Rr g1 _ fun σ1 H1 R1 => raise_if hc.ev R1 g2 fun H2 x2 => e2.ev _ _ σ1 H2 ρ1 (.nx ρ2) (R1.mono x2) g3 _ fun σ3 H3 R3 => ?_
  obtain ⟨v5, a5, b5⟩ := R3.val 5 _ g4
  obtain ⟨v6, a6, b6⟩ := R3.val 6 _ g5
  have c5 := tw_i b5
  have c6 := tw_i b6
  subst c5 c6
  have ex : Ex H H3 := fun a o h => R3.ex.1 a o (fun z => z) h
  refine ⟨_, a5, _, a6, (by show 2 ≤ 1000; decide), fun a na => ⟨a, .int n, .int i, rfl, upd_same, fun dx ndx ne => ⟨rfl, dx, _, (upd_ne (Ne.symm ne)).trans upd_same, upd_same, ?_, ?_⟩⟩⟩
  · rw [upd_ne ne] at ndx
    exact ndx
  · rw [upd_ne ne] at ndx
    exact k dx _ (ex_xd ex na ndx) upd_same
end
end K9
/-! _law_alike called; the try of the law. -/
namespace K9
open PySem PySem.Spec L2 Dn
open PySem.W PyProof.Rows
open Evl (Ex Ex.refl Ex.trans Ex.new ex_rd ex_l ex_t fresh_back)
/-- where _law_alike stands -/
structure AlkD (X : Cx) (mg : Str → Option Value) : Prop where
  ex : ∃ f fd, mg "_law_alike" = some (.ref f) ∧ keepIn X.K (.ref f) = true ∧ Binds X.K fd N_law_alike [] ∧ Fun X.K "_law_alike" "_law_alike" s_law_alike f fd
section
variable {X : Cx} {e1 e2 : Expr} {t : TA} {p pos : Pos}
theorem pe_alike (D : AlkD X X.mg) (T2 : Txt2 X.mg) (hr : L2H.RoomH 1 X.A) (hgd : X.A.guards = some []) (ha : PA X [e1, e2] t) (hg : Gl X "_law_alike" := by rfl)
    (he : starEach [e1, e2] X.env = (false, eval e1 X.env) :: starEach [e2] X.env := by rfl) (hpl : (backTo pos (starEach [e2] X.env)).any (·.1) = false := by rfl) :
    PE X (.Call (.Name "_law_alike" p) [e1, e2] [] pos) (tCall (spAlike X.K) [] E0 t) := by
  obtain ⟨f, fd, hm, kp, hb, Fn⟩ := D.ex
  refine ⟨fun pins s σ H Q I h => ?_⟩
  refine wpAny_Call_Name_kw (ld_glob I hg hm (callWith_K (h₀ := X.base) I.ok.mod.kin kp (thn (ha.run pos pins s σ H _ I h) fun us s1 ⟨vs, H1, I1, r, q⟩ => ⟨I1.kIn, ?_⟩) he hpl) (by decide))
  have q : spAlike X.K vs H1 Q E0 := by simpa using q
  have hl : us.length = N_law_alike.length := by
    obtain ⟨x, y, d, rfl, _⟩ := q
    exact r.length.symm
  have b := hb s1 us I1.kIn (by rw [List.append_nil]; exact hl)
  rw [List.append_nil] at b
  refine wpAny_call (codeAny_mono (alike_run (w := X.w) Fn T2 hr hgd I1.env0 b r q) fun rr s' hq => ?_)
  cases rr with
  | error e => exact (show False from hq).elim
  | ok fl =>
    cases fl with
    | ret u => exact I1.after hq
    | next => exact False.elim hq
    | brk => exact False.elim hq
    | cont => exact False.elim hq
open Classical in
noncomputable def F_alike : List SD → Option SD := fun args => match args with
  | [s1, s2] => (erS s1).bind fun d => (erS s2).bind fun e => if d = e ∧ AlkOk d then some (.v (.bl true)) else none
  | _ => none
theorem F_alike_is {s1 s2 : SD} {d : PyData} (h1 : erS s1 = some d) (h2 : erS s2 = some d) (ok : AlkOk d) : F_alike [s1, s2] = some (.v (.bl true)) := by
  unfold F_alike
  simp only [h1, h2, Option.bind_some]
  exact if_pos ⟨rfl, ok⟩
theorem F_alike_inv {ss : List SD} {s : SD} (h : F_alike ss = some s) : ∃ s1 s2 d, ss = [s1, s2] ∧ erS s1 = some d ∧ erS s2 = some d ∧ AlkOk d ∧ s = .v (.bl true) := by
  unfold F_alike at h
  split at h
  · rename_i s1 s2
    obtain ⟨d, e1, h⟩ := Option.bind_eq_some_iff.mp h
    obtain ⟨e, e2, h⟩ := Option.bind_eq_some_iff.mp h
    split at h
    · rename_i q
      obtain ⟨rfl, ok⟩ := q
      exact ⟨s1, s2, d, rfl, e1, e2, ok, (Option.some.inj h).symm⟩
    · cases h
  · cases h
theorem de_alike {FA : Rho → Option (List SD)} (D : AlkD X X.mg) (T2 : Txt2 X.mg) (hr : L2H.RoomH 1 X.A) (hgd : X.A.guards = some []) (ha : DAs X [e1, e2] t FA) (hg : Gl X "_law_alike" := by rfl)
    (he : starEach [e1, e2] X.env = (false, eval e1 X.env) :: starEach [e2] X.env := by rfl) (hpl : (backTo pos (starEach [e2] X.env)).any (·.1) = false := by rfl) :
    DE X (.Call (.Name "_law_alike" p) [e1, e2] [] pos) (tCall (spAlike X.K) [] E0 t) (fun ρ => (FA ρ).bind F_alike) := ⟨pe_alike D T2 hr hgd ha.pa hg he hpl, fun B H0 σ H ρ s R e Q q => by
  obtain ⟨ss, e3, e4⟩ := Option.bind_eq_some_iff.mp e
  obtain ⟨s1, s2, d, rfl, f1, f2, ok, rfl⟩ := F_alike_inv e4
  refine ha.ev B H0 σ H ρ _ R e3 _ fun vs H1 x1 t1 _ => ?_
  cases t1 with
  | cons a1 t1 => cases t1 with
    | cons a2 t1 => cases t1 with
      | nil => exact ⟨_, _, d, rfl, tw_dp a1 f1, tw_dp a2 f2, ok, q _ H1 x1 (.bl true) fr_v⟩⟩
end
theorem RB.hide {K : Frag} {a q : Addr} {b : Nat} {H0 H : Hp} {σ : L2.St} {ρ : Rho} (r : RB K a q b H0 σ H ρ) (i : Nat) (hi : i ≠ b) (x : Option V) : RB K a q b H0 (σ.set i x) H (ρ.set i none) := by
  have get : ∀ {j : Nat} {s : SD}, (ρ.set i none)[j]? = some (some s) → ρ[j]? = some (some s) ∧ (σ.set i x)[j]? = σ[j]? := by
    intro j s h
    by_cases hj : i = j
    · subst hj
      have hl : i < ρ.length := by
        have := (List.getElem?_eq_some_iff.mp h).1
        simpa using this
      rw [List.getElem?_set_self hl] at h
      cases h
    · rw [List.getElem?_set_ne hj] at h
      exact ⟨h, List.getElem?_set_ne hj⟩
  refine ⟨⟨r.rp.ex, fun j s h => ?_, fun j s h => r.rp.nn j s (get h).1, fun j s c h o e => ?_, fun j l s t c h o h' o' e e' => ?_, by simp [r.rp.len]⟩, by rw [List.getElem?_set_ne hi]; exact r.sa, by rw [List.getElem?_set_ne hi]; exact r.rb, r.bg, fun j s v h n e => ?_⟩
  · obtain ⟨v, e1, e2⟩ := r.rp.val j s (get h).1
    exact ⟨v, (get h).2.trans e1, e2⟩
  · exact r.rp.own j s c (get h).1 o ((get h).2.symm.trans e)
  · exact r.rp.sep j l s t c (get h).1 o (get h').1 o' ((get h).2.symm.trans e) ((get h').2.symm.trans e')
  · exact r.sep j s v (get h).1 n ((get h).2.symm.trans e)
end K9
/-! The law's try. -/
namespace K9
open PySem PySem.Spec L2 Dn
open PySem.W PyProof.Rows
open Evl (Ex Ex.refl Ex.trans Ex.new ex_rd ex_l ex_t fresh_back)
abbrev s_law : Stmt := top 43
abbrev N_law : List Str := ["script", "bag", "lap", "functions", "memory", "first", "top", "due", "stand", "raw", "cells", "is_trap", "turn", "asked", "later", "its", "error", "number", "at", "place", "goal", "word"]
abbrev P_law : List Str := ["script"]
theorem sc_law : FnScope N_law P_law (defScope s_law) := ⟨rfl, rfl, rfl, by decide +kernel, rfl, by decide +kernel, by decide +kernel⟩
theorem pe_of {X : Cx} {e : Expr} {t : TE} {F : Rho → Option SD} (h : DE X e t F) : PE X e t := h.pe
theorem pt_of {X : Cx} {e : Expr} {t : TT} {F : Rho → Option Bool} (h : DT X e t F) : PT X e t := h.pt
def forB : Stmt → List Stmt
  | .For (body := b) .. => b
  | _ => []
def lapB : List Stmt := forB (nth (defBody s_law) 1)
def turnB : List Stmt := forB (nth lapB 8)
def s_try : Stmt := nth turnB 5
theorem hot_suite {X : Cx} {a : Addr} {oe : Obj} {cls : Value} {d : Option Addr} {pn : List (Addr × Obj)} (hz : L2N.Zn cls d oe) (hf : ∃ vs, oe.data = .fields vs) : L2H.HotC (X.suite a ((a, oe) :: pn)) := by
  obtain ⟨vs, hv⟩ := hf
  exact ⟨(a, oe), ⟨rfl, vs, hv, hz.2.2 vs hv⟩, List.mem_cons_self⟩
section
variable {P : Program} {w : World} {K : PySem.W.Frag} {mg : Str → Option Value} {base : Heap}
abbrev XL (P : Program) (w : World) (K : PySem.W.Frag) (mg : Str → Option Value) (base : Heap) (f : Addr) (cdv : Value) (A : Around) (outer : List Env) (s : Shared) (H : Hp) (E : XK) : Cx := (cxOf CX0 P w K mg base N_law "law" (defScope s_law) f cdv A outer s H E).nox
def faTry : Rho → Option (List SD) := fCons (fVar 3) (fCons (fVar 8) (fCons (fOne gTupleW (fVar 10)) fNil))
def fStd : Rho → Option SD := fSl (fTwo gIx (fTwo gIx (fVar 8) (fC (.int 0))) (fOne gNeg (fC (.int 1)))) (fun _ => some none) (fun ρ => ((fC (.int 2)) ρ).bind fun s => s.int?.map some)
def RCk (ss : List SD) (n i : Int) : Prop := ss.length = 3 ∧ ∃ ρ1 ρ2, gCk1 (ss.map some ++ List.replicate 7 none) = some (.nx ρ1) ∧ tCk ρ1 = some true ∧ gCk2 ρ1 = some (.nx ρ2) ∧ ρ2[5]? = some (some (.v (.int n))) ∧ ρ2[6]? = some (some (.v (.int i)))
def gTry : WG := fun ρ P => (∃ s s', (fCall F_checked_step faTry) ρ = some s ∧ s.keep = some s' ∧ P (.nx (ρ.set 15 (some s')))) ∨
  ∃ ss n i p, ρ.length = 22 ∧ faTry ρ = some ss ∧ RCk (ss.map SD.bor) n i ∧ fStd (ρ.set 16 none) = some (.v (.tup p [.int n, .int i])) ∧ AlkOk (.tuple [.int n, .int i]) ∧
    (∀ ρ', ρ' = ((((ρ.set 16 none).set 17 (some (.v (.int n)))).set 18 (some (.v (.int i)))).set 11 (some (.v (.bl true)))) → fTest (fTwo (gIs false) (fVar 13) (fC .non)) ρ' = some false ∧ fTest (fTwo (gIn false) (fVar 13) (fVar 10)) ρ' = some false ∧ P (.ct (ρ'.set 16 none)))
def handB : Stmt → List Stmt
  | .Try _ (.ExceptHandler (body := b) .. :: _) _ _ _ => b
  | _ => []
def tryB : Stmt → List Stmt
  | .Try b _ _ _ _ => b
  | _ => []
def tsTry (K : Frag) (C a : Addr) (cls : Value) (d : Option Addr) : TS :=
  tSeq (tAsg (tSl (fun x lo hi H Q => rSlL K x lo hi H Q ∨ rSlA K x lo hi H Q) (tOp (fun x y H Q => rIxL K x y H Q ∨ rIxT K x y H Q) (tOp (fun x y H Q => rIxL K x y H Q ∨ rIxT K x y H Q) (tVar 8) (tC (.int 0))) (tUn (rU fun i => .int (-i)) (tC (.int 1)))) tNoPart (tPart (tC (.int 2)))) (gTup K 2 (gCons (gName 17) (gCons (gName 18) gNil))))
  (tSeq (tAsg (tC (.bl true)) (gName 11))
  (tSeq (tIfS (tOr (tTest (tOp (fun x y H Q => y = .non ∧ Q (.bl (decide (x = .non))) H) (tVar 13) (tC .non))) (tOr (tTest (tOp (rIn K false) (tVar 13) (tVar 10)))
    (tNot (tB (tCall (spAlike K) [] E0 (tCons (tTup (tCons (tXf a cls d C "function" (tVar 16)) (tCons (tXf a cls d C "index" (tVar 16)) tNil))) (tCons (tTup (tCons (tVar 17) (tCons (tVar 18) tNil))) tNil))))))) (tRet (tC (.bl false))) tNext) tCont))
theorem dws_try {C : Addr} {f : Addr} {cdv : Value} {A : Around} {outer : List Env} {s : Shared} {H : Hp} {E : XK} (T2 : Txt2 mg) (TT : TrC P w K mg base C) (xf : XfC K C) (fF : findIn K (.ref C) "function" = some none) (fI : findIn K (.ref C) "index" = some none) (eT : exmOne K (.ref C) (.ref C) = some true)
    (hr : Room 7 (XL P w K mg base f cdv A outer s H E).A) (hgd : (XL P w K mg base f cdv A outer s H E).A.guards = some []) (D : AlkD (XL P w K mg base f cdv A outer s H E) mg) (DC : FDN P w K mg base 6 "checked_step" P_checked_step F_checked_step (R_checked_step C)) :
    ∃ t, DWS (XL P w K mg base f cdv A outer s H E) 1 s_try t gTry := by
  have T := T2.T
  have nd := sc_law.nd
  obtain ⟨fk, fdk, hmC, kpC, hbC, GC⟩ := DC.ex
  have ha : EvAs K (tCons (tVar 3) (tCons (tVar 8) (tCons (tCB (rTupP K) (tCons (tVar 10) tNil)) tNil))) faTry :=
    (show DAs (XL P w K mg base f cdv A outer s H E) [.Name "functions" ⟨0, 0, 0, 0⟩, .Name "stand" ⟨0, 0, 0, 0⟩, .Call (.Name "tuple" ⟨0, 0, 0, 0⟩) [.Name "cells" ⟨0, 0, 0, 0⟩] [] ⟨0, 0, 0, 0⟩] _ faTry from das_cons (dv 3) (das_cons (dv 8) (das_cons (de_tupleW T.tuple (dv 10)) das_nil))).ev
  have tk0 : L2N.Takes (XL P w K mg base f cdv A outer s H E) (fun _ _ _ _ => False) := fun _ _ x => by
    obtain ⟨_, _, _, _, _, _, _, _, _, _, _, _, _, _, _, _, z⟩ := x
    exact z.elim
  -- the parts of the suite that are plain
  have evS : EvD K (tSl (fun x lo hi H Q => rSlL K x lo hi H Q ∨ rSlA K x lo hi H Q) (tOp (fun x y H Q => rIxL K x y H Q ∨ rIxT K x y H Q) (tOp (fun x y H Q => rIxL K x y H Q ∨ rIxT K x y H Q) (tVar 8) (tC (.int 0))) (tUn (rU fun i => .int (-i)) (tC (.int 1)))) tNoPart (tPart (tC (.int 2)))) fStd :=
    (show DE (XL P w K mg base f cdv A outer s H E) (.Subscript (.Subscript (.Subscript (.Name "stand" ⟨0, 0, 0, 0⟩) (.Constant (.int 0) 0 ⟨0, 0, 0, 0⟩) ⟨0, 0, 0, 0⟩) (.UnaryOp .USub (.Constant (.int 1) 0 ⟨0, 0, 0, 0⟩) ⟨0, 0, 0, 0⟩) ⟨0, 0, 0, 0⟩) (.Slice none (some (.Constant (.int 2) 0 ⟨0, 0, 0, 0⟩)) none ⟨0, 0, 0, 0⟩) ⟨0, 0, 0, 0⟩) _ fStd from de_sl (de_ix (de_ix (dv 8) de_int) (de_neg de_int)) do_none (do_some de_int)).ev
  have ev1 : EvB K (tTest (tOp (fun x y H Q => y = .non ∧ Q (.bl (decide (x = .non))) H) (tVar 13) (tC .non))) (fTest (fTwo (gIs false) (fVar 13) (fC .non))) :=
    (show DT (XL P w K mg base f cdv A outer s H E) (.Compare (.Name "asked" ⟨0, 0, 0, 0⟩) [.Is] [.Constant .none 0 ⟨0, 0, 0, 0⟩] ⟨0, 0, 0, 0⟩) _ _ from dt_cmp op_isD (dv 13) de_non).ev
  have ev2 : EvB K (tTest (tOp (rIn K false) (tVar 13) (tVar 10))) (fTest (fTwo (gIn false) (fVar 13) (fVar 10))) :=
    (show DT (XL P w K mg base f cdv A outer s H E) (.Compare (.Name "asked" ⟨0, 0, 0, 0⟩) [.In] [.Name "cells" ⟨0, 0, 0, 0⟩] ⟨0, 0, 0, 0⟩) _ _ from dt_cmp op_inD (dv 13) (dv 10)).ev
  have hS : ∀ (a : Addr) (oe : Obj) (cls : Value) (d : Option Addr) (pn : List (Addr × Obj)), L2N.Zn cls d oe → (∃ vs, oe.data = .fields vs) → PSs ((XL P w K mg base f cdv A outer s H E).suite a ((a, oe) :: pn)) (handB s_try) (tsTry K C a cls d) := fun a oe cls d pn hz hf =>
    pss_cons (ps_asg (pe_of (de_sl (de_ix (de_ix (dv 8) de_int) (de_neg de_int)) do_none (do_some de_int))) (pg_tupH (hot_suite hz hf) (pgs_cons (pg_name (i := 17) nd rfl (.inl rfl)) (pgs_cons (pg_name (i := 18) nd rfl (.inl rfl)) pgs_nil))))
    (pss_cons (ps_set (i := 11) nd rfl (.inl rfl) pe_bl)
    (pss_cons (ps_if (PW.pt (pw_or (pt_of (dt_cmp op_isD (dv 13) de_non)) (pw_or (pt_of (dt_cmp op_inD (dv 13) (dv 10))) (pw_or1 (pt_not (pt_val (pe_alike ⟨D.ex⟩ T2 ⟨(hr.mono (j := 1) (by decide)).dp, (hr.mono (j := 1) (by decide)).un⟩ (show ((XL P w K mg base f cdv A outer s H E).suite a ((a, oe) :: pn)).A.guards = some [] from hgd) (pa_cons (pe_tup (pa_cons (pe_xf xf fF hz.zc hf (pv 16)) (pa_cons (pe_xf xf fI hz.zc hf (pv 16)) pa_nil))) (pa_cons (pe_tup (pa_cons (pv 17) (pa_cons (pv 18) pa_nil))) pa_nil))))))))) (pss_one (ps_ret pe_bl)) pss_nil)
    (pss_one ps_continue)))
  have hB : ∀ (W : WX) (pn : List (Addr × Obj)) (xe : Value → Shared → Prop), L2N.Takes ((XL P w K mg base f cdv A outer s H E).tr pn xe) W → PassesOwn (model P w) (XL P w K mg base f cdv A outer s H E).A (XL P w K mg base f cdv A outer s H E).env xe →
      PSs ((XL P w K mg base f cdv A outer s H E).tr pn xe) (tryB s_try) (tAsg (tCallS (SpX K F_checked_step (R_checked_step C)) (WE W) (tCons (tVar 3) (tCons (tVar 8) (tCons (tCB (rTupP K) (tCons (tVar 10) tNil)) tNil)))) (gName 15)) := fun W pn xe tk _ =>
    pss_one (ps_set (i := 15) nd rfl (.inl rfl) (pe_callS GC (hr.mono (by decide)) (by rfl) hmC kpC hbC (fun σ => L2N.passAt tk σ) (pa_cons (pv 3) (pa_cons (pv 8) (pa_cons (pe_of (de_tupleW T.tuple (dv 10))) pa_nil)))))
  refine ⟨_, ⟨L2N.ps_try_as (X := XL P w K mg base f cdv A outer s H E) (c := .ref C) (i := 16) (ts := tsTry K C) (tb := fun W => tAsg (tCallS (SpX K F_checked_step (R_checked_step C)) (WE W) (tCons (tVar 3) (tCons (tVar 8) (tCons (tCB (rTupP K) (tCons (tVar 10) tNil)) tNil)))) (gName 15)) rfl rfl nd rfl rfl ⟨rfl, by decide, .inl TT.g⟩ tk0 hB hS, fun ab q H0 σ H1 ρ Po R w0 Dn kk => ?_⟩⟩
  rcases w0 with ⟨s1, s2, e1, e2, p⟩ | ⟨ss, n, i, pb, hlen22, e1, hck, e3, alk, hrest⟩
  · have fin : s1.fin = true := by
      cases s1 with
      | v d => rfl
      | lst o ds => cases o <;> simp [SD.keep] at e2 <;> rfl
      | dic o ds => cases o <;> simp [SD.keep] at e2 <;> rfl
    exact ev_callX ha _ H0 σ H1 ρ s1 R.rp e1 _ fun v H' x t f => kk _ p _ H' (R.put (.of R.bg x t f fin) e2 15 (by decide))
  · obtain ⟨hlen, ρ1, ρ2, g1, g2, g3, g4, g5⟩ := hck
    refine raise_call ha R.rp e1 fun H' x => ⟨hlen, ρ1, ρ2, n, i, g1, g2, g3, g4, g5, fun d H2 x2 hxd => ⟨true, eT, fun _ aE naE => ?_, fun z => nomatch z⟩⟩
    have R2 := RB.hide (R.mono (x.trans x2)) 16 (by decide) (some (.ref aE))
    have l16 : (σ.set 16 (some (.ref aE)))[16]? = some (some (.ref aE)) := by
      rw [List.getElem?_set_self (by rw [R.rp.len, hlen22]; decide)]
    refine evS _ H0 _ H2 _ _ R2.rp e3 _ fun v H3 x3 t3 _ => ?_
    obtain ⟨at_, xs, rfl, hq, hd⟩ := tw_tup t3
    cases hd with
    | cons q1 hd => cases hd with
      | cons q2 hd => cases hd with
        | nil =>
          cases q1
          cases q2
          refine ⟨at_, _, rfl, hq, rfl, .int n, _, rfl, .int i, _, rfl, rfl, ?_⟩
          have R3 := ((R2.mono x3).putI 17 (by decide) (.int n) (.int n) (.int n)).putI 18 (by decide) (.int i) (.int i) (.int i)
          have R4 := R3.putI 11 (by decide) (.bl true) (.bl true) (.bl true)
          obtain ⟨f1, f2, p⟩ := hrest _ rfl
          refine ev1 _ H0 _ H3 _ false R4.rp f1 _ fun H4 x4 => iteF ?_
          refine ev2 _ H0 _ H4 _ false (R4.mono x4).rp f2 _ fun H5 x5 => iteF ?_
          have hxd5 := x5 _ _ (x4 _ _ (x3 _ _ hxd))
          have l0 : σ.length = 22 := R.rp.len.trans hlen22
          have m16 : ((((σ.set 16 (some (.ref aE))).set 17 (some (.int n))).set 18 (some (.int i))).set 11 (some (.bl true)))[16]? = some (some (V.ref aE)) := by
            rw [List.getElem?_set_ne (by decide), List.getElem?_set_ne (by decide), List.getElem?_set_ne (by decide)]
            exact l16
          have m17 : ((((σ.set 16 (some (.ref aE))).set 17 (some (.int n))).set 18 (some (.int i))).set 11 (some (.bl true)))[17]? = some (some (V.int n)) := by
            rw [List.getElem?_set_ne (by decide), List.getElem?_set_ne (by decide), List.getElem?_set_self (by simp [l0])]
          have m18 : ((((σ.set 16 (some (.ref aE))).set 17 (some (.int n))).set 18 (some (.int i))).set 11 (some (.bl true)))[18]? = some (some (V.int i)) := by
            rw [List.getElem?_set_ne (by decide), List.getElem?_set_self (by simp [l0])]
          refine ⟨.ref aE, m16, rfl, rfl, d, _, .int n, rfl, hxd5, rfl, .ref aE, m16, rfl, rfl, d, _, .int i, rfl, hxd5, rfl, (show 2 ≤ sizeLine by decide), fun p1 h1 => ⟨.int n, m17, .int i, m18, (show 2 ≤ sizeLine by decide), fun p2 h2 => ?_⟩⟩
          have h12 : p1 ≠ p2 := fun e => by
            rw [e] at h2
            rw [upd_same] at h2
            cases h2
          have ex7 : Ex H3 (upd (upd H5 p1 (.tup [.int n, .int i])) p2 (.tup [.int n, .int i])) := ((x4.trans x5).trans (Ex.new h1)).trans (Ex.new h2)
          refine ⟨_, _, .tuple [.int n, .int i], rfl, .tup (.inl (.inl ((upd_ne h12).trans upd_same))) (.cons (.int n) (.cons (.int i) .nil)), .tup (.inl (.inl upd_same)) (.cons (.int n) (.cons (.int i) .nil)), alk, true, rfl, ?_⟩
          refine ite2 (fun z => absurd z (by decide)) (fun _ => ?_)
          exact kk _ p _ _ (RB.hide (R4.mono ex7) 16 (by decide) none)
end
end K9
/-! Data, more rules: sum, list(range), comprehensions over ranges, extend, zip, sorted. -/
namespace Dn
open PySem PySem.Spec L2
open PyProof.Rows (envOfC)
open Evl (Ex Ex.refl Ex.trans Ex.new ex_rd ex_l ex_t fresh_back)
section
variable {X : Cx} {e a b c : Expr} {es : List Expr} {t ta tb tc : TE} {tr : TA} {u ua ub : TT} {F Fa Fb Fc : Rho → Option SD} {T : Rho → Option Bool} {FA : Rho → Option (List SD)} {pos : Pos} {st : Stmt} {sts rest : List Stmt} {ts ts' : TS} {G G' : Rho → Option Out}
def gSum : SD → Option SD
  | .lst _ ds => (ints? ds).map fun is => .v (.int is.sum)
  | _ => none
theorem ev_sum : EvU X.K (rSum X.K) gSum := fun H x s1 s h e Q q => by
  cases s1 with
  | v d => cases e
  | dic o k => cases e
  | lst o ds =>
    have e : (ints? ds).map (fun is => SD.v (.int is.sum)) = some s := e
    obtain ⟨is, e1, rfl⟩ := Option.map_eq_some_iff.mp e
    obtain ⟨a, xs, rfl, h2, h3⟩ := h
    obtain ⟨rfl, _⟩ := ints_dp h3 e1
    exact ⟨a, is, rfl, SqL.of h2, q_val q (.int _)⟩
theorem de_sum {p : Pos} (hc : X.calm = true) (hm : X.mg "sum" = none) (ha : DE X a t F) (hg : Gl X "sum" := by rfl) (he : starEach [a] X.env = (false, eval a X.env) :: starEach [] X.env := by rfl) (hpl : (backTo pos (starEach [] X.env)).any (·.1) = false := by rfl) : DE X (.Call (.Name "sum" p) [a] [] pos) (tCB (rSum X.K) (tCons t tNil)) (fOne gSum F) :=
  de_bi (cr_sum hc) ev_sum hm PyProof.Rows.boot_sum ha hg (by decide) (by decide) he hpl
/-- list(range(a, b)) -/
def rgD (a b : Int) : List D := (List.range (b - a).toNat).map fun i => D.int (a + (i : Nat))
def fRg2 (Fa Fb : Rho → Option SD) : Rho → Option SD := fun ρ => (Fa ρ).bind fun s1 => s1.int?.bind fun i => (Fb ρ).bind fun s2 => s2.int?.bind fun j => if decide (0 ≤ i) && decide (i ≤ 10000) && decide (0 ≤ j) && decide (j ≤ 10000) then some (.lst .new (rgD i j)) else none
theorem dq_rg {K : PySem.W.Frag} {H : Hp} (i j : Int) : DqAll K H (rgV i j) (rgD i j) := by
  unfold rgV rgD
  generalize List.range (j - i).toNat = l
  induction l with
  | nil => exact .nil
  | cons x xs ih => exact .cons (.int _) ih
theorem de_listRg {p p2 p3 : Pos} (hc : X.calm = true) (hm : X.mg "list" = none) (hm2 : X.mg "range" = none) (ha : DE X a ta Fa) (hb : DE X b tb Fb) (hg : Gl X "list" := by rfl) (hg2 : Gl X "range" := by rfl) (na : starEach [a, b] X.env = (false, eval a X.env) :: starEach [b] X.env := by rfl)
    (nb : starEach [b] X.env = (false, eval b X.env) :: starEach [] X.env := by rfl) (hp : (backTo p3 (starEach [b] X.env)).any (·.1) = false := by rfl) (nc : starEach [.Call (.Name "range" p2) [a, b] [] p3] X.env = (false, eval (.Call (.Name "range" p2) [a, b] [] p3) X.env) :: starEach [] X.env := by rfl) :
    DE X (.Call (.Name "list" p) [.Call (.Name "range" p2) [a, b] [] p3] [] pos) (tLstRg (tRg2 ta tb)) (fRg2 Fa Fb) := ⟨pe_listRg hc hg hm (prg_2 hg2 hm2 ha.pe hb.pe na nb hp) nc, fun B H0 σ H ρ s R e Q q => by
  unfold fRg2 at e
  obtain ⟨s1, e1, e⟩ := Option.bind_eq_some_iff.mp e
  obtain ⟨i, e2, e⟩ := Option.bind_eq_some_iff.mp e
  obtain ⟨s2, e3, e⟩ := Option.bind_eq_some_iff.mp e
  obtain ⟨j, e4, e⟩ := Option.bind_eq_some_iff.mp e
  split at e
  · rename_i hb4
    simp only [Bool.and_eq_true, decide_eq_true_eq] at hb4
    obtain ⟨⟨⟨i0, i1⟩, j0⟩, j1⟩ := hb4
    have e5 := (Option.some.inj e).symm
    subst e5
    refine ha.ev B H0 σ H ρ s1 R e1 _ fun x H1 x1 t1 _ => hb.ev B H0 σ H1 ρ s2 (R.mono x1) e3 _ fun y H2 x2 t2 _ => ?_
    have ex := tw_int t1 e2
    have ey := tw_int t2 e4
    subst ex ey
    exact ⟨i, j, rfl, rfl, RgOk.of_le i0 (by omega) (by omega) j0, fun l hl => q _ _ ((x1.trans x2).trans (Ex.new hl)) ⟨l, _, rfl, upd_same, dq_rg i j⟩ fun _ y ey => by
      cases ey
      exact fresh_back (x1.trans x2) hl⟩
  · cases e⟩
/-- [e for x in range(n)] -/
def fLcR (vs : List Nat) (Fi : Rho → Option SD) (Fg : D → Rho → Option Rho) (T : Rho → Option Bool) (Fe : Rho → Option SD) : Rho → Option SD := fun ρ => (Fi ρ).bind fun s => s.int?.bind fun n => if decide (0 ≤ n) && decide (n ≤ 10000) then (lcGo Fg T Fe (wipeR ρ vs) (rgD 0 n)).map fun out => .lst .new out else none
theorem rgD_get {n : Int} {i : Nat} (h : i < n.toNat) : (rgD 0 n)[i]? = some (D.int (i : Int)) := by
  unfold rgD
  rw [List.getElem?_map, List.getElem?_range (by simpa using h)]
  simp
theorem rgD_len (a b : Int) : (rgD a b).length = (b - a).toNat := by
  unfold rgD
  simp
theorem de_lcR {elt tg n : Expr} {ifs : List Expr} {scope : Scope} {own : List (Str × Nat)} {g : TG} {tt : TT} {te tl : TE} {Fi Fe : Rho → Option SD} {Fg : D → Rho → Option Rho} {p1 p2 : Pos} (hc : X.calm = true) (hN : X.N.Nodup) (hm : X.mg "range" = none) (ok : BlkOk X.N X.env.scope scope own) (hi : DE X n tl Fi) (hgv : EvC X.K g (own.map (·.2)) Fg)
    (hg : ∀ (s : Shared) (H : Hp) (C : Addr) (cl : List (Str × Addr)) (fp : List Addr), PG (X.blk s H scope (compEnvC scope cl C X.env) fp) tg g) (ht : ∀ (s : Shared) (H : Hp) (C : Addr) (cl : List (Str × Addr)) (fp : List Addr), DTs (X.blk s H scope (compEnvC scope cl C X.env) fp) ifs tt T)
    (he : ∀ (s : Shared) (H : Hp) (C : Addr) (cl : List (Str × Addr)) (fp : List Addr), DE (X.blk s H scope (compEnvC scope cl C X.env) fp) elt te Fe) (s0 : Shared) (hgr : Gl X "range" := by rfl) (hs : starEach [n] X.env = [(false, eval n X.env)] := by rfl)
    (hs2 : ∀ x, foldedSetIterable (.Call (.Name "range" p1) [n] [] p2) X.env x = pure x := by intro _; rfl) :
    DE X (.ListComp elt [⟨tg, .Call (.Name "range" p1) [n] [] p2, ifs, 0⟩] scope pos) (tLc (iRng1 (tCons tl tNil)) g tt te (own.map (·.2))) (fLcR (own.map (·.2)) Fi Fg T Fe) :=
  ⟨pe_lc hc hN (pi_range1 hgr hm (pa_cons hi.pe pa_nil hs) hs) ok hg (fun s H C cl fp => (ht s H C cl fp).pt) (fun s H C cl fp => (he s H C cl fp).pe) hs2, fun B H0 σ H ρ s R e Q q => by
    unfold fLcR at e
    obtain ⟨s1, e1, e⟩ := Option.bind_eq_some_iff.mp e
    obtain ⟨m, e2, e⟩ := Option.bind_eq_some_iff.mp e
    split at e
    · rename_i hb
      simp only [Bool.and_eq_true, decide_eq_true_eq] at hb
      obtain ⟨tot, e3, rfl⟩ := Option.map_eq_some_iff.mp e
      have ev1 : EvB X.K tt T := (ht s0 H 0 [] []).ev
      have ev2 : EvD X.K te Fe := (he s0 H 0 [] []).ev
      refine hi.ev B H0 σ H ρ s1 R.toRp e1 _ fun y H1 x1 t1 _ => ?_
      have ey := tw_int t1 e2
      subst ey
      have hl : (rgD 0 m).length = m.toNat := by rw [rgD_len]; simp
      refine ⟨m, rfl, by omega, by omega, fun A hA => ?_⟩
      refine lc_range (lo := 0) (n := m.toNat) (fun i H' => Ex H1 H' ∧ ∃ acc out, H' A = some (.lst acc) ∧ DqAll X.K H' acc out ∧ out.length ≤ i ∧ ∃ r, lcGo Fg T Fe (wipeR ρ (own.map (·.2))) ((rgD 0 m).drop i) = some r ∧ tot = out ++ r)
        ⟨Ex.new hA, [], [], upd_same, .nil, Nat.zero_le _, tot, e3, rfl⟩ (fun i H' hi' h => ?_) (fun H' h => ?_)
      · obtain ⟨x2, acc, out, h1, h2, h3, r, h4, h5⟩ := h
        have ed : (rgD 0 m).drop i = D.int (i : Int) :: (rgD 0 m).drop (i + 1) := by
          have hlt : i < (rgD 0 m).length := by rw [hl]; exact hi'
          rw [List.drop_eq_getElem_cons hlt]
          have := rgD_get hi'
          rw [List.getElem?_eq_getElem hlt] at this
          rw [Option.some.inj this]
        rw [ed] at h4
        have ez : (0 : Int) + (i : Int) = (i : Int) := Int.zero_add _
        rw [ez]
        refine lc_turn hgv ev1 ev2 (R.mono x1) hA x2 (.int _) h1 h2 ⟨r, h4, h5⟩ ?_ _ fun H2 acc' out' y1 y2 y3 y4 y5 => ⟨y1, acc', out', y2, y3, by omega, y5⟩
        exact Nat.lt_of_le_of_lt (Nat.le_trans h3 (show i ≤ 10000 by omega)) (by decide)
      · obtain ⟨x2, acc, out, h1, h2, h3, r, h4, h5⟩ := h
        rw [← hl, List.drop_length] at h4
        have er : r = [] := (Option.some.inj h4).symm
        subst er
        rw [List.append_nil] at h5
        subst h5
        exact q _ _ (x1.trans x2) ⟨A, acc, rfl, h1, h2⟩ fun _ a' ea => by
          cases ea
          exact fresh_back x1 hA
    · cases e⟩
/-- xs.extend(e), e a new list -/
def fExt (i : Nat) (F : Rho → Option SD) : Rho → Option Out := fun ρ => (fVar i ρ).bind fun s => (F ρ).bind fun s2 => match s, s2 with
  | .lst .own ds, .lst .new es => if few (ds.length + es.length) then some (.nx (ρ.set i (some (.lst .own (ds ++ es))))) else none
  | _, _ => none
theorem fExt_inv {i : Nat} {ρ : Rho} {o : Out} (h : fExt i F ρ = some o) : ∃ ds es, ρ[i]? = some (some (.lst .own ds)) ∧ F ρ = some (.lst .new es) ∧ few (ds.length + es.length) = true ∧ o = .nx (ρ.set i (some (.lst .own (ds ++ es)))) := by
  unfold fExt at h
  obtain ⟨s, e1, h⟩ := Option.bind_eq_some_iff.mp h
  obtain ⟨s2, e2, h⟩ := Option.bind_eq_some_iff.mp h
  split at h
  · split at h
    · rename_i hl
      exact ⟨_, _, fVar_at e1, e2, hl, (Option.some.inj h).symm⟩
    · cases h
  · cases h
theorem ds_ext (i : Nat) {x : Str} {p apos cpos : Pos} (he : DE X e t F) (hN : X.N[i]? = some x := by rfl) (hv : Vis X.env.scope x := by first | exact Or.inl rfl | exact Or.inr (Or.inl rfl) | exact Or.inr (Or.inr rfl))
    (hbase : attributeBase (.Name x p) "extend" X.env (eval (.Name x p) X.env) = eval (.Name x p) X.env := by rfl)
    (hfew : ((backTo cpos (starEach [e] X.env)).all (fun x => !x.1) && (backToKw cpos (keywordEach [] X.env)).all (fun x => x.1.isSome)
      && decide (([e] : List Expr).length + ([] : List Keyword).length + (if ([] : List Keyword).isEmpty then 0 else 1) < 30)) = true := by rfl)
    (hline : (apos.endLine == cpos.line) = true := by rfl) (hs : starEach [e] X.env = (false, eval e X.env) :: starEach [] X.env := by rfl) (hplain : (backTo cpos (starEach [] X.env)).any (·.1) = false := by rfl)
    (hsw : swapsWith (.Call (.Attribute (.Name x p) "extend" apos) [e] [] cpos) none pos.line X.env = pure false := by rfl) (hd : (x == ("__debug__" : Str)) = false := by decide) (hcd : (x == ("__classdict__" : Str)) = false := by decide) :
    DS X (.Expr (.Call (.Attribute (.Name x p) "extend" apos) [e] [] cpos) pos) (tDrop (tBM X.K "list" rExtend (tVar i) (tCons t tNil))) (fExt i F) :=
  ⟨ps_expr (pe_bm PySem.F.plainAttrs_list PySem.F.slot_list_extend PySem.F.type_list_extend mt_extend (pe_var hN hv hd hcd) (pa_cons he.pe pa_nil hs) hbase hfew hline hs hplain) hsw, fun B H0 σ H ρ o R e1 D q => by
    obtain ⟨ds, es', h1, h2, hl, rfl⟩ := fExt_inv e1
    obtain ⟨w, hw, a, xs, rfl, ha, hx⟩ := R.val i _ h1
    refine ⟨.ref a, hw, .inl ⟨rfl, xs, SqL.of ha⟩, he.ev B H0 σ H ρ _ R.toRp h2 _ fun y H1 x1 t1 f1 => ?_⟩
    obtain ⟨c, ys, rfl, hc2, hy⟩ := t1
    have ha1 := x1 a _ ha
    have tu : Tu X.K H1 (upd H1 a (.lst (xs ++ ys))) := tu_upd (lst_ntup ha1)
    have hx1 := dpAll_tu tu (dpAll_ex x1 hx)
    obtain ⟨R2, _⟩ := (R.mono x1).mut (s' := .lst .own (ds ++ es')) (o' := .lst (xs ++ ys)) h1 rfl hw ha1 (lst_ntup ha1) rfl ⟨a, xs ++ ys, rfl, upd_same, dpa_app hx1 (dpAll_tu tu hy)⟩
    exact ⟨a, c, xs, ys, rfl, rfl, ha1, hc2, by rw [dpa_len hx, dpa_len hy]; exact few_le hl, q σ _ R2⟩⟩
/-! ### what nobody changes meanwhile -/
open Classical in
noncomputable def restOf (H : Hp) (σ : L2.St) (ρ : Rho) : Hp := fun x => if ∃ (i : Nat) (s : SD), ρ[i]? = some (some s) ∧ s.own = some .own ∧ σ[i]? = some (some (.ref x)) then none else H x
theorem rest_of {H : Hp} {σ : L2.St} {ρ : Rho} {x : Addr} (h : ∀ (i : Nat) (s : SD), ρ[i]? = some (some s) → s.own = some .own → σ[i]? = some (some (.ref x)) → False) : restOf H σ ρ x = H x := by
  unfold restOf
  exact if_neg fun ⟨i, s, h1, h2, h3⟩ => h i s h1 h2 h3
theorem rest_own {H : Hp} {σ : L2.St} {ρ : Rho} {x : Addr} {i : Nat} {s : SD} (h1 : ρ[i]? = some (some s)) (h2 : s.own = some .own) (h3 : σ[i]? = some (some (.ref x))) : restOf H σ ρ x = none := by
  unfold restOf
  exact if_pos ⟨i, s, h1, h2, h3⟩
theorem rest_le {H : Hp} {σ : L2.St} {ρ : Rho} {x : Addr} {o : HO} (h : restOf H σ ρ x = some o) : H x = some o := by
  unfold restOf at h
  split at h
  · cases h
  · exact h
theorem Rp.froze {K : PySem.W.Frag} {B : Addr → Prop} {H0 H : Hp} {σ : L2.St} {ρ : Rho} (r : Rp K B H0 σ H ρ) : Rp K (fun _ => False) (restOf H σ ρ) σ H ρ :=
  ⟨⟨fun x o _ e => rest_le e, fun x e => by
    cases q : restOf H σ ρ x with
    | none => exact absurd q e
    | some o =>
      rw [rest_le q]
      simp⟩, r.val, r.nn, fun i s x h1 h2 h3 => rest_own h1 h2 h3, r.sep, r.len⟩
theorem Rp.thaw {K : PySem.W.Frag} {B : Addr → Prop} {H0 H H' : Hp} {σ σ' : L2.St} {ρ ρ' : Rho} (r : Rp K B H0 σ H ρ) (r' : Rp K (fun _ => False) (restOf H σ ρ) σ' H' ρ') : Rp K B H0 σ' H' ρ' := by
  have old : ∀ {x : Addr}, H0 x ≠ none → restOf H σ ρ x = H x := fun {x} n => rest_of fun i s h1 h2 h3 => n (r.own i s x h1 h2 h3)
  refine ⟨⟨fun x o nb e => ?_, fun x e => ?_⟩, r'.val, r'.nn, fun i s x h1 h2 h3 => ?_, r'.sep, r'.len⟩
  · have h1 := r.ex.1 x o nb e
    exact r'.ex.1 x o (fun z => z) (by rw [old (by rw [e]; simp)]; exact h1)
  · exact r'.ex.2 x (by rw [old e]; exact r.ex.2 x e)
  · have h0 := r'.own i s x h1 h2 h3
    cases q : H0 x with
    | none => rfl
    | some o =>
      have n : H0 x ≠ none := by rw [q]; simp
      rw [old n] at h0
      exact absurd h0 (r.ex.2 x n)
/-- for x, y in zip(xs, ys): two lent lists of scalars, as long -/
def zipGo (i j : Nat) (G : Rho → Option Out) : List D → List D → Rho → Option Out
  | [], [], ρ => some (.nx ρ)
  | d :: ds, e :: es, ρ => (G ((ρ.set i (some (.v d))).set j (some (.v e)))).bind fun o => match o with
    | .nx ρ' => zipGo i j G ds es ρ'
    | .ct ρ' => zipGo i j G ds es ρ'
    | .bk ρ' => some (.nx ρ')
    | .rt s => some (.rt s)
  | _, _, _ => none
def fZip (i j l m : Nat) (G : Rho → Option Out) : Rho → Option Out := fun ρ => (fVar l ρ).bind fun s => (fVar m ρ).bind fun s2 => match s, s2 with
  | .lst .bor ds, .lst .bor es => (allV ds).bind fun _ => (allV es).bind fun _ => if ds.length = es.length then zipGo i j G ds es ρ else none
  | _, _ => none
theorem fZip_inv {i j l m : Nat} {ρ : Rho} {o : Out} (h : fZip i j l m G ρ = some o) : ∃ ds es vs ws, ρ[l]? = some (some (.lst .bor ds)) ∧ ρ[m]? = some (some (.lst .bor es)) ∧ allV ds = some vs ∧ allV es = some ws ∧ ds.length = es.length ∧ zipGo i j G ds es ρ = some o := by
  unfold fZip at h
  obtain ⟨s, e1, h⟩ := Option.bind_eq_some_iff.mp h
  obtain ⟨s2, e2, h⟩ := Option.bind_eq_some_iff.mp h
  split at h
  · obtain ⟨vs, e3, h⟩ := Option.bind_eq_some_iff.mp h
    obtain ⟨ws, e4, h⟩ := Option.bind_eq_some_iff.mp h
    split at h
    · rename_i hl
      exact ⟨_, _, vs, ws, fVar_at e1, fVar_at e2, e3, e4, hl, h⟩
    · cases h
  · cases h
theorem zipGo_drop {i j : Nat} {ds es : List D} {ρ : Rho} {o : Out} {k : Nat} {d e : D} (hd : ds[k]? = some d) (he : es[k]? = some e) (h : zipGo i j G (ds.drop k) (es.drop k) ρ = some o) : ∃ o1, G ((ρ.set i (some (.v d))).set j (some (.v e))) = some o1 ∧ (match o1 with
    | .nx ρ' => zipGo i j G (ds.drop (k + 1)) (es.drop (k + 1)) ρ' = some o
    | .ct ρ' => zipGo i j G (ds.drop (k + 1)) (es.drop (k + 1)) ρ' = some o
    | .bk ρ' => o = .nx ρ'
    | .rt s => o = .rt s) := by
  obtain ⟨k1, e1⟩ := List.getElem?_eq_some_iff.mp hd
  obtain ⟨k2, e2⟩ := List.getElem?_eq_some_iff.mp he
  rw [List.drop_eq_getElem_cons k1, List.drop_eq_getElem_cons k2, e1, e2] at h
  have h : ((G ((ρ.set i (some (.v d))).set j (some (.v e)))).bind fun o => match o with
    | .nx ρ' => zipGo i j G (ds.drop (k + 1)) (es.drop (k + 1)) ρ'
    | .ct ρ' => zipGo i j G (ds.drop (k + 1)) (es.drop (k + 1)) ρ'
    | .bk ρ' => some (.nx ρ')
    | .rt s => some (.rt s)) = some o := h
  obtain ⟨o1, f1, h⟩ := Option.bind_eq_some_iff.mp h
  refine ⟨o1, f1, ?_⟩
  cases o1 with
  | nx ρ' => exact h
  | ct ρ' => exact h
  | bk ρ' => exact (Option.some.inj h).symm
  | rt s => exact (Option.some.inj h).symm
theorem ds_zip (i j l m : Nat) {x y xs ys : Str} {px py pl pm p1 p2 pt : Pos} {kt : Nat} {body : List Stmt} (hc : X.calm = true) (hx0 : PassesOwn (model X.prog X.w) X.A X.env X.xe) (hm : X.mg "zip" = none) (hb : DSs X body ts G) (hN : X.N.Nodup) (hg : Gl X "zip" := by rfl)
    (hi : X.N[i]? = some x := by rfl) (hx : Loc X.env.scope x := by first | exact Or.inl rfl | exact Or.inr rfl) (hj : X.N[j]? = some y := by rfl) (hy : Loc X.env.scope y := by first | exact Or.inl rfl | exact Or.inr rfl)
    (hl : X.N[l]? = some xs := by rfl) (hlv : Vis X.env.scope xs := by first | exact Or.inl rfl | exact Or.inr (Or.inl rfl) | exact Or.inr (Or.inr rfl)) (hmn : X.N[m]? = some ys := by rfl) (hmv : Vis X.env.scope ys := by first | exact Or.inl rfl | exact Or.inr (Or.inl rfl) | exact Or.inr (Or.inr rfl))
    (hd1 : (xs == ("__debug__" : Str)) = false := by decide) (hcd1 : (xs == ("__classdict__" : Str)) = false := by decide) (hd2 : (ys == ("__debug__" : Str)) = false := by decide) (hcd2 : (ys == ("__classdict__" : Str)) = false := by decide)
    (hf1 : X.fn x = true ∨ X.env.scope.names.lookup x = some .local := by first | exact .inl rfl | exact .inr rfl) (hf2 : X.fn y = true ∨ X.env.scope.names.lookup y = some .local := by first | exact .inl rfl | exact .inr rfl)
    (ha : PA X [.Name xs pl, .Name ys pm] (tCons (tVar l) (tCons (tVar m) tNil)) := by exact pa_cons (pv _) (pa_cons (pv _) pa_nil))
    (hs : starEach [.Name xs pl, .Name ys pm] X.env = (false, eval (.Name xs pl) X.env) :: starEach [.Name ys pm] X.env := by rfl) (hpl : (backTo p2 (starEach [.Name ys pm] X.env)).any (·.1) = false := by rfl)
    (hgt : PG X (.Tuple [.Name x px, .Name y py] kt pt) (gTup X.K 2 (gCons (gName i) (gCons (gName j) gNil))))
    (hs2 : ∀ x, foldedSetIterable (.Call (.Name "zip" p1) [.Name xs pl, .Name ys pm] [] p2) X.env x = pure x := by intro _; rfl) :
    DS X (.For (.Tuple [.Name x px, .Name y py] kt pt) (.Call (.Name "zip" p1) [.Name xs pl, .Name ys pm] [] p2) body [] pos) (tFor (iZip X.K (tCons (tVar l) (tCons (tVar m) tNil))) (gTup X.K 2 (gCons (gName i) (gCons (gName j) gNil))) ts) (fZip i j l m G) :=
  ⟨ps_for hx0 hc (pi_zip hg hm ha hs hpl) hgt hb.ps hs2, fun B H0 σ H ρ o R e1 D q => by
    obtain ⟨ds, es', vs, ws, h1, h2, h3, h4, hlen, hz⟩ := fZip_inv e1
    obtain ⟨w1, e2, c1, xs1, rfl, e4, e5⟩ := R.val l _ h1
    obtain ⟨w2, e6, c2, xs2, rfl, e7, e8⟩ := R.val m _ h2
    obtain ⟨rfl, _⟩ := allV_dp e5 h3
    obtain ⟨rfl, _⟩ := allV_dp e8 h4
    have f1 : restOf H σ ρ c1 = some (.lst xs1) := by
      rw [rest_of fun i s h o k => ?_]
      · exact e4
      · have := R.sep i l s _ c1 h o h1 (by simp [SD.own]) k e2
        subst this
        rw [h1] at h
        cases h
        cases o
    have f2 : restOf H σ ρ c2 = some (.lst xs2) := by
      rw [rest_of fun i s h o k => ?_]
      · exact e7
      · have := R.sep i m s _ c2 h o h2 (by simp [SD.own]) k e6
        subst this
        rw [h2] at h
        cases h
        cases o
    refine ⟨.ref c1, e2, .ref c2, e6, c1, c2, xs1, xs2, rfl, SqL.of e4, SqL.of e7, ?_⟩
    have l1 := dpa_len e5
    have l2 := dpa_len e8
    refine RZ.for_zipL (xs := xs1) (ys := xs2) (by omega) (fun k σ' H' => ∃ ρ', Rp X.K (fun _ => False) (restOf H σ ρ) σ' H' ρ' ∧ zipGo i j G (ds.drop k) (es'.drop k) ρ' = some o) ⟨ρ, R.froze, hz⟩
      (fun k σ' H' ⟨ρ', R', _⟩ => ⟨SqL.of (R'.ex.1 c1 _ (fun z => z) f1), SqL.of (R'.ex.1 c2 _ (fun z => z) f2)⟩) (fun k v w A σ' H' hv hw ⟨ρ', R', hgo⟩ hA => ?_) (fun σ' H' ⟨ρ', R', hgo⟩ => ?_)
    · have a1 := allV_any (K := X.K) h3 (upd H' A (.tup [v, w]))
      have a2 := allV_any (K := X.K) h4 (upd H' A (.tup [v, w]))
      have k1 : k < ds.length := by rw [← l1]; exact (List.getElem?_eq_some_iff.mp hv).1
      have k2 : k < es'.length := by rw [← l2]; exact (List.getElem?_eq_some_iff.mp hw).1
      obtain ⟨v', ev, dv⟩ := dpa_get a1 (List.getElem?_eq_getElem k1)
      obtain ⟨w', ew, dw⟩ := dpa_get a2 (List.getElem?_eq_getElem k2)
      rw [hv] at ev
      cases ev
      rw [hw] at ew
      cases ew
      obtain ⟨o1, g1, g2⟩ := zipGo_drop (List.getElem?_eq_getElem k1) (List.getElem?_eq_getElem k2) hgo
      have R2 := ((R'.mono (Ex.new (o := .tup [v, w]) hA)).set (Ex.refl _) (s := .v _) dv fr_v rfl i).set (Ex.refl _) (s := .v _) dw fr_v rfl j
      refine ⟨A, [v, w], rfl, .inl (.inl upd_same), rfl, v, [w], rfl, w, [], rfl, rfl, ?_⟩
      refine hb.ev _ _ _ _ _ o1 R2 g1 _ ?_
      cases o1 with
      | nx ρ2 => exact fun σ2 H2 R3 => ⟨ρ2, R3, g2⟩
      | ct ρ2 => exact fun σ2 H2 R3 => ⟨ρ2, R3, g2⟩
      | bk ρ2 =>
        subst g2
        exact fun σ2 H2 R3 => q σ2 H2 (R.thaw R3)
      | rt s2 =>
        subst g2
        intro v2 H2 x2 t2 fr2
        refine q v2 H2 ?_ t2 fun n y z => ?_
        · have R4 : Rp X.K (fun _ => False) (restOf H σ ρ) [] H2 [] := ⟨x2, fun i s h => by simp at h, fun i s h => by simp at h, fun i s a h => by simp at h, fun i j s t a h => by simp at h, rfl⟩
          exact (R.thaw R4).ex
        · have h0 := fr2 n y z
          cases q0 : H0 y with
          | none => rfl
          | some o0 =>
            have nn : H0 y ≠ none := by rw [q0]; simp
            rw [rest_of fun i s h1 h2 h3 => nn (R.own i s y h1 h2 h3)] at h0
            exact absurd h0 (R.ex.2 y nn)
    · rw [show xs1.length = ds.length from l1, List.drop_length, hlen, List.drop_length] at hgo
      have e9 : Out.nx ρ' = o := Option.some.inj hgo
      subst e9
      exact q σ' H' (R.thaw R')⟩
end
end Dn
/-! The law's statements, beside the bag and the table of its lambdas. -/
namespace K9
open PySem PySem.Spec L2 Dn LamX
open PySem.W PyProof.Rows
open Evl (Ex Ex.refl Ex.trans Ex.new ex_rd ex_l ex_t fresh_back)
abbrev H00 : Hp := fun _ => none
abbrev RL (K : Frag) (a q : Addr) (σ : L2.St) (H : Hp) (ρ : Rho) : Prop := RB K a q 1 H00 σ H ρ
theorem rl_of {K : Frag} {a q : Addr} {b : Nat} {H0 H : Hp} {σ : L2.St} {ρ : Rho} (r : RB K a q b H0 σ H ρ) : RB K a q b H00 σ H ρ := ⟨⟨⟨fun _ _ _ h => (nomatch h), fun _ h => absurd rfl h⟩, r.rp.val, r.rp.nn, fun _ _ _ _ _ _ => rfl, r.rp.sep, r.rp.len⟩, r.sa, r.rb, r.bg, r.sep⟩
theorem rl_extN {K : Frag} {a q : Addr} {b : Nat} {H H1 : Hp} {σ : L2.St} {ρ : Rho} (r : RB K a q b H00 σ H ρ) (e : ExtN H H1) : RB K a q b H00 σ H1 ρ := by
  have tu : Tu K H H1 := ⟨fun x xs h => by
    rcases h with h | h
    · rcases h with h | ⟨o, h⟩
      · exact .inl (.inl (e _ _ h nofun))
      · exact .inl (.inr ⟨o, e _ _ h nofun⟩)
    · exact .inr h, fun x ⟨o, xs, h, d⟩ => ⟨o, xs, e _ _ h nofun, d⟩⟩
  have tw : ∀ {v : V} {s : SD}, Tw K H v s → Tw K H1 v s := fun {v s} h => by
    cases s with
    | v d => exact dp_tu tu h
    | lst o ds =>
      obtain ⟨c, xs, e1, e2, e3⟩ := h
      exact ⟨c, xs, e1, e _ _ e2 nofun, dpAll_tu tu e3⟩
    | dic o kvs =>
      obtain ⟨c, e1, e2⟩ := h
      exact ⟨c, e1, e _ _ e2 nofun⟩
  obtain ⟨x, y, z, ns, h1, h2, rr⟩ := r.bg
  exact ⟨⟨⟨fun _ _ _ h => (nomatch h), fun _ h => absurd rfl h⟩, fun i s h => let ⟨v, e1, e2⟩ := r.rp.val i s h; ⟨v, e1, tw e2⟩, r.rp.nn, fun _ _ _ _ _ _ => rfl, r.rp.sep, r.rp.len⟩, r.sa, r.rb, ⟨x, y, z, ns, e _ _ h1 nofun, e _ _ h2 nofun, rr⟩, r.sep⟩
def OutOkL (K : Frag) (T : List (Addr × Str)) (a q : Addr) (D : Ends) : Out → Prop
  | .nx ρ => ∀ σ' H', RL K a q σ' H' ρ → Tabs T H' → D.nx σ' H'
  | .rt s => ∀ v H', Tw K H' v s → D.rt v H'
  | .bk ρ => ∀ σ' H', RL K a q σ' H' ρ → Tabs T H' → D.bk σ' H'
  | .ct ρ => ∀ σ' H', RL K a q σ' H' ρ → Tabs T H' → D.ct σ' H'
def EvLS (K : Frag) (T : List (Addr × Str)) (t : TS) (G : WG) : Prop := ∀ a q σ H ρ P, RL K a q σ H ρ → Tabs T H → G ρ P → ∀ D : Ends, (∀ o, P o → OutOkL K T a q D o) → t D σ H
structure DLS (X : Cx) (T : List (Addr × Str)) (st : Stmt) (t : TS) (G : WG) : Prop where
  ps : PS X st t
  ev : EvLS X.K T t G
structure DLSs (X : Cx) (T : List (Addr × Str)) (st : List Stmt) (t : TS) (G : WG) : Prop where
  ps : PSs X st t
  ev : EvLS X.K T t G
theorem els_of {K : Frag} {T : List (Addr × Str)} {t : TS} {G : WG} (h : EvWS K 1 t G) : EvLS K T t G := fun a q σ H ρ P R tb w D k => by
  have fz := R.rp.froze
  have R0 : RB K a q 1 (restOf H σ ρ) σ H ρ := ⟨⟨⟨fun x o _ e => rest_le e, fz.ex.2⟩, R.rp.val, R.rp.nn, fz.own, R.rp.sep, R.rp.len⟩, R.sa, R.rb, R.bg, R.sep⟩
  have keep : ∀ {H' : Hp}, ExB (At1 a) (restOf H σ ρ) H' → Tabs T H' := fun {H'} x p hp => by
    have up : ∀ b o, H b = some o → (∀ xs, o ≠ .lst xs) → (∀ kvs, o ≠ .dK kvs) → H' b = some o := fun b o e n1 n2 => by
      refine x.1 b o (fun z => ?_) ?_
      · obtain ⟨x, y, z', ns, h1, _⟩ := R.bg
        have z : b = a := z
        rw [z, h1] at e
        exact n1 _ (Option.some.inj e).symm
      · rw [rest_of fun i s h1 h2 h3 => ?_]
        · exact e
        · obtain ⟨v, e1, e2⟩ := R.rp.val i s h1
          rw [h3] at e1
          cases e1
          cases s with
          | v d => cases h2
          | lst o2 ds =>
            obtain ⟨c, xs, e3, e4, _⟩ := e2
            cases e3
            rw [e] at e4
            exact n1 _ (Option.some.inj e4)
          | dic o2 kvs =>
            obtain ⟨c, e3, e4⟩ := e2
            cases e3
            rw [e] at e4
            exact n2 _ (Option.some.inj e4)
    obtain ⟨ps, h1, h2, h3⟩ := tb p hp
    refine ⟨ps, up _ _ h1 nofun nofun, h2, fun pos cv hc => ?_⟩
    obtain ⟨c, e1, e2⟩ := h3 pos cv hc
    exact ⟨c, e1, up _ _ e2 (fun xs z => by unfold CodeO at z; cases z) (fun xs z => by unfold CodeO at z; cases z)⟩
  refine h a q _ σ H ρ P R0 w D fun o p => ?_
  have ko := k o p
  cases o with
  | nx ρ' => exact fun σ' H' R' => ko σ' H' (rl_of R') (keep R'.rp.ex)
  | rt s => exact fun v H' o => ko v H' o.tw
  | bk ρ' => exact fun σ' H' R' => ko σ' H' (rl_of R') (keep R'.rp.ex)
  | ct ρ' => exact fun σ' H' R' => ko σ' H' (rl_of R') (keep R'.rp.ex)
section
variable {X : Cx} {T : List (Addr × Str)} {st : Stmt} {rest : List Stmt} {ts ts' : TS} {G G' : WG} {pos : Pos} {e : Expr} {t : TE} {F : Rho → Option SD}
theorem dls_of (h : DWS X 1 st ts G) : DLS X T st ts G := ⟨h.ps, els_of h.ev⟩
theorem dls_cons (h1 : DLS X T st ts G) (h2 : DLSs X T rest ts' G') : DLSs X T (st :: rest) (tSeq ts ts') (wSeq G G') := ⟨pss_cons h1.ps h2.ps, fun a q σ H ρ P R tb w D k => by
  refine h1.ev a q σ H ρ _ R tb w _ fun o p => ?_
  cases o with
  | nx ρ' => exact fun σ' H' R' tb' => h2.ev a q σ' H' ρ' P R' tb' p D k
  | rt s => exact k _ p
  | bk s => exact k _ p
  | ct s => exact k _ p⟩
theorem dls_one (h1 : DLS X T st ts G) : DLSs X T [st] ts G := ⟨pss_one h1.ps, h1.ev⟩
theorem dls_forR (i : Nat) {x : Str} {p1 p2 px : Pos} {body : List Stmt} (hc : X.calm = true) (hx0 : PassesOwn (model X.prog X.w) X.A X.env X.xe) (hm : X.mg "range" = none) (he : DE X e t F) (hb : DLSs X T body ts G) (hN : X.N.Nodup) (hib : i ≠ 1 := by decide) (hg : Gl X "range" := by rfl) (hi : X.N[i]? = some x := by rfl)
    (hx : Loc X.env.scope x := by first | exact Or.inl rfl | exact Or.inr rfl) (hf : X.fn x = true ∨ X.env.scope.names.lookup x = some .local := by first | exact .inl rfl | exact .inr rfl) (hs : starEach [e] X.env = [(false, eval e X.env)] := by rfl)
    (hs2 : ∀ x, foldedSetIterable (.Call (.Name "range" p1) [e] [] p2) X.env x = pure x := by intro _; rfl) :
    DLS X T (.For (.Name x px) (.Call (.Name "range" p1) [e] [] p2) body [] pos) (tFor (iRng1 (tCons t tNil)) (gName i) ts) (wFor i F G) :=
  ⟨ps_for hx0 hc (pi_range1 hg hm (pa_cons he.pe pa_nil hs) hs) (pg_name hN hi hx hf) hb.ps hs2, fun a q σ H ρ P R tb ⟨n, ef, hn, I, i0, i1, i2⟩ D k => by
    refine he.ev _ H00 σ H ρ _ R.rp ef _ fun y H1 x1 t1 _ => ?_
    have ey := tw_i t1
    subst ey
    refine ⟨(n : Int), rfl, by omega, by omega, ?_⟩
    refine for_range (n := (n : Int).toNat) (fun j σ' H' => j ≤ n ∧ ∃ ρ', RL X.K a q σ' H' ρ' ∧ Tabs T H' ∧ I j ρ') ⟨Nat.zero_le _, ρ, R.mono x1, tb.ext x1, i0⟩ (fun j σ' H' hj ⟨_, ρ', R', tb', e'⟩ => ?_) (fun σ' H' ⟨_, ρ', R', tb', e'⟩ => ?_)
    · have hj : j < n := by simpa using hj
      have ez : (0 : Int) + (j : Int) = (j : Int) := Int.zero_add _
      show ts _ (σ'.set i (some (.int (0 + (j : Int))))) H'
      rw [ez]
      refine hb.ev a q _ H' _ _ (R'.putI i hib (.int (j : Int)) (.int (j : Int)) (.int _)) tb' (i1 j ρ' hj e') _ fun o p => ?_
      cases o with
      | nx ρ2 => exact fun σ2 H2 R2 tb2 => ⟨hj, ρ2, R2, tb2, p⟩
      | ct ρ2 => exact fun σ2 H2 R2 tb2 => ⟨hj, ρ2, R2, tb2, p⟩
      | bk ρ2 => exact k (.nx ρ2) p
      | rt s2 => exact k (.rt s2) p
    · have e' : I n ρ' := by simpa using e'
      exact k _ (i2 ρ' e') σ' H' R' tb'⟩
end
end K9
/-! The law's lambdas. -/
namespace K9
open PySem PySem.Spec L2 Dn LamX
open PySem.W PyProof.Rows
open Evl (Ex Ex.refl Ex.trans Ex.new ex_rd ex_l ex_t fresh_back)
abbrev s_isn : Stmt := top 41
abbrev N_isn : List Str := ["act"]
theorem sc_isn : FnScope N_isn N_isn (defScope s_isn) := ⟨rfl, rfl, rfl, by decide +kernel, rfl, by decide +kernel, by decide +kernel⟩
/-- try: act() / except Nothing: return True / return False -/
def TNo (K : Frag) (CN : Addr) : (XK → Hp → VK → Prop) → Hp → VK → Prop := fun tl H Q => tl (fun cls _ H' => ∃ b, exmOne K cls (.ref CN) = some b ∧ (b = true → Q (.bl true) H') ∧ (b = false → False)) H (fun _ H' => Q (.bl false) H')
theorem nothing_gives {X : Cx} {g CN : Addr} {cdg : Value} {q : Str} (hm : X.mg "Nothing" = some (.ref CN)) : GivesTo X N_isn "_law_is_nothing" (defScope s_isn) g cdg (defBody s_isn) "act" q (TNo X.K CN) := by
  intro f c' s H Q tl act hc h
  have hgl : Gl (cxOf C8.CX0 X.prog X.w X.K X.mg X.base N_isn "_law_is_nothing" (defScope s_isn) g cdg X.A X.stack s H C8.E0).nox "Nothing" := rfl
  refine ⟨_, pss_cons (ps_try_only (X := (cxOf C8.CX0 X.prog X.w X.K X.mg X.base N_isn "_law_is_nothing" (defScope s_isn) g cdg X.A X.stack s H C8.E0).nox) (c := .ref CN)
      (tb := fun W D σ H => ∃ Ech : XK, (∀ cls d σ' H', Ech cls d H' → W cls d σ' H') ∧ σ[0]? = some (some (.ref f)) ∧ H c' = some (CodeO c' q) ∧ tl Ech H (fun _ H' => D.nx σ H'))
      rfl rfl ⟨hgl, by decide, .inl hm⟩ L2.takes0 (fun W pn xe tk _ => ?_) (fun a oe cls d pn _ _ => pss_one (ps_ret pe_bl))) (pss_one (ps_ret pe_bl)), ?_⟩
  · refine ⟨fun pins s' σ H' D I h' => ?_⟩
    obtain ⟨Ech, hW, h1, h2, h3⟩ := h'
    exact (pss_one (ps_expr (act W pn xe Ech _ _ tk hW))).run pins s' σ H' D I ⟨h1, h2, h3⟩
  · exact ⟨_, fun cls d σ' H' ⟨b, e1, e2, e3⟩ => ⟨b, e1, fun hb a _ => e2 hb, fun hb => e3 hb⟩, rfl, hc, h⟩
/-- what the law knows of that def -/
structure LamD (X : Cx) (CN : Addr) : Prop where
  ex : ∃ g fd, X.mg "_law_is_nothing" = some (.ref g) ∧ keepIn X.K (.ref g) = true ∧ L2.Binds X.K fd N_isn [] ∧ Fun X.K "_law_is_nothing" "_law_is_nothing" s_isn g fd
  no : X.mg "Nothing" = some (.ref CN)
  eN : exmOne X.K (.ref CN) (.ref CN) = some true
section
variable {P : Program} {w : World} {K : Frag} {mg : Str → Option Value} {base : Heap} {f : Addr} {cdv : Value} {A : Around} {outer : List Env} {s : Shared} {H : Hp} {E : XK} {CN c Pt : Addr} {T : List (Addr × Str)}
abbrev tStepL (K : Frag) (CN : Addr) : XK → TE := fun E => tCallS (SpX K F_step (R_instruction_at CN)) (WE fun cls d _ H => E cls d H) (tCons (tVar 3) (tCons (tVar 8) tNil))
abbrev tBegL (K : Frag) (CN : Addr) : XK → TE := fun E => tCallS (SpX K F_begin (R_begin CN)) (WE fun cls d _ H => E cls d H) (tCons (tVar 3) (tCons (tC (.int 0)) (tCons (tTup tNil) (tCons (tTup tNil) tNil))))
def gLam1 : WG := fun ρ P => ∃ x, fTest (fCall F_is_ended (fCons (fVar 8) fNil)) ρ = some x ∧ (x = true → ∃ s1 s2, ρ[3]? = some (some s1) ∧ ρ[8]? = some (some s2) ∧ F_is_ended [s2.bor] = some (.v (.bl true))) ∧ P (.nx ρ)
theorem nth_at {ρ : Rho} {i : Nat} {s : SD} (h : ρ[i]? = some (some s)) : fVar i ρ = some s := by
  unfold fVar
  rw [h]
  rfl
theorem dls_lam1 (D : LamD (XL P w K mg base f cdv A outer s H E) CN) (DE_ : FD P w K mg base 1 "is_ended" P_is_ended F_is_ended) (DS_ : FDX P w K mg base 5 "step" P_step F_step (R_instruction_at CN)) (TB : TabB base mg c Pt) (hcode : cdv = .ref c) (hmT : (Pt, ("law.<locals>.<lambda>" : Str)) ∈ T) (hu : ∀ p ∈ T, p.1 = Pt → p.2 = ("law.<locals>.<lambda>" : Str)) (hr : Room 7 (XL P w K mg base f cdv A outer s H E).A) :
    ∃ t, DLS (XL P w K mg base f cdv A outer s H E) T (nth lapB 11) t gLam1 := by
  obtain ⟨g, fd, hg, kp, hb, Fn⟩ := D.ex
  obtain ⟨oc, od, kV, doc, pm, an, cd2, ct, osl, rfl, lk, hcd⟩ := Fn.ex
  obtain ⟨fs, fds, hms, kps, hbs, GS⟩ := DS_.ex
  obtain ⟨te, he⟩ : ∃ te, DT (XL P w K mg base f cdv A outer s H E) (.Call (.Name "is_ended" ⟨0, 0, 0, 0⟩) [.Name "stand" ⟨0, 0, 0, 0⟩] [] ⟨0, 0, 0, 0⟩) (tB (tCall (SpD K F_is_ended) [] E0 (tCons (tVar 8) tNil))) (fTest (fCall F_is_ended (fCons (fVar 8) fNil))) := ⟨(), dt_val (de_call DE_ hr (das_cons (dv 8) das_nil))⟩
  have hps : PS (XL P w K mg base f cdv A outer s H E) (nth lapB 11) (tIfS (tAnd (tB (tCall (SpD K F_is_ended) [] E0 (tCons (tVar 8) tNil))) (tNot (tB (tLam T (TNo K CN) (tStepL K CN))))) (tRet (tC (.bl false))) tNext) :=
    ps_if (PW.pt (pw_and (pt_of (dt_val (de_call DE_ hr (das_cons (dv 8) das_nil)))) (pw_and1 (pt_not (pt_val (pe_lamcall (x := "_law_is_nothing") (Ng := N_isn) (a := "act") (c := c) (P := Pt) (k := 5) (by rfl) hg kp lk hcd hb sc_isn rfl (.inl rfl) (nothing_gives D.no) TB hcode hmT hu hr (lamS_by rfl) rfl (fun _ _ _ _ _ => rfl)
      (fun A outer s H E f c' hr2 => pe_callS GS hr2 (by rfl) hms kps hbs (fun σ => L2.passAt (L2.takes_of rfl rfl rfl rfl) σ) (pa_cons (pv 3) (pa_cons (pv 8) pa_nil))))))))) (pss_one (ps_ret pe_bl)) pss_nil
  refine ⟨_, hps, fun a q σ H ρ Po R tb w D0 k => ?_⟩
  obtain ⟨x, e1, e2, p⟩ := w
  have ha : EvAs K (tCons (tVar 3) (tCons (tVar 8) tNil)) (fCons (fVar 3) (fCons (fVar 8) fNil)) :=
    (show DAs (XL P w K mg base f cdv A outer s H E) [.Name "functions" ⟨0, 0, 0, 0⟩, .Name "stand" ⟨0, 0, 0, 0⟩] _ _ from das_cons (dv 3) (das_cons (dv 8) das_nil)).ev
  refine he.ev _ H00 σ H ρ x R.rp e1 _ fun H1 x1 => ?_
  cases x with
  | false => exact iteF (iteF (k _ p σ H1 (R.mono x1) (tb.ext x1)))
  | true =>
    obtain ⟨s1, s2, a1, a2, a3⟩ := e2 rfl
    refine iteT ⟨tb.ext x1, fun H2 eN tb2 => ?_⟩
    have R2 := rl_extN (R.mono x1) eN
    refine raise_call (ss := [s1, s2]) ha R2.rp (by unfold fCons; rw [nth_at a1, nth_at a2]; rfl) fun H' x2 => ⟨rfl, ⟨s1.bor, s2.bor, rfl, ?_⟩, fun H3 x3 => ⟨true, D.eN, fun _ => ⟨true, rfl, ite2 (fun z => absurd z (by decide)) fun _ => k _ p σ H3 (R2.mono (x2.trans x3)) (tb2.ext (x2.trans x3))⟩, fun z => nomatch z⟩⟩
    rw [show s2.bor.bor = s2.bor by cases s2 <;> rfl]
    exact a3
def begT : Rho → Option Bool := (fOr (fNot (fTest (fChain (gII fun i j => decide (i ≤ j)) (gII fun i j => decide (i < j)) (fC (.int 0)) (fVar 1) (fOne gLen (fVar 0))))) (fTest (fTwo (gEq true) (fOne gLen (fVar 2)) (fTwo gIx (fTwo gIx (fVar 0) (fVar 1)) (fC (.int 0))))))
def gLam2 : WG := fun ρ P => ∃ s1, ρ[3]? = some (some s1) ∧ begT ([s1.bor, .v (.int 0), .v (.tup false []), .v (.tup false [])].map some ++ List.replicate 3 none) = some true ∧ P (.nx ρ)
theorem dls_lam2 (D : LamD (XL P w K mg base f cdv A outer s H E) CN) (DB_ : FDX P w K mg base 2 "begin" P_begin F_begin (R_begin CN)) (TB : TabB base mg c Pt) (hcode : cdv = .ref c) (hmT : (Pt, ("law.<locals>.<lambda>" : Str)) ∈ T) (hu : ∀ p ∈ T, p.1 = Pt → p.2 = ("law.<locals>.<lambda>" : Str)) (hr : Room 7 (XL P w K mg base f cdv A outer s H E).A) :
    ∃ t, DLS (XL P w K mg base f cdv A outer s H E) T (nth lapB 13) t gLam2 := by
  obtain ⟨g, fd, hg, kp, hb, Fn⟩ := D.ex
  obtain ⟨oc, od, kV, doc, pm, an, cd2, ct, osl, rfl, lk, hcd⟩ := Fn.ex
  obtain ⟨fs, fds, hms, kps, hbs, GS⟩ := DB_.ex
  have hps : PS (XL P w K mg base f cdv A outer s H E) (nth lapB 13) (tIfS (tNot (tB (tLam T (TNo K CN) (tBegL K CN)))) (tRet (tC (.bl false))) tNext) :=
    ps_if (pt_not (pt_val (pe_lamcall (x := "_law_is_nothing") (Ng := N_isn) (a := "act") (c := c) (P := Pt) (k := 5) (by rfl) hg kp lk hcd hb sc_isn rfl (.inl rfl) (nothing_gives D.no) TB hcode hmT hu hr (lamS_by rfl) rfl (fun _ _ _ _ _ => rfl)
      (fun A outer s H E f c' hr2 => pe_callS GS (hr2.mono (by decide)) (by rfl) hms kps hbs (fun σ => L2.passAt (L2.takes_of rfl rfl rfl rfl) σ) (pa_cons (pv 3) (pa_cons pe_int (pa_cons (pe_tup pa_nil) (pa_cons (pe_tup pa_nil) pa_nil)))))))) (pss_one (ps_ret pe_bl)) pss_nil
  refine ⟨_, hps, fun a q σ H ρ Po R tb w D0 k => ?_⟩
  obtain ⟨s1, a1, a3, p⟩ := w
  have ha : EvAs K (tCons (tVar 3) (tCons (tC (.int 0)) (tCons (tTup tNil) (tCons (tTup tNil) tNil)))) (fCons (fVar 3) (fCons (fC (.int 0)) (fCons (fTup fNil) (fCons (fTup fNil) fNil)))) :=
    (show DAs (XL P w K mg base f cdv A outer s H E) [.Name "functions" ⟨0, 0, 0, 0⟩, .Constant (.int 0) 0 ⟨0, 0, 0, 0⟩, .Tuple [] 0 ⟨0, 0, 0, 0⟩, .Tuple [] 0 ⟨0, 0, 0, 0⟩] _ _ from das_cons (dv 3) (das_cons de_int (das_cons (de_tup das_nil) (das_cons (de_tup das_nil) das_nil)))).ev
  refine ⟨tb, fun H2 eN tb2 => ?_⟩
  have R2 := rl_extN R eN
  exact raise_call (ss := [s1, .v (.int 0), .v (.tup false []), .v (.tup false [])]) ha R2.rp (by unfold fCons; rw [nth_at a1]; rfl) fun H' x2 => ⟨rfl, a3, fun H3 x3 => ⟨true, D.eN, fun _ => ⟨true, rfl, ite2 (fun z => absurd z (by decide)) fun _ => k _ p σ H3 (R2.mono (x2.trans x3)) (tb2.ext (x2.trans x3))⟩, fun z => nomatch z⟩⟩
end
end K9
/-! Data: sorted of pairs of ints, of one item. -/
namespace Dn
open PySem PySem.Spec L2
open PyProof.Rows (envOfC)
open Evl (Ex Ex.refl Ex.trans Ex.new ex_rd ex_l ex_t fresh_back)
def pairs2? : List D → Option (List (Int × Int))
  | [] => some []
  | .tup _ [.int i, .int j] :: ds => (pairs2? ds).map fun ps => (i, j) :: ps
  | _ => none
/-- items that are pairs of ints -/
inductive Prs (K : PySem.W.Frag) (H : Hp) : List V → List (Int × Int) → Prop
  | nil : Prs K H [] []
  | cons {t : Addr} {xs : List V} {p : Int × Int} {ps : List (Int × Int)} : SqT K H t [.int p.1, .int p.2] → Prs K H xs ps → Prs K H (.ref t :: xs) (p :: ps)
theorem prs_of {K : PySem.W.Frag} {H : Hp} : ∀ {ds : List D} {xs : List V} {ps : List (Int × Int)}, DqAll K H xs ds → pairs2? ds = some ps → Prs K H xs ps
  | [], _, _, .nil, h => by
    cases Option.some.inj h
    exact .nil
  | d :: ds, _, _, .cons a b, h => by
    unfold pairs2? at h
    split at h
    · rename_i z; cases z
    · rename_i f i j es z
      cases z
      obtain ⟨ps, e1, rfl⟩ := Option.map_eq_some_iff.mp h
      obtain ⟨t, ys, rfl, h1, h2, _⟩ := dp_tupT a
      cases h2 with
      | cons q1 h2 => cases h2 with
        | cons q2 h2 => cases h2 with
          | nil =>
            cases q1
            cases q2
            exact .cons h1 (prs_of b e1)
    · cases h
theorem prs_dq {K : PySem.W.Frag} {H : Hp} : ∀ {xs : List V} {ps : List (Int × Int)}, Prs K H xs ps → DqAll K H xs (ps.map pairD)
  | _, _, .nil => .nil
  | _, _, .cons h t => .cons (.tup h (fun z => nomatch z) (.cons (.int _) (.cons (.int _) .nil))) (prs_dq t)
def rSortPr (K : PySem.W.Frag) : List V → Hp → VK → Prop := fun vs H Q => ∃ (a : Addr) (xs : List V) (ps : List (Int × Int)), vs = [V.ref a] ∧ SqL K H a xs ∧ Prs K H xs ps ∧ ∀ ys p, Prs K H ys (sortP ps) → H p = none → Q (.ref p) (upd H p (.lst ys))
theorem prs_ref {K : PySem.W.Frag} {H : Hp} : ∀ {xs : List V} {ps : List (Int × Int)}, Prs K H xs ps → ∀ x ∈ xs, ∃ t, x = V.ref t
  | _, _, .nil, x, h => by simp at h
  | _, _, .cons (t := t) _ r, x, h => by
    rcases List.mem_cons.mp h with rfl | h
    · exact ⟨t, rfl⟩
    · exact prs_ref r x h
def adr : Value → Addr
  | .ref a => a
  | _ => 0
open Classical in
noncomputable def keyAt (K : PySem.W.Frag) (H : Hp) (v : Value) : Int × Int := if h : ∃ p : Int × Int, SqT K H (adr v) [.int p.1, .int p.2] then h.choose else (0, 0)
theorem keyAt_is {X : Cx} {pins : List (Addr × Obj)} {σ : L2.St} {H : Hp} {s : Shared} (I : Inv X pins σ H s) {t : Addr} {p : Int × Int} (h : SqT X.K H t [.int p.1, .int p.2]) : keyAt X.K H (.ref t) = p := by
  have hex : ∃ p : Int × Int, SqT X.K H (adr (.ref t)) [.int p.1, .int p.2] := ⟨p, h⟩
  unfold keyAt
  rw [dif_pos hex]
  have e := I.tuple_inj hex.choose_spec (show SqT X.K H (adr (.ref t)) [.int p.1, .int p.2] from h)
  injection e with e1 e2
  injection e2 with e2 _
  injection e1 with e1
  injection e2 with e2
  exact Prod.ext e1 e2
theorem keys_are {X : Cx} {pins : List (Addr × Obj)} {σ : L2.St} {H : Hp} {s : Shared} (I : Inv X pins σ H s) : ∀ {xs : List V} {ps : List (Int × Int)} {us : List Value}, Prs X.K H xs ps → Vals xs us → us.map (keyAt X.K H) = ps
  | _, _, _, .nil, .nil => rfl
  | _, _, _, .cons h r, .cons q w => by
    cases q
    rw [List.map_cons, keyAt_is I h, keys_are I r w]
theorem prs_mem {X : Cx} {pins : List (Addr × Obj)} {σ : L2.St} {H : Hp} {s : Shared} (I : Inv X pins σ H s) : ∀ {xs : List V} {ps : List (Int × Int)} {us : List Value}, Prs X.K H xs ps → Vals xs us → ∀ u ∈ us, ∃ t, u = .ref t ∧ SqT X.K H t [.int (keyAt X.K H u).1, .int (keyAt X.K H u).2]
  | _, _, _, .nil, .nil, u, hu => by simp at hu
  | _, _, _, .cons (t := t) h r, .cons q w, u, hu => by
    cases q
    rcases List.mem_cons.mp hu with rfl | hu
    · exact ⟨t, rfl, by rw [keyAt_is I h]; exact h⟩
    · exact prs_mem I r w u hu
theorem prs_back {K : PySem.W.Frag} {H : Hp} {k : Value → Int × Int} : ∀ us : List Value, (∀ u ∈ us, ∃ t, u = .ref t ∧ SqT K H t [.int (k u).1, .int (k u).2]) → Prs K H (us.map backV) (us.map k)
  | [], _ => .nil
  | u :: us, h => by
    obtain ⟨t, e, h1⟩ := h u List.mem_cons_self
    have r := prs_back us fun v hv => h v (List.mem_cons_of_mem _ hv)
    rw [List.map_cons, List.map_cons]
    have eb : backV u = .ref t := by rw [e]; rfl
    rw [eb]
    exact .cons h1 r
theorem cr_sortPr {X : Cx} : CallR X (.builtin "sorted") (rSortPr X.K) := fun pins s σ H vs us Q I r h => by
  obtain ⟨a, xs, ps, rfl, hs, hx, q⟩ := h
  obtain ⟨its, rv, hl, hz⟩ := I.list hs
  obtain ⟨u, rfl, ru⟩ := vals1 r
  cases ru
  have hm := prs_mem I hx rv
  refine SrtO.sorted_pairsO (k := keyAt X.K H) hl.isList (by rw [← rv.length]; exact hz) (fun v hv => ?_) fun h' d out h1 h2 kp hd hn => ?_
  · obtain ⟨t, rfl, ht⟩ := hm v hv
    obtain ⟨its2, r2, ⟨o, ho, hc, n, hdt⟩, _⟩ := I.tuple ht
    obtain ⟨w1, w2, rfl, ⟨t1, e1⟩, ⟨t2, e2⟩⟩ := vals2 r2
    rw [e1, e2] at hdt
    exact ⟨t, o, t1, t2, n, rfl, ho, hc, hdt⟩
  · have hmo : ∀ u ∈ out, ∃ t, u = .ref t ∧ SqT X.K H t [.int (keyAt X.K H u).1, .int (keyAt X.K H u).2] := fun u hu => hm u (h2.perm.mem_iff.mp hu)
    obtain ⟨n, hn⟩ := hn
    have fin : Prs X.K H (out.map backV) (sortP ps) := by
      have e := sortP_is (h2.perm.map (keyAt X.K H)) (List.pairwise_map.mpr h1)
      rw [keys_are I hx rv] at e
      rw [← e]
      exact prs_back out hmo
    have hlen : (out.map backV).length ≤ sizeLine := by
      rw [List.length_map, h2.perm.length_eq, ← rv.length]
      exact hz
    exact ⟨.ref d, upd H d (.lst (out.map backV)), I.laid (t' := s.toks) kp hd ⟨hlen, out, n, vals_back (fun u hu => let ⟨t, e, _⟩ := hmo u hu; ⟨t, e⟩), hn⟩, rfl, q _ d fin (I.hok.fresh hd)⟩
def gSortPr : SD → Option SD
  | .lst _ ds => (pairs2? ds).map fun ps => .lst .new ((sortP ps).map pairD)
  | _ => none
theorem ev_sortPr {X : Cx} : EvU X.K (rSortPr X.K) gSortPr := fun H x s1 s h e Q q => by
  cases s1 with
  | v d => cases e
  | dic o k => cases e
  | lst o ds =>
    have e : (pairs2? ds).map (fun ps => SD.lst .new ((sortP ps).map pairD)) = some s := e
    obtain ⟨ps, e1, rfl⟩ := Option.map_eq_some_iff.mp e
    obtain ⟨a, xs, rfl, h2, h3⟩ := h
    exact ⟨a, xs, ps, rfl, SqL.of h2, prs_of h3 e1, fun ys p hy hp => q_lst q (prs_dq hy) hp⟩
section
variable {X : Cx} {a : Expr} {t : TE} {F : Rho → Option SD} {pos : Pos}
theorem de_sortPr {p : Pos} (hm : X.mg "sorted" = none) (ha : DE X a t F) (hg : Gl X "sorted" := by rfl) (he : starEach [a] X.env = (false, eval a X.env) :: starEach [] X.env := by rfl) (hpl : (backTo pos (starEach [] X.env)).any (·.1) = false := by rfl) : DE X (.Call (.Name "sorted" p) [a] [] pos) (tCB (rSortPr X.K) (tCons t tNil)) (fOne gSortPr F) :=
  de_bi cr_sortPr ev_sortPr hm PyProof.Rows.boot_sorted ha hg (by decide) (by decide) he hpl
theorem op_addDK (K : PySem.W.Frag) (hK : X.K = K) : DOp X (binaryOp .Add) (fun x y H Q => rI0 (fun i j => .int (i + j)) x y H Q ∨ (rCatA K x y H Q ∨ rCat x y H Q)) gAdd := by
  subst hK
  exact op_addD
/-- sorted of one item -/
def rSortOne (K : PySem.W.Frag) : List V → Hp → VK → Prop := fun vs H Q => ∃ (a : Addr) (x : V), vs = [V.ref a] ∧ SqL K H a [x] ∧ ∀ p, H p = none → Q (.ref p) (upd H p (.lst [x]))
theorem cr_sortOne : CallR X (.builtin "sorted") (rSortOne X.K) := fun pins s σ H vs us Q I r h => by
  obtain ⟨a, x, rfl, hs, q⟩ := h
  obtain ⟨its, rv, hl, hz⟩ := I.list hs
  obtain ⟨u, rfl, ru⟩ := vals1 r
  cases ru
  obtain ⟨w, rfl, rw⟩ := rv.one
  refine Srt.sorted_any hl.isList (by exact hz) (fun h2 => absurd h2 (by simp)) fun out ho => ?_
  have e : out = [w] := List.perm_singleton.mp ho
  subst e
  obtain ⟨n, hn⟩ := PyProof.Rows.sortedAll_at s.heap [w] [w].toArray
  have hd : s.heap.objs.size ≤ s.heap.objs.size + 1 := Nat.le_succ _
  exact ⟨.ref (s.heap.objs.size + 1), upd H (s.heap.objs.size + 1) (.lst [x]), I.laid (t' := s.toks) (fun b o e => PyProof.Rows.sortedAll_old e) hd ⟨show 1 ≤ sizeLine by decide, [w], n, .cons rw .nil, hn⟩, rfl, q _ (I.hok.fresh hd)⟩
def gSortOne : SD → Option SD
  | .lst _ [d] => some (.lst .new [d])
  | _ => none
theorem ev_sortOne : EvU X.K (rSortOne X.K) gSortOne := fun H x s1 s h e Q q => by
  cases s1 with
  | v d => cases e
  | dic o k => cases e
  | lst o ds =>
    match ds, e, h with
    | [d], e, h =>
      cases Option.some.inj e
      obtain ⟨a, xs, rfl, h2, h3⟩ := h
      cases h3 with
      | cons q1 h3 => cases h3 with
        | nil => exact ⟨a, _, rfl, SqL.of h2, fun p hp => q_lst q (.cons q1 .nil) hp⟩
theorem de_sortOne {p : Pos} (hm : X.mg "sorted" = none) (ha : DE X a t F) (hg : Gl X "sorted" := by rfl) (he : starEach [a] X.env = (false, eval a X.env) :: starEach [] X.env := by rfl) (hpl : (backTo pos (starEach [] X.env)).any (·.1) = false := by rfl) : DE X (.Call (.Name "sorted" p) [a] [] pos) (tCB (rSortOne X.K) (tCons t tNil)) (fOne gSortOne F) :=
  de_bi cr_sortOne ev_sortOne hm PyProof.Rows.boot_sorted ha hg (by decide) (by decide) he hpl
end
end Dn
namespace K9
open PySem L2 Dn
section
variable {P : Program} {w : World} {K : PySem.W.Frag} {mg : Str → Option Value} {base : Heap}
abbrev s_law_chain : Stmt := top 34
abbrev N_law_chain : List Str := ["bag", "names", "lengths", "many", "places", "told", "cells", "name", "length", "row", "k"]
abbrev P_law_chain : List Str := ["bag", "names", "lengths"]
theorem sc_law_chain : FnScope N_law_chain P_law_chain (defScope s_law_chain) := ⟨rfl, rfl, rfl, by decide +kernel, rfl, by decide +kernel, by decide +kernel⟩
def W_law_chain : List SD → (SD → Prop) → Prop := wRun 11 3 ((wSeq (wSet 3 (wDet (fOne gSum (fVar 2))))
    (wSeq (wSet 4 (wCall W_law_mixed (wCons (wDet (fRg2 (fC (.int 1)) (fTwo gAdd (fVar 3) (fC (.int 1))))) wNil)))
    (wTail (fSeq (fRow [5, 6] (fCons (fLst fNil) (fCons (fLst fNil) fNil)))
    (fSeq (fZip 7 8 1 2 (fSeq (fRow [9, 4] (fCons (fSl (fVar 4) (fun _ => some none) (fun ρ => ((fVar 8) ρ).bind fun s => s.int?.map some)) (fCons (fSl (fVar 4) (fun ρ => ((fVar 8) ρ).bind fun s => s.int?.map some) (fun _ => some none)) fNil)))
    (fSeq (fApp 5 (fTup (fCons (fVar 7) (fCons (fIf (fTest (fTwo (gEqD true) (fVar 9) (fLst fNil))) (fTwo gIx (fVar 9) (fC (.int 0))) (fC (.int 0))) fNil))))
    (fExt 6 (fLcR [10] (fVar 8) (hName 10) (fun _ => some true) (fTup (fCons (fTwo gIx (fVar 9) (fVar 10)) (fCons (fTwo gIx (fTwo gAdd (fVar 9) (fLst (fCons (fC (.int 0)) fNil))) (fTwo gAdd (fVar 10) (fC (.int 1)))) fNil))))))))
    (fRetE (fTup (fCons (fOne gTuple (fOne gSortOne (fVar 5))) (fCons (fOne gTuple (fOne gSortPr (fVar 6))) fNil))))))))))
theorem ok_law_chain {f : Addr} {fd : FuncData} (Fn : Fun K "_law_chain" "_law_chain" s_law_chain f fd) (T2 : Txt2 mg) (D_law_mixed : FW P w K mg base 2 "_law_mixed" P_law_mixed W_law_mixed) : FnOk P w K mg base CX0 3 f fd P_law_chain (SpW K W_law_chain) := by
  refine okW_of Fn sc_law_chain (by decide) fun cdv A outer s H E hr => ?_
  have hu := hu_of hr
  have T := T2.T
  exact ⟨_, (dws_cons (dws_set 3 (dw_det (de_sum rfl T2.sum (dv 2))) sc_law_chain.nd)
      (dws_cons (dws_set 4 (dw_call D_law_mixed hr (daw_cons (dw_det (de_listRg rfl T.list T.range de_int (de_op op_addD (dv 3) de_int))) daw_nil)) sc_law_chain.nd)
      (dws_tail (dss_cons (ds_par 5 6 rfl sc_law_chain.nd (das_cons (de_lst das_nil) (das_cons (de_lst das_nil) das_nil)))
      (dss_cons (ds_zip 7 8 1 2 rfl PassesOwn.never T2.zip (dss_cons (ds_row [9, 4] rfl (das_cons (de_sl (dv 4) do_none (do_some (dv 8))) (das_cons (de_sl (dv 4) (do_some (dv 8)) do_none) das_nil)) (pgs_cons (pg_name (i := 9) sc_law_chain.nd rfl (Or.inr rfl)) (pgs_cons (pg_name (i := 4) sc_law_chain.nd rfl (Or.inl rfl)) pgs_nil)))
      (dss_cons (ds_app 5 (de_tup (das_cons (dv 7) (das_cons (de_if (dt_cmp (op_neP (hu64_of hr)) (dv 9) (de_lst das_nil)) (de_ix (dv 9) de_int) de_int) das_nil))))
      (dss_one (ds_ext 6 (de_lcR (own := [("k", 10)]) rfl sc_law_chain.nd T.range (blkOk_by (N := N_law_chain) (sc := defScope s_law_chain) (by decide +kernel)) (dv 8) (ec_name 10) (fun _ _ _ _ _ => pg_name (i := 10) sc_law_chain.nd rfl (Or.inl rfl)) (fun _ _ _ _ _ => dts_nil) (fun _ _ _ _ _ => (de_tup (das_cons (de_ixK K rfl (dv 9) (dv 10)) (das_cons (de_ixK K rfl (de_op (op_addDK K rfl) (dv 9) (de_lst (das_cons de_int das_nil))) (de_op (op_addDK K rfl) (dv 10) de_int)) das_nil)))) s))))) sc_law_chain.nd (hgt := (pg_tup rfl (pgs_cons (pg_name (i := 7) sc_law_chain.nd rfl (Or.inl rfl)) (pgs_cons (pg_name (i := 8) sc_law_chain.nd rfl (Or.inl rfl)) pgs_nil)))))
      (dss_one (ds_ret (de_tup (das_cons (de_tuple T.tuple (de_sortOne T.sorted (dv 5))) (das_cons (de_tuple T.tuple (de_sortPr T.sorted (dv 6))) das_nil))))))))))⟩
end
end K9
/-! The law's further rules. -/
namespace K9
open PySem PySem.Spec L2 Dn LamX
open PySem.W PyProof.Rows
open Evl (Ex Ex.refl Ex.trans Ex.new ex_rd ex_l ex_t fresh_back)
section
variable {X : Cx} {a : Expr} {ta : TE} {F : Rho → Option SD} {pos : Pos} {b : Nat} {es : List Expr} {tr : TA} {Ws : Rho → (List SD → Prop) → Prop}
def gLenSet : SD → Option SD
  | .lst _ ds => (ints? ds).bind fun is => if is.Nodup ∧ is.length ≤ 4000 then some (.v (.int is.length)) else none
  | _ => none
theorem de_lenSet {p p2 q : Pos} (hm : X.mg "len" = none) (hm2 : X.mg "set" = none) (ha : DE X a ta F) (hg : Gl X "len" := by rfl) (hg2 : Gl X "set" := by rfl) (hc : X.calm = true := by rfl) (na : starEach [a] X.env = (false, eval a X.env) :: starEach [] X.env := by rfl) :
    DE X (.Call (.Name "len" p) [.Call (.Name "set" p2) [a] [] q] [] pos) (RZ.tLenSetI X.K ta) (fOne gLenSet F) := ⟨RZ.pe_lenSetI hg hm hg2 hm2 ha.pe hc na, fun B H0 σ H ρ s R e Q k => by
  unfold fOne at e
  obtain ⟨s1, e1, e⟩ := Option.bind_eq_some_iff.mp e
  refine ha.ev B H0 σ H ρ s1 R e1 _ fun v H1 x1 t1 _ => ?_
  cases s1 with
  | v d => cases e
  | dic o kvs => cases e
  | lst o ds =>
    have e : ((ints? ds).bind fun is => if is.Nodup ∧ is.length ≤ 4000 then some (SD.v (.int is.length)) else none) = some s := e
    obtain ⟨is, e2, e⟩ := Option.bind_eq_some_iff.mp e
    split at e
    · rename_i q
      cases Option.some.inj e
      obtain ⟨c, xs, rfl, h2, h3⟩ := t1
      obtain ⟨rfl, _⟩ := ints_dp h3 e2
      exact ⟨c, is, rfl, SqL.of h2, q.1, q.2, k _ H1 x1 (.int _) fr_v⟩
    · cases e⟩
/-- a row of values, some names of which are captured -/
theorem dws_row (is : List Nat) {tgs : List Expr} {k k2 : Nat} {p1 p2 : Pos} (hc : X.calm = true) (ha : DAW X b es tr Ws) (hg : PGs X tgs (gNames is)) (hib : b ∉ is := by decide) (hn : (assignEach tgs X.env).length = is.length := by rfl) (hst : (assignEach tgs X.env).findIdx? (·.1) = none := by rfl) (hb : is.length ≤ 100 := by decide)
    (hs : swapsWithSole [.Tuple tgs k p1] (.Tuple es k2 p2) pos.line X.env = pure false := by rfl) (hw : swappedStores [.Tuple tgs k p1] (.Tuple es k2 p2) X.env = pure none := by rfl) :
    DWS X b (.Assign [.Tuple tgs k p1] (.Tuple es k2 p2) pos) (tAsg (tTup tr) (gTup X.K is.length (gNames is))) (wRow is Ws) := ⟨ps_asg (pe_tup ha.pa) (pg_tup hc hg hn hst) hs hw, fun a q H0 σ H ρ P R w D kk => by
  refine ha.ev a q H0 σ H ρ _ R w _ fun ss vs H1 ⟨ρ', e, p⟩ o => ?_
  have hl := setMany_len e
  have hv := twa_len o.tw
  refine ⟨by rw [hv, ← hl]; exact Nat.le_trans hb (by decide), fun c hp => ?_⟩
  have o2 : OkVs X.K a q H (upd H1 c (.tup vs)) vs ss := ⟨o.ex.trans (.of (Ex.new hp)), o.bg.ex (Ex.new hp), twAll_ex (Ex.new hp) o.tw, o.nb, o.fr⟩
  exact ⟨c, vs, rfl, .inl (.inl upd_same), by rw [hv, hl], gNames_ok (by rw [hv, hl]) (kk _ p _ _ (R.row o2 hib e))⟩⟩
end
end K9
/-! The law's body walked. -/
namespace K9
open PySem PySem.Spec L2 Dn LamX
open PySem.W PyProof.Rows
open Evl (Ex Ex.refl Ex.trans Ex.new ex_rd ex_l ex_t fresh_back)
def gT0 : WG := (wIf (fOr (fTest (fCall F_is_ended (fCons (fVar 8) fNil))) (fTest (fVar 11))) (fun ρ P => P (.bk ρ)) wNext)
def gT1 : WG := (wSet 13 (wDet (fCall F_law_asked (fCons (fVar 3) (fCons (fVar 8) fNil)))))
def gT2 : WG := (wIf (fNot (fTest (fun ρ => ((fCons (fCall F_asked_by (fCons (fVar 3) (fCons (fVar 8) fNil))) (fCons (fVar 13) fNil)) ρ).bind F_alike))) (wRet (wDet (fC (.bl false)))) wNext)
def gT3 : WG := (wSet 14 (wDet (fCall F_law_do (fCons (fVar 3) (fCons (fVar 8) fNil)))))
def gT4 : WG := (wIf (fNot (fTest (fun ρ => ((fCons (fCall F_step (fCons (fVar 3) (fCons (fVar 8) fNil))) (fCons (fVar 14) fNil)) ρ).bind F_alike))) (wRet (wDet (fC (.bl false)))) wNext)
def gT6 : WG := (wIf (fAnd (fTest (fTwo (gIs true) (fVar 13) (fC .non))) (fTest (fTwo (gIn true) (fVar 13) (fVar 10)))) (wRet (wDet (fC (.bl false)))) wNext)
def gT7 : WG := (wSet 10 (wDet (fCall F_law_cells (fCons (fVar 3) (fCons (fVar 8) (fCons (fVar 10) fNil))))))
def gT8 : WG := (wIf (fNot (fTest (fun ρ => ((fCons (fVar 15) (fCons (fTup (fCons (fVar 14) (fCons (fOne gTupleW (fVar 10)) fNil))) fNil)) ρ).bind F_alike))) (wRet (wDet (fC (.bl false)))) wNext)
def gT9 : WG := (wIf (fOr (fTest (fTwo (gEqD true) (fLc itT [19, 21] (fCall F_live_cells (fCons (fVar 14) fNil)) (hTup 2 (hNames [19, 21])) (fun _ => some true) (fVar 19)) (fVar 10))) (fTest (fTwo (gEq true) (fOne gLenSet (fVar 10)) (fOne gLen (fVar 10))))) (wRet (wDet (fC (.bl false)))) wNext)
def gT10 : WG := (wIf (fTest (fTwo (gEqD true) (fLc itT [19] (fCall F_free_cells (fCons (fVar 14) fNil)) (hName 19) (fTest (fTwo (gIn false) (fVar 19) (fVar 10))) (fVar 19)) (fLst fNil))) (wRet (wDet (fC (.bl false)))) wNext)
def gT11 : WG := (wSet 8 (wVar 14))
def gTurn : WG := wSeq gT0 (wSeq gT1 (wSeq gT2 (wSeq gT3 (wSeq gT4 (wSeq gTry (wSeq gT6 (wSeq gT7 (wSeq gT8 (wSeq gT9 (wSeq gT10 (gT11)))))))))))
def gL0 : WG := (wSet 3 (wCall W_law_code (wCons (wCall W_law_take (wCons (wDet (fC (.int 2))) wNil)) wNil)))
def gL1 : WG := (wSet 4 (wCall W_law_chain (wCons (wDet (fLst (fCons (fC (.str "x")) fNil))) (wCons (wLst (wCons (wCall W_law_take (wCons (wDet (fC (.int 4))) wNil)) wNil)) wNil))))
def gL2 : WG := (wSet 5 (wDet (fCall F_begin (fCons (fVar 3) (fCons (fC (.int 0)) (fCons (fTup (fCons (fCall F_law_place (fCons (fVar 4) (fCons (fC (.str "x")) fNil))) fNil)) (fCons (fTwo gIx (fVar 4) (fC (.int 1))) fNil)))))))
def gL3 : WG := (wSet 6 (wDet (fTwo gAdd (fOne gMax (fTwo gAdd (fLst (fCons (fC (.int 0)) fNil)) (fLc itT [19, 20] (fTwo gIx (fVar 4) (fC (.int 1))) (hTup 2 (hNames [19, 20])) (fun _ => some true) (fVar 19)))) (fC (.int 1)))))
def gL4 : WG := (wSet 7 (wDet (fTup (fCons (fTup (fCons (fTup (fCons (fC (.int 0)) (fCons (fC (.int 0)) (fCons (fTup (fCons (fCall F_law_place (fCons (fVar 4) (fCons (fC (.str "x")) fNil))) (fCons (fC (.int 0)) (fCons (fC (.int 0)) fNil)))) (fCons (fC .non) fNil))))) fNil)) (fCons (fTwo gIx (fVar 4) (fC (.int 1))) (fCons (fC (.int 0)) (fCons (fVar 6) fNil)))))))
def gL5 : WG := (wIf (fNot (fTest (fun ρ => ((fCons (fVar 5) (fCons (fVar 7) fNil)) ρ).bind F_alike))) (wRet (wDet (fC (.bl false)))) wNext)
def gL6 : WG := (wRow [8, 9, 10] (wCons (wVar 5) (wCons (wVar 5) (wCons (wDet (fLc itT [19, 20] (fTwo gIx (fVar 4) (fC (.int 1))) (hTup 2 (hNames [19, 20])) (fun _ => some true) (fVar 19))) wNil))))
def gL7 : WG := (wSet 11 (wDet (fC (.bl false))))
def gL8 : WG := wFor 12 (fC (.int 25)) gTurn
def gL9 : WG := (wFor 12 (fC (.int 12)) (wSet 9 (wDet (fIf (fTest (fTwo (gEq true) (fTwo gIx (fTwo gIx (fTwo gIx (fVar 9) (fC (.int 0))) (fC (.int 0))) (fC (.int 0))) (fOne gNeg (fC (.int 1))))) (fCall F_law_do (fCons (fVar 3) (fCons (fVar 9) fNil))) (fVar 9)))))
def gL10 : WG := (wIf (fNot (fTest (fun ρ => ((fCons (fCall F_run (fCons (fVar 3) (fCons (fVar 5) (fCons (fC (.int 12)) fNil)))) (fCons (fVar 9) fNil)) ρ).bind F_alike))) (wRet (wDet (fC (.bl false)))) wNext)
def gL12 : WG := (wIf (fAnd (fNot (fTest (fVar 11))) (fNot (fTest (fun ρ => ((fCons (fCall F_checked_run (fCons (fVar 3) (fCons (fVar 5) (fCons (fCall F_law_at (fCons (fVar 4) fNil)) (fCons (fC (.int 25)) fNil))))) (fCons (fTup (fCons (fVar 8) (fCons (fOne gTupleW (fVar 10)) fNil))) fNil)) ρ).bind F_alike)))) (wRet (wDet (fC (.bl false)))) wNext)
def gLap : WG := wSeq gL0 (wSeq gL1 (wSeq gL2 (wSeq gL3 (wSeq gL4 (wSeq gL5 (wSeq gL6 (wSeq gL7 (wSeq gL8 (wSeq gL9 (wSeq gL10 (wSeq gLam1 (wSeq gL12 (gLam2)))))))))))))
section
variable {P : Program} {w : World} {K : Frag} {mg : Str → Option Value} {base : Heap} {f : Addr} {cdv : Value} {A : Around} {outer : List Env} {s : Shared} {H : Hp} {E : XK} {CN c Pt : Addr} {T0 : List (Addr × Str)}
theorem dws_turn (T2 : Txt2 mg) (hr : Room 7 (XL P w K mg base f cdv A outer s H E).A) (hgd : (XL P w K mg base f cdv A outer s H E).A.guards = some []) (DA : AlkD (XL P w K mg base f cdv A outer s H E) mg) (D_law_asked : FD P w K mg base 1 "_law_asked" P_law_asked F_law_asked) (D_law_at : FD P w K mg base 1 "_law_at" P_law_at F_law_at) (D_law_cells : FD P w K mg base 2 "_law_cells" P_law_cells F_law_cells) (D_law_chain : FW P w K mg base 3 "_law_chain" P_law_chain W_law_chain) (D_law_code : FW P w K mg base 4 "_law_code" P_law_code W_law_code) (D_law_do : FD P w K mg base 2 "_law_do" P_law_do F_law_do) (D_law_place : FD P w K mg base 1 "_law_place" P_law_place F_law_place) (D_law_take : FW P w K mg base 1 "_law_take" P_law_take W_law_take) (D_asked_by : FD P w K mg base 3 "asked_by" P_asked_by F_asked_by) (D_begin : FD P w K mg base 2 "begin" P_begin F_begin) (D_checked_run : FD P w K mg base 7 "checked_run" P_checked_run F_checked_run) (D_free_cells : FD P w K mg base 1 "free_cells" P_free_cells F_free_cells) (D_is_ended : FD P w K mg base 1 "is_ended" P_is_ended F_is_ended) (D_live_cells : FD P w K mg base 2 "live_cells" P_live_cells F_live_cells) (D_run : FD P w K mg base 6 "run" P_run F_run) (D_step : FD P w K mg base 5 "step" P_step F_step) (hT : ∃ t, DWS (XL P w K mg base f cdv A outer s H E) 1 s_try t gTry) : ∃ t, DWSs (XL P w K mg base f cdv A outer s H E) 1 turnB t gTurn := by
  have T := T2.T
  have hu := hu_of hr
  have hrH : L2H.RoomH 1 (XL P w K mg base f cdv A outer s H E).A := ⟨(hr.mono (j := 1) (by decide)).dp, (hr.mono (j := 1) (by decide)).un⟩
  obtain ⟨tT, hTry⟩ := hT
  exact ⟨_, (dws_cons (dws_if (DW.dt (dw_or (dt_val (de_call D_is_ended hr (das_cons (dv 8) das_nil))) (dw_or1 (dt_val (dv 11))))) (dws_one dws_break) dws_nil)
      (dws_cons (dws_set 13 (dw_det (de_call D_law_asked hr (das_cons (dv 3) (das_cons (dv 8) das_nil)))) sc_law.nd)
      (dws_cons (dws_if (dt_not (dt_val (de_alike DA T2 hrH hgd (das_cons (de_call D_asked_by hr (das_cons (dv 3) (das_cons (dv 8) das_nil))) (das_cons (dv 13) das_nil))))) (dws_one (dws_ret (dw_det de_bl))) dws_nil)
      (dws_cons (dws_set 14 (dw_det (de_call D_law_do hr (das_cons (dv 3) (das_cons (dv 8) das_nil)))) sc_law.nd)
      (dws_cons (dws_if (dt_not (dt_val (de_alike DA T2 hrH hgd (das_cons (de_call D_step hr (das_cons (dv 3) (das_cons (dv 8) das_nil))) (das_cons (dv 14) das_nil))))) (dws_one (dws_ret (dw_det de_bl))) dws_nil)
      (dws_cons hTry
      (dws_cons (dws_if (DW.dt (dw_and (dt_cmp op_notD (dv 13) de_non) (dw_and1 (dt_cmp op_notInD (dv 13) (dv 10))))) (dws_one (dws_ret (dw_det de_bl))) dws_nil)
      (dws_cons (dws_set 10 (dw_det (de_call D_law_cells hr (das_cons (dv 3) (das_cons (dv 8) (das_cons (dv 10) das_nil))))) sc_law.nd)
      (dws_cons (dws_if (dt_not (dt_val (de_alike DA T2 hrH hgd (das_cons (dv 15) (das_cons (de_tup (das_cons (dv 14) (das_cons (de_tupleW T.tuple (dv 10)) das_nil))) das_nil))))) (dws_one (dws_ret (dw_det de_bl))) dws_nil)
      (dws_cons (dws_if (DW.dt (dw_or (dt_cmp (op_neP (hu64_of hr)) (de_lcT (own := [("place", 19), ("word", 21)]) rfl sc_law.nd (blkOk_by (N := N_law) (sc := defScope s_law) (by decide +kernel)) (de_call D_live_cells hr (das_cons (dv 14) das_nil)) (ec_tup [19, 21]) (fun _ _ _ _ _ => pg_tup rfl (pgs_cons (pg_name (i := 19) sc_law.nd rfl (Or.inl rfl)) (pgs_cons (pg_name (i := 21) sc_law.nd rfl (Or.inl rfl)) pgs_nil))) (fun _ _ _ _ _ => dts_nil) (fun _ _ _ _ _ => (dv 19)) s) (dv 10)) (dw_or1 (dt_cmp op_neS (de_lenSet T.len T2.set (dv 10)) (de_len T.len (dv 10)))))) (dws_one (dws_ret (dw_det de_bl))) dws_nil)
      (dws_cons (dws_if (dt_cmp (op_neP (hu64_of hr)) (de_lcT (own := [("place", 19)]) rfl sc_law.nd (blkOk_by (N := N_law) (sc := defScope s_law) (by decide +kernel)) (de_call D_free_cells hr (das_cons (dv 14) das_nil)) (ec_name 19) (fun _ _ _ _ _ => pg_name (i := 19) sc_law.nd rfl (Or.inl rfl)) (fun _ _ _ _ _ => dts_one (dt_cmp (op_inDK K rfl) (dv 19) (dv 10))) (fun _ _ _ _ _ => (dv 19)) s) (de_lst das_nil)) (dws_one (dws_ret (dw_det de_bl))) dws_nil)
      (dws_one (dws_set 8 (dw_var 14) sc_law.nd)))))))))))))⟩
theorem dls_lap (T2 : Txt2 mg) (hr : Room 7 (XL P w K mg base f cdv A outer s H E).A) (hgd : (XL P w K mg base f cdv A outer s H E).A.guards = some []) (DA : AlkD (XL P w K mg base f cdv A outer s H E) mg) (D_law_asked : FD P w K mg base 1 "_law_asked" P_law_asked F_law_asked) (D_law_at : FD P w K mg base 1 "_law_at" P_law_at F_law_at) (D_law_cells : FD P w K mg base 2 "_law_cells" P_law_cells F_law_cells) (D_law_chain : FW P w K mg base 3 "_law_chain" P_law_chain W_law_chain) (D_law_code : FW P w K mg base 4 "_law_code" P_law_code W_law_code) (D_law_do : FD P w K mg base 2 "_law_do" P_law_do F_law_do) (D_law_place : FD P w K mg base 1 "_law_place" P_law_place F_law_place) (D_law_take : FW P w K mg base 1 "_law_take" P_law_take W_law_take) (D_asked_by : FD P w K mg base 3 "asked_by" P_asked_by F_asked_by) (D_begin : FD P w K mg base 2 "begin" P_begin F_begin) (D_checked_run : FD P w K mg base 7 "checked_run" P_checked_run F_checked_run) (D_free_cells : FD P w K mg base 1 "free_cells" P_free_cells F_free_cells) (D_is_ended : FD P w K mg base 1 "is_ended" P_is_ended F_is_ended) (D_live_cells : FD P w K mg base 2 "live_cells" P_live_cells F_live_cells) (D_run : FD P w K mg base 6 "run" P_run F_run) (D_step : FD P w K mg base 5 "step" P_step F_step) (hT : ∃ t, DWSs (XL P w K mg base f cdv A outer s H E) 1 turnB t gTurn) (h1 : ∃ t, DLS (XL P w K mg base f cdv A outer s H E) T0 (nth lapB 11) t gLam1) (h2 : ∃ t, DLS (XL P w K mg base f cdv A outer s H E) T0 (nth lapB 13) t gLam2) : ∃ t, DLSs (XL P w K mg base f cdv A outer s H E) T0 lapB t gLap := by
  have T := T2.T
  have hu := hu_of hr
  have hrH : L2H.RoomH 1 (XL P w K mg base f cdv A outer s H E).A := ⟨(hr.mono (j := 1) (by decide)).dp, (hr.mono (j := 1) (by decide)).un⟩
  obtain ⟨tT, hTurn⟩ := hT
  obtain ⟨tL1, hL1⟩ := h1
  obtain ⟨tL2, hL2⟩ := h2
  exact ⟨_, (dls_cons (dls_of (dws_set 3 (dw_call D_law_code hr (daw_cons (dw_call D_law_take hr (daw_cons (dw_det de_int) daw_nil)) daw_nil)) sc_law.nd))
      (dls_cons (dls_of (dws_set 4 (dw_call D_law_chain hr (daw_cons (dw_det (de_lst (das_cons de_str das_nil))) (daw_cons (dw_lst (daw_cons (dw_call D_law_take hr (daw_cons (dw_det de_int) daw_nil)) daw_nil)) daw_nil))) sc_law.nd))
      (dls_cons (dls_of (dws_set 5 (dw_det (de_call D_begin hr (das_cons (dv 3) (das_cons de_int (das_cons (de_tup (das_cons (de_call D_law_place hr (das_cons (dv 4) (das_cons de_str das_nil))) das_nil)) (das_cons (de_ix (dv 4) de_int) das_nil)))))) sc_law.nd))
      (dls_cons (dls_of (dws_set 6 (dw_det (de_op op_addD (de_max rfl T.max (de_op op_addD (de_lst (das_cons de_int das_nil)) (de_lcT (own := [("place", 19), ("goal", 20)]) rfl sc_law.nd (blkOk_by (N := N_law) (sc := defScope s_law) (by decide +kernel)) (de_ix (dv 4) de_int) (ec_tup [19, 20]) (fun _ _ _ _ _ => pg_tup rfl (pgs_cons (pg_name (i := 19) sc_law.nd rfl (Or.inl rfl)) (pgs_cons (pg_name (i := 20) sc_law.nd rfl (Or.inl rfl)) pgs_nil))) (fun _ _ _ _ _ => dts_nil) (fun _ _ _ _ _ => (dv 19)) s))) de_int)) sc_law.nd))
      (dls_cons (dls_of (dws_set 7 (dw_det (de_tup (das_cons (de_tup (das_cons (de_tup (das_cons de_int (das_cons de_int (das_cons (de_tup (das_cons (de_call D_law_place hr (das_cons (dv 4) (das_cons de_str das_nil))) (das_cons de_int (das_cons de_int das_nil)))) (das_cons de_non das_nil))))) das_nil)) (das_cons (de_ix (dv 4) de_int) (das_cons de_int (das_cons (dv 6) das_nil)))))) sc_law.nd))
      (dls_cons (dls_of (dws_if (dt_not (dt_val (de_alike DA T2 hrH hgd (das_cons (dv 5) (das_cons (dv 7) das_nil))))) (dws_one (dws_ret (dw_det de_bl))) dws_nil))
      (dls_cons (dls_of (dws_row [8, 9, 10] rfl (daw_cons (dw_var 5) (daw_cons (dw_var 5) (daw_cons (dw_det (de_lcT (own := [("place", 19), ("goal", 20)]) rfl sc_law.nd (blkOk_by (N := N_law) (sc := defScope s_law) (by decide +kernel)) (de_ix (dv 4) de_int) (ec_tup [19, 20]) (fun _ _ _ _ _ => pg_tup rfl (pgs_cons (pg_name (i := 19) sc_law.nd rfl (Or.inl rfl)) (pgs_cons (pg_name (i := 20) sc_law.nd rfl (Or.inl rfl)) pgs_nil))) (fun _ _ _ _ _ => dts_nil) (fun _ _ _ _ _ => (dv 19)) s)) daw_nil))) (pgs_cons (pg_name (i := 8) sc_law.nd rfl (Or.inr rfl)) (pgs_cons (pg_name (i := 9) sc_law.nd rfl (Or.inl rfl)) (pgs_cons (pg_name (i := 10) sc_law.nd rfl (Or.inr rfl)) pgs_nil)))))
      (dls_cons (dls_of (dws_set 11 (dw_det de_bl) sc_law.nd))
      (dls_cons (dls_of (dws_forR 12 rfl PassesOwn.never T.range de_int hTurn sc_law.nd))
      (dls_cons (dls_of (dws_forR 12 rfl PassesOwn.never T.range de_int (dws_one (dws_set 9 (dw_det (de_if (dt_cmp op_neS (de_ix (de_ix (de_ix (dv 9) de_int) de_int) de_int) (de_neg de_int)) (de_call D_law_do hr (das_cons (dv 3) (das_cons (dv 9) das_nil))) (dv 9))) sc_law.nd)) sc_law.nd))
      (dls_cons (dls_of (dws_if (dt_not (dt_val (de_alike DA T2 hrH hgd (das_cons (de_call D_run hr (das_cons (dv 3) (das_cons (dv 5) (das_cons de_int das_nil)))) (das_cons (dv 9) das_nil))))) (dws_one (dws_ret (dw_det de_bl))) dws_nil))
      (dls_cons hL1
      (dls_cons (dls_of (dws_if (DW.dt (dw_and (dt_not (dt_val (dv 11))) (dw_and1 (dt_not (dt_val (de_alike DA T2 hrH hgd (das_cons (de_call D_checked_run hr (das_cons (dv 3) (das_cons (dv 5) (das_cons (de_call D_law_at hr (das_cons (dv 4) das_nil)) (das_cons de_int das_nil))))) (das_cons (de_tup (das_cons (dv 8) (das_cons (de_tupleW T.tuple (dv 10)) das_nil))) das_nil)))))))) (dws_one (dws_ret (dw_det de_bl))) dws_nil))
      (dls_one hL2))))))))))))))⟩
end
end K9
/-! The heap as a list of pairs of ints. -/
namespace K9
open PySem L2 Dn
def kv (h : List (Int × Int)) : List (Key × V) := h.map fun p => (Sum.inl p.1, V.int p.2)
def hasI (h : List (Int × Int)) (k : Int) : Bool := h.any fun p => decide (p.1 = k)
def putI (h : List (Int × Int)) (k v : Int) : List (Int × Int) := if hasI h k then h.map (fun p => if p.1 = k then (p.1, v) else p) else h ++ [(k, v)]
def getI (h : List (Int × Int)) (k : Int) : Int := ((h.find? fun p => decide (p.1 = k)).map (·.2)).getD 0
def putH (h : List (Int × Int)) (k v : Int) : List (Int × Int) := sortP (putI h k v)
abbrev keysI (h : List (Int × Int)) : List Int := h.map (·.1)
theorem hasI_kv (h : List (Int × Int)) (k : Int) : ((kv h).any fun p => decide (p.1 = Sum.inl k)) = hasI h k := by
  unfold kv hasI
  rw [List.any_map]
  congr 1
  funext p
  simp
theorem putK_kv (h : List (Int × Int)) (k v : Int) : putK (kv h) (.inl k) (.int v) = kv (putI h k v) := by
  unfold putK putI
  rw [hasI_kv]
  by_cases e : hasI h k = true
  · rw [if_pos e, if_pos e]
    unfold kv
    rw [List.map_map, List.map_map]
    apply List.map_congr_left
    intro p _
    by_cases q : p.1 = k <;> simp [q]
  · rw [if_neg e, if_neg e]
    simp [kv]
theorem valV_kv (h : List (Int × Int)) (k : Int) : valV (kv h) (.inl k) = ((h.find? fun p => decide (p.1 = k)).map (·.2)).map V.int := by
  unfold valV kv
  rw [List.find?_map]
  have e : ((fun (p : Key × V) => decide (p.1 = Sum.inl k)) ∘ fun (p : Int × Int) => ((Sum.inl p.1 : Key), V.int p.2)) = fun p => decide (p.1 = k) := by
    funext p
    simp
  rw [e]
  cases h.find? fun p => decide (p.1 = k) <;> rfl
theorem get_kv (o : Own) (h : List (Int × Int)) (k : Int) : gGet (.dic o (kv h)) (.v (.int k)) (.v (.int 0)) = some (.v (.int (getI h k))) := by
  show (match valV (kv h) (.inl k) with
    | some y => (ofV y).map SD.v
    | none => some (.v (.int 0))) = _
  rw [valV_kv]
  unfold getI
  cases h.find? fun p => decide (p.1 = k) <;> rfl
theorem pairs_kv : ∀ h : List (Int × Int), pairs? (h.map pairD) = some (kv h)
  | [] => rfl
  | p :: h => by
    have ih := pairs_kv h
    show pairs? (pairD p :: h.map pairD) = _
    simp only [pairD, pairs?, toK, toV, ih]
    rfl
theorem ints_kv : ∀ h : List (Int × Int), intPairs? (kv h) = some h
  | [] => rfl
  | p :: h => by
    have ih := ints_kv h
    show (intPairs? (kv h)).map (fun ps => (p.1, p.2) :: ps) = _
    rw [ih]
    rfl
theorem hasI_iff (h : List (Int × Int)) (k : Int) : hasI h k = true ↔ k ∈ keysI h := by
  unfold hasI
  simp [keysI]
theorem merge_go : ∀ (h g : List (Int × Int)), (keysI (g ++ h)).Nodup → mergeK (kv g) (kv h) = kv (g ++ h)
  | [], g, _ => by simp [mergeK, kv]
  | p :: h, g, hn => by
    have hk : ¬ hasI g p.1 = true := by
      rw [hasI_iff]
      intro hm
      rw [keysI, List.map_append, List.map_cons] at hn
      exact (List.nodup_append.mp hn).2.2 _ hm _ (List.mem_cons_self ..) rfl
    have e : putK (kv g) (.inl p.1) (.int p.2) = kv (g ++ [p]) := by
      rw [putK_kv]
      unfold putI
      rw [if_neg hk]
    show mergeK (putK (kv g) (.inl p.1) (.int p.2)) (kv h) = _
    rw [e, merge_go h (g ++ [p]) (by rw [List.append_assoc]; exact hn), List.append_assoc]
    rfl
theorem merge_kv {h : List (Int × Int)} (hn : (keysI h).Nodup) : mergeK [] (kv h) = kv h := merge_go h [] hn
theorem dict_kv {p : Bool} {h : List (Int × Int)} (hp : p = true) (hn : (keysI h).Nodup) : gDict (.v (.tup p (h.map pairD))) = some (.dic .new (kv h)) := by
  subst hp
  unfold gDict
  simp [pairs_kv, merge_kv hn]
theorem dictL_kv {o : Own} {h : List (Int × Int)} (hn : (keysI h).Nodup) : gDict (.lst o (h.map pairD)) = some (.dic .new (kv h)) := by
  unfold gDict
  simp [pairs_kv, merge_kv hn]
theorem sortIt_kv (o : Own) (h : List (Int × Int)) : gSortIt (.dic o (kv h)) = some (.lst .new ((sortP h).map pairD)) := by
  show (intPairs? (kv h)).map (fun ps => SD.lst .new ((sortP ps).map pairD)) = _
  rw [ints_kv]
  rfl
theorem len_kv (h : List (Int × Int)) : (kv h).length = h.length := by simp [kv]
theorem len_put (h : List (Int × Int)) (k v : Int) : (putI h k v).length ≤ h.length + 1 := by
  unfold putI
  split <;> simp
theorem keys_put (h : List (Int × Int)) (k v : Int) : keysI (putI h k v) = if hasI h k then keysI h else keysI h ++ [k] := by
  unfold putI
  by_cases e : hasI h k = true
  · rw [if_pos e, if_pos e]
    unfold keysI
    rw [List.map_map]
    apply List.map_congr_left
    intro p _
    by_cases q : p.1 = k <;> simp [q]
  · rw [if_neg e, if_neg e]
    simp [keysI]
theorem nodup_put {h : List (Int × Int)} {k v : Int} (hn : (keysI h).Nodup) : (keysI (putI h k v)).Nodup := by
  rw [keys_put]
  by_cases e : hasI h k = true
  · rw [if_pos e]; exact hn
  · rw [if_neg e]
    rw [List.nodup_append]
    refine ⟨hn, by simp, ?_⟩
    intro a ha b hb
    rw [List.mem_singleton] at hb
    subst hb
    intro e2
    subst e2
    exact e ((hasI_iff _ _).mpr ha)
theorem nodup_putH {h : List (Int × Int)} {k v : Int} (hn : (keysI h).Nodup) : (keysI (putH h k v)).Nodup := ((sortP_perm _).map (·.1)).nodup_iff.mpr (nodup_put hn)
theorem len_putH (h : List (Int × Int)) (k v : Int) : (putH h k v).length ≤ h.length + 1 := by
  unfold putH
  rw [(sortP_perm _).length_eq]
  exact len_put h k v
theorem merge_put {h : List (Int × Int)} {k v : Int} (hn : (keysI h).Nodup) (hf : few (h.length + 1) = true) : gMerge (.dic .new (kv h)) (.v (.int k)) (.v (.int v)) = some (.dic .new (kv (putI h k v))) := by
  show (if few ((kv h).length + 1) then some (SD.dic .new (putK (mergeK [] (kv h)) (.inl k) (.int v))) else none) = _
  rw [len_kv, if_pos hf, merge_kv hn, putK_kv]
end K9
/-! The machine in plain Lean, and that the walked defs are it. -/
namespace K9
open PySem L2 Dn
inductive Rg where
  | r0 | r1 | r2
inductive Ins where
  | move (r s : Rg) | zero (r : Rg) | load (r s : Rg) | store (r s : Rg) | clear (r : Rg) | alloc (r : Rg) | release (r : Rg)
  | same (r s : Rg) (t : Nat) | nil (r : Rg) (t : Nat) | jump (t : Nat) | ret (v : Bool) | retn | call (x : Option Rg) (b : Bool)
def Rg.i : Rg → Int
  | .r0 => 0
  | .r1 => 1
  | .r2 => 2
def rD (r : Rg) : D := .int r.i
def oD : Option Int → D
  | none => .non
  | some i => .int i
def bD : Bool → D
  | true => .int 2
  | false => .non
def encI : Ins → D
  | .move r s => .tup false [.str "move", rD r, rD s]
  | .zero r => .tup false [.str "zero", rD r]
  | .load r s => .tup false [.str "load", rD r, rD s]
  | .store r s => .tup false [.str "store", rD r, rD s]
  | .clear r => .tup false [.str "clear", rD r]
  | .alloc r => .tup false [.str "alloc", rD r]
  | .release r => .tup false [.str "release", rD r]
  | .same r s t => .tup false [.str "same", rD r, rD s, .int t]
  | .nil r t => .tup false [.str "none", rD r, .int t]
  | .jump t => .tup false [.str "jump", .int t]
  | .ret true => .tup false [.str "ret", .int 0]
  | .ret false => .tup false [.str "ret", .non]
  | .retn => .tup false [.str "retnone"]
  | .call x b => .tup false [.str "call", .int 1, .tup false [oD (x.map Rg.i)], bD b]
def encC (c : List Ins) : D := .tup false [.int 1, .int 3, .tup false (c.map encI)]
def encFs (cs : List (List Ins)) : D := .tup false (cs.map encC)
structure FM where
  idx : Nat
  a : Int
  b : Int
  c : Int
def FM.get (f : FM) : Rg → Int
  | .r0 => f.a
  | .r1 => f.b
  | .r2 => f.c
def FM.set (f : FM) (r : Rg) (w : Int) : FM := match r with
  | .r0 => { f with a := w }
  | .r1 => { f with b := w }
  | .r2 => { f with c := w }
def FM.next (f : FM) : FM := { f with idx := f.idx + 1 }
def FM.wr (f : FM) (r : Rg) (w : Int) : FM := (f.set r w).next
structure Mem where
  h : List (Int × Int)
  fr : Int
  top : Int
inductive St9 where
  | one (f : FM) (m : Mem)
  | two (f g : FM) (b : Bool) (m : Mem)
  | done (g : Option Int) (a b c : Int) (m : Mem)
def regD (f : FM) : D := .tup false [.int f.a, .int f.b, .int f.c]
def encF (n : Int) (f : FM) (into : D) : D := .tup false [.int n, .int f.idx, regD f, into]
def heapD (h : List (Int × Int)) : D := .tup true (h.map pairD)
def encW (fr : List D) (m : Mem) : D := .tup false [.tup false fr, heapD m.h, .int m.fr, .int m.top]
def encS : St9 → D
  | .one f m => encW [encF 0 f .non] m
  | .two f g b m => encW [encF 0 f .non, encF 1 g (bD b)] m
  | .done g a b c m => encW [.tup false [.int (-1), oD g, .tup false [.int a, .int b, .int c], .non]] m
/-- what one instruction does to its frame -/
inductive Ef where
  | go (f : FM) (m : Mem)
  | ret (g : Option Int)
  | call (w : Int) (b : Bool)
def exI : Ins → FM → Mem → Ef
  | .move r s, f, m => .go (f.wr r (f.get s)) m
  | .zero r, f, m => .go (f.wr r 0) m
  | .load r s, f, m => .go (f.wr r (getI m.h (f.get s))) m
  | .store r s, f, m => .go f.next { m with h := putH m.h (f.get r) (f.get s) }
  | .clear r, f, m => .go f.next { m with h := putH m.h (f.get r) 0 }
  | .alloc r, f, m => if m.fr = 0 then .go (f.wr r m.top) ⟨putH m.h m.top 0, 0, m.top + 1⟩ else .go (f.wr r m.fr) ⟨putH m.h m.fr 0, getI m.h m.fr, m.top⟩
  | .release r, f, m => .go f.next ⟨putH m.h (f.get r) m.fr, f.get r, m.top⟩
  | .same r s t, f, m => if f.get r = f.get s then .go { f with idx := t } m else .go f.next m
  | .nil r t, f, m => if f.get r = 0 then .go { f with idx := t } m else .go f.next m
  | .jump t, f, m => .go { f with idx := t } m
  | .ret true, f, _ => .ret (some f.a)
  | .ret false, _, _ => .ret none
  | .retn, _, _ => .ret (some 0)
  | .call x b, f, _ => .call ((x.map f.get).getD 0) b
def insAt (cs : List (List Ins)) (k i : Nat) : Option Ins := (cs[k]?).bind fun c => c[i]?
def nextM (cs : List (List Ins)) : St9 → Option Ins
  | .one f _ => insAt cs 0 f.idx
  | .two _ g _ _ => insAt cs 1 g.idx
  | .done .. => none
def doM (i : Ins) : St9 → Option St9
  | .one f m => match exI i f m with
    | .go f' m' => some (.one f' m')
    | .ret g => some (.done g f.a f.b f.c m)
    | .call w b => some (.two f.next ⟨0, w, 0, 0⟩ b m)
  | .two f g b m => match exI i g m with
    | .go g' m' => some (.two f g' b m')
    | .ret v => some (.one (if b then f.set .r2 (v.getD 0) else f) m)
    | .call _ _ => none
  | .done .. => none
def stepM (cs : List (List Ins)) (s : St9) : Option St9 := (nextM cs s).bind fun i => doM i s
def St9.m : St9 → Mem
  | .one _ m => m
  | .two _ _ _ m => m
  | .done _ _ _ _ m => m

def F_with_wordG (fW : List SD → Option SD) (gD : SD → Option SD) (fM : (Rho → Option SD) → (Rho → Option SD) → (Rho → Option SD) → Rho → Option SD) (gS : SD → Option SD) : List SD → Option SD := fRun 4 3 ((fSeq (fSet 3 (fM (fOne gD (fTwo gIx (fVar 0) (fC (.int 1)))) (fVar 1) (fVar 2)))
    (fRetE (fCall fW (fCons (fTup (fCons (fTwo gIx (fVar 0) (fC (.int 0))) (fCons (fOne gTuple (fOne gS (fVar 3))) (fCons (fTwo gIx (fVar 0) (fC (.int 2))) (fCons (fTwo gIx (fVar 0) (fC (.int 3))) fNil))))) (fCons (fC .non) (fCons (fC .non) fNil)))))))
theorem F_with_word_G : F_with_word = F_with_wordG (F_with_register) (gDict) (fMerge) (gSortIt) := rfl
def F_takenG (fW : List SD → Option SD) (W7 : Rho → Option SD) (W8 : Rho → Option SD) (gD : SD → Option SD) (hS : Nat → (Rho → Option SD) → D → Rho → Option Rho) (gS : SD → Option SD) : List SD → Option SD := fRun 9 2 ((fSeq (fAsg (fVar 0) (hTup 4 (hCons (hName 2) (hCons (hName 3) (hCons (hName 4) (hCons (hName 5) hNil))))))
    (fSeq (fSet 6 (fOne gD (fVar 3)))
    (fSeq (fSet 7 W7)
    (fSeq (fSet 8 W8)
    (fSeq (fAsg (fC (.int 0)) (hS 6 (fVar 7)))
    (fRetE (fCall fW (fCons (fTup (fCons (fVar 2) (fCons (fOne gTuple (fOne gS (fVar 6))) (fStar (fVar 8) fNil)))) (fCons (fVar 1) (fCons (fVar 7) fNil)))))))))))
theorem F_taken_G : F_taken = F_takenG (F_with_register) ((fIf (fTest (fTwo (gEq true) (fVar 4) (fC (.int 0)))) (fVar 4) (fVar 5))) ((fIf (fTest (fTwo (gEq true) (fVar 4) (fC (.int 0)))) (fTup (fCons (fGet (fVar 6) (fVar 4) (fC (.int 0))) (fCons (fVar 5) fNil))) (fTup (fCons (fC (.int 0)) (fCons (fTwo gAdd (fVar 5) (fC (.int 1))) fNil))))) (gDict) (hSubD) (gSortIt) := rfl
def F_given_backG (fW : List SD → Option SD) : List SD → Option SD := fRun 6 2 ((fSeq (fAsg (fCall fW (fCons (fVar 0) (fCons (fVar 1) (fCons (fTwo gIx (fVar 0) (fC (.int 2))) fNil)))) (hTup 4 (hCons (hName 2) (hCons (hName 3) (hCons (hName 4) (hCons (hName 5) hNil))))))
    (fRetE (fTup (fCons (fVar 2) (fCons (fVar 3) (fCons (fVar 1) (fCons (fVar 5) fNil))))))))
theorem F_given_back_G : F_given_back = F_given_backG (F_with_word) := rfl
def F_touchedG (fW : List SD → Option SD) (fB : List SD → Option SD) (fO : List SD → Option SD) (fG : Rho → Option SD) : List SD → Option SD := fRun 4 3 ((fSeq (fSet 3 (fTwo gIx (fVar 2) (fIf (fTest (fTwo (gEq false) (fTwo gIx (fVar 1) (fC (.int 0))) (fC (.str "load")))) (fTwo gIx (fVar 1) (fC (.int 2))) (fTwo gIx (fVar 1) (fC (.int 1))))))
    (fSeq (fIfS (fTest (fTwo (gEq false) (fTwo gIx (fVar 1) (fC (.int 0))) (fC (.str "load")))) (fRetE (fCall fW (fCons (fVar 0) (fCons (fTwo gIx (fVar 1) (fC (.int 1))) (fCons fG fNil))))) (fun ρ => some (.nx ρ)))
    (fSeq (fIfS (fTest (fTwo (gEq false) (fTwo gIx (fVar 1) (fC (.int 0))) (fC (.str "release")))) (fRetE (fCall fB (fCons (fVar 0) (fCons (fVar 3) fNil)))) (fun ρ => some (.nx ρ)))
    (fRetE (fCall fO (fCons (fVar 0) (fCons (fVar 3) (fCons (fIf (fTest (fTwo (gEq false) (fTwo gIx (fVar 1) (fC (.int 0))) (fC (.str "store")))) (fTwo gIx (fVar 2) (fTwo gIx (fVar 1) (fC (.int 2)))) (fC (.int 0))) fNil)))))))))
theorem F_touched_G : F_touched = F_touchedG (F_with_register) (F_given_back) (F_with_word) ((fGet (fOne gDict (fTwo gIx (fVar 0) (fC (.int 1)))) (fVar 3) (fC (.int 0)))) := rfl
def F_jumpedG (fW : List SD → Option SD) (fA : List SD → Option SD) (fE : Rho → Option SD) : List SD → Option SD := fRun 4 3 ((fSeq (fIfS (fTest (fTwo (gEq false) (fTwo gIx (fVar 1) (fC (.int 0))) (fC (.str "jump")))) (fRetE (fCall fA (fCons (fVar 0) (fCons (fTwo gIx (fVar 1) (fC (.int 1))) fNil)))) (fun ρ => some (.nx ρ)))
    (fSeq (fSet 3 fE)
    (fRetE (fIf (fTest (fVar 3)) (fCall fA (fCons (fVar 0) (fCons (fTwo gIx (fVar 1) (fOne gNeg (fC (.int 1)))) fNil))) (fCall fW (fCons (fVar 0) (fCons (fC .non) (fCons (fC .non) fNil)))))))))
theorem F_jumped_G : F_jumped = F_jumpedG (F_with_register) (F_at_index) ((fTwo (gEq false) (fTwo gIx (fVar 2) (fTwo gIx (fVar 1) (fC (.int 1)))) (fIf (fTest (fTwo (gEq false) (fTwo gIx (fVar 1) (fC (.int 0))) (fC (.str "none")))) (fC (.int 0)) (fTwo gIx (fVar 2) (fTwo gIx (fVar 1) (fC (.int 2))))))) := rfl
def F_enteredG (fM : Rho → Option SD) : List SD → Option SD := fRun 4 4 ((fRetE (fTup (fCons (fVar 1) (fCons (fC (.int 0)) (fCons (fTwo gAdd (fVar 2) (fTwo gMul (fTup (fCons (fC (.int 0)) fNil)) (fTwo gSub2 fM (fOne gLen (fVar 2))))) (fCons (fVar 3) fNil)))))))
theorem F_entered_G : F_entered = F_enteredG ((fTwo gIx (fTwo gIx (fVar 0) (fVar 1)) (fC (.int 1)))) := rfl
def F_calledG (fV : Rho → Option SD) (fR : Rho → Option SD) (fE : List SD → Option SD) (fW : List SD → Option SD) : List SD → Option SD := fRun 7 3 ((fSeq (fSet 3 fR)
    (fSeq (fSet 4 fV)
    (fSeq (fSet 5 (fCall fW (fCons (fVar 1) (fCons (fC .non) (fCons (fC .non) fNil)))))
    (fRetE (fTup (fCons (fTup (fStar (fTwo gIx (fVar 5) (fC (.int 0))) (fCons (fCall fE (fCons (fVar 0) (fCons (fTwo gIx (fVar 2) (fC (.int 1))) (fCons (fVar 4) (fCons (fTwo gIx (fVar 2) (fC (.int 3))) fNil))))) fNil))) (fStar (fSl (fVar 5) (fun ρ => ((fC (.int 1)) ρ).bind fun s => s.int?.map some) (fun _ => some none)) fNil))))))))
theorem F_called_G : F_called = F_calledG ((fOne gTupleW (fLc itT [6] (fTwo gIx (fVar 2) (fC (.int 2))) (hName 6) (fun _ => some true) (fIf (fTest (fTwo (gIs false) (fVar 6) (fC .non))) (fC (.int 0)) (fTwo gIx (fVar 3) (fVar 6)))))) ((fTwo gIx (fTwo gIx (fTwo gIx (fVar 1) (fC (.int 0))) (fOne gNeg (fC (.int 1)))) (fC (.int 2)))) (F_entered) (F_with_register) := rfl
def F_stepG (fI : List SD → Option SD) (fW : List SD → Option SD) (fT : List SD → Option SD) (fC0 : List SD → Option SD) (fL : List SD → Option SD) (fG : List SD → Option SD) (fJ : List SD → Option SD) (fO : List SD → Option SD) : List SD → Option SD := fRun 5 2 ((fSeq (fRow [2, 3] (fCons (fCall fI (fCons (fVar 0) (fCons (fVar 1) fNil))) (fCons (fTwo gIx (fTwo gIx (fTwo gIx (fVar 1) (fC (.int 0))) (fOne gNeg (fC (.int 1)))) (fC (.int 2))) fNil)))
    (fSeq (fSet 4 (fTwo gIx (fVar 2) (fC (.int 0))))
    (fSeq (fIfS (fTest (fTwo (gIn false) (fVar 4) (fTup (fCons (fC (.str "move")) (fCons (fC (.str "zero")) fNil))))) (fRetE (fCall fW (fCons (fVar 1) (fCons (fTwo gIx (fVar 2) (fC (.int 1))) (fCons (fIf (fTest (fTwo (gEq false) (fVar 4) (fC (.str "move")))) (fTwo gIx (fVar 3) (fTwo gIx (fVar 2) (fC (.int 2)))) (fC (.int 0))) fNil))))) (fun ρ => some (.nx ρ)))
    (fSeq (fIfS (fTest (fTwo (gEq false) (fVar 4) (fC (.str "alloc")))) (fRetE (fCall fT (fCons (fVar 1) (fCons (fTwo gIx (fVar 2) (fC (.int 1))) fNil)))) (fun ρ => some (.nx ρ)))
    (fSeq (fIfS (fTest (fTwo (gEq false) (fVar 4) (fC (.str "call")))) (fRetE (fCall fC0 (fCons (fVar 0) (fCons (fVar 1) (fCons (fVar 2) fNil))))) (fun ρ => some (.nx ρ)))
    (fSeq (fIfS (fTest (fTwo (gIn false) (fVar 4) (fTup (fCons (fC (.str "ret")) (fCons (fC (.str "retnone")) fNil))))) (fRetE (fCall fL (fCons (fVar 1) (fCons (fCall fG (fCons (fVar 2) (fCons (fVar 3) fNil))) fNil)))) (fun ρ => some (.nx ρ)))
    (fSeq (fIfS (fTest (fTwo (gIn false) (fVar 4) (fTup (fCons (fC (.str "jump")) (fCons (fC (.str "none")) (fCons (fC (.str "same")) fNil)))))) (fRetE (fCall fJ (fCons (fVar 1) (fCons (fVar 2) (fCons (fVar 3) fNil))))) (fun ρ => some (.nx ρ)))
    (fRetE (fCall fO (fCons (fVar 1) (fCons (fVar 2) (fCons (fVar 3) fNil)))))))))))))
theorem F_step_G : F_step = F_stepG (F_instruction_at) (F_with_register) (F_taken) (F_called) (F_left) (F_given_by) (F_jumped) (F_touched) := rfl
/-! ### parts of step -/
theorem F_with_word_ok {h : List (Int × Int)} {a w : Int} {fr fre top d : D} (hn : (keysI h).Nodup) (hf : few (h.length + 1) = true)
    (hr : F_with_register [.v (.tup false [fr, heapD (putH h a w), fre, top]), .v .non, .v .non] = some (.v d)) :
    F_with_word [.v (.tup false [fr, heapD h, fre, top]), .v (.int a), .v (.int w)] = some (.v d) := by
  have e1 : gDict (.v (heapD h)) = some (.dic .new (kv h)) := dict_kv rfl hn
  have e2 := merge_put (k := a) (v := w) hn hf
  have e3 := sortIt_kv .own (putI h a w)
  rw [F_with_word_G]
  refine (show _ = F_with_wordG F_with_register (fun _ => gDict (.v (heapD h))) fMerge gSortIt [.v (.tup false [fr, heapD h, fre, top]), .v (.int a), .v (.int w)] from rfl).trans ?_
  rw [e1]
  refine (show _ = F_with_wordG F_with_register (fun _ => some (.dic .new (kv h))) (fun _ _ _ _ => gMerge (.dic .new (kv h)) (.v (.int a)) (.v (.int w))) gSortIt [.v (.tup false [fr, heapD h, fre, top]), .v (.int a), .v (.int w)] from rfl).trans ?_
  rw [e2]
  refine (show _ = F_with_wordG F_with_register (fun _ => some (.dic .new (kv h))) (fun _ _ _ _ => some (.dic .new (kv (putI h a w)))) (fun _ => gSortIt (.dic .own (kv (putI h a w)))) [.v (.tup false [fr, heapD h, fre, top]), .v (.int a), .v (.int w)] from rfl).trans ?_
  rw [e3]
  refine (show _ = F_with_wordG (fun _ => F_with_register [.v (.tup false [fr, heapD (putH h a w), fre, top]), .v .non, .v .non]) (fun _ => some (.dic .new (kv h))) (fun _ _ _ _ => some (.dic .new (kv (putI h a w)))) (fun _ => some (.lst .new ((sortP (putI h a w)).map pairD))) [.v (.tup false [fr, heapD h, fre, top]), .v (.int a), .v (.int w)] from rfl).trans ?_
  rw [hr]
  rfl
theorem subD_kv {i : Nat} {F : Rho → Option SD} {h : List (Int × Int)} {a w : Int} {ρ : Rho} (h1 : fVar i ρ = some (.dic .own (kv h))) (h2 : F ρ = some (.v (.int a))) (hf : few (h.length + 1) = true) :
    hSubD i F (.int w) ρ = some (ρ.set i (some (.dic .own (kv (putI h a w))))) := by
  unfold hSubD
  rw [h1]
  simp only [Option.bind_some, h2]
  show (if few ((kv h).length + 1) then some (ρ.set i (some (.dic .own (putK (kv h) (.inl a) (.int w))))) else none) = _
  rw [len_kv, if_pos hf, putK_kv]
theorem eqI (neg : Bool) (i j : Int) : gEq neg (.v (.int i)) (.v (.int j)) = some (.v (.bl (if neg then !decide (i = j) else decide (i = j)))) := by
  show some (SD.v (.bl (if neg then !decide (V.int i = V.int j) else decide (V.int i = V.int j)))) = _
  have e : decide (V.int i = V.int j) = decide (i = j) := by simp
  rw [e]
theorem F_takenG_ok {fW : List SD → Option SD} {gD gS : SD → Option SD} {W7 W8 : Rho → Option SD} {hS : Nat → (Rho → Option SD) → D → Rho → Option Rho} {fr hp fre top r x y ad d : D} {kvs kvs2 : List (Key × V)} {l : List D}
    (e1 : gD (.v hp) = some (.dic .new kvs))
    (e2 : W7 [some (.v (.tup false [fr, hp, fre, top])), some (.v r), some (.v fr), some (.v hp), some (.v fre), some (.v top), some (.dic .own kvs), none, none] = some (.v ad))
    (e3 : W8 [some (.v (.tup false [fr, hp, fre, top])), some (.v r), some (.v fr), some (.v hp), some (.v fre), some (.v top), some (.dic .own kvs), some (.v ad), none] = some (.v (.tup false [x, y])))
    (e4 : hS 6 (fVar 7) (.int 0) [some (.v (.tup false [fr, hp, fre, top])), some (.v r), some (.v fr), some (.v hp), some (.v fre), some (.v top), some (.dic .own kvs), some (.v ad), some (.v (.tup false [x, y]))] = some [some (.v (.tup false [fr, hp, fre, top])), some (.v r), some (.v fr), some (.v hp), some (.v fre), some (.v top), some (.dic .own kvs2), some (.v ad), some (.v (.tup false [x, y]))])
    (e5 : gS (.dic .own kvs2) = some (.lst .new l))
    (e6 : fW [.v (.tup false [fr, .tup true l, x, y]), .v r, .v ad] = some (.v d)) :
    F_takenG fW W7 W8 gD hS gS [.v (.tup false [fr, hp, fre, top]), .v r] = some (.v d) := by
  simp [F_takenG, fRun, fSeq, fSet, fAsg, fVar, fC, fOne, fTup, fCons, fStar, fNil, hTup, hCons, hName, hNil, fRetE, fCall, SD.keep, SD.fresh, SD.bor, SD.items, vals, few, gTuple, e1, e2, e3, e4, e5, e6]
/-! ### going on -/
def frs : Option D → D → List D
  | none, x => [x]
  | some q, x => [q, x]
def st9 (pre : Option D) (x hp fr top : D) : D := .tup false [.tup false (frs pre x), hp, fr, top]
section
variable {pre : Option D} {n : Int} {f : FM} {to hp fr top fs : D} {r s : Rg} {w : Int} {t : Nat}
theorem wr_ok : F_with_register [.v (st9 pre (encF n f to) hp fr top), .v (rD r), .v (.int w)] = some (.v (st9 pre (encF n (f.wr r w) to) hp fr top)) := by cases pre <;> cases r <;> rfl
theorem nx_ok : F_with_register [.v (st9 pre (encF n f to) hp fr top), .v .non, .v .non] = some (.v (st9 pre (encF n f.next to) hp fr top)) := by cases pre <;> rfl
theorem at_ok : F_at_index [.v (st9 pre (encF n f to) hp fr top), .v (.int t)] = some (.v (st9 pre (encF n { f with idx := t } to) hp fr top)) := by cases pre <;> rfl
theorem ww_ok {h : List (Int × Int)} {a : Int} (hn : (keysI h).Nodup) (hf : few (h.length + 1) = true) :
    F_with_word [.v (st9 pre (encF n f to) (heapD h) fr top), .v (.int a), .v (.int w)] = some (.v (st9 pre (encF n f.next to) (heapD (putH h a w)) fr top)) := F_with_word_ok hn hf nx_ok
theorem tk0_ok {h : List (Int × Int)} {t : Int} (hn : (keysI h).Nodup) (hf : few (h.length + 1) = true) :
    F_taken [.v (st9 pre (encF n f to) (heapD h) (.int 0) (.int t)), .v (rD r)] = some (.v (st9 pre (encF n (f.wr r t) to) (heapD (putH h t 0)) (.int 0) (.int (t + 1)))) := by
  rw [F_taken_G]
  exact F_takenG_ok (dict_kv rfl hn) rfl rfl (subD_kv rfl rfl hf) (sortIt_kv _ _) wr_ok
theorem tk1_ok {h : List (Int × Int)} {t a : Int} (ha : ¬ a = 0) (hn : (keysI h).Nodup) (hf : few (h.length + 1) = true) :
    F_taken [.v (st9 pre (encF n f to) (heapD h) (.int a) (.int t)), .v (rD r)] = some (.v (st9 pre (encF n (f.wr r a) to) (heapD (putH h a 0)) (.int (getI h a)) (.int t))) := by
  have eb := eqI true a 0
  rw [decide_eq_false ha] at eb
  have eg := get_kv .own h a
  rw [F_taken_G]
  refine F_takenG_ok (dict_kv rfl hn) ?_ ?_ (subD_kv rfl rfl hf) (sortIt_kv _ _) wr_ok
  · simp [fIf, fTest, fTwo, fVar, fC, eb, SD.bool?]
  · simp [fIf, fTest, fTwo, fVar, fC, eb, SD.bool?, fTup, fCons, fNil, fGet, eg, vals, few]
end
/-! ### parts 2 -/
theorem F_given_backG_ok {fW : List SD → Option SD} {st a fr hp x y x' : D} (hx : gIx (.v st) (.v (.int 2)) = some (.v x)) (e : fW [.v st, .v a, .v x] = some (.v (.tup false [fr, hp, x', y]))) :
    F_given_backG fW [.v st, .v a] = some (.v (.tup false [fr, hp, a, y])) := by
  simp [F_given_backG, fRun, fSeq, fAsg, fVar, fC, fTwo, fTup, fCons, fNil, hTup, hCons, hName, hNil, fRetE, fCall, SD.keep, SD.fresh, SD.bor, vals, few, hx, e]
section
variable {pre : Option D} {n : Int} {f : FM} {to hp fr top fs : D} {r s : Rg} {w : Int} {t : Nat}
theorem gb_ok {h : List (Int × Int)} {a fre : Int} (hn : (keysI h).Nodup) (hf : few (h.length + 1) = true) :
    F_given_back [.v (st9 pre (encF n f to) (heapD h) (.int fre) top), .v (.int a)] = some (.v (st9 pre (encF n f.next to) (heapD (putH h a fre)) (.int a) top)) := by
  rw [F_given_back_G]
  exact F_given_backG_ok rfl (ww_ok hn hf)
theorem reg_ok (f : FM) (r : Rg) : gIx (.v (regD f)) (.v (rD r)) = some (.v (.int (f.get r))) := by cases r <;> rfl
theorem F_touchedG_load {fW fB fO : List SD → Option SD} {fG : Rho → Option SD} {st r s regs a w d : D} (h1 : gIx (.v regs) (.v s) = some (.v a))
    (h2 : fG [some (.v st), some (.v (.tup false [.str "load", r, s])), some (.v regs), some (.v a)] = some (.v w)) (h3 : fW [.v st, .v r, .v w] = some (.v d)) :
    F_touchedG fW fB fO fG [.v st, .v (.tup false [.str "load", r, s]), .v regs] = some (.v d) := by
  have q : ∀ x, (gIx (.v (.tup false [.str "load", r, s])) (.v (.int 0))) = some x → x = .v (.str "load") := fun x e => (Option.some.inj e).symm
  have q0 : (gIx (.v (.tup false [.str "load", r, s])) (.v (.int 0))) = some (.v (.str "load")) := rfl
  have q1 : (gIx (.v (.tup false [.str "load", r, s])) (.v (.int 1))) = some (.v r) := rfl
  have q2 : (gIx (.v (.tup false [.str "load", r, s])) (.v (.int 2))) = some (.v s) := rfl
  have e1 : gEq false (.v (.str "load")) (.v (.str "load")) = some (.v (.bl true)) := rfl
  simp [F_touchedG, fRun, fSeq, fSet, fVar, fC, fTwo, fCons, fNil, fIf, fIfS, fTest, fRetE, fCall, SD.keep, SD.fresh, SD.bor, SD.bool?, q0, q1, q2, e1, h1, h2, h3]
theorem F_touchedG_rel {fW fB fO : List SD → Option SD} {fG : Rho → Option SD} {st r regs a d : D} (h1 : gIx (.v regs) (.v r) = some (.v a))
    (h3 : fB [.v st, .v a] = some (.v d)) :
    F_touchedG fW fB fO fG [.v st, .v (.tup false [.str "release", r]), .v regs] = some (.v d) := by
  have q0 : (gIx (.v (.tup false [.str "release", r])) (.v (.int 0))) = some (.v (.str "release")) := rfl
  have q1 : (gIx (.v (.tup false [.str "release", r])) (.v (.int 1))) = some (.v r) := rfl
  have e1 : gEq false (.v (.str "release")) (.v (.str "load")) = some (.v (.bl false)) := rfl
  have e2 : gEq false (.v (.str "release")) (.v (.str "release")) = some (.v (.bl true)) := rfl
  simp [F_touchedG, fRun, fSeq, fSet, fVar, fC, fTwo, fCons, fNil, fIf, fIfS, fTest, fRetE, fCall, SD.keep, SD.fresh, SD.bor, SD.bool?, q0, q1, e1, e2, h1, h3]
theorem F_touchedG_store {fW fB fO : List SD → Option SD} {fG : Rho → Option SD} {st r s regs a w d : D} (h1 : gIx (.v regs) (.v r) = some (.v a)) (h2 : gIx (.v regs) (.v s) = some (.v w))
    (h3 : fO [.v st, .v a, .v w] = some (.v d)) :
    F_touchedG fW fB fO fG [.v st, .v (.tup false [.str "store", r, s]), .v regs] = some (.v d) := by
  have q0 : (gIx (.v (.tup false [.str "store", r, s])) (.v (.int 0))) = some (.v (.str "store")) := rfl
  have q1 : (gIx (.v (.tup false [.str "store", r, s])) (.v (.int 1))) = some (.v r) := rfl
  have q2 : (gIx (.v (.tup false [.str "store", r, s])) (.v (.int 2))) = some (.v s) := rfl
  have e1 : gEq false (.v (.str "store")) (.v (.str "load")) = some (.v (.bl false)) := rfl
  have e2 : gEq false (.v (.str "store")) (.v (.str "release")) = some (.v (.bl false)) := rfl
  have e3 : gEq false (.v (.str "store")) (.v (.str "store")) = some (.v (.bl true)) := rfl
  simp [F_touchedG, fRun, fSeq, fSet, fVar, fC, fTwo, fCons, fNil, fIf, fIfS, fTest, fRetE, fCall, SD.keep, SD.fresh, SD.bor, SD.bool?, q0, q1, q2, e1, e2, e3, h1, h2, h3]
theorem F_touchedG_clear {fW fB fO : List SD → Option SD} {fG : Rho → Option SD} {st r regs a d : D} (h1 : gIx (.v regs) (.v r) = some (.v a))
    (h3 : fO [.v st, .v a, .v (.int 0)] = some (.v d)) :
    F_touchedG fW fB fO fG [.v st, .v (.tup false [.str "clear", r]), .v regs] = some (.v d) := by
  have q0 : (gIx (.v (.tup false [.str "clear", r])) (.v (.int 0))) = some (.v (.str "clear")) := rfl
  have q1 : (gIx (.v (.tup false [.str "clear", r])) (.v (.int 1))) = some (.v r) := rfl
  have e1 : gEq false (.v (.str "clear")) (.v (.str "load")) = some (.v (.bl false)) := rfl
  have e2 : gEq false (.v (.str "clear")) (.v (.str "release")) = some (.v (.bl false)) := rfl
  have e3 : gEq false (.v (.str "clear")) (.v (.str "store")) = some (.v (.bl false)) := rfl
  simp [F_touchedG, fRun, fSeq, fSet, fVar, fC, fTwo, fCons, fNil, fIf, fIfS, fTest, fRetE, fCall, SD.keep, SD.fresh, SD.bor, SD.bool?, q0, q1, e1, e2, e3, h1, h3]
theorem get_of {h : List (Int × Int)} {a : Int} {st one regs : D} (e : gIx (.v st) (.v (.int 1)) = some (.v (heapD h))) (hn : (keysI h).Nodup) :
    fGet (fOne gDict (fTwo gIx (fVar 0) (fC (.int 1)))) (fVar 3) (fC (.int 0)) [some (.v st), some (.v one), some (.v regs), some (.v (.int a))] = some (.v (.int (getI h a))) := by
  have eg := get_kv .new h a
  have ed : gDict (.v (heapD h)) = some (.dic .new (kv h)) := dict_kv rfl hn
  simp [fGet, fOne, fTwo, fVar, fC, e, ed, eg]
end
/-! ### parts 3 -/
section
variable {pre : Option D} {n : Int} {f : FM} {to hp fr top fs : D} {r s : Rg} {w : Int} {t : Nat}
theorem F_jumpedG_jump {fW fA : List SD → Option SD} {fE : Rho → Option SD} {st t regs d : D} (h3 : fA [.v st, .v t] = some (.v d)) :
    F_jumpedG fW fA fE [.v st, .v (.tup false [.str "jump", t]), .v regs] = some (.v d) := by
  have q0 : (gIx (.v (.tup false [.str "jump", t])) (.v (.int 0))) = some (.v (.str "jump")) := rfl
  have q1 : (gIx (.v (.tup false [.str "jump", t])) (.v (.int 1))) = some (.v t) := rfl
  have e1 : gEq false (.v (.str "jump")) (.v (.str "jump")) = some (.v (.bl true)) := rfl
  simp [F_jumpedG, fRun, fSeq, fVar, fC, fTwo, fCons, fNil, fIfS, fTest, fRetE, fCall, SD.fresh, SD.bor, SD.bool?, q0, q1, e1, h3]
theorem F_jumpedG_test {fW fA : List SD → Option SD} {fE : Rho → Option SD} {st t regs d : D} {word : Str} {rest : List D} {b : Bool} (hw : gEq false (.v (.str word)) (.v (.str "jump")) = some (.v (.bl false)))
    (ht : gIx (.v (.tup false (.str word :: rest))) (.v (.int (-1))) = some (.v t)) (h1 : fE [some (.v st), some (.v (.tup false (.str word :: rest))), some (.v regs), none] = some (.v (.bl b)))
    (h3 : (if b then fA [.v st, .v t] else fW [.v st, .v .non, .v .non]) = some (.v d)) :
    F_jumpedG fW fA fE [.v st, .v (.tup false (.str word :: rest)), .v regs] = some (.v d) := by
  have q0 : (gIx (.v (.tup false (.str word :: rest))) (.v (.int 0))) = some (.v (.str word)) := by
    show (atI (D.str word :: rest) 0).map SD.v = _
    simp [atI, ixN]
  have en : gNeg (.v (.int 1)) = some (.v (.int (-1))) := rfl
  cases b <;> simp [F_jumpedG, fRun, fSeq, fSet, fVar, fC, fTwo, fOne, fCons, fNil, fIf, fIfS, fTest, fRetE, fCall, SD.keep, SD.fresh, SD.bor, SD.bool?, q0, hw, ht, h1, en] at h3 ⊢ <;> simp [h3]
theorem jp_ok : F_jumped [.v (st9 pre (encF n f to) hp fr top), .v (encI (.jump t)), .v (regD f)] = some (.v (st9 pre (encF n { f with idx := t } to) hp fr top)) := by
  rw [F_jumped_G]
  exact F_jumpedG_jump at_ok
theorem same_ok : F_jumped [.v (st9 pre (encF n f to) hp fr top), .v (encI (.same r s t)), .v (regD f)] = some (.v (st9 pre (encF n (if f.get r = f.get s then { f with idx := t } else f.next) to) hp fr top)) := by
  rw [F_jumped_G]
  have h1 := reg_ok f r
  have h2 := reg_ok f s
  have q1 : (gIx (.v (.tup false [.str "same", rD r, rD s, .int t])) (.v (.int 1))) = some (.v (rD r)) := rfl
  have q2 : (gIx (.v (.tup false [.str "same", rD r, rD s, .int t])) (.v (.int 2))) = some (.v (rD s)) := rfl
  have q0 : (gIx (.v (.tup false [.str "same", rD r, rD s, .int t])) (.v (.int 0))) = some (.v (.str "same")) := rfl
  have e1 : gEq false (.v (.str "same")) (.v (.str "none")) = some (.v (.bl false)) := rfl
  refine F_jumpedG_test (b := decide (f.get r = f.get s)) (t := .int t) rfl rfl ?_ ?_
  · simp [fTwo, fVar, fC, fIf, fTest, SD.bool?, q0, q1, q2, e1, h1, h2, eqI]
  · by_cases e : f.get r = f.get s
    · rw [if_pos e, if_pos (by simpa using e)]; exact at_ok
    · rw [if_neg e, if_neg (by simpa using e)]; exact nx_ok
theorem nil_ok : F_jumped [.v (st9 pre (encF n f to) hp fr top), .v (encI (.nil r t)), .v (regD f)] = some (.v (st9 pre (encF n (if f.get r = 0 then { f with idx := t } else f.next) to) hp fr top)) := by
  rw [F_jumped_G]
  have h1 := reg_ok f r
  have q1 : (gIx (.v (.tup false [.str "none", rD r, .int t])) (.v (.int 1))) = some (.v (rD r)) := rfl
  have q0 : (gIx (.v (.tup false [.str "none", rD r, .int t])) (.v (.int 0))) = some (.v (.str "none")) := rfl
  have e1 : gEq false (.v (.str "none")) (.v (.str "none")) = some (.v (.bl true)) := rfl
  refine F_jumpedG_test (b := decide (f.get r = 0)) (t := .int t) rfl rfl ?_ ?_
  · simp [fTwo, fVar, fC, fIf, fTest, SD.bool?, q0, q1, e1, h1, eqI]
  · by_cases e : f.get r = 0
    · rw [if_pos e, if_pos (by simpa using e)]; exact at_ok
    · rw [if_neg e, if_neg (by simpa using e)]; exact nx_ok
theorem gv_ok (v : Bool) : F_given_by [.v (encI (.ret v)), .v (regD f)] = some (.v (oD (if v then some f.a else none))) := by cases v <;> rfl
theorem gvn_ok : F_given_by [.v (encI .retn), .v (regD f)] = some (.v (.int 0)) := rfl
theorem left1_ok (g : Option Int) : F_left [.v (st9 none (encF n f to) hp fr top), .v (oD g)] = some (.v (.tup false [.tup false [.tup false [.int (-1), oD g, regD f, .non]], hp, fr, top])) := by cases g <;> rfl
theorem left2_ok {g : FM} {b : Bool} {to0 : D} (v : Option Int) : F_left [.v (st9 (some (encF 0 f to0)) (encF 1 g (bD b)) hp fr top), .v (oD v)] = some (.v (st9 none (encF 0 (if b then f.set .r2 (v.getD 0) else f) to0) hp fr top)) := by
  cases b <;> cases v <;> rfl
theorem ix_nat {p : Bool} {ds : List D} {k : Nat} {d : D} (h : ds[k]? = some d) : gIx (.v (.tup p ds)) (.v (.int (k : Int))) = some (.v d) := by
  have hl := (List.getElem?_eq_some_iff.mp h).1
  show (atI ds (k : Int)).map SD.v = _
  have e : ixN ds.length (k : Int) = some k := by
    unfold ixN
    simp [hl]
  unfold atI
  rw [e]
  simp [h]
theorem fs_ix {cs : List (List Ins)} {k : Nat} {c : List Ins} (h : cs[k]? = some c) : gIx (.v (encFs cs)) (.v (.int (k : Int))) = some (.v (encC c)) := ix_nat (by simp [h])
theorem F_calledG_ok {fV fR : Rho → Option SD} {fE fW : List SD → Option SD} {fs st regs fr hp fre top one to e : D} {w : Int}
    (h0 : fR [some (.v fs), some (.v st), some (.v (.tup false [.str "call", .int 1, .tup false [one], to])), none, none, none, none] = some (.v regs))
    (h1 : fV [some (.v fs), some (.v st), some (.v (.tup false [.str "call", .int 1, .tup false [one], to])), some (.v regs), none, none, none] = some (.v (.tup false [.int w])))
    (h2 : fW [.v st, .v .non, .v .non] = some (.v (.tup false [.tup false [fr], hp, fre, top])))
    (h3 : fE [.v fs, .v (.int 1), .v (.tup false [.int w]), .v to] = some (.v e)) :
    F_calledG fV fR fE fW [.v fs, .v st, .v (.tup false [.str "call", .int 1, .tup false [one], to])] = some (.v (.tup false [.tup false [fr, e], hp, fre, top])) := by
  have q0 : gIx (.v (.tup false [.tup false [fr], hp, fre, top])) (.v (.int 0)) = some (.v (.tup false [fr])) := rfl
  have q1 : gIx (.v (.tup false [.str "call", .int 1, .tup false [one], to])) (.v (.int 1)) = some (.v (.int 1)) := rfl
  have q3 : gIx (.v (.tup false [.str "call", .int 1, .tup false [one], to])) (.v (.int 3)) = some (.v to) := rfl
  have qs : gSl (.v (.tup false [.tup false [fr], hp, fre, top])) (some 1) none = some (.v (.tup false [hp, fre, top])) := rfl
  simp [F_calledG, fRun, fSeq, fSet, fVar, fC, fTwo, fSl, fTup, fStar, fCons, fNil, fRetE, fCall, SD.keep, SD.fresh, SD.bor, SD.items, SD.int?, vals, few, h0, h1, h2, h3, q0, q1, q3, qs]
theorem called_ok {cs : List (List Ins)} {x : Option Rg} {b : Bool} (hc : (cs[1]?).isSome = true) :
    F_called [.v (encFs cs), .v (st9 none (encF n f to) hp fr top), .v (encI (.call x b))] = some (.v (st9 (some (encF n f.next to)) (encF 1 ⟨0, (x.map f.get).getD 0, 0, 0⟩ (bD b)) hp fr top)) := by
  obtain ⟨c, hc⟩ := Option.isSome_iff_exists.mp hc
  have h1 : gIx (.v (encFs cs)) (.v (.int 1)) = some (.v (encC c)) := fs_ix (k := 1) hc
  generalize hw : (x.map f.get).getD 0 = w
  have he : F_entered [.v (encFs cs), .v (.int 1), .v (.tup false [.int w]), .v (bD b)] = some (.v (encF 1 ⟨0, w, 0, 0⟩ (bD b))) := by
    have q : gIx (.v (encC c)) (.v (.int 1)) = some (.v (.int 3)) := rfl
    have e : (fTwo gIx (fTwo gIx (fVar 0) (fVar 1)) (fC (.int 1))) [some (.v (encFs cs)), some (.v (.int 1)), some (.v (.tup false [.int w])), some (.v (bD b))] = some (.v (.int 3)) := by simp [fTwo, fVar, fC, h1, q]
    rw [F_entered_G]
    refine (show _ = F_enteredG (fun _ => (fTwo gIx (fTwo gIx (fVar 0) (fVar 1)) (fC (.int 1))) [some (.v (encFs cs)), some (.v (.int 1)), some (.v (.tup false [.int w])), some (.v (bD b))]) [.v (encFs cs), .v (.int 1), .v (.tup false [.int w]), .v (bD b)] from rfl).trans ?_
    rw [e]
    cases b <;> rfl
  rw [F_called_G]
  refine F_calledG_ok (fr := encF n f.next to) (w := w) (hp := hp) (fre := fr) (top := top) (regs := regD f) (one := oD (x.map Rg.i)) (to := bD b) rfl ?_ nx_ok he
  subst hw
  cases x with
  | none => rfl
  | some q => cases q <;> rfl
end

end K9
/-! One step of the program's machine is one step of the typed one. -/
namespace K9
open PySem L2 Dn
def F_instruction_atG (fE : List SD → Option SD) (fX : Rho → Option SD) : List SD → Option SD := fRun 4 2 ((fSeq (fIfS (fTest (fCall fE (fCons (fVar 1) fNil))) (fun _ => none) (fun ρ => some (.nx ρ)))
    (fSeq (fAsg (fSl (fTwo gIx (fTwo gIx (fVar 1) (fC (.int 0))) (fOne gNeg (fC (.int 1)))) (fun _ => some none) (fun ρ => ((fC (.int 2)) ρ).bind fun s => s.int?.map some)) (hTup 2 (hCons (hName 2) (hCons (hName 3) hNil))))
    (fRetE fX))))
theorem F_instruction_at_G : F_instruction_at = F_instruction_atG (F_is_ended) ((fTwo gIx (fTwo gIx (fTwo gIx (fVar 0) (fVar 2)) (fC (.int 2))) (fVar 3))) := rfl
def F_stepH (fI : List SD → Option SD) (fR : Rho → Option SD) (fW : List SD → Option SD) (fT : List SD → Option SD) (fC0 : List SD → Option SD) (fL : List SD → Option SD) (fG : List SD → Option SD) (fJ : List SD → Option SD) (fO : List SD → Option SD) : List SD → Option SD := fRun 5 2 ((fSeq (fRow [2, 3] (fCons (fCall fI (fCons (fVar 0) (fCons (fVar 1) fNil))) (fCons fR fNil)))
    (fSeq (fSet 4 (fTwo gIx (fVar 2) (fC (.int 0))))
    (fSeq (fIfS (fTest (fTwo (gIn false) (fVar 4) (fTup (fCons (fC (.str "move")) (fCons (fC (.str "zero")) fNil))))) (fRetE (fCall fW (fCons (fVar 1) (fCons (fTwo gIx (fVar 2) (fC (.int 1))) (fCons (fIf (fTest (fTwo (gEq false) (fVar 4) (fC (.str "move")))) (fTwo gIx (fVar 3) (fTwo gIx (fVar 2) (fC (.int 2)))) (fC (.int 0))) fNil))))) (fun ρ => some (.nx ρ)))
    (fSeq (fIfS (fTest (fTwo (gEq false) (fVar 4) (fC (.str "alloc")))) (fRetE (fCall fT (fCons (fVar 1) (fCons (fTwo gIx (fVar 2) (fC (.int 1))) fNil)))) (fun ρ => some (.nx ρ)))
    (fSeq (fIfS (fTest (fTwo (gEq false) (fVar 4) (fC (.str "call")))) (fRetE (fCall fC0 (fCons (fVar 0) (fCons (fVar 1) (fCons (fVar 2) fNil))))) (fun ρ => some (.nx ρ)))
    (fSeq (fIfS (fTest (fTwo (gIn false) (fVar 4) (fTup (fCons (fC (.str "ret")) (fCons (fC (.str "retnone")) fNil))))) (fRetE (fCall fL (fCons (fVar 1) (fCons (fCall fG (fCons (fVar 2) (fCons (fVar 3) fNil))) fNil)))) (fun ρ => some (.nx ρ)))
    (fSeq (fIfS (fTest (fTwo (gIn false) (fVar 4) (fTup (fCons (fC (.str "jump")) (fCons (fC (.str "none")) (fCons (fC (.str "same")) fNil)))))) (fRetE (fCall fJ (fCons (fVar 1) (fCons (fVar 2) (fCons (fVar 3) fNil))))) (fun ρ => some (.nx ρ)))
    (fRetE (fCall fO (fCons (fVar 1) (fCons (fVar 2) (fCons (fVar 3) fNil)))))))))))))
theorem F_step_H : F_step = F_stepH (F_instruction_at) ((fTwo gIx (fTwo gIx (fTwo gIx (fVar 1) (fC (.int 0))) (fOne gNeg (fC (.int 1)))) (fC (.int 2)))) (F_with_register) (F_taken) (F_called) (F_left) (F_given_by) (F_jumped) (F_touched) := rfl
section
variable {fI fW fT fC0 fL fG fJ fO : List SD → Option SD} {fR : Rho → Option SD} {fs st regs d r s w x : D} {word : Str} {rest : List D}
theorem ix0 {p : Bool} {y : D} {ds : List D} : gIx (.v (.tup p (y :: ds))) (.v (.int 0)) = some (.v y) := by
  show (atI (y :: ds) 0).map SD.v = _
  simp [atI, ixN]
theorem step_move (h0 : fI [.v fs, .v st] = some (.v (.tup false [.str "move", r, s]))) (h1 : fR [some (.v fs), some (.v st), none, none, none] = some (.v regs))
    (h2 : gIx (.v regs) (.v s) = some (.v w)) (h3 : fW [.v st, .v r, .v w] = some (.v d)) : F_stepH fI fR fW fT fC0 fL fG fJ fO [.v fs, .v st] = some (.v d) := by
  have q0 := ix0 (p := false) (y := .str "move") (ds := [r, s])
  have q1 : gIx (.v (.tup false [.str "move", r, s])) (.v (.int 1)) = some (.v r) := rfl
  have q2 : gIx (.v (.tup false [.str "move", r, s])) (.v (.int 2)) = some (.v s) := rfl
  have t1 : gIn false (.v (.str "move")) (.v (.tup false [.str "move", .str "zero"])) = some (.v (.bl true)) := rfl
  have t2 : gEq false (.v (.str "move")) (.v (.str "move")) = some (.v (.bl true)) := rfl
  simp [F_stepH, fRun, fSeq, fSet, fRow, Dn.setMany, fVar, fC, fTwo, fTup, fCons, fNil, fIf, fIfS, fTest, fRetE, fCall, SD.keep, SD.fresh, SD.bor, SD.bool?, vals, few, q0, q1, q2, t1, t2, h0, h1, h2, h3]
theorem step_zero (h0 : fI [.v fs, .v st] = some (.v (.tup false [.str "zero", r]))) (h1 : fR [some (.v fs), some (.v st), none, none, none] = some (.v regs))
    (h3 : fW [.v st, .v r, .v (.int 0)] = some (.v d)) : F_stepH fI fR fW fT fC0 fL fG fJ fO [.v fs, .v st] = some (.v d) := by
  have q0 := ix0 (p := false) (y := .str "zero") (ds := [r])
  have q1 : gIx (.v (.tup false [.str "zero", r])) (.v (.int 1)) = some (.v r) := rfl
  have t1 : gIn false (.v (.str "zero")) (.v (.tup false [.str "move", .str "zero"])) = some (.v (.bl true)) := rfl
  have t2 : gEq false (.v (.str "zero")) (.v (.str "move")) = some (.v (.bl false)) := rfl
  simp [F_stepH, fRun, fSeq, fSet, fRow, Dn.setMany, fVar, fC, fTwo, fTup, fCons, fNil, fIf, fIfS, fTest, fRetE, fCall, SD.keep, SD.fresh, SD.bor, SD.bool?, vals, few, q0, q1, t1, t2, h0, h1, h3]
theorem step_alloc (h0 : fI [.v fs, .v st] = some (.v (.tup false [.str "alloc", r]))) (h1 : fR [some (.v fs), some (.v st), none, none, none] = some (.v regs))
    (h3 : fT [.v st, .v r] = some (.v d)) : F_stepH fI fR fW fT fC0 fL fG fJ fO [.v fs, .v st] = some (.v d) := by
  have q0 := ix0 (p := false) (y := .str "alloc") (ds := [r])
  have q1 : gIx (.v (.tup false [.str "alloc", r])) (.v (.int 1)) = some (.v r) := rfl
  have t1 : gIn false (.v (.str "alloc")) (.v (.tup false [.str "move", .str "zero"])) = some (.v (.bl false)) := rfl
  have t2 : gEq false (.v (.str "alloc")) (.v (.str "alloc")) = some (.v (.bl true)) := rfl
  simp [F_stepH, fRun, fSeq, fSet, fRow, Dn.setMany, fVar, fC, fTwo, fTup, fCons, fNil, fIf, fIfS, fTest, fRetE, fCall, SD.keep, SD.fresh, SD.bor, SD.bool?, vals, few, q0, q1, t1, t2, h0, h1, h3]
theorem step_call (h0 : fI [.v fs, .v st] = some (.v (.tup false (.str "call" :: rest)))) (h1 : fR [some (.v fs), some (.v st), none, none, none] = some (.v regs))
    (h3 : fC0 [.v fs, .v st, .v (.tup false (.str "call" :: rest))] = some (.v d)) : F_stepH fI fR fW fT fC0 fL fG fJ fO [.v fs, .v st] = some (.v d) := by
  have q0 := ix0 (p := false) (y := .str "call") (ds := rest)
  have t1 : gIn false (.v (.str "call")) (.v (.tup false [.str "move", .str "zero"])) = some (.v (.bl false)) := rfl
  have t2 : gEq false (.v (.str "call")) (.v (.str "alloc")) = some (.v (.bl false)) := rfl
  have t3 : gEq false (.v (.str "call")) (.v (.str "call")) = some (.v (.bl true)) := rfl
  simp [F_stepH, fRun, fSeq, fSet, fRow, Dn.setMany, fVar, fC, fTwo, fTup, fCons, fNil, fIf, fIfS, fTest, fRetE, fCall, SD.keep, SD.fresh, SD.bor, SD.bool?, vals, few, q0, t1, t2, t3, h0, h1, h3]
theorem step_ret (h0 : fI [.v fs, .v st] = some (.v (.tup false (.str word :: rest)))) (h1 : fR [some (.v fs), some (.v st), none, none, none] = some (.v regs))
    (t1 : gIn false (.v (.str word)) (.v (.tup false [.str "move", .str "zero"])) = some (.v (.bl false))) (t2 : gEq false (.v (.str word)) (.v (.str "alloc")) = some (.v (.bl false))) (t3 : gEq false (.v (.str word)) (.v (.str "call")) = some (.v (.bl false)))
    (t4 : gIn false (.v (.str word)) (.v (.tup false [.str "ret", .str "retnone"])) = some (.v (.bl true)))
    (h2 : fG [.v (.tup false (.str word :: rest)), .v regs] = some (.v x)) (h3 : fL [.v st, .v x] = some (.v d)) : F_stepH fI fR fW fT fC0 fL fG fJ fO [.v fs, .v st] = some (.v d) := by
  have q0 := ix0 (p := false) (y := .str word) (ds := rest)
  simp [F_stepH, fRun, fSeq, fSet, fRow, Dn.setMany, fVar, fC, fTwo, fTup, fCons, fNil, fIf, fIfS, fTest, fRetE, fCall, SD.keep, SD.fresh, SD.bor, SD.bool?, vals, few, q0, t1, t2, t3, t4, h0, h1, h2, h3]
theorem step_jump (h0 : fI [.v fs, .v st] = some (.v (.tup false (.str word :: rest)))) (h1 : fR [some (.v fs), some (.v st), none, none, none] = some (.v regs))
    (t1 : gIn false (.v (.str word)) (.v (.tup false [.str "move", .str "zero"])) = some (.v (.bl false))) (t2 : gEq false (.v (.str word)) (.v (.str "alloc")) = some (.v (.bl false))) (t3 : gEq false (.v (.str word)) (.v (.str "call")) = some (.v (.bl false)))
    (t4 : gIn false (.v (.str word)) (.v (.tup false [.str "ret", .str "retnone"])) = some (.v (.bl false))) (t5 : gIn false (.v (.str word)) (.v (.tup false [.str "jump", .str "none", .str "same"])) = some (.v (.bl true)))
    (h3 : fJ [.v st, .v (.tup false (.str word :: rest)), .v regs] = some (.v d)) : F_stepH fI fR fW fT fC0 fL fG fJ fO [.v fs, .v st] = some (.v d) := by
  have q0 := ix0 (p := false) (y := .str word) (ds := rest)
  simp [F_stepH, fRun, fSeq, fSet, fRow, Dn.setMany, fVar, fC, fTwo, fTup, fCons, fNil, fIf, fIfS, fTest, fRetE, fCall, SD.keep, SD.fresh, SD.bor, SD.bool?, vals, few, q0, t1, t2, t3, t4, t5, h0, h1, h3]
theorem step_touch (h0 : fI [.v fs, .v st] = some (.v (.tup false (.str word :: rest)))) (h1 : fR [some (.v fs), some (.v st), none, none, none] = some (.v regs))
    (t1 : gIn false (.v (.str word)) (.v (.tup false [.str "move", .str "zero"])) = some (.v (.bl false))) (t2 : gEq false (.v (.str word)) (.v (.str "alloc")) = some (.v (.bl false))) (t3 : gEq false (.v (.str word)) (.v (.str "call")) = some (.v (.bl false)))
    (t4 : gIn false (.v (.str word)) (.v (.tup false [.str "ret", .str "retnone"])) = some (.v (.bl false))) (t5 : gIn false (.v (.str word)) (.v (.tup false [.str "jump", .str "none", .str "same"])) = some (.v (.bl false)))
    (h3 : fO [.v st, .v (.tup false (.str word :: rest)), .v regs] = some (.v d)) : F_stepH fI fR fW fT fC0 fL fG fJ fO [.v fs, .v st] = some (.v d) := by
  have q0 := ix0 (p := false) (y := .str word) (ds := rest)
  simp [F_stepH, fRun, fSeq, fSet, fRow, Dn.setMany, fVar, fC, fTwo, fTup, fCons, fNil, fIf, fIfS, fTest, fRetE, fCall, SD.keep, SD.fresh, SD.bor, SD.bool?, vals, few, q0, t1, t2, t3, t4, t5, h0, h1, h3]
end
section
variable {pre : Option D} {n : Nat} {f : FM} {to hp fr top fs : D} {r s : Rg} {w : Int} {t : Nat} {cs : List (List Ins)} {i : Ins}
theorem F_instG_ok {fE : List SD → Option SD} {fX : Rho → Option SD} {fs st a b c e d fl : D} (h1 : fE [.v st] = some (.v (.bl false))) (h2 : gIx (.v st) (.v (.int 0)) = some (.v fl)) (h4 : gIx (.v fl) (.v (.int (-1))) = some (.v (.tup false [a, b, c, e])))
    (h3 : fX [some (.v fs), some (.v st), some (.v a), some (.v b)] = some (.v d)) : F_instruction_atG fE fX [.v fs, .v st] = some (.v d) := by
  have en : gNeg (.v (.int 1)) = some (.v (.int (-1))) := rfl
  have es : gSl (.v (.tup false [a, b, c, e])) none (some 2) = some (.v (.tup false [a, b])) := rfl
  simp [F_instruction_atG, fRun, fSeq, fAsg, fVar, fC, fTwo, fOne, fSl, fCons, fNil, fIfS, fTest, fRetE, fCall, hTup, hCons, hName, hNil, SD.fresh, SD.bor, SD.bool?, SD.int?, h1, h2, h3, h4, en, es]
theorem inst_ok (he : F_is_ended [.v (st9 pre (encF n f to) hp fr top)] = some (.v (.bl false))) (hi : insAt cs n f.idx = some i) : F_instruction_at [.v (encFs cs), .v (st9 pre (encF n f to) hp fr top)] = some (.v (encI i)) := by
  unfold insAt at hi
  obtain ⟨c, hc, hi⟩ := Option.bind_eq_some_iff.mp hi
  have h1 := fs_ix hc
  have h2 : gIx (.v (encC c)) (.v (.int 2)) = some (.v (.tup false (c.map encI))) := rfl
  have h3 : gIx (.v (.tup false (c.map encI))) (.v (.int (f.idx : Int))) = some (.v (encI i)) := ix_nat (by simp [hi])
  have h4 : gIx (.v (.tup false (frs pre (encF n f to)))) (.v (.int (-1))) = some (.v (encF n f to)) := by cases pre <;> rfl
  rw [F_instruction_at_G]
  exact F_instG_ok he rfl h4 (by simp [fTwo, fVar, fC, h1, h2, h3])
theorem reg_at : (fTwo gIx (fTwo gIx (fTwo gIx (fVar 1) (fC (.int 0))) (fOne gNeg (fC (.int 1)))) (fC (.int 2))) [some (.v fs), some (.v (st9 pre (encF n f to) hp fr top)), none, none, none] = some (.v (regD f)) := by cases pre <;> rfl
/-- an instruction that stays in its frame -/
theorem step_go {m m' : Mem} {f' : FM} (hI : F_instruction_at [.v fs, .v (st9 pre (encF n f to) (heapD m.h) (.int m.fr) (.int m.top))] = some (.v (encI i))) (hn : (keysI m.h).Nodup) (hf : few (m.h.length + 1) = true) (h : exI i f m = .go f' m') :
    F_step [.v fs, .v (st9 pre (encF n f to) (heapD m.h) (.int m.fr) (.int m.top))] = some (.v (st9 pre (encF n f' to) (heapD m'.h) (.int m'.fr) (.int m'.top))) := by
  rw [F_step_H]
  cases i with
  | move r s => injection h with h1 h2; subst h1 h2; exact step_move hI reg_at (reg_ok f s) wr_ok
  | zero r => injection h with h1 h2; subst h1 h2; exact step_zero hI reg_at wr_ok
  | load r s =>
    injection h with h1 h2; subst h1 h2
    refine step_touch hI reg_at rfl rfl rfl rfl rfl ?_
    rw [F_touched_G]
    exact F_touchedG_load (reg_ok f s) (get_of rfl hn) wr_ok
  | store r s =>
    injection h with h1 h2; subst h1 h2
    refine step_touch hI reg_at rfl rfl rfl rfl rfl ?_
    rw [F_touched_G]
    exact F_touchedG_store (reg_ok f r) (reg_ok f s) (ww_ok hn hf)
  | clear r =>
    injection h with h1 h2; subst h1 h2
    refine step_touch hI reg_at rfl rfl rfl rfl rfl ?_
    rw [F_touched_G]
    exact F_touchedG_clear (reg_ok f r) (ww_ok hn hf)
  | release r =>
    injection h with h1 h2; subst h1 h2
    refine step_touch hI reg_at rfl rfl rfl rfl rfl ?_
    rw [F_touched_G]
    exact F_touchedG_rel (reg_ok f r) (gb_ok hn hf)
  | alloc r =>
    refine step_alloc hI reg_at ?_
    simp only [exI] at h
    by_cases e : m.fr = 0
    · rw [if_pos e] at h
      injection h with h1 h2
      subst h1 h2
      rw [e]
      exact tk0_ok hn hf
    · rw [if_neg e] at h
      injection h with h1 h2
      subst h1 h2
      exact tk1_ok e hn hf
  | same r s t =>
    refine step_jump hI reg_at rfl rfl rfl rfl rfl ?_
    refine same_ok.trans ?_
    simp only [exI] at h
    by_cases e : f.get r = f.get s
    · rw [if_pos e] at h ⊢
      injection h with h1 h2
      subst h1 h2
      rfl
    · rw [if_neg e] at h ⊢
      injection h with h1 h2
      subst h1 h2
      rfl
  | nil r t =>
    refine step_jump hI reg_at rfl rfl rfl rfl rfl ?_
    refine nil_ok.trans ?_
    simp only [exI] at h
    by_cases e : f.get r = 0
    · rw [if_pos e] at h ⊢
      injection h with h1 h2
      subst h1 h2
      rfl
    · rw [if_neg e] at h ⊢
      injection h with h1 h2
      subst h1 h2
      rfl
  | jump t => injection h with h1 h2; subst h1 h2; exact step_jump hI reg_at rfl rfl rfl rfl rfl jp_ok
  | ret v => cases v <;> cases h
  | retn => cases h
  | call x b => cases h
theorem step_re {m : Mem} {v : Option Int} {d : D} (hI : F_instruction_at [.v fs, .v (st9 pre (encF n f to) (heapD m.h) (.int m.fr) (.int m.top))] = some (.v (encI i))) (h : exI i f m = .ret v)
    (hL : F_left [.v (st9 pre (encF n f to) (heapD m.h) (.int m.fr) (.int m.top)), .v (oD v)] = some (.v d)) : F_step [.v fs, .v (st9 pre (encF n f to) (heapD m.h) (.int m.fr) (.int m.top))] = some (.v d) := by
  rw [F_step_H]
  cases i with
  | ret w =>
    cases w with
    | true => injection h with h; subst h; exact step_ret hI reg_at rfl rfl rfl rfl (gv_ok true) hL
    | false => injection h with h; subst h; exact step_ret hI reg_at rfl rfl rfl rfl (gv_ok false) hL
  | retn => injection h with h; subst h; exact step_ret hI reg_at rfl rfl rfl rfl gvn_ok hL
  | alloc r => simp only [exI] at h; split at h <;> simp at h
  | same r s t => simp only [exI] at h; split at h <;> simp at h
  | nil r t => simp only [exI] at h; split at h <;> simp at h
  | _ => cases h
end
/-- how far a heap may be -/
structure MOk (m : Mem) : Prop where
  nd : (keysI m.h).Nodup
  few : few (m.h.length + 1) = true
theorem ex_call {i : Ins} {f : FM} {m : Mem} {w : Int} {b : Bool} (h : exI i f m = .call w b) : ∃ x, i = .call x b ∧ w = (x.map f.get).getD 0 := by
  cases i with
  | call x b' => injection h with h1 h2; subst h1 h2; exact ⟨x, rfl, rfl⟩
  | ret v => cases v <;> cases h
  | alloc r => simp only [exI] at h; split at h <;> simp at h
  | same r s t => simp only [exI] at h; split at h <;> simp at h
  | nil r t => simp only [exI] at h; split at h <;> simp at h
  | _ => cases h
def CallOk (cs : List (List Ins)) : Prop := ∀ j x b, insAt cs 0 j = some (.call x b) → (cs[1]?).isSome = true
theorem one_is (f : FM) (m : Mem) : encS (.one f m) = st9 none (encF ((0 : Nat) : Int) f .non) (heapD m.h) (.int m.fr) (.int m.top) := rfl
theorem two_is (f g : FM) (b : Bool) (m : Mem) : encS (.two f g b m) = st9 (some (encF 0 f .non)) (encF ((1 : Nat) : Int) g (bD b)) (heapD m.h) (.int m.fr) (.int m.top) := rfl
theorem done_is (v : Option Int) (f : FM) (m : Mem) : encS (.done v f.a f.b f.c m) = .tup false [.tup false [.tup false [.int (-1), oD v, regD f, .non]], heapD m.h, .int m.fr, .int m.top] := rfl
theorem one_on (f : FM) (to hp fr top : D) : F_is_ended [.v (st9 none (encF ((0 : Nat) : Int) f to) hp fr top)] = some (.v (.bl false)) := rfl
theorem two_on (f g : FM) (to hp fr top t2 : D) : F_is_ended [.v (st9 (some (encF 0 f t2)) (encF ((1 : Nat) : Int) g to) hp fr top)] = some (.v (.bl false)) := rfl
theorem F_step_one {cs : List (List Ins)} {f : FM} {m : Mem} {s' : St9} (C : CallOk cs) (M : MOk m) (h : stepM cs (.one f m) = some s') : F_step [.v (encFs cs), .v (encS (.one f m))] = some (.v (encS s')) := by
  obtain ⟨i, hi, h⟩ := Option.bind_eq_some_iff.mp h
  replace hi : insAt cs 0 f.idx = some i := hi
  have hI := inst_ok (n := 0) (one_on f .non (heapD m.h) (.int m.fr) (.int m.top)) hi
  rw [one_is]
  cases e : exI i f m with
  | go f' m' =>
    simp only [doM, e, Option.some.injEq] at h
    subst h
    rw [one_is]
    exact step_go hI M.nd M.few e
  | ret v =>
    simp only [doM, e, Option.some.injEq] at h
    subst h
    rw [done_is]
    exact step_re hI e (left1_ok v)
  | call w b =>
    obtain ⟨x, rfl, rfl⟩ := ex_call e
    simp only [doM, e, Option.some.injEq] at h
    subst h
    rw [two_is, F_step_H]
    exact step_call hI reg_at (called_ok (C _ _ _ hi))
theorem F_step_two {cs : List (List Ins)} {f g : FM} {b : Bool} {m : Mem} {s' : St9} (M : MOk m) (h : stepM cs (.two f g b m) = some s') : F_step [.v (encFs cs), .v (encS (.two f g b m))] = some (.v (encS s')) := by
  obtain ⟨i, hi, h⟩ := Option.bind_eq_some_iff.mp h
  replace hi : insAt cs 1 g.idx = some i := hi
  have hI := inst_ok (n := 1) (two_on f g (bD b) (heapD m.h) (.int m.fr) (.int m.top) .non) hi
  rw [two_is]
  cases e : exI i g m with
  | go f' m' =>
    simp only [doM, e, Option.some.injEq] at h
    subst h
    rw [two_is]
    exact step_go hI M.nd M.few e
  | ret v =>
    simp only [doM, e, Option.some.injEq] at h
    subst h
    rw [one_is]
    exact step_re hI e (left2_ok v)
  | call w b =>
    simp [doM, e] at h
theorem F_step_is {cs : List (List Ins)} {s s' : St9} (C : CallOk cs) (M : MOk s.m) (h : stepM cs s = some s') : F_step [.v (encFs cs), .v (encS s)] = some (.v (encS s')) := by
  cases s with
  | one f m => exact F_step_one C M h
  | two f g b m => exact F_step_two M h
  | done g a b c m => cases h

end K9
/-! One doing of the law is one step of the typed machine. -/
namespace K9
open PySem L2 Dn
def lS1 : Rho → Option Out := (fRow [2, 3, 4, 5] (fCons (fOne gList (fTwo gIx (fVar 1) (fC (.int 0)))) (fCons (fOne gDict (fOne gList (fTwo gIx (fVar 1) (fC (.int 1))))) (fCons (fTwo gIx (fVar 1) (fC (.int 2))) (fCons (fTwo gIx (fVar 1) (fC (.int 3))) fNil)))))
def lS2 : Rho → Option Out := (fPop 2 (hTup 4 (hCons (hName 6) (hCons (hName 7) (hCons (hName 8) (hCons (hName 9) hNil))))))
def lS3 : Rho → Option Out := (fRow [10, 11, 12] (fCons (fTwo gIx (fTwo gIx (fTwo gIx (fVar 0) (fVar 6)) (fC (.int 2))) (fVar 7)) (fCons (fOne gList (fVar 8)) (fCons (fTwo gAdd (fVar 7) (fC (.int 1))) fNil))))
def lS4 : Rho → Option Out := (fSet 13 (fTwo gIx (fVar 10) (fC (.int 0))))
def lT1 : Rho → Option Bool := (fTest (fTwo (gIn false) (fVar 13) (fTup (fCons (fC (.str "move")) (fCons (fC (.str "zero")) (fCons (fC (.str "load")) fNil))))))
def lB1 : Rho → Option Out := (fAsg (fIf (fTest (fTwo (gEq false) (fVar 13) (fC (.str "move")))) (fTwo gIx (fVar 11) (fTwo gIx (fVar 10) (fC (.int 2)))) (fIf (fTest (fTwo (gEq false) (fVar 13) (fC (.str "load")))) (fGet (fVar 3) (fTwo gIx (fVar 11) (fTwo gIx (fVar 10) (fC (.int 2)))) (fC (.int 0))) (fC (.int 0)))) (hSubL 11 (fTwo gIx (fVar 10) (fC (.int 1)))))
def lT2 : Rho → Option Bool := (fTest (fTwo (gIn false) (fVar 13) (fTup (fCons (fC (.str "store")) (fCons (fC (.str "clear")) fNil)))))
def lB2 : Rho → Option Out := (fAsg (fIf (fTest (fTwo (gEq false) (fVar 13) (fC (.str "store")))) (fTwo gIx (fVar 11) (fTwo gIx (fVar 10) (fC (.int 2)))) (fC (.int 0))) (hSubD 3 (fTwo gIx (fVar 11) (fTwo gIx (fVar 10) (fC (.int 1))))))
def lT3 : Rho → Option Bool := (fTest (fTwo (gEq false) (fVar 13) (fC (.str "alloc"))))
def lB3 : Rho → Option Out := (fSeq (fSet 14 (fIf (fTest (fTwo (gEq true) (fVar 4) (fC (.int 0)))) (fVar 4) (fVar 5))) (fSeq (fAsg (fIf (fTest (fTwo (gEq true) (fVar 4) (fC (.int 0)))) (fTup (fCons (fGet (fVar 3) (fVar 4) (fC (.int 0))) (fCons (fVar 5) fNil))) (fTup (fCons (fC (.int 0)) (fCons (fTwo gAdd (fVar 5) (fC (.int 1))) fNil)))) (hTup 2 (hCons (hName 4) (hCons (hName 5) hNil)))) (fAsg (fTup (fCons (fC (.int 0)) (fCons (fVar 14) fNil))) (hTup 2 (hCons (hSubD 3 (fVar 14)) (hCons (hSubL 11 (fTwo gIx (fVar 10) (fC (.int 1)))) hNil))))))
def lT4 : Rho → Option Bool := (fTest (fTwo (gEq false) (fVar 13) (fC (.str "release"))))
def lB4 : Rho → Option Out := (fAsg (fTup (fCons (fVar 4) (fCons (fTwo gIx (fVar 11) (fTwo gIx (fVar 10) (fC (.int 1)))) fNil))) (hTup 2 (hCons (hSubD 3 (fTwo gIx (fVar 11) (fTwo gIx (fVar 10) (fC (.int 1))))) (hCons (hName 4) hNil))))
def lT5 : Rho → Option Bool := (fTest (fTwo (gIn false) (fVar 13) (fTup (fCons (fC (.str "same")) (fCons (fC (.str "none")) (fCons (fC (.str "jump")) fNil))))))
def lB5 : Rho → Option Out := (fSeq (fSet 15 (fOrV (fTwo (gEq false) (fVar 13) (fC (.str "jump"))) (fTwo (gEq false) (fTwo gIx (fVar 11) (fTwo gIx (fVar 10) (fC (.int 1)))) (fIf (fTest (fTwo (gEq false) (fVar 13) (fC (.str "same")))) (fTwo gIx (fVar 11) (fTwo gIx (fVar 10) (fC (.int 2)))) (fC (.int 0)))))) (fSet 12 (fIf (fTest (fVar 15)) (fTwo gIx (fVar 10) (fOne gNeg (fC (.int 1)))) (fVar 12))))
def lT6 : Rho → Option Bool := (fTest (fTwo (gEq false) (fVar 13) (fC (.str "call"))))
def lB6 : Rho → Option Out := (fSeq (fApp 2 (fTup (fCons (fVar 6) (fCons (fVar 12) (fCons (fOne gTupleW (fVar 11)) (fCons (fVar 9) fNil)))))) (fSeq (fSet 16 (fLc itT [21] (fTwo gIx (fVar 10) (fC (.int 2))) (hName 21) (fun _ => some true) (fIf (fTest (fTwo (gIs false) (fVar 21) (fC .non))) (fC (.int 0)) (fTwo gIx (fVar 11) (fVar 21))))) (fSeq (fAsg (fTwo gIx (fVar 0) (fTwo gIx (fVar 10) (fC (.int 1)))) (hTup 3 (hCons (hName 17) (hCons (hName 18) (hCons (hName 19) hNil))))) (fRow [6, 12, 11, 9] (fCons (fTwo gIx (fVar 10) (fC (.int 1))) (fCons (fC (.int 0)) (fCons (fTwo gAdd (fVar 16) (fTwo gMul (fLst (fCons (fC (.int 0)) fNil)) (fTwo gSub2 (fVar 18) (fOne gLen (fVar 16))))) (fCons (fTwo gIx (fVar 10) (fC (.int 3))) fNil))))))))
def lB7 : Rho → Option Out := (fSeq (fSet 20 (fIf (fTest (fTwo (gEq false) (fVar 13) (fC (.str "retnone")))) (fC (.int 0)) (fIf (fTest (fTwo (gIs false) (fTwo gIx (fVar 10) (fC (.int 1))) (fC .non))) (fC .non) (fTwo gIx (fVar 11) (fTwo gIx (fVar 10) (fC (.int 1))))))) (fRetE (fCall F_law_left (fCons (fVar 2) (fCons (fTup (fCons (fOne gTuple (fOne gSortIt (fVar 3))) (fCons (fVar 4) (fCons (fVar 5) fNil)))) (fCons (fVar 20) (fCons (fOne gTupleW (fVar 11)) (fCons (fVar 9) fNil))))))))
def lB7a : Rho → Option Out := (fSet 20 (fIf (fTest (fTwo (gEq false) (fVar 13) (fC (.str "retnone")))) (fC (.int 0)) (fIf (fTest (fTwo (gIs false) (fTwo gIx (fVar 10) (fC (.int 1))) (fC .non))) (fC .non) (fTwo gIx (fVar 11) (fTwo gIx (fVar 10) (fC (.int 1)))))))
def lB7b : Rho → Option Out := (fRetE (fCall F_law_left (fCons (fVar 2) (fCons (fTup (fCons (fOne gTuple (fOne gSortIt (fVar 3))) (fCons (fVar 4) (fCons (fVar 5) fNil)))) (fCons (fVar 20) (fCons (fOne gTupleW (fVar 11)) (fCons (fVar 9) fNil)))))))
theorem lB7_is : lB7 = fSeq lB7a lB7b := rfl
def lC1 : Rho → Option Out := (fApp 2 (fTup (fCons (fVar 6) (fCons (fVar 12) (fCons (fOne gTupleW (fVar 11)) (fCons (fVar 9) fNil))))))
def lC2 : Rho → Option Out := (fSet 16 (fLc itT [21] (fTwo gIx (fVar 10) (fC (.int 2))) (hName 21) (fun _ => some true) (fIf (fTest (fTwo (gIs false) (fVar 21) (fC .non))) (fC (.int 0)) (fTwo gIx (fVar 11) (fVar 21)))))
def lC3 : Rho → Option Out := (fAsg (fTwo gIx (fVar 0) (fTwo gIx (fVar 10) (fC (.int 1)))) (hTup 3 (hCons (hName 17) (hCons (hName 18) (hCons (hName 19) hNil)))))
def lC4 : Rho → Option Out := (fRow [6, 12, 11, 9] (fCons (fTwo gIx (fVar 10) (fC (.int 1))) (fCons (fC (.int 0)) (fCons (fTwo gAdd (fVar 16) (fTwo gMul (fLst (fCons (fC (.int 0)) fNil)) (fTwo gSub2 (fVar 18) (fOne gLen (fVar 16))))) (fCons (fTwo gIx (fVar 10) (fC (.int 3))) fNil)))))
theorem lB6_is : lB6 = fSeq lC1 (fSeq lC2 (fSeq lC3 lC4)) := rfl
def lFin : Rho → Option Out := (fRetE (fTup (fCons (fOne gTupleW (fTwo gAdd (fVar 2) (fLst (fCons (fTup (fCons (fVar 6) (fCons (fVar 12) (fCons (fOne gTupleW (fVar 11)) (fCons (fVar 9) fNil))))) fNil)))) (fCons (fOne gTuple (fOne gSortIt (fVar 3))) (fCons (fVar 4) (fCons (fVar 5) fNil))))))
theorem F_law_do_is : F_law_do = fRun 22 2 (fSeq lS1 (fSeq lS2 (fSeq lS3 (fSeq lS4 (fSeq (fIfS lT1 lB1 (fIfS lT2 lB2 (fIfS lT3 lB3 (fIfS lT4 lB4 (fIfS lT5 lB5 (fIfS lT6 lB6 lB7)))))) lFin))))) := rfl
theorem seq_nx {G G' : Rho → Option Out} {ρ ρ1 : Rho} (h : G ρ = some (.nx ρ1)) : fSeq G G' ρ = G' ρ1 := by
  unfold fSeq
  rw [h]
  rfl
theorem seq_rt {G G' : Rho → Option Out} {ρ : Rho} {s : SD} (h : G ρ = some (.rt s)) : fSeq G G' ρ = some (.rt s) := by
  unfold fSeq
  rw [h]
  rfl
theorem ifs_t {T : Rho → Option Bool} {G G' : Rho → Option Out} {ρ : Rho} (h : T ρ = some true) : fIfS T G G' ρ = G ρ := by
  unfold fIfS
  rw [h]
  rfl
theorem ifs_f {T : Rho → Option Bool} {G G' : Rho → Option Out} {ρ : Rho} (h : T ρ = some false) : fIfS T G G' ρ = G' ρ := by
  unfold fIfS
  rw [h]
  rfl
theorem asg_of {F : Rho → Option SD} {Fg : D → Rho → Option Rho} {ρ ρ' : Rho} {d : D} (h1 : F ρ = some (.v d)) (h2 : Fg d ρ = some ρ') : fAsg F Fg ρ = some (.nx ρ') := by
  unfold fAsg
  rw [h1]
  simp [h2]
/-- the law's frame when it comes to the word -/
abbrev lEnv (fs st : D) (fr : List D) (kvs : List (Key × V)) (fre top n idx regs to one : D) (row : List D) (later word : D) : Rho :=
  [some (.v fs), some (.v st), some (.lst .own fr), some (.dic .own kvs), some (.v fre), some (.v top), some (.v n), some (.v idx), some (.v regs), some (.v to), some (.v one), some (.lst .own row), some (.v later), some (.v word), none, none, none, none, none, none, none, none]
def prl : Option D → List D
  | none => []
  | some q => [q]
section
variable {pre : Option D} {n : Nat} {f : FM} {to hp fr top fs : D} {r s : Rg} {w : Int} {t : Nat} {cs : List (List Ins)} {i : Ins} {h : List (Int × Int)}
theorem lS1_ok (hn : (keysI h).Nodup) : lS1 [some (.v fs), some (.v (st9 pre (encF n f to) (heapD h) fr top)), none, none, none, none, none, none, none, none, none, none, none, none, none, none, none, none, none, none, none, none] =
    some (.nx [some (.v fs), some (.v (st9 pre (encF n f to) (heapD h) fr top)), some (.lst .own (frs pre (encF n f to))), some (.dic .own (kv h)), some (.v fr), some (.v top), none, none, none, none, none, none, none, none, none, none, none, none, none, none, none, none]) := by
  have e1 : gIx (.v (st9 pre (encF n f to) (heapD h) fr top)) (.v (.int 0)) = some (.v (.tup false (frs pre (encF n f to)))) := rfl
  have e2 : gIx (.v (st9 pre (encF n f to) (heapD h) fr top)) (.v (.int 1)) = some (.v (heapD h)) := rfl
  have e3 : gIx (.v (st9 pre (encF n f to) (heapD h) fr top)) (.v (.int 2)) = some (.v fr) := rfl
  have e4 : gIx (.v (st9 pre (encF n f to) (heapD h) fr top)) (.v (.int 3)) = some (.v top) := rfl
  have e5 : gList (.v (heapD h)) = some (.lst .new (h.map pairD)) := rfl
  have e6 : gList (.v (.tup false (frs pre (encF n f to)))) = some (.lst .new (frs pre (encF n f to))) := rfl
  have e7 := dictL_kv (o := .new) hn
  simp [lS1, fRow, Dn.setMany, fCons, fNil, fOne, fTwo, fVar, fC, SD.keep, e1, e2, e3, e4, e5, e6, e7]
theorem lS2_ok {st : D} {kvs : List (Key × V)} : lS2 [some (.v fs), some (.v st), some (.lst .own (frs pre (encF n f to))), some (.dic .own kvs), some (.v fr), some (.v top), none, none, none, none, none, none, none, none, none, none, none, none, none, none, none, none] =
    some (.nx [some (.v fs), some (.v st), some (.lst .own (prl pre)), some (.dic .own kvs), some (.v fr), some (.v top), some (.v (.int n)), some (.v (.int f.idx)), some (.v (regD f)), some (.v to), none, none, none, none, none, none, none, none, none, none, none, none]) := by
  cases pre <;> rfl
theorem lS34_ok {st : D} {kvs : List (Key × V)} {fl : List D} {G : Rho → Option Out} (hi : insAt cs n f.idx = some i) {word : Str} {rest : List D} (hw : encI i = .tup false (.str word :: rest)) : fSeq lS3 (fSeq lS4 G) [some (.v (encFs cs)), some (.v st), some (.lst .own fl), some (.dic .own kvs), some (.v fr), some (.v top), some (.v (.int n)), some (.v (.int f.idx)), some (.v (regD f)), some (.v to), none, none, none, none, none, none, none, none, none, none, none, none] =
    G (lEnv (encFs cs) st fl kvs fr top (.int n) (.int f.idx) (regD f) to (encI i) [.int f.a, .int f.b, .int f.c] (.int (f.idx + 1)) (.str word)) := by
  unfold insAt at hi
  obtain ⟨c, hc, hi⟩ := Option.bind_eq_some_iff.mp hi
  have h1 := fs_ix hc
  have h2 : gIx (.v (encC c)) (.v (.int 2)) = some (.v (.tup false (c.map encI))) := rfl
  have h3 : gIx (.v (.tup false (c.map encI))) (.v (.int (f.idx : Int))) = some (.v (encI i)) := ix_nat (by simp [hi])
  have e6 : gList (.v (regD f)) = some (.lst .new [.int f.a, .int f.b, .int f.c]) := rfl
  have e7 : gAdd (.v (.int (f.idx : Int))) (.v (.int 1)) = some (.v (.int (f.idx + 1))) := rfl
  have a : lS3 [some (.v (encFs cs)), some (.v st), some (.lst .own fl), some (.dic .own kvs), some (.v fr), some (.v top), some (.v (.int n)), some (.v (.int f.idx)), some (.v (regD f)), some (.v to), none, none, none, none, none, none, none, none, none, none, none, none] =
      some (.nx [some (.v (encFs cs)), some (.v st), some (.lst .own fl), some (.dic .own kvs), some (.v fr), some (.v top), some (.v (.int n)), some (.v (.int f.idx)), some (.v (regD f)), some (.v to), some (.v (encI i)), some (.lst .own [.int f.a, .int f.b, .int f.c]), some (.v (.int (f.idx + 1))), none, none, none, none, none, none, none, none, none]) := by
    simp [lS3, fRow, Dn.setMany, fCons, fNil, fOne, fTwo, fVar, fC, SD.keep, h1, h2, h3, e6, e7]
  rw [seq_nx a]
  have q := ix0 (p := false) (y := .str word) (ds := rest)
  rw [← hw] at q
  refine seq_nx ?_
  simp [lS4, fSet, fTwo, fVar, fC, SD.keep, q]
theorem lFin_ok {st idx regs one word : D} {row : List D} {later : D} {x14 x15 x16 x17 x18 x19 x20 x21 : Option SD} : lFin [some (.v fs), some (.v st), some (.lst .own (prl pre)), some (.dic .own (kv h)), some (.v fr), some (.v top), some (.v (.int n)), some (.v idx), some (.v regs), some (.v to), some (.v one), some (.lst .own row), some (.v later), some (.v word), x14, x15, x16, x17, x18, x19, x20, x21] =
    some (.rt (.v (st9 pre (.tup false [.int n, later, .tup false row, to]) (heapD (sortP h)) fr top))) := by
  have e1 := sortIt_kv .own h
  have e2 : ∀ x : D, gAdd (.lst .own (prl pre)) (.lst .new [x]) = some (.lst .new (frs pre x)) := fun x => by cases pre <;> rfl
  have e3 : gTupleW (.lst .own row) = some (.v (.tup false row)) := rfl
  have e4 : ∀ x : D, gTupleW (.lst .new (frs pre x)) = some (.v (.tup false (frs pre x))) := fun _ => rfl
  have e5 : gTuple (.lst .new ((sortP h).map pairD)) = some (.v (heapD (sortP h))) := rfl
  simp [lFin, fRetE, fTup, fLst, fCons, fNil, fOne, fTwo, fVar, SD.fresh, vals, few, e1, e2, e3, e4, e5, st9]
end
/-! ### words -/
abbrev lBR : Rho → Option Out := fIfS lT1 lB1 (fIfS lT2 lB2 (fIfS lT3 lB3 (fIfS lT4 lB4 (fIfS lT5 lB5 (fIfS lT6 lB6 lB7)))))
section
variable {pre : Option D} {n : Nat} {f : FM} {to hp fr top fs st : D} {r s : Rg} {w : Int} {t : Nat} {cs : List (List Ins)} {i : Ins} {m : Mem}
abbrev wEnv (fs st : D) (pre : Option D) (m : Mem) (n : Nat) (f : FM) (to : D) (i : Ins) (word : Str) : Rho := lEnv fs st (prl pre) (kv m.h) (.int m.fr) (.int m.top) (.int n) (.int f.idx) (regD f) to (encI i) [.int f.a, .int f.b, .int f.c] (.int (f.idx + 1)) (.str word)
theorem fin_as {st idx regs one word : D} {row : List D} {later : Int} {x14 x15 x16 x17 x18 x19 x20 x21 : Option SD} {G : Rho → Option Out} {ρ : Rho} {m' : Mem} {h' : List (Int × Int)} {f' : FM} (hs : sortP h' = m'.h) (hr : row = [.int f'.a, .int f'.b, .int f'.c]) (hl : later = f'.idx)
    (hG : G ρ = some (.nx [some (.v fs), some (.v st), some (.lst .own (prl pre)), some (.dic .own (kv h')), some (.v (.int m'.fr)), some (.v (.int m'.top)), some (.v (.int n)), some (.v idx), some (.v regs), some (.v to), some (.v one), some (.lst .own row), some (.v (.int later)), some (.v word), x14, x15, x16, x17, x18, x19, x20, x21])) :
    fSeq G lFin ρ = some (.rt (.v (st9 pre (encF n f' to) (heapD m'.h) (.int m'.fr) (.int m'.top)))) := by
  rw [seq_nx hG, lFin_ok, hs, hr, hl]
  rfl
theorem w_move (hs : sortP m.h = m.h) : fSeq lBR lFin (wEnv fs st pre m n f to (.move r s) "move") = some (.rt (.v (st9 pre (encF n (f.wr r (f.get s)) to) (heapD m.h) (.int m.fr) (.int m.top)))) := by
  refine fin_as (h' := m.h) (f' := f.wr r (f.get s)) hs ?_ ?_ ((ifs_t rfl).trans (asg_of (d := .int (f.get s)) (ρ' := (wEnv fs st pre m n f to (.move r s) "move").set 11 (some (.lst .own [.int (f.wr r (f.get s)).a, .int (f.wr r (f.get s)).b, .int (f.wr r (f.get s)).c]))) ?_ ?_))
  · rfl
  · cases r <;> rfl
  · cases s <;> rfl
  · cases r <;> rfl
theorem w_zero (hs : sortP m.h = m.h) : fSeq lBR lFin (wEnv fs st pre m n f to (.zero r) "zero") = some (.rt (.v (st9 pre (encF n (f.wr r 0) to) (heapD m.h) (.int m.fr) (.int m.top)))) := by
  refine fin_as (h' := m.h) (f' := f.wr r 0) hs ?_ ?_ ((ifs_t rfl).trans (asg_of (d := .int 0) (ρ' := (wEnv fs st pre m n f to (.zero r) "zero").set 11 (some (.lst .own [.int (f.wr r 0).a, .int (f.wr r 0).b, .int (f.wr r 0).c]))) ?_ ?_))
  · rfl
  · cases r <;> rfl
  · rfl
  · cases r <;> rfl
theorem if_t {T : Rho → Option Bool} {F G : Rho → Option SD} {ρ : Rho} (h : T ρ = some true) : fIf T F G ρ = F ρ := by
  unfold fIf
  rw [h]
  rfl
theorem if_f {T : Rho → Option Bool} {F G : Rho → Option SD} {ρ : Rho} (h : T ρ = some false) : fIf T F G ρ = G ρ := by
  unfold fIf
  rw [h]
  rfl
theorem get_at {Fd Fk Fz : Rho → Option SD} {ρ : Rho} {d k z : SD} (h1 : Fd ρ = some d) (h2 : Fk ρ = some k) (h3 : Fz ρ = some z) : fGet Fd Fk Fz ρ = gGet d k z := by
  unfold fGet
  rw [h1]
  simp [h2, h3]
theorem w_load (hs : sortP m.h = m.h) : fSeq lBR lFin (wEnv fs st pre m n f to (.load r s) "load") = some (.rt (.v (st9 pre (encF n (f.wr r (getI m.h (f.get s))) to) (heapD m.h) (.int m.fr) (.int m.top)))) := by
  refine fin_as (h' := m.h) (f' := f.wr r (getI m.h (f.get s))) hs ?_ ?_ ((ifs_t rfl).trans (asg_of (d := .int (getI m.h (f.get s))) (ρ' := (wEnv fs st pre m n f to (.load r s) "load").set 11 (some (.lst .own [.int (f.wr r (getI m.h (f.get s))).a, .int (f.wr r (getI m.h (f.get s))).b, .int (f.wr r (getI m.h (f.get s))).c]))) ?_ ?_))
  · rfl
  · cases r <;> rfl
  · refine (if_f rfl).trans ((if_t rfl).trans ((get_at (d := .dic .own (kv m.h)) (k := .v (.int (f.get s))) (z := .v (.int 0)) rfl ?_ rfl).trans (get_kv _ _ _)))
    cases s <;> rfl
  · cases r <;> rfl
theorem w_store (hf : few (m.h.length + 1) = true) : fSeq lBR lFin (wEnv fs st pre m n f to (.store r s) "store") = some (.rt (.v (st9 pre (encF n f.next to) (heapD (putH m.h (f.get r) (f.get s))) (.int m.fr) (.int m.top)))) := by
  refine fin_as (m' := { m with h := putH m.h (f.get r) (f.get s) }) (h' := putI m.h (f.get r) (f.get s)) (f' := f.next) rfl ?_ ?_ ((ifs_f rfl).trans ((ifs_t rfl).trans (asg_of (d := .int (f.get s)) (ρ' := (wEnv fs st pre m n f to (.store r s) "store").set 3 (some (.dic .own (kv (putI m.h (f.get r) (f.get s)))))) ?_ ?_)))
  · rfl
  · rfl
  · cases s <;> rfl
  · refine subD_kv rfl ?_ hf
    cases r <;> rfl
theorem w_clear (hf : few (m.h.length + 1) = true) : fSeq lBR lFin (wEnv fs st pre m n f to (.clear r) "clear") = some (.rt (.v (st9 pre (encF n f.next to) (heapD (putH m.h (f.get r) 0)) (.int m.fr) (.int m.top)))) := by
  refine fin_as (m' := { m with h := putH m.h (f.get r) 0 }) (h' := putI m.h (f.get r) 0) (f' := f.next) rfl ?_ ?_ ((ifs_f rfl).trans ((ifs_t rfl).trans (asg_of (d := .int 0) (ρ' := (wEnv fs st pre m n f to (.clear r) "clear").set 3 (some (.dic .own (kv (putI m.h (f.get r) 0))))) ?_ ?_)))
  · rfl
  · rfl
  · rfl
  · refine subD_kv rfl ?_ hf
    cases r <;> rfl
theorem tup2 {G1 G2 : D → Rho → Option Rho} {a b : D} {ρ ρ1 ρ2 : Rho} (h1 : G1 a ρ = some ρ1) (h2 : G2 b ρ1 = some ρ2) : hTup 2 (hCons G1 (hCons G2 hNil)) (.tup false [a, b]) ρ = some ρ2 := by
  simp [hTup, hCons, hNil, h1, h2]
theorem w_release (hf : few (m.h.length + 1) = true) : fSeq lBR lFin (wEnv fs st pre m n f to (.release r) "release") = some (.rt (.v (st9 pre (encF n f.next to) (heapD (putH m.h (f.get r) m.fr)) (.int (f.get r)) (.int m.top)))) := by
  refine fin_as (m' := ⟨putH m.h (f.get r) m.fr, f.get r, m.top⟩) (h' := putI m.h (f.get r) m.fr) (f' := f.next) rfl ?_ ?_ ((ifs_f rfl).trans ((ifs_f rfl).trans ((ifs_f rfl).trans ((ifs_t rfl).trans (asg_of (d := .tup false [.int m.fr, .int (f.get r)]) (ρ' := ((wEnv fs st pre m n f to (.release r) "release").set 3 (some (.dic .own (kv (putI m.h (f.get r) m.fr))))).set 4 (some (.v (.int (f.get r))))) ?_ ?_)))))
  · rfl
  · rfl
  · cases r <;> rfl
  · refine tup2 (subD_kv rfl ?_ hf) rfl
    cases r <;> rfl
theorem set_of {F : Rho → Option SD} {j : Nat} {ρ : Rho} {s s' : SD} (h1 : F ρ = some s) (h2 : s.keep = some s') : fSet j F ρ = some (.nx (ρ.set j (some s'))) := by
  unfold fSet
  rw [h1]
  simp [h2]
theorem w_alloc0 {h : List (Int × Int)} {top : Int} (hf : few (h.length + 1) = true) : fSeq lBR lFin (wEnv fs st pre ⟨h, 0, top⟩ n f to (.alloc r) "alloc") = some (.rt (.v (st9 pre (encF n (f.wr r top) to) (heapD (putH h top 0)) (.int 0) (.int (top + 1))))) := by
  refine fin_as (m' := ⟨putH h top 0, 0, top + 1⟩) (h' := putI h top 0) (f' := f.wr r top) rfl ?_ ?_ ((ifs_f rfl).trans ((ifs_f rfl).trans ((ifs_t rfl).trans ((seq_nx (set_of (s := .v (.int top)) rfl rfl)).trans ((seq_nx (asg_of (d := .tup false [.int 0, .int (top + 1)]) rfl rfl)).trans (asg_of (d := .tup false [.int 0, .int top])
    (ρ' := (((((wEnv fs st pre ⟨h, 0, top⟩ n f to (.alloc r) "alloc").set 14 (some (.v (.int top)))).set 4 (some (.v (.int 0)))).set 5 (some (.v (.int (top + 1))))).set 3 (some (.dic .own (kv (putI h top 0))))).set 11 (some (.lst .own [.int (f.wr r top).a, .int (f.wr r top).b, .int (f.wr r top).c]))) ?_ ?_))))))
  · rfl
  · cases r <;> rfl
  · rfl
  · refine tup2 (subD_kv rfl rfl hf) ?_
    cases r <;> rfl
theorem w_alloc1 {h : List (Int × Int)} {a top : Int} (ha : ¬ a = 0) (hf : few (h.length + 1) = true) : fSeq lBR lFin (wEnv fs st pre ⟨h, a, top⟩ n f to (.alloc r) "alloc") = some (.rt (.v (st9 pre (encF n (f.wr r a) to) (heapD (putH h a 0)) (.int (getI h a)) (.int top)))) := by
  have eb := eqI true a 0
  rw [decide_eq_false ha] at eb
  have et : ∀ ρ : Rho, fVar 4 ρ = some (.v (.int a)) → fTest (fTwo (gEq true) (fVar 4) (fC (.int 0))) ρ = some true := fun ρ e => by simp [fTest, fTwo, fC, e, eb, SD.bool?]
  refine fin_as (m' := ⟨putH h a 0, getI h a, top⟩) (h' := putI h a 0) (f' := f.wr r a) rfl ?_ ?_ ((ifs_f rfl).trans ((ifs_f rfl).trans ((ifs_t rfl).trans ((seq_nx (set_of (s := .v (.int a)) ((if_t (et _ rfl)).trans rfl) rfl)).trans ((seq_nx (asg_of (d := .tup false [.int (getI h a), .int top]) ((if_t (et _ rfl)).trans ?_) rfl)).trans (asg_of (d := .tup false [.int 0, .int a])
    (ρ' := (((((wEnv fs st pre ⟨h, a, top⟩ n f to (.alloc r) "alloc").set 14 (some (.v (.int a)))).set 4 (some (.v (.int (getI h a))))).set 5 (some (.v (.int top)))).set 3 (some (.dic .own (kv (putI h a 0))))).set 11 (some (.lst .own [.int (f.wr r a).a, .int (f.wr r a).b, .int (f.wr r a).c]))) ?_ ?_))))))
  · rfl
  · cases r <;> rfl
  · have eg := get_kv .own h a
    simp [fTup, fCons, fNil, fGet, fVar, fC, eg, vals, few]
  · rfl
  · refine tup2 (subD_kv rfl rfl hf) ?_
    cases r <;> rfl
theorem w_jump (hs : sortP m.h = m.h) : fSeq lBR lFin (wEnv fs st pre m n f to (.jump t) "jump") = some (.rt (.v (st9 pre (encF n { f with idx := t } to) (heapD m.h) (.int m.fr) (.int m.top)))) := by
  refine fin_as (h' := m.h) (f' := { f with idx := t }) (later := t) hs ?_ ?_ ((ifs_f rfl).trans ((ifs_f rfl).trans ((ifs_f rfl).trans ((ifs_f rfl).trans ((ifs_t rfl).trans ((seq_nx (set_of (s := .v (.bl true)) rfl rfl)).trans (set_of (s := .v (.int t)) rfl rfl)))))))
  · rfl
  · rfl
theorem tst15 {ρ : Rho} {b : Bool} (h : fVar 15 ρ = some (.v (.bl b))) : fTest (fVar 15) ρ = some b := by simp [fTest, h, SD.bool?]
theorem w_same (hs : sortP m.h = m.h) : fSeq lBR lFin (wEnv fs st pre m n f to (.same r s t) "same") = some (.rt (.v (st9 pre (encF n (if f.get r = f.get s then { f with idx := t } else f.next) to) (heapD m.h) (.int m.fr) (.int m.top)))) := by
  have e1 : gIx (.lst .own [.int f.a, .int f.b, .int f.c]) (.v (rD r)) = some (.v (.int (f.get r))) := by cases r <;> rfl
  have e2 : gIx (.lst .own [.int f.a, .int f.b, .int f.c]) (.v (rD s)) = some (.v (.int (f.get s))) := by cases s <;> rfl
  have q1 : (gIx (.v (encI (.same r s t))) (.v (.int 1))) = some (.v (rD r)) := rfl
  have q2 : (gIx (.v (encI (.same r s t))) (.v (.int 2))) = some (.v (rD s)) := rfl
  have t1 : gEq false (.v (.str "same")) (.v (.str "jump")) = some (.v (.bl false)) := rfl
  have t2 : gEq false (.v (.str "same")) (.v (.str "same")) = some (.v (.bl true)) := rfl
  have hv : (fOrV (fTwo (gEq false) (fVar 13) (fC (.str "jump"))) (fTwo (gEq false) (fTwo gIx (fVar 11) (fTwo gIx (fVar 10) (fC (.int 1)))) (fIf (fTest (fTwo (gEq false) (fVar 13) (fC (.str "same")))) (fTwo gIx (fVar 11) (fTwo gIx (fVar 10) (fC (.int 2)))) (fC (.int 0))))) (wEnv fs st pre m n f to (.same r s t) "same") = some (.v (.bl (decide (f.get r = f.get s)))) := by
    simp [fOrV, fTwo, fVar, fC, fIf, fTest, SD.bool?, e1, e2, q1, q2, t1, t2, eqI]
  by_cases e : f.get r = f.get s
  · rw [if_pos e]
    rw [decide_eq_true e] at hv
    exact fin_as (h' := m.h) (f' := { f with idx := t }) (later := t) hs rfl rfl ((ifs_f rfl).trans ((ifs_f rfl).trans ((ifs_f rfl).trans ((ifs_f rfl).trans ((ifs_t rfl).trans ((seq_nx (set_of (s := .v (.bl true)) hv rfl)).trans (set_of (s := .v (.int t)) ((if_t (tst15 rfl)).trans rfl) rfl)))))))
  · rw [if_neg e]
    rw [decide_eq_false e] at hv
    exact fin_as (h' := m.h) (f' := f.next) (later := f.idx + 1) hs rfl rfl ((ifs_f rfl).trans ((ifs_f rfl).trans ((ifs_f rfl).trans ((ifs_f rfl).trans ((ifs_t rfl).trans ((seq_nx (set_of (s := .v (.bl false)) hv rfl)).trans (set_of (s := .v (.int (f.idx + 1))) ((if_f (tst15 rfl)).trans rfl) rfl)))))))
theorem w_nil (hs : sortP m.h = m.h) : fSeq lBR lFin (wEnv fs st pre m n f to (.nil r t) "none") = some (.rt (.v (st9 pre (encF n (if f.get r = 0 then { f with idx := t } else f.next) to) (heapD m.h) (.int m.fr) (.int m.top)))) := by
  have e1 : gIx (.lst .own [.int f.a, .int f.b, .int f.c]) (.v (rD r)) = some (.v (.int (f.get r))) := by cases r <;> rfl
  have q1 : (gIx (.v (encI (.nil r t))) (.v (.int 1))) = some (.v (rD r)) := rfl
  have t1 : gEq false (.v (.str "none")) (.v (.str "jump")) = some (.v (.bl false)) := rfl
  have t2 : gEq false (.v (.str "none")) (.v (.str "same")) = some (.v (.bl false)) := rfl
  have hv : (fOrV (fTwo (gEq false) (fVar 13) (fC (.str "jump"))) (fTwo (gEq false) (fTwo gIx (fVar 11) (fTwo gIx (fVar 10) (fC (.int 1)))) (fIf (fTest (fTwo (gEq false) (fVar 13) (fC (.str "same")))) (fTwo gIx (fVar 11) (fTwo gIx (fVar 10) (fC (.int 2)))) (fC (.int 0))))) (wEnv fs st pre m n f to (.nil r t) "none") = some (.v (.bl (decide (f.get r = 0)))) := by
    simp [fOrV, fTwo, fVar, fC, fIf, fTest, SD.bool?, e1, q1, t1, t2, eqI]
  by_cases e : f.get r = 0
  · rw [if_pos e]
    rw [decide_eq_true e] at hv
    exact fin_as (h' := m.h) (f' := { f with idx := t }) (later := t) hs rfl rfl ((ifs_f rfl).trans ((ifs_f rfl).trans ((ifs_f rfl).trans ((ifs_f rfl).trans ((ifs_t rfl).trans ((seq_nx (set_of (s := .v (.bl true)) hv rfl)).trans (set_of (s := .v (.int t)) ((if_t (tst15 rfl)).trans rfl) rfl)))))))
  · rw [if_neg e]
    rw [decide_eq_false e] at hv
    exact fin_as (h' := m.h) (f' := f.next) (later := f.idx + 1) hs rfl rfl ((ifs_f rfl).trans ((ifs_f rfl).trans ((ifs_f rfl).trans ((ifs_f rfl).trans ((ifs_t rfl).trans ((seq_nx (set_of (s := .v (.bl false)) hv rfl)).trans (set_of (s := .v (.int (f.idx + 1))) ((if_f (tst15 rfl)).trans rfl) rfl)))))))
end
/-! ### ends -/
section
variable {pre : Option D} {n : Nat} {f : FM} {to hp fr top fs st : D} {r s : Rg} {w : Int} {t : Nat} {cs : List (List Ins)} {i : Ins} {m : Mem}
theorem ll1 (v : Option Int) : F_law_left [.lst .bor [], .v (.tup false [hp, fr, top]), .v (oD v), .v (regD f), .v to] = some (.v (.tup false [.tup false [.tup false [.int (-1), oD v, regD f, .non]], hp, fr, top])) := rfl
theorem ll2 {f0 : FM} {b : Bool} (v : Option Int) : F_law_left [.lst .bor [encF 0 f0 .non], .v (.tup false [hp, fr, top]), .v (oD v), .v (regD f), .v (bD b)] = some (.v (st9 none (encF 0 (if b then f0.set .r2 (v.getD 0) else f0) .non) hp fr top)) := by
  cases b <;> cases v <;> rfl
theorem ret_at {F : Rho → Option SD} {ρ : Rho} {d : D} (h : F ρ = some (.v d)) : fRetE F ρ = some (.rt (.v d)) := by
  unfold fRetE
  rw [h]
  rfl
theorem lB7b_ok {fl : List D} {h : List (Int × Int)} {idx regs one word later : D} {v : Option Int} {d : D} {x14 x15 x16 x17 x18 x19 x21 : Option SD} (hs : sortP h = h)
    (hL : F_law_left [.lst .bor fl, .v (.tup false [heapD h, fr, top]), .v (oD v), .v (regD f), .v to] = some (.v d)) :
    lB7b [some (.v fs), some (.v st), some (.lst .own fl), some (.dic .own (kv h)), some (.v fr), some (.v top), some (.v (.int n)), some (.v idx), some (.v regs), some (.v to), some (.v one), some (.lst .own [.int f.a, .int f.b, .int f.c]), some (.v later), some (.v word), x14, x15, x16, x17, x18, x19, some (.v (oD v)), x21] = some (.rt (.v d)) := by
  have e1 := sortIt_kv .own h
  have e3 : gTupleW (.lst .own [.int f.a, .int f.b, .int f.c]) = some (.v (regD f)) := rfl
  have e5 : gTuple (.lst .new ((sortP h).map pairD)) = some (.v (heapD (sortP h))) := rfl
  rw [hs] at e1 e5
  refine ret_at ?_
  simp [fCall, fTup, fCons, fNil, fOne, fVar, vals, few, SD.bor, e1, e3, e5, hL]
theorem w_end {v : Option Int} {d : D} {word : Str} (hs : sortP m.h = m.h) (ht : lBR (wEnv fs st pre m n f to i word) = lB7 (wEnv fs st pre m n f to i word)) (hv : lB7a (wEnv fs st pre m n f to i word) = some (.nx ((wEnv fs st pre m n f to i word).set 20 (some (.v (oD v))))))
    (hL : F_law_left [.lst .bor (prl pre), .v (.tup false [heapD m.h, .int m.fr, .int m.top]), .v (oD v), .v (regD f), .v to] = some (.v d)) : fSeq lBR lFin (wEnv fs st pre m n f to i word) = some (.rt (.v d)) := by
  refine seq_rt (ht.trans ?_)
  rw [lB7_is, seq_nx hv]
  exact lB7b_ok hs hL
theorem w_call {x : Option Rg} {b : Bool} {c : List Ins} (hs : sortP m.h = m.h) (hc : cs[1]? = some c) : fSeq lBR lFin (wEnv (encFs cs) st none m n f to (.call x b) "call") = some (.rt (.v (st9 (some (encF n f.next to)) (encF ((1 : Nat) : Int) ⟨0, (x.map f.get).getD 0, 0, 0⟩ (bD b)) (heapD m.h) (.int m.fr) (.int m.top)))) := by
  have h1 : gIx (.v (encFs cs)) (.v (.int 1)) = some (.v (encC c)) := fs_ix (k := 1) hc
  refine fin_as (pre := some (encF n f.next to)) (n := 1) (h' := m.h) (f' := ⟨0, (x.map f.get).getD 0, 0, 0⟩) (later := 0) (row := [.int ((x.map f.get).getD 0), .int 0, .int 0]) (fs := encFs cs) (st := st) (idx := .int f.idx) (regs := regD f) (to := bD b) (one := encI (.call x b)) (word := .str "call")
    (x14 := none) (x15 := none) (x16 := some (.lst .own [.int ((x.map f.get).getD 0)])) (x17 := some (.v (.int 1))) (x18 := some (.v (.int 3))) (x19 := some (.v (.tup false (c.map encI)))) (x20 := none) (x21 := none) hs rfl rfl ((ifs_f rfl).trans ((ifs_f rfl).trans ((ifs_f rfl).trans ((ifs_f rfl).trans ((ifs_f rfl).trans ((ifs_t rfl).trans ?_))))))
  rw [lB6_is]
  refine (seq_nx (ρ1 := (wEnv (encFs cs) st none m n f to (.call x b) "call").set 2 (some (.lst .own [encF n f.next to]))) rfl).trans ?_
  refine (seq_nx (ρ1 := ((wEnv (encFs cs) st none m n f to (.call x b) "call").set 2 (some (.lst .own [encF n f.next to]))).set 16 (some (.lst .own [.int ((x.map f.get).getD 0)]))) ?_).trans ?_
  · cases x with
    | none => rfl
    | some q => cases q <;> rfl
  refine (seq_nx (asg_of (d := encC c) h1 rfl)).trans ?_
  cases b <;> rfl
end
/-! ### whole -/
theorem run_rt {n k : Nat} {G : Rho → Option Out} {args : List SD} {s : SD} (hl : args.length = k) (h : G (args.map some ++ List.replicate (n - k) none) = some (.rt s)) : fRun n k G args = some s := by
  unfold fRun
  rw [if_pos hl, h]
  rfl
section
variable {pre : Option D} {n : Nat} {f : FM} {to hp fr top fs st : D} {r s : Rg} {w : Int} {t : Nat} {cs : List (List Ins)} {i : Ins} {m : Mem}
theorem do_of {d : D} {word : Str} {rest : List D} (hn : (keysI m.h).Nodup) (hi : insAt cs n f.idx = some i) (hw : encI i = .tup false (.str word :: rest))
    (h : fSeq lBR lFin (wEnv (encFs cs) (st9 pre (encF n f to) (heapD m.h) (.int m.fr) (.int m.top)) pre m n f to i word) = some (.rt (.v d))) :
    F_law_do [.v (encFs cs), .v (st9 pre (encF n f to) (heapD m.h) (.int m.fr) (.int m.top))] = some (.v d) := by
  rw [F_law_do_is]
  refine run_rt rfl ?_
  refine (seq_nx (lS1_ok hn)).trans ?_
  refine (seq_nx lS2_ok).trans ?_
  exact (lS34_ok hi hw).trans h
theorem do_go {m' : Mem} {f' : FM} (hn : (keysI m.h).Nodup) (hf : few (m.h.length + 1) = true) (hs : sortP m.h = m.h) (hi : insAt cs n f.idx = some i) (h : exI i f m = .go f' m') :
    F_law_do [.v (encFs cs), .v (st9 pre (encF n f to) (heapD m.h) (.int m.fr) (.int m.top))] = some (.v (st9 pre (encF n f' to) (heapD m'.h) (.int m'.fr) (.int m'.top))) := by
  cases i with
  | move r s => injection h with h1 h2; subst h1 h2; exact do_of hn hi rfl (w_move hs)
  | zero r => injection h with h1 h2; subst h1 h2; exact do_of hn hi rfl (w_zero hs)
  | load r s => injection h with h1 h2; subst h1 h2; exact do_of hn hi rfl (w_load hs)
  | store r s => injection h with h1 h2; subst h1 h2; exact do_of hn hi rfl (w_store hf)
  | clear r => injection h with h1 h2; subst h1 h2; exact do_of hn hi rfl (w_clear hf)
  | release r => injection h with h1 h2; subst h1 h2; exact do_of hn hi rfl (w_release hf)
  | alloc r =>
    obtain ⟨hh, a, t⟩ := m
    simp only [exI] at h
    by_cases e : a = 0
    · subst e
      rw [if_pos rfl] at h
      injection h with h1 h2
      subst h1 h2
      exact do_of (m := ⟨hh, 0, t⟩) hn hi rfl (w_alloc0 hf)
    · rw [if_neg e] at h
      injection h with h1 h2
      subst h1 h2
      exact do_of (m := ⟨hh, a, t⟩) hn hi rfl (w_alloc1 e hf)
  | same r s t =>
    refine (do_of hn hi rfl (w_same hs)).trans ?_
    simp only [exI] at h
    by_cases e : f.get r = f.get s
    · rw [if_pos e] at h ⊢
      injection h with h1 h2
      subst h1 h2
      rfl
    · rw [if_neg e] at h ⊢
      injection h with h1 h2
      subst h1 h2
      rfl
  | nil r t =>
    refine (do_of hn hi rfl (w_nil hs)).trans ?_
    simp only [exI] at h
    by_cases e : f.get r = 0
    · rw [if_pos e] at h ⊢
      injection h with h1 h2
      subst h1 h2
      rfl
    · rw [if_neg e] at h ⊢
      injection h with h1 h2
      subst h1 h2
      rfl
  | jump t => injection h with h1 h2; subst h1 h2; exact do_of hn hi rfl (w_jump hs)
  | ret v => cases v <;> cases h
  | retn => cases h
  | call x b => cases h
theorem do_re {v : Option Int} {d : D} (hn : (keysI m.h).Nodup) (hs : sortP m.h = m.h) (hi : insAt cs n f.idx = some i) (h : exI i f m = .ret v)
    (hL : F_law_left [.lst .bor (prl pre), .v (.tup false [heapD m.h, .int m.fr, .int m.top]), .v (oD v), .v (regD f), .v to] = some (.v d)) :
    F_law_do [.v (encFs cs), .v (st9 pre (encF n f to) (heapD m.h) (.int m.fr) (.int m.top))] = some (.v d) := by
  cases i with
  | ret q =>
    cases q with
    | true => injection h with h; subst h; exact do_of hn hi rfl (w_end hs rfl rfl hL)
    | false => injection h with h; subst h; exact do_of hn hi rfl (w_end hs rfl rfl hL)
  | retn => injection h with h; subst h; exact do_of hn hi rfl (w_end hs rfl rfl hL)
  | alloc r => simp only [exI] at h; split at h <;> simp at h
  | same r s t => simp only [exI] at h; split at h <;> simp at h
  | nil r t => simp only [exI] at h; split at h <;> simp at h
  | _ => cases h
end
theorem F_do_is {cs : List (List Ins)} {s s' : St9} (C : CallOk cs) (M : MOk s.m) (hs : sortP s.m.h = s.m.h) (h : stepM cs s = some s') : F_law_do [.v (encFs cs), .v (encS s)] = some (.v (encS s')) := by
  obtain ⟨i, hi, h⟩ := Option.bind_eq_some_iff.mp h
  cases s with
  | one f m =>
    replace hi : insAt cs 0 f.idx = some i := hi
    rw [one_is]
    cases e : exI i f m with
    | go f' m' =>
      simp only [doM, e, Option.some.injEq] at h
      subst h
      rw [one_is]
      exact do_go M.nd M.few hs hi e
    | ret v =>
      simp only [doM, e, Option.some.injEq] at h
      subst h
      rw [done_is]
      exact do_re M.nd hs hi e (ll1 v)
    | call w b =>
      obtain ⟨x, rfl, rfl⟩ := ex_call e
      simp only [doM, e, Option.some.injEq] at h
      subst h
      rw [two_is]
      obtain ⟨c, hc⟩ := Option.isSome_iff_exists.mp (C _ _ _ hi)
      exact do_of M.nd hi rfl (w_call hs hc)
  | two f g b m =>
    replace hi : insAt cs 1 g.idx = some i := hi
    rw [two_is]
    cases e : exI i g m with
    | go f' m' =>
      simp only [doM, e, Option.some.injEq] at h
      subst h
      rw [two_is]
      exact do_go M.nd M.few hs hi e
    | ret v =>
      simp only [doM, e, Option.some.injEq] at h
      subst h
      rw [one_is]
      exact do_re M.nd hs hi e (ll2 v)
    | call w b => simp [doM, e] at h
  | done g a b c m => cases hi

end K9
/-! What is asked; cells; checked steps. -/
namespace K9
open PySem L2 Dn
def F_asked_byG (fI : Rho → Option SD) (fR : Rho → Option SD) : List SD → Option SD := fRun 4 2 ((fSeq (fRow [2, 3] (fCons fI (fCons fR fNil)))
    (fSeq (fIfS (fTest (fTwo (gEq false) (fTwo gIx (fVar 2) (fC (.int 0))) (fC (.str "load")))) (fRetE (fTwo gIx (fVar 3) (fTwo gIx (fVar 2) (fC (.int 2))))) (fun ρ => some (.nx ρ)))
    (fRetE (fIf (fTest (fTwo (gIn false) (fTwo gIx (fVar 2) (fC (.int 0))) (fTup (fCons (fC (.str "store")) (fCons (fC (.str "clear")) (fCons (fC (.str "release")) fNil)))))) (fTwo gIx (fVar 3) (fTwo gIx (fVar 2) (fC (.int 1)))) (fC .non))))))
theorem F_asked_by_G : F_asked_by = F_asked_byG ((fCall F_instruction_at (fCons (fVar 0) (fCons (fVar 1) fNil)))) ((fTwo gIx (fTwo gIx (fTwo gIx (fVar 1) (fC (.int 0))) (fOne gNeg (fC (.int 1)))) (fC (.int 2)))) := rfl
def F_law_askedG (fR : Rho → Option SD) (fX : Rho → Option SD) : List SD → Option SD := fRun 7 2 ((fSeq (fAsg fR (hTup 4 (hCons (hName 2) (hCons (hName 3) (hCons (hName 4) (hCons (hName 5) hNil))))))
    (fSeq (fSet 6 fX)
    (fSeq (fIfS (fTest (fTwo (gEq false) (fTwo gIx (fVar 6) (fC (.int 0))) (fC (.str "load")))) (fRetE (fTwo gIx (fVar 4) (fTwo gIx (fVar 6) (fC (.int 2))))) (fun ρ => some (.nx ρ)))
    (fRetE (fIf (fTest (fTwo (gIn false) (fTwo gIx (fVar 6) (fC (.int 0))) (fTup (fCons (fC (.str "store")) (fCons (fC (.str "clear")) (fCons (fC (.str "release")) fNil)))))) (fTwo gIx (fVar 4) (fTwo gIx (fVar 6) (fC (.int 1)))) (fC .non)))))))
theorem F_law_asked_G : F_law_asked = F_law_askedG ((fTwo gIx (fTwo gIx (fVar 1) (fC (.int 0))) (fOne gNeg (fC (.int 1))))) ((fTwo gIx (fTwo gIx (fTwo gIx (fVar 0) (fVar 2)) (fC (.int 2))) (fVar 3))) := rfl
def askM : Ins → FM → Option Int
  | .load _ s, f => some (f.get s)
  | .store r _, f => some (f.get r)
  | .clear r, f => some (f.get r)
  | .release r, f => some (f.get r)
  | _, _ => none
section
variable {pre : Option D} {n : Nat} {f : FM} {to hp fr top fs : D} {cs : List (List Ins)} {i : Ins}
theorem asked_go (fs st : D) : F_asked_byG (fun _ => some (.v (encI i))) (fun _ => some (.v (regD f))) [.v fs, .v st] = some (.v (oD (askM i f))) := by
  cases i with
  | load r s => cases s <;> rfl
  | store r s => cases r <;> rfl
  | clear r => cases r <;> rfl
  | release r => cases r <;> rfl
  | ret v => cases v <;> rfl
  | _ => rfl
theorem asked_ok (he : F_is_ended [.v (st9 pre (encF n f to) hp fr top)] = some (.v (.bl false))) (hi : insAt cs n f.idx = some i) : F_asked_by [.v (encFs cs), .v (st9 pre (encF n f to) hp fr top)] = some (.v (oD (askM i f))) := by
  have h1 := inst_ok he hi
  have h2 : (fTwo gIx (fTwo gIx (fTwo gIx (fVar 1) (fC (.int 0))) (fOne gNeg (fC (.int 1)))) (fC (.int 2))) [some (.v (encFs cs)), some (.v (st9 pre (encF n f to) hp fr top)), none, none] = some (.v (regD f)) := by cases pre <;> rfl
  have h3 : (fCall F_instruction_at (fCons (fVar 0) (fCons (fVar 1) fNil))) [some (.v (encFs cs)), some (.v (st9 pre (encF n f to) hp fr top)), none, none] = some (.v (encI i)) := by
    simp [fCall, fCons, fNil, fVar, SD.bor, h1]
  rw [F_asked_by_G]
  refine (show _ = F_asked_byG (fun _ => (fCall F_instruction_at (fCons (fVar 0) (fCons (fVar 1) fNil))) [some (.v (encFs cs)), some (.v (st9 pre (encF n f to) hp fr top)), none, none]) (fun _ => (fTwo gIx (fTwo gIx (fTwo gIx (fVar 1) (fC (.int 0))) (fOne gNeg (fC (.int 1)))) (fC (.int 2))) [some (.v (encFs cs)), some (.v (st9 pre (encF n f to) hp fr top)), none, none]) [.v (encFs cs), .v (st9 pre (encF n f to) hp fr top)] from rfl).trans ?_
  rw [h2, h3]
  exact asked_go _ _
theorem law_asked_go (fs st : D) : F_law_askedG (fun _ => some (.v (encF n f to))) (fun _ => some (.v (encI i))) [.v fs, .v st] = some (.v (oD (askM i f))) := by
  cases i with
  | load r s => cases s <;> rfl
  | store r s => cases r <;> rfl
  | clear r => cases r <;> rfl
  | release r => cases r <;> rfl
  | ret v => cases v <;> rfl
  | _ => rfl
theorem law_asked_ok (hi : insAt cs n f.idx = some i) : F_law_asked [.v (encFs cs), .v (st9 pre (encF n f to) hp fr top)] = some (.v (oD (askM i f))) := by
  unfold insAt at hi
  obtain ⟨c, hc, hi⟩ := Option.bind_eq_some_iff.mp hi
  have h1 := fs_ix hc
  have h2 : gIx (.v (encC c)) (.v (.int 2)) = some (.v (.tup false (c.map encI))) := rfl
  have h3 : gIx (.v (.tup false (c.map encI))) (.v (.int (f.idx : Int))) = some (.v (encI i)) := ix_nat (by simp [hi])
  have h4 : (fTwo gIx (fTwo gIx (fTwo gIx (fVar 0) (fVar 2)) (fC (.int 2))) (fVar 3)) [some (.v (encFs cs)), some (.v (st9 pre (encF n f to) hp fr top)), some (.v (.int n)), some (.v (.int f.idx)), some (.v (regD f)), some (.v to), none] = some (.v (encI i)) := by
    simp [fTwo, fVar, fC, h1, h2, h3]
  have h5 : (fTwo gIx (fTwo gIx (fVar 1) (fC (.int 0))) (fOne gNeg (fC (.int 1)))) [some (.v (encFs cs)), some (.v (st9 pre (encF n f to) hp fr top)), none, none, none, none, none] = some (.v (encF n f to)) := by cases pre <;> rfl
  rw [F_law_asked_G]
  refine (show _ = F_law_askedG (fun _ => (fTwo gIx (fTwo gIx (fVar 1) (fC (.int 0))) (fOne gNeg (fC (.int 1)))) [some (.v (encFs cs)), some (.v (st9 pre (encF n f to) hp fr top)), none, none, none, none, none]) _ [.v (encFs cs), .v (st9 pre (encF n f to) hp fr top)] from rfl).trans ?_
  rw [h5]
  refine (show _ = F_law_askedG (fun _ => some (.v (encF n f to))) (fun _ => (fTwo gIx (fTwo gIx (fTwo gIx (fVar 0) (fVar 2)) (fC (.int 2))) (fVar 3)) [some (.v (encFs cs)), some (.v (st9 pre (encF n f to) hp fr top)), some (.v (.int n)), some (.v (.int f.idx)), some (.v (regD f)), some (.v to), none]) [.v (encFs cs), .v (st9 pre (encF n f to) hp fr top)] from rfl).trans ?_
  rw [h4]
  exact law_asked_go _ _
end

end K9
/-! Cells; checked steps. -/
namespace K9
open PySem L2 Dn
def kS1 : Rho → Option Out := (fRow [3, 4] (fCons (fTwo gIx (fCall F_instruction_at (fCons (fVar 0) (fCons (fVar 1) fNil))) (fC (.int 0))) (fCons (fCall F_asked_by (fCons (fVar 0) (fCons (fVar 1) fNil))) fNil)))
def kS2 : Rho → Option Out := (fIfS (fAnd (fTest (fTwo (gIs true) (fVar 4) (fC .non))) (fTest (fTwo (gIn true) (fVar 4) (fVar 2)))) (fSeq (fAsg (fSl (fTwo gIx (fTwo gIx (fVar 1) (fC (.int 0))) (fOne gNeg (fC (.int 1)))) (fun _ => some none) (fun ρ => ((fC (.int 2)) ρ).bind fun s => s.int?.map some)) (hTup 2 (hCons (hName 5) (hCons (hName 6) hNil)))) (fun _ => none)) (fun ρ => some (.nx ρ)))
def kS3 : Rho → Option Out := (fSet 7 (fCall F_step (fCons (fVar 0) (fCons (fVar 1) fNil))))
def kS4 : Rho → Option Out := (fIfS (fTest (fTwo (gEq false) (fVar 3) (fC (.str "alloc")))) (fSeq (fSet 8 (fIf (fTest (fTwo (gEq true) (fTwo gIx (fVar 1) (fC (.int 2))) (fC (.int 0)))) (fTwo gIx (fVar 1) (fC (.int 2))) (fTwo gIx (fVar 1) (fC (.int 3))))) (fRetE (fTup (fCons (fVar 7) (fCons (fOne gTupleW (fOne gSortI (fTup (fStar (fVar 2) (fCons (fVar 8) fNil))))) fNil))))) (fun ρ => some (.nx ρ)))
def kS5 : Rho → Option Out := (fIfS (fTest (fTwo (gEq false) (fVar 3) (fC (.str "release")))) (fRetE (fTup (fCons (fVar 7) (fCons (fOne gTupleW (fLc itT [9] (fVar 2) (hName 9) (fTest (fTwo (gEq true) (fVar 9) (fVar 4))) (fVar 9))) fNil)))) (fun ρ => some (.nx ρ)))
def kS6 : Rho → Option Out := (fRetE (fTup (fCons (fVar 7) (fCons (fVar 2) fNil))))
theorem F_checked_step_is : F_checked_step = fRun 10 3 (fSeq kS1 (fSeq kS2 (fSeq kS3 (fSeq kS4 (fSeq kS5 kS6))))) := rfl
def kL1 : Rho → Option Out := (fAsg (fTwo gIx (fTwo gIx (fVar 1) (fC (.int 0))) (fOne gNeg (fC (.int 1)))) (hTup 4 (hCons (hName 3) (hCons (hName 4) (hCons (hName 5) (hCons (hName 6) hNil))))))
def kL2 : Rho → Option Out := (fSet 7 (fTwo gIx (fTwo gIx (fTwo gIx (fTwo gIx (fVar 0) (fVar 3)) (fC (.int 2))) (fVar 4)) (fC (.int 0))))
def kL3 : Rho → Option Out := (fIfS (fTest (fTwo (gEq false) (fVar 7) (fC (.str "alloc")))) (fRetE (fOne gSortI (fTwo gAdd (fVar 2) (fLst (fCons (fIf (fTest (fTwo (gEq true) (fTwo gIx (fVar 1) (fC (.int 2))) (fC (.int 0)))) (fTwo gIx (fVar 1) (fC (.int 2))) (fTwo gIx (fVar 1) (fC (.int 3)))) fNil))))) (fun ρ => some (.nx ρ)))
def kL4 : Rho → Option Out := (fRetE (fLc itL [8] (fVar 2) (hName 8) (fOr (fTest (fTwo (gEq true) (fVar 7) (fC (.str "release")))) (fTest (fTwo (gEq true) (fVar 8) (fCall F_law_asked (fCons (fVar 0) (fCons (fVar 1) fNil)))))) (fVar 8)))
theorem F_law_cells_is : F_law_cells = fRun 9 3 (fSeq kL1 (fSeq kL2 (fSeq kL3 kL4))) := rfl
abbrev iD (cl : List Int) : List D := cl.map D.int
theorem allV_ints : ∀ cl : List Int, allV (iD cl) = some (cl.map V.int)
  | [] => rfl
  | i :: cl => by
    have ih := allV_ints cl
    show ((some (V.int i)).bind fun v => (allV (iD cl)).map fun vs => v :: vs) = _
    rw [ih]
    rfl
theorem eqV_ii (i j : Int) : eqV (.int i) (.int j) = decide (i = j) := by
  show (i == j) = decide (i = j)
  rfl
theorem inV_ints (a : Int) : ∀ cl : List Int, inV (.int a) (cl.map V.int) = decide (a ∈ cl)
  | [] => rfl
  | i :: cl => by
    have ih := inV_ints a cl
    unfold inV at ih ⊢
    rw [List.map_cons, List.any_cons, ih, eqV_ii]
    by_cases e : i = a
    · simp [e]
    · have e2 : ¬ a = i := fun z => e z.symm
      simp [e, e2]
theorem in_ints (neg : Bool) (a : Int) (cl : List Int) (s : SD) (h : s.items = some (iD cl)) : gIn neg (.v (.int a)) s = some (.v (.bl (if neg then !decide (a ∈ cl) else decide (a ∈ cl)))) := by
  unfold gIn
  show ((some (V.int a)).bind fun x => s.items.bind fun ds => (allV ds).map fun vs => SD.v (.bl (if neg then !inV x vs else inV x vs))) = _
  rw [h]
  simp [allV_ints, inV_ints]
theorem ints_ints : ∀ cl : List Int, ints? (iD cl) = some cl
  | [] => rfl
  | i :: cl => by
    have ih := ints_ints cl
    show (ints? (iD cl)).map (fun is => i :: is) = _
    rw [ih]
    rfl
theorem sortI_ints (cl : List Int) (s : SD) (h : s.items = some (iD cl)) : gSortI s = some (.lst .new (iD (sortI cl))) := by
  unfold gSortI
  rw [h]
  simp [ints_ints]
theorem lc_filter {Fg : D → Rho → Option Rho} {T : Rho → Option Bool} {Fe : Rho → Option SD} {ρ : Rho} (R : Int → Rho) (p : Int → Bool) (h1 : ∀ i, Fg (.int i) ρ = some (R i)) (h2 : ∀ i, T (R i) = some (p i)) (h3 : ∀ i, Fe (R i) = some (.v (.int i))) :
    ∀ cl : List Int, lcGo Fg T Fe ρ (iD cl) = some (iD (cl.filter p))
  | [] => rfl
  | i :: cl => by
    have ih := lc_filter R p h1 h2 h3 cl
    show ((Fg (.int i) ρ).bind fun ρ1 => (T ρ1).bind fun b => if b then (Fe ρ1).bind fun s => match s with
      | .v x => (lcGo Fg T Fe ρ (iD cl)).map fun xs => x :: xs
      | _ => none
      else lcGo Fg T Fe ρ (iD cl)) = _
    rw [h1, ih]
    simp only [Option.bind_some, h2, h3, List.filter_cons]
    cases p i <;> rfl
def placeM (m : Mem) : Int := if m.fr = 0 then m.top else m.fr
def cellsM (i : Ins) (f : FM) (m : Mem) (cl : List Int) : List Int := match i with
  | .alloc _ => sortI (cl ++ [placeM m])
  | .release r => cl.filter fun j => !decide (j = f.get r)
  | _ => cl
/-! ### checked -/
def wordI : Ins → Str
  | .move _ _ => "move"
  | .zero _ => "zero"
  | .load _ _ => "load"
  | .store _ _ => "store"
  | .clear _ => "clear"
  | .alloc _ => "alloc"
  | .release _ => "release"
  | .same _ _ _ => "same"
  | .nil _ _ => "none"
  | .jump _ => "jump"
  | .ret _ => "ret"
  | .retn => "retnone"
  | .call _ _ => "call"
theorem word_ok (i : Ins) : gIx (.v (encI i)) (.v (.int 0)) = some (.v (.str (wordI i))) := by
  cases i with
  | ret v => cases v <;> rfl
  | _ => rfl
abbrev cEnv (fs st cl : D) (w : Str) (o : Option Int) : Rho := [some (.v fs), some (.v st), some (.v cl), some (.v (.str w)), some (.v (oD o)), none, none, none, none, none]
theorem kS1_ok {fs st cl : D} {i : Ins} {o : Option Int} (h1 : F_instruction_at [.v fs, .v st] = some (.v (encI i))) (h2 : F_asked_by [.v fs, .v st] = some (.v (oD o))) :
    kS1 [some (.v fs), some (.v st), some (.v cl), none, none, none, none, none, none, none] = some (.nx (cEnv fs st cl (wordI i) o)) := by
  have q := word_ok i
  simp [kS1, fRow, Dn.setMany, fCons, fNil, fTwo, fCall, fVar, fC, SD.keep, SD.bor, h1, h2, q]
theorem kS2_ok {fs st : D} {cl : List Int} {w : Str} {o : Option Int} (h : ∀ a, o = some a → a ∈ cl) : kS2 (cEnv fs st (.tup false (iD cl)) w o) = some (.nx (cEnv fs st (.tup false (iD cl)) w o)) := by
  refine (ifs_f ?_).trans rfl
  cases o with
  | none => rfl
  | some a =>
    have e := in_ints true a cl (.v (.tup false (iD cl))) rfl
    have e2 : gIs true (.v (.int a)) (.v .non) = some (.v (.bl true)) := rfl
    simp [fAnd, fTest, fTwo, fVar, fC, SD.bool?, oD, e, e2, h a rfl]
theorem kS3_ok {fs st cl s' : D} {w : Str} {o : Option Int} (h : F_step [.v fs, .v st] = some (.v s')) : kS3 (cEnv fs st cl w o) = some (.nx ((cEnv fs st cl w o).set 7 (some (.v s')))) := by
  refine set_of (s := .v s') ?_ rfl
  simp [fCall, fCons, fNil, fVar, SD.bor, h]
theorem one_at {g : SD → Option SD} {F : Rho → Option SD} {ρ : Rho} {s : SD} (h : F ρ = some s) : fOne g F ρ = g s := by
  unfold fOne
  rw [h]
  rfl
theorem tup2_at {F G : Rho → Option SD} {ρ : Rho} {a b : D} (h1 : F ρ = some (.v a)) (h2 : G ρ = some (.v b)) : fTup (fCons F (fCons G fNil)) ρ = some (.v (.tup false [a, b])) := by
  simp [fTup, fCons, fNil, h1, h2, vals, few]
theorem place_ok {st : D} {m : Mem} {ρ : Rho} (h : fVar 1 ρ = some (.v st)) (q2 : gIx (.v st) (.v (.int 2)) = some (.v (.int m.fr))) (q3 : gIx (.v st) (.v (.int 3)) = some (.v (.int m.top))) :
    fIf (fTest (fTwo (gEq true) (fTwo gIx (fVar 1) (fC (.int 2))) (fC (.int 0)))) (fTwo gIx (fVar 1) (fC (.int 2))) (fTwo gIx (fVar 1) (fC (.int 3))) ρ = some (.v (.int (placeM m))) := by
  by_cases e : m.fr = 0
  · rw [e] at q2
    simp [fIf, fTest, fTwo, fC, SD.bool?, h, q2, q3, eqI, placeM, e]
  · simp [fIf, fTest, fTwo, fC, SD.bool?, h, q2, eqI, placeM, e]
theorem checked_ok {fr hp : D} {m : Mem} {fs s' : D} {cl : List Int} {i : Ins} {f : FM} (hl : few (cl.length + 1) = true) (h1 : F_instruction_at [.v fs, .v (.tup false [fr, hp, .int m.fr, .int m.top])] = some (.v (encI i))) (h2 : F_asked_by [.v fs, .v (.tup false [fr, hp, .int m.fr, .int m.top])] = some (.v (oD (askM i f))))
    (h3 : F_step [.v fs, .v (.tup false [fr, hp, .int m.fr, .int m.top])] = some (.v s')) (h : ∀ a, askM i f = some a → a ∈ cl) :
    F_checked_step [.v fs, .v (.tup false [fr, hp, .int m.fr, .int m.top]), .v (.tup false (iD cl))] = some (.v (.tup false [s', .tup false (iD (cellsM i f m cl))])) := by
  have hl0 : few cl.length = true := by
    have z : cl.length + 1 ≤ 10000 := of_decide_eq_true hl
    exact decide_eq_true (by omega)
  rw [F_checked_step_is]
  refine run_rt rfl ?_
  refine (seq_nx (kS1_ok h1 h2)).trans ?_
  refine (seq_nx (kS2_ok h)).trans ?_
  refine (seq_nx (kS3_ok h3)).trans ?_
  cases i with
  | alloc r =>
    refine seq_rt ((ifs_t rfl).trans ?_)
    refine (seq_nx (set_of (place_ok rfl rfl rfl) rfl)).trans ?_
    refine ret_at ?_
    have e := sortI_ints (cl ++ [placeM m]) (.v (.tup false (iD (cl ++ [placeM m])))) rfl
    have e2 : few (iD cl ++ [D.int (placeM m)]).length = true := by simpa using hl
    have e3 : iD (cl ++ [placeM m]) = iD cl ++ [D.int (placeM m)] := by simp
    rw [e3] at e
    have e4 : vals (((iD cl).map SD.v) ++ [SD.v (.int (placeM m))]) = some (iD cl ++ [D.int (placeM m)]) := by
      have z : ∀ ds : List D, vals (ds.map SD.v ++ [SD.v (.int (placeM m))]) = some (ds ++ [D.int (placeM m)]) := by
        intro ds
        induction ds with
        | nil => rfl
        | cons d ds ih =>
          show (vals (ds.map SD.v ++ [SD.v (.int (placeM m))])).map (fun r => d :: r) = _
          rw [ih]
          rfl
      exact z _
    have e5 : fTup (fStar (fVar 2) (fCons (fVar 8) fNil)) (((cEnv fs (.tup false [fr, hp, .int m.fr, .int m.top]) (.tup false (iD cl)) (wordI (.alloc r)) (askM (.alloc r) f)).set 7 (some (.v s'))).set 8 (some (.v (.int (placeM m))))) = some (.v (.tup false (iD cl ++ [D.int (placeM m)]))) := by
      show ((some (((iD cl).map SD.v) ++ [SD.v (.int (placeM m))])).bind fun ss => (vals ss).bind fun ds => if few ds.length then some (SD.v (.tup false ds)) else none) = _
      rw [Option.bind_some, e4, Option.bind_some, if_pos e2]
    exact tup2_at rfl ((one_at ((one_at e5).trans e)).trans rfl)
  | release r =>
    refine (seq_nx ((ifs_f rfl).trans rfl)).trans ?_
    refine seq_rt ((ifs_t rfl).trans (ret_at ?_))
    refine tup2_at (b := .tup false (iD (cl.filter fun j => !decide (j = f.get r)))) rfl ((one_at (s := .lst .new (iD (cl.filter fun j => !decide (j = f.get r)))) ?_).trans rfl)
    have hl1 : few (iD cl).length = true := by simpa using hl0
    have q := lc_filter (Fg := hName 9) (T := fTest (fTwo (gEq true) (fVar 9) (fVar 4))) (Fe := fVar 9) (ρ := wipeR ((cEnv fs (.tup false [fr, hp, .int m.fr, .int m.top]) (.tup false (iD cl)) (wordI (.release r)) (askM (.release r) f)).set 7 (some (.v s'))) [9])
      (fun i => (wipeR ((cEnv fs (.tup false [fr, hp, .int m.fr, .int m.top]) (.tup false (iD cl)) (wordI (.release r)) (askM (.release r) f)).set 7 (some (.v s'))) [9]).set 9 (some (.v (.int i)))) (fun j => !decide (j = f.get r)) (fun i => rfl) (fun i => ?_) (fun i => rfl) cl
    · show (if few (iD cl).length then (lcGo (hName 9) (fTest (fTwo (gEq true) (fVar 9) (fVar 4))) (fVar 9) (wipeR ((cEnv fs (.tup false [fr, hp, .int m.fr, .int m.top]) (.tup false (iD cl)) (wordI (.release r)) (askM (.release r) f)).set 7 (some (.v s'))) [9]) (iD cl)).map fun out => SD.lst .new out else none) = _
      rw [if_pos hl1, q]
      rfl
    · show ((gEq true (.v (.int i)) (.v (.int (f.get r)))).bind SD.bool?) = _
      rw [eqI]
      rfl
  | _ => exact (seq_nx ((ifs_f rfl).trans rfl)).trans ((seq_nx ((ifs_f rfl).trans rfl)).trans (ret_at rfl))

end K9
/-! The law's cells. -/
namespace K9
open PySem L2 Dn
section
variable {pre : Option D} {n : Nat} {f : FM} {to hp fs : D} {cs : List (List Ins)} {i : Ins} {m : Mem} {cl : List Int} {o : Own}
abbrev st8 (pre : Option D) (n : Nat) (f : FM) (to hp : D) (m : Mem) : D := st9 pre (encF n f to) hp (.int m.fr) (.int m.top)
abbrev lcEnv (fs st : D) (cl : SD) (n : Nat) (f : FM) (to : D) (w : Str) : Rho := [some (.v fs), some (.v st), some cl, some (.v (.int n)), some (.v (.int f.idx)), some (.v (regD f)), some (.v to), some (.v (.str w)), none]
theorem kL1_ok {cl : SD} : kL1 [some (.v fs), some (.v (st8 pre n f to hp m)), some cl, none, none, none, none, none, none] = some (.nx [some (.v fs), some (.v (st8 pre n f to hp m)), some cl, some (.v (.int n)), some (.v (.int f.idx)), some (.v (regD f)), some (.v to), none, none]) := by
  cases pre <;> rfl
theorem kL2_ok {st : D} {cl : SD} (hi : insAt cs n f.idx = some i) : kL2 [some (.v (encFs cs)), some (.v st), some cl, some (.v (.int n)), some (.v (.int f.idx)), some (.v (regD f)), some (.v to), none, none] = some (.nx (lcEnv (encFs cs) st cl n f to (wordI i))) := by
  unfold insAt at hi
  obtain ⟨c, hc, hi⟩ := Option.bind_eq_some_iff.mp hi
  have h1 := fs_ix hc
  have h2 : gIx (.v (encC c)) (.v (.int 2)) = some (.v (.tup false (c.map encI))) := rfl
  have h3 : gIx (.v (.tup false (c.map encI))) (.v (.int (f.idx : Int))) = some (.v (encI i)) := ix_nat (by simp [hi])
  have h4 := word_ok i
  refine set_of (s := .v (.str (wordI i))) ?_ rfl
  simp [fTwo, fVar, fC, h1, h2, h3, h4]
theorem retl_at {F : Rho → Option SD} {ρ : Rho} {ds : List D} (h : F ρ = some (.lst .new ds)) : fRetE F ρ = some (.rt (.lst .new ds)) := by
  unfold fRetE
  rw [h]
  rfl
theorem law_cells_ok (hl : few (cl.length + 1) = true) (hi : insAt cs n f.idx = some i) :
    F_law_cells [.v (encFs cs), .v (st8 pre n f to hp m), .lst o (iD cl)] = some (.lst .new (iD (cellsM i f m cl))) := by
  have hl0 : few (iD cl).length = true := by
    have z : cl.length + 1 ≤ 10000 := of_decide_eq_true hl
    rw [List.length_map]
    exact decide_eq_true (by omega)
  have hA : F_law_asked [.v (encFs cs), .v (st8 pre n f to hp m)] = some (.v (oD (askM i f))) := law_asked_ok hi
  rw [F_law_cells_is]
  refine run_rt rfl ?_
  refine (seq_nx kL1_ok).trans ?_
  refine (seq_nx (kL2_ok hi)).trans ?_
  have go : ∀ (p : Int → Bool), (∀ j : Int, (fOr (fTest (fTwo (gEq true) (fVar 7) (fC (.str "release")))) (fTest (fTwo (gEq true) (fVar 8) (fCall F_law_asked (fCons (fVar 0) (fCons (fVar 1) fNil)))))) ((lcEnv (encFs cs) (st8 pre n f to hp m) (.lst o (iD cl)) n f to (wordI i)).set 8 (some (.v (.int j)))) = some (p j)) →
      kL4 (lcEnv (encFs cs) (st8 pre n f to hp m) (.lst o (iD cl)) n f to (wordI i)) = some (.rt (.lst .new (iD (cl.filter p)))) := by
    intro p hpp
    have q := lc_filter (Fg := hName 8) (T := (fOr (fTest (fTwo (gEq true) (fVar 7) (fC (.str "release")))) (fTest (fTwo (gEq true) (fVar 8) (fCall F_law_asked (fCons (fVar 0) (fCons (fVar 1) fNil))))))) (Fe := fVar 8) (ρ := wipeR (lcEnv (encFs cs) (st8 pre n f to hp m) (.lst o (iD cl)) n f to (wordI i)) [8])
      (fun j => (lcEnv (encFs cs) (st8 pre n f to hp m) (.lst o (iD cl)) n f to (wordI i)).set 8 (some (.v (.int j)))) p (fun j => rfl) hpp (fun j => rfl) cl
    have e : (fLc itL [8] (fVar 2) (hName 8) (fOr (fTest (fTwo (gEq true) (fVar 7) (fC (.str "release")))) (fTest (fTwo (gEq true) (fVar 8) (fCall F_law_asked (fCons (fVar 0) (fCons (fVar 1) fNil)))))) (fVar 8)) (lcEnv (encFs cs) (st8 pre n f to hp m) (.lst o (iD cl)) n f to (wordI i)) = some (.lst .new (iD (cl.filter p))) := by
      show (if few (iD cl).length then (lcGo (hName 8) _ (fVar 8) (wipeR (lcEnv (encFs cs) (st8 pre n f to hp m) (.lst o (iD cl)) n f to (wordI i)) [8]) (iD cl)).map fun out => SD.lst .new out else none) = _
      rw [if_pos hl0, q]
      rfl
    exact retl_at e
  cases i with
  | alloc r =>
    refine seq_rt ((ifs_t rfl).trans ?_)
    have e := sortI_ints (cl ++ [placeM m]) (.lst .new (iD (cl ++ [placeM m]))) rfl
    have e3 : iD (cl ++ [placeM m]) = iD cl ++ [D.int (placeM m)] := by simp
    have e2 : few ((iD cl).length + 1) = true := by simpa using hl
    rw [e3] at e
    have e5 : (fTwo gAdd (fVar 2) (fLst (fCons (fIf (fTest (fTwo (gEq true) (fTwo gIx (fVar 1) (fC (.int 2))) (fC (.int 0)))) (fTwo gIx (fVar 1) (fC (.int 2))) (fTwo gIx (fVar 1) (fC (.int 3)))) fNil))) (lcEnv (encFs cs) (st8 pre n f to hp m) (.lst o (iD cl)) n f to (wordI (.alloc r))) = some (.lst .new (iD cl ++ [D.int (placeM m)])) := by
      have pl := place_ok (st := st8 pre n f to hp m) (m := m) (ρ := lcEnv (encFs cs) (st8 pre n f to hp m) (.lst o (iD cl)) n f to (wordI (.alloc r))) rfl rfl rfl
      have lst : fLst (fCons (fIf (fTest (fTwo (gEq true) (fTwo gIx (fVar 1) (fC (.int 2))) (fC (.int 0)))) (fTwo gIx (fVar 1) (fC (.int 2))) (fTwo gIx (fVar 1) (fC (.int 3)))) fNil) (lcEnv (encFs cs) (st8 pre n f to hp m) (.lst o (iD cl)) n f to (wordI (.alloc r))) = some (.lst .new [.int (placeM m)]) := by
        show ((((fIf _ _ _ _).bind fun s => some [s]).bind fun ss => (vals ss).bind fun ds => if few ds.length then some (SD.lst .new ds) else none)) = _
        rw [pl]
        rfl
      show ((some (SD.lst o (iD cl))).bind fun s1 => (fLst _ _).bind fun s2 => gAdd s1 s2) = _
      rw [lst]
      show (if few ((iD cl).length + 1) then some (SD.lst .new (iD cl ++ [D.int (placeM m)])) else none) = _
      rw [if_pos e2]
    exact retl_at ((one_at e5).trans e)
  | release r =>
    refine (seq_nx ((ifs_f rfl).trans rfl)).trans ?_
    refine go _ fun j => ?_
    have e : (fCall F_law_asked (fCons (fVar 0) (fCons (fVar 1) fNil))) ((lcEnv (encFs cs) (st8 pre n f to hp m) (.lst o (iD cl)) n f to (wordI (.release r))).set 8 (some (.v (.int j)))) = some (.v (.int (f.get r))) := hA
    show ((fTest (fTwo (gEq true) (fVar 8) (fCall F_law_asked (fCons (fVar 0) (fCons (fVar 1) fNil))))) ((lcEnv (encFs cs) (st8 pre n f to hp m) (.lst o (iD cl)) n f to (wordI (.release r))).set 8 (some (.v (.int j))))) = _
    show (((some (SD.v (.int j))).bind fun s1 => (fCall F_law_asked _ _).bind fun s2 => gEq true s1 s2).bind SD.bool?) = _
    rw [e]
    show ((gEq true (.v (.int j)) (.v (.int (f.get r)))).bind SD.bool?) = _
    rw [eqI]
    rfl
  | _ =>
    refine (seq_nx ((ifs_f rfl).trans rfl)).trans ?_
    refine (go (fun _ => true) fun j => rfl).trans ?_
    rw [List.filter_eq_self.mpr (fun _ _ => rfl)]
    rfl
end

end K9
/-! The typed machine goes on, and stays within bounds. -/
namespace K9
open PySem L2 Dn
def isEnd : Ins → Bool
  | .ret _ => true
  | .retn => true
  | _ => false
def tgtI : Ins → Option Nat
  | .same _ _ t => some t
  | .nil _ t => some t
  | .jump t => some t
  | _ => none
structure CodeOk (c : List Ins) : Prop where
  ne : 0 < c.length
  last : ∀ i, c[c.length - 1]? = some i → isEnd i = true
  tgt : ∀ (j : Nat) i t, c[j]? = some i → tgtI i = some t → t < c.length
structure CsOk (cs : List (List Ins)) : Prop where
  c0 : ∃ c, cs[0]? = some c ∧ CodeOk c
  call : CallOk cs
  c1 : ∀ c, cs[1]? = some c → CodeOk c ∧ ∀ (j : Nat) x b, c[j]? ≠ some (.call x b)
def IdxOk (cs : List (List Ins)) (k j : Nat) : Prop := ∃ c, cs[k]? = some c ∧ j < c.length
def StOk (cs : List (List Ins)) : St9 → Prop
  | .one f _ => IdxOk cs 0 f.idx
  | .two f g _ _ => IdxOk cs 0 f.idx ∧ IdxOk cs 1 g.idx
  | .done .. => True
def isDone : St9 → Bool
  | .done .. => true
  | _ => false
theorem wr_idx (f : FM) (r : Rg) (w : Int) : (f.wr r w).idx = f.idx + 1 := by cases r <;> rfl
theorem set_idx (f : FM) (r : Rg) (w : Int) : (f.set r w).idx = f.idx := by cases r <;> rfl
theorem ex_go {i : Ins} {f f' : FM} {m m' : Mem} (h : exI i f m = .go f' m') : isEnd i = false ∧ (f'.idx = f.idx + 1 ∨ tgtI i = some f'.idx) := by
  cases i with
  | move r s => injection h with h1 h2; subst h1 h2; exact ⟨rfl, .inl (wr_idx ..)⟩
  | zero r => injection h with h1 h2; subst h1 h2; exact ⟨rfl, .inl (wr_idx ..)⟩
  | load r s => injection h with h1 h2; subst h1 h2; exact ⟨rfl, .inl (wr_idx ..)⟩
  | store r s => injection h with h1 h2; subst h1 h2; exact ⟨rfl, .inl rfl⟩
  | clear r => injection h with h1 h2; subst h1 h2; exact ⟨rfl, .inl rfl⟩
  | release r => injection h with h1 h2; subst h1 h2; exact ⟨rfl, .inl rfl⟩
  | alloc r =>
    simp only [exI] at h
    split at h
    · injection h with h1 h2; subst h1 h2; exact ⟨rfl, .inl (wr_idx ..)⟩
    · injection h with h1 h2; subst h1 h2; exact ⟨rfl, .inl (wr_idx ..)⟩
  | same r s t =>
    simp only [exI] at h
    split at h
    · injection h with h1 h2; subst h1 h2; exact ⟨rfl, .inr rfl⟩
    · injection h with h1 h2; subst h1 h2; exact ⟨rfl, .inl rfl⟩
  | nil r t =>
    simp only [exI] at h
    split at h
    · injection h with h1 h2; subst h1 h2; exact ⟨rfl, .inr rfl⟩
    · injection h with h1 h2; subst h1 h2; exact ⟨rfl, .inl rfl⟩
  | jump t => injection h with h1 h2; subst h1 h2; exact ⟨rfl, .inr rfl⟩
  | ret v => cases v <;> cases h
  | retn => cases h
  | call x b => cases h
theorem next_lt {c : List Ins} {j : Nat} {i : Ins} (C : CodeOk c) (h : c[j]? = some i) (e : isEnd i = false) : j + 1 < c.length := by
  have hj := (List.getElem?_eq_some_iff.mp h).1
  by_cases q : j = c.length - 1
  · subst q
    rw [C.last i h] at e
    cases e
  · omega
theorem go_idx {cs : List (List Ins)} {k : Nat} {f f' : FM} {m m' : Mem} {i : Ins} {c : List Ins} (hc : cs[k]? = some c) (C : CodeOk c) (hi : insAt cs k f.idx = some i) (h : exI i f m = .go f' m') : IdxOk cs k f'.idx := by
  have hi2 : c[f.idx]? = some i := by
    unfold insAt at hi
    rw [hc] at hi
    exact hi
  obtain ⟨e1, e2⟩ := ex_go h
  refine ⟨c, hc, ?_⟩
  rcases e2 with e2 | e2
  · rw [e2]
    exact next_lt C hi2 e1
  · exact C.tgt _ _ _ hi2 e2
theorem ins_some {cs : List (List Ins)} {k j : Nat} (h : IdxOk cs k j) : ∃ i, insAt cs k j = some i := by
  obtain ⟨c, hc, hj⟩ := h
  exact ⟨c[j], by unfold insAt; rw [hc]; exact List.getElem?_eq_getElem hj⟩
theorem step_some {cs : List (List Ins)} {s : St9} (C : CsOk cs) (S : StOk cs s) (hd : isDone s = false) : ∃ i s', nextM cs s = some i ∧ stepM cs s = some s' ∧ StOk cs s' := by
  obtain ⟨c0, h0, C0⟩ := C.c0
  cases s with
  | one f m =>
    obtain ⟨i, hi⟩ := ins_some S
    refine ⟨i, ?_⟩
    have e0 : nextM cs (.one f m) = some i := hi
    cases e : exI i f m with
    | go f' m' => exact ⟨.one f' m', e0, by simp [stepM, e0, doM, e], go_idx h0 C0 hi e⟩
    | ret v => exact ⟨.done v f.a f.b f.c m, e0, by simp [stepM, e0, doM, e], trivial⟩
    | call w b =>
      obtain ⟨x, rfl, _⟩ := ex_call e
      obtain ⟨c1, h1⟩ := Option.isSome_iff_exists.mp (C.call _ _ _ hi)
      have hi2 : c0[f.idx]? = some (.call x b) := by
        unfold insAt at hi
        rw [h0] at hi
        exact hi
      exact ⟨.two f.next ⟨0, w, 0, 0⟩ b m, e0, by simp [stepM, e0, doM, e], ⟨c0, h0, next_lt C0 hi2 rfl⟩, c1, h1, (C.c1 c1 h1).1.ne⟩
  | two f g b m =>
    obtain ⟨S0, S1⟩ := S
    obtain ⟨i, hi⟩ := ins_some S1
    obtain ⟨c1, h1, _⟩ := S1
    obtain ⟨C1, nc⟩ := C.c1 c1 h1
    have e0 : nextM cs (.two f g b m) = some i := hi
    refine ⟨i, ?_⟩
    cases e : exI i g m with
    | go f' m' => exact ⟨.two f f' b m', e0, by simp [stepM, e0, doM, e], S0, go_idx h1 C1 hi e⟩
    | ret v =>
      refine ⟨.one (if b then f.set .r2 (v.getD 0) else f) m, e0, by simp [stepM, e0, doM, e], ?_⟩
      show IdxOk cs 0 _
      cases b
      · exact S0
      · show IdxOk cs 0 (f.set .r2 (v.getD 0)).idx
        rw [set_idx]
        exact S0
    | call w b =>
      obtain ⟨x, rfl, _⟩ := ex_call e
      have hi2 : c1[g.idx]? = some (.call x b) := by
        unfold insAt at hi
        rw [h1] at hi
        exact hi
      exact absurd hi2 (nc _ _ _)
  | done g a b c m => cases hd
end K9
/-! Bounds along runs. -/
namespace K9
open PySem L2 Dn
structure MB (m : Mem) (k : Nat) : Prop where
  nd : (keysI m.h).Nodup
  srt : sortP m.h = m.h
  len : m.h.length + k ≤ 9999
theorem MB.ok {m : Mem} {k : Nat} (h : MB m k) : MOk m := ⟨h.nd, decide_eq_true (by have := h.len; omega)⟩
theorem MB.mono {m : Mem} {k j : Nat} (h : MB m k) (e : j ≤ k) : MB m j := ⟨h.nd, h.srt, by have := h.len; omega⟩
theorem sort_sort (h : List (Int × Int)) : sortP (sortP h) = sortP h := (sortP_is (List.Perm.refl _) (sortP_ord h)).symm
theorem MB.put {m : Mem} {k : Nat} {a w fr top : Int} (h : MB m (k + 1)) : MB ⟨putH m.h a w, fr, top⟩ k :=
  ⟨nodup_putH h.nd, sort_sort _, by have h1 := h.len; have h2 := len_putH m.h a w; show (putH m.h a w).length + k ≤ 9999; omega⟩
theorem ex_mb {i : Ins} {f f' : FM} {m m' : Mem} {k : Nat} (h : MB m (k + 1)) (e : exI i f m = .go f' m') : MB m' k := by
  cases i with
  | move r s => injection e with h1 h2; subst h2; exact h.mono (by omega)
  | zero r => injection e with h1 h2; subst h2; exact h.mono (by omega)
  | load r s => injection e with h1 h2; subst h2; exact h.mono (by omega)
  | store r s => injection e with h1 h2; subst h2; exact h.put
  | clear r => injection e with h1 h2; subst h2; exact h.put
  | release r => injection e with h1 h2; subst h2; exact h.put
  | alloc r =>
    simp only [exI] at e
    split at e
    · injection e with h1 h2; subst h2; exact h.put
    · injection e with h1 h2; subst h2; exact h.put
  | same r s t =>
    simp only [exI] at e
    split at e <;> (injection e with h1 h2; subst h2; exact h.mono (by omega))
  | nil r t =>
    simp only [exI] at e
    split at e <;> (injection e with h1 h2; subst h2; exact h.mono (by omega))
  | jump t => injection e with h1 h2; subst h2; exact h.mono (by omega)
  | ret v => cases v <;> cases e
  | retn => cases e
  | call x b => cases e
theorem step_mb {cs : List (List Ins)} {s s' : St9} {k : Nat} (M : MB s.m (k + 1)) (h : stepM cs s = some s') : MB s'.m k := by
  obtain ⟨i, hi, h⟩ := Option.bind_eq_some_iff.mp h
  cases s with
  | one f m =>
    cases e : exI i f m with
    | go f' m' => simp only [doM, e, Option.some.injEq] at h; subst h; exact ex_mb M e
    | ret v => simp only [doM, e, Option.some.injEq] at h; subst h; exact M.mono (by omega)
    | call w b => simp only [doM, e, Option.some.injEq] at h; subst h; exact M.mono (by omega)
  | two f g b m =>
    cases e : exI i g m with
    | go f' m' => simp only [doM, e, Option.some.injEq] at h; subst h; exact ex_mb M e
    | ret v => simp only [doM, e, Option.some.injEq] at h; subst h; exact M.mono (by omega)
    | call w b => simp [doM, e] at h
  | done g a b c m => cases hi
/-- so many steps, or fewer if it ends -/
def runM (cs : List (List Ins)) : Nat → St9 → Option St9
  | 0, s => some s
  | k + 1, s => if isDone s then some s else (stepM cs s).bind (runM cs k)
theorem run_done {cs : List (List Ins)} {k : Nat} {s : St9} (h : isDone s = true) : runM cs k s = some s := by
  cases k with
  | zero => rfl
  | succ k => unfold runM; rw [if_pos h]
theorem run_some {cs : List (List Ins)} (C : CsOk cs) : ∀ (k : Nat) {s : St9}, StOk cs s → ∃ s', runM cs k s = some s' ∧ StOk cs s'
  | 0, s, S => ⟨s, rfl, S⟩
  | k + 1, s, S => by
    by_cases h : isDone s = true
    · exact ⟨s, run_done h, S⟩
    · have h : isDone s = false := by simpa using h
      obtain ⟨i, s1, _, h2, S1⟩ := step_some C S h
      obtain ⟨s', h3, S'⟩ := run_some C k S1
      refine ⟨s', ?_, S'⟩
      unfold runM
      rw [if_neg (by rw [h]; decide), h2]
      exact h3
theorem ended_is (s : St9) : F_is_ended [.v (encS s)] = some (.v (.bl (isDone s))) := by cases s <;> rfl
end K9
/-! run and checked_run are the typed ones. -/
namespace K9
open PySem L2 Dn
def rG : Rho → Option Out := fSeq (fIfS (fTest (fCall F_is_ended (fCons (fVar 1) fNil))) (fun ρ => some (.bk ρ)) (fun ρ => some (.nx ρ))) (fSet 1 (fCall F_step (fCons (fVar 0) (fCons (fVar 1) fNil))))
theorem F_run_is : F_run = fRun 4 3 (fSeq (fFor 3 (fVar 2) rG) (fRetE (fVar 1))) := rfl
theorem seq_bk {G G' : Rho → Option Out} {ρ ρ1 : Rho} (h : G ρ = some (.bk ρ1)) : fSeq G G' ρ = some (.bk ρ1) := by
  unfold fSeq
  rw [h]
  rfl
theorem end_t {ρ : Rho} {s : St9} (h : fVar 1 ρ = some (.v (encS s))) : fTest (fCall F_is_ended (fCons (fVar 1) fNil)) ρ = some (isDone s) := by
  have e := ended_is s
  simp [fTest, fCall, fCons, fNil, h, SD.bor, SD.bool?, e]
theorem rG_go {cs : List (List Ins)} {s s' : St9} {c x : Option SD} (C : CallOk cs) (M : MOk s.m) (hd : isDone s = false) (h : stepM cs s = some s') : rG [some (.v (encFs cs)), some (.v (encS s)), c, x] = some (.nx [some (.v (encFs cs)), some (.v (encS s')), c, x]) := by
  have h1 := end_t (ρ := [some (.v (encFs cs)), some (.v (encS s)), c, x]) (s := s) rfl
  rw [hd] at h1
  have h2 := F_step_is C M h
  refine (seq_nx (ifs_f h1)).trans ?_
  refine set_of (s := .v (encS s')) ?_ rfl
  simp [fCall, fCons, fNil, fVar, SD.bor, h2]
theorem rG_stop {fs : D} {s : St9} {c x : Option SD} (hd : isDone s = true) : rG [some (.v fs), some (.v (encS s)), c, x] = some (.bk [some (.v fs), some (.v (encS s)), c, x]) := by
  have h1 := end_t (ρ := [some (.v fs), some (.v (encS s)), c, x]) (s := s) rfl
  rw [hd] at h1
  exact seq_bk ((ifs_t h1).trans rfl)
theorem run_go {cs : List (List Ins)} {c : Option SD} (C : CsOk cs) : ∀ (k j : Nat) (s s' : St9) (x : Option SD), StOk cs s → MB s.m k → runM cs k s = some s' → ∃ x', forGo 3 rG j k [some (.v (encFs cs)), some (.v (encS s)), c, x] = some (.nx [some (.v (encFs cs)), some (.v (encS s')), c, x'])
  | 0, j, s, s', x, S, M, h => by
    have e := Option.some.inj h
    subst e
    exact ⟨x, rfl⟩
  | k + 1, j, s, s', x, S, M, h => by
    by_cases hd : isDone s = true
    · rw [run_done hd] at h
      have e := Option.some.inj h
      subst e
      refine ⟨some (.v (.int j)), ?_⟩
      show ((rG [some (.v (encFs cs)), some (.v (encS s)), c, some (.v (.int j))]).bind _) = _
      rw [rG_stop hd]
      rfl
    · have hd : isDone s = false := by simpa using hd
      obtain ⟨i, s1, _, h2, S1⟩ := step_some C S hd
      have h3 : runM cs k s1 = some s' := by
        unfold runM at h
        rw [if_neg (by rw [hd]; decide), h2] at h
        exact h
      obtain ⟨x', h4⟩ := run_go C k (j + 1) s1 s' (some (.v (.int j))) S1 (step_mb M h2) h3
      refine ⟨x', ?_⟩
      show ((rG [some (.v (encFs cs)), some (.v (encS s)), c, some (.v (.int j))]).bind _) = _
      rw [rG_go C.call M.ok hd h2]
      exact h4
theorem F_run_ok {cs : List (List Ins)} {k : Nat} {s s' : St9} (hk : k ≤ 10000) (C : CsOk cs) (S : StOk cs s) (M : MB s.m k) (h : runM cs k s = some s') : F_run [.v (encFs cs), .v (encS s), .v (.int k)] = some (.v (encS s')) := by
  obtain ⟨x', e⟩ := run_go (c := some (.v (.int k))) C k 0 s s' none S M h
  rw [F_run_is]
  refine run_rt rfl ?_
  refine (seq_nx (ρ1 := [some (.v (encFs cs)), some (.v (encS s')), some (.v (.int k)), x']) ?_).trans (ret_at rfl)
  show (if decide (0 ≤ (k : Int)) && decide ((k : Int) ≤ 10000) then forGo 3 rG 0 (k : Int).toNat [some (.v (encFs cs)), some (.v (encS s)), some (.v (.int k)), none] else none) = _
  rw [if_pos (by simp; omega)]
  exact e
end K9
/-! The checked run. -/
namespace K9
open PySem L2 Dn
def cG : Rho → Option Out := fSeq (fIfS (fTest (fCall F_is_ended (fCons (fVar 1) fNil))) (fun ρ => some (.bk ρ)) (fun ρ => some (.nx ρ))) (fAsg (fCall F_checked_step (fCons (fVar 0) (fCons (fVar 1) (fCons (fVar 2) fNil)))) (hTup 2 (hCons (hName 1) (hCons (hName 2) hNil))))
theorem F_checked_run_is : F_checked_run = fRun 5 4 (fSeq (fFor 4 (fVar 3) cG) (fRetE (fTup (fCons (fVar 1) (fCons (fVar 2) fNil))))) := rfl
/-- the frame that runs -/
def St9.f : St9 → FM
  | .one f _ => f
  | .two _ g _ _ => g
  | .done _ a b c _ => ⟨0, a, b, c⟩
/-- what the next instruction asks is a cell -/
def AskOk (i : Ins) (f : FM) (cl : List Int) : Prop := ∀ a, askM i f = some a → a ∈ cl
theorem checked_is {cs : List (List Ins)} {s s' : St9} {i : Ins} {cl : List Int} (C : CallOk cs) (M : MOk s.m) (hl : few (cl.length + 1) = true) (hi : nextM cs s = some i) (h : stepM cs s = some s') (ha : AskOk i s.f cl) :
    F_checked_step [.v (encFs cs), .v (encS s), .v (.tup false (iD cl))] = some (.v (.tup false [encS s', .tup false (iD (cellsM i s.f s.m cl))])) := by
  have h3 := F_step_is C M h
  cases s with
  | one f m =>
    have hi : insAt cs 0 f.idx = some i := hi
    have h1 := inst_ok (n := 0) (one_on f .non (heapD m.h) (.int m.fr) (.int m.top)) hi
    have h2 := asked_ok (n := 0) (one_on f .non (heapD m.h) (.int m.fr) (.int m.top)) hi
    exact checked_ok (m := m) hl h1 h2 h3 ha
  | two f g b m =>
    have hi : insAt cs 1 g.idx = some i := hi
    have h1 := inst_ok (n := 1) (two_on f g (bD b) (heapD m.h) (.int m.fr) (.int m.top) .non) hi
    have h2 := asked_ok (n := 1) (two_on f g (bD b) (heapD m.h) (.int m.fr) (.int m.top) .non) hi
    exact checked_ok (m := m) hl h1 h2 h3 ha
  | done g a b c m => cases hi
/-- the checked run, as long as it does not trap -/
inductive CRun (cs : List (List Ins)) : Nat → St9 → List Int → St9 → List Int → Prop
  | zero (s : St9) (cl : List Int) : CRun cs 0 s cl s cl
  | stop (k : Nat) (s : St9) (cl : List Int) : isDone s = true → CRun cs k s cl s cl
  | go {k : Nat} {s s1 s' : St9} {i : Ins} {cl cl' : List Int} : isDone s = false → nextM cs s = some i → AskOk i s.f cl → stepM cs s = some s1 → CRun cs k s1 (cellsM i s.f s.m cl) s' cl' → CRun cs (k + 1) s cl s' cl'
theorem len_ins (i : Int) : ∀ js : List Int, (insI i js).length = js.length + 1 := fun js => (insI_perm i js).length_eq
theorem cells_len (i : Ins) (f : FM) (m : Mem) (cl : List Int) : (cellsM i f m cl).length ≤ cl.length + 1 := by
  cases i with
  | alloc r => show (sortI (cl ++ [placeM m])).length ≤ _; rw [(sortI_perm _).length_eq]; simp
  | release r => exact Nat.le_trans (List.length_filter_le _ _) (by omega)
  | _ => exact Nat.le_succ _
theorem crun_go {cs : List (List Ins)} {c : Option SD} (C : CsOk cs) {k : Nat} {s s' : St9} {cl cl' : List Int} (R : CRun cs k s cl s' cl') : ∀ (j : Nat) (x : Option SD), StOk cs s → MB s.m k → cl.length + k ≤ 9999 →
    ∃ x', forGo 4 cG j k [some (.v (encFs cs)), some (.v (encS s)), some (.v (.tup false (iD cl))), c, x] = some (.nx [some (.v (encFs cs)), some (.v (encS s')), some (.v (.tup false (iD cl'))), c, x']) := by
  induction R with
  | zero s cl => exact fun j x _ _ _ => ⟨x, rfl⟩
  | stop k s cl hd =>
    intro j x S M hl
    cases k with
    | zero => exact ⟨x, rfl⟩
    | succ k =>
      refine ⟨some (.v (.int j)), ?_⟩
      have h1 := end_t (ρ := [some (.v (encFs cs)), some (.v (encS s)), some (.v (.tup false (iD cl))), c, some (.v (.int j))]) (s := s) rfl
      rw [hd] at h1
      show ((cG [some (.v (encFs cs)), some (.v (encS s)), some (.v (.tup false (iD cl))), c, some (.v (.int j))]).bind _) = _
      rw [show cG [some (.v (encFs cs)), some (.v (encS s)), some (.v (.tup false (iD cl))), c, some (.v (.int j))] = _ from seq_bk ((ifs_t h1).trans rfl)]
      rfl
  | @go k s s1 s' i cl cl' hd hi ha h2 R ih =>
    intro j x S M hl
    obtain ⟨i', s1', e1, e2, S1⟩ := step_some C S hd
    rw [h2] at e2
    have e2 := Option.some.inj e2
    subst e2
    obtain ⟨x', h4⟩ := ih (j + 1) (some (.v (.int j))) S1 (step_mb M h2) (by have := cells_len i s.f s.m cl; omega)
    refine ⟨x', ?_⟩
    have h1 := end_t (ρ := [some (.v (encFs cs)), some (.v (encS s)), some (.v (.tup false (iD cl))), c, some (.v (.int j))]) (s := s) rfl
    rw [hd] at h1
    have hc := checked_is C.call M.ok (decide_eq_true (by omega)) hi h2 ha
    have hg : cG [some (.v (encFs cs)), some (.v (encS s)), some (.v (.tup false (iD cl))), c, some (.v (.int j))] = some (.nx [some (.v (encFs cs)), some (.v (encS s1)), some (.v (.tup false (iD (cellsM i s.f s.m cl)))), c, some (.v (.int j))]) := by
      refine (seq_nx (ifs_f h1)).trans ?_
      refine asg_of (d := .tup false [encS s1, .tup false (iD (cellsM i s.f s.m cl))]) ?_ rfl
      simp [fCall, fCons, fNil, fVar, SD.bor, hc]
    show ((cG [some (.v (encFs cs)), some (.v (encS s)), some (.v (.tup false (iD cl))), c, some (.v (.int j))]).bind _) = _
    rw [hg]
    exact h4
theorem F_checked_run_ok {cs : List (List Ins)} {k : Nat} {s s' : St9} {cl cl' : List Int} (hk : k ≤ 10000) (C : CsOk cs) (S : StOk cs s) (M : MB s.m k) (hl : cl.length + k ≤ 9999) (R : CRun cs k s cl s' cl') :
    F_checked_run [.v (encFs cs), .v (encS s), .v (.tup false (iD cl)), .v (.int k)] = some (.v (.tup false [encS s', .tup false (iD cl')])) := by
  obtain ⟨x', e⟩ := crun_go (c := some (.v (.int k))) C R 0 none S M hl
  rw [F_checked_run_is]
  refine run_rt rfl ?_
  refine (seq_nx (ρ1 := [some (.v (encFs cs)), some (.v (encS s')), some (.v (.tup false (iD cl'))), some (.v (.int k)), x']) ?_).trans (ret_at rfl)
  show (if decide (0 ≤ (k : Int)) && decide ((k : Int) ≤ 10000) then forGo 4 cG 0 (k : Int).toNat [some (.v (encFs cs)), some (.v (encS s)), some (.v (.tup false (iD cl))), some (.v (.int k)), none] else none) = _
  rw [if_pos (by simp; omega)]
  exact e
end K9
/-! The free cells. -/
namespace K9
open PySem L2 Dn
inductive Chain (h : List (Int × Int)) : Int → List Int → Prop
  | nil : Chain h 0 []
  | cons {a : Int} {l : List Int} : a ≠ 0 → Chain h (getI h a) l → Chain h a (a :: l)
def fd (l : List Int) : List (Key × V) := l.map fun i => (Sum.inl i, V.bl true)
theorem fd_val (l : List Int) (a : Int) : (valV (fd l) (.inl a)).isSome = decide (a ∈ l) := by
  induction l with
  | nil => rfl
  | cons i l ih =>
    by_cases e : i = a
    · subst e
      show (valV ((Sum.inl i, V.bl true) :: fd l) (.inl i)).isSome = _
      rw [valV_pos rfl]
      simp
    · show (valV ((Sum.inl i, V.bl true) :: fd l) (.inl a)).isSome = _
      rw [valV_neg (by intro z; injection z with z; exact e z), ih]
      have e2 : ¬ a = i := fun z => e z.symm
      simp [e2]
def fT : Rho → Option Bool := (fAnd (fTest (fTwo (gEq true) (fVar 3) (fC (.int 0)))) (fNotInD (fVar 3) (fVar 2)))
def fB : Rho → Option Out := (fSeq (fAsg (fC (.bl true)) (hSubD 2 (fVar 3))) (fSet 3 (fGet (fVar 1) (fVar 3) (fC (.int 0)))))
def fS1 : Rho → Option Out := (fRow [1, 2, 3] (fCons (fOne gDict (fTwo gIx (fVar 0) (fC (.int 1)))) (fCons (fun _ => some (.dic .new [])) (fCons (fTwo gIx (fVar 0) (fC (.int 2))) fNil))))
theorem F_free_cells_is : F_free_cells = fRun 4 1 (fSeq fS1 (fSeq (fWhile fT fB) (fRetE (fOne gTupD (fVar 2))))) := rfl
theorem fT_0 {st d1 : Option SD} {l : List Int} : fT [st, d1, some (.dic .own (fd l)), some (.v (.int 0))] = some false := rfl
theorem fT_1 {st d1 : Option SD} {l : List Int} {a : Int} (h0 : a ≠ 0) (hl : a ∉ l) : fT [st, d1, some (.dic .own (fd l)), some (.v (.int a))] = some true := by
  have e1 : fTest (fTwo (gEq true) (fVar 3) (fC (.int 0))) [st, d1, some (.dic .own (fd l)), some (.v (.int a))] = some true := by
    show ((gEq true (.v (.int a)) (.v (.int 0))).bind SD.bool?) = _
    rw [eqI]
    simp [h0, SD.bool?]
  have e2 : fNotInD (fVar 3) (fVar 2) [st, d1, some (.dic .own (fd l)), some (.v (.int a))] = some true := by
    show some (!(valV (fd l) (.inl a)).isSome) = _
    rw [fd_val]
    simp [hl]
  unfold fT fAnd
  rw [e1]
  exact e2
theorem fB_ok {st : Option SD} {l : List Int} {h : List (Int × Int)} {a : Int} (hl : a ∉ l) (hf : few (l.length + 1) = true) : fB [st, some (.dic .own (kv h)), some (.dic .own (fd l)), some (.v (.int a))] = some (.nx [st, some (.dic .own (kv h)), some (.dic .own (fd (l ++ [a]))), some (.v (.int (getI h a)))]) := by
  have hn : valV (fd l) (.inl a) = none := by
    have e := fd_val l a
    cases q : valV (fd l) (.inl a) with
    | none => rfl
    | some x => rw [q] at e; simp [hl] at e
  have hp : putK (fd l) (.inl a) (.bl true) = fd (l ++ [a]) := by
    rw [putK_new _ hn]
    simp [fd]
  have e1 : hSubD 2 (fVar 3) (.bl true) [st, some (.dic .own (kv h)), some (.dic .own (fd l)), some (.v (.int a))] = some [st, some (.dic .own (kv h)), some (.dic .own (fd (l ++ [a]))), some (.v (.int a))] := by
    show (if few ((fd l).length + 1) then some ([st, some (.dic .own (kv h)), some (.dic .own (fd l)), some (.v (.int a))].set 2 (some (.dic .own (putK (fd l) (.inl a) (.bl true))))) else none) = _
    rw [hp, if_pos (by simpa [fd] using hf)]
    rfl
  refine (seq_nx (asg_of (d := .bl true) rfl e1)).trans ?_
  exact set_of (s := .v (.int (getI h a))) (get_kv .own h a) rfl
theorem while_ok {st : Option SD} {h : List (Int × Int)} : ∀ (l2 l1 : List Int) (a : Int) (n : Nat), Chain h a l2 → (l1 ++ l2).Nodup → l2.length < n → (l1 ++ l2).length ≤ 9999 →
    whileGo fT fB n [st, some (.dic .own (kv h)), some (.dic .own (fd l1)), some (.v (.int a))] = some (.nx [st, some (.dic .own (kv h)), some (.dic .own (fd (l1 ++ l2))), some (.v (.int 0))])
  | [], l1, a, n, c, nd, hn, hl => by
    cases c
    cases n with
    | zero => cases hn
    | succ n =>
      show ((fT [st, some (.dic .own (kv h)), some (.dic .own (fd l1)), some (.v (.int 0))]).bind _) = _
      rw [fT_0, List.append_nil]
      rfl
  | b :: l2, l1, a, n, c, nd, hn, hl => by
    cases c with
    | cons h0 c =>
    cases n with
    | zero => cases hn
    | succ n =>
      have hb : b ∉ l1 := fun hm => (List.nodup_append.mp nd).2.2 _ hm _ (List.mem_cons_self ..) rfl
      have e : l1 ++ b :: l2 = (l1 ++ [b]) ++ l2 := by simp
      rw [e] at nd hl ⊢
      have ih := while_ok (st := st) (h := h) l2 (l1 ++ [b]) _ n c nd (by rw [List.length_cons] at hn; omega) hl
      show ((fT [st, some (.dic .own (kv h)), some (.dic .own (fd l1)), some (.v (.int b))]).bind _) = _
      rw [fT_1 h0 hb]
      show ((fB [st, some (.dic .own (kv h)), some (.dic .own (fd l1)), some (.v (.int b))]).bind _) = _
      rw [fB_ok hb (decide_eq_true (by simp at hl; omega))]
      exact ih
theorem free_ok {fr top : D} {m : Mem} {l : List Int} (hn : (keysI m.h).Nodup) (c : Chain m.h m.fr l) (nd : l.Nodup) (hl : l.length < 1000) : F_free_cells [.v (.tup false [fr, heapD m.h, .int m.fr, top])] = some (.v (.tup false (iD l))) := by
  have e1 : gDict (.v (heapD m.h)) = some (.dic .new (kv m.h)) := dict_kv rfl hn
  have q1 : gIx (.v (.tup false [fr, heapD m.h, .int m.fr, top])) (.v (.int 1)) = some (.v (heapD m.h)) := rfl
  have q2 : gIx (.v (.tup false [fr, heapD m.h, .int m.fr, top])) (.v (.int 2)) = some (.v (.int m.fr)) := rfl
  rw [F_free_cells_is]
  refine run_rt rfl ?_
  have s1 : fS1 [some (.v (.tup false [fr, heapD m.h, .int m.fr, top])), none, none, none] = some (.nx [some (.v (.tup false [fr, heapD m.h, .int m.fr, top])), some (.dic .own (kv m.h)), some (.dic .own (fd [])), some (.v (.int m.fr))]) := by
    simp [fS1, fRow, Dn.setMany, fCons, fNil, fOne, fTwo, fVar, fC, SD.keep, q1, q2, e1, fd]
  refine (seq_nx s1).trans ?_
  refine (seq_nx (while_ok l [] m.fr 1000 c nd hl (by simp; omega))).trans ?_
  refine ret_at ?_
  show some (SD.v (.tup false ((fd ([] ++ l)).map fun kv => ofK kv.1))) = _
  simp [fd, ofK]
end K9
/-! The live cells. -/
namespace K9
open PySem L2 Dn
theorem lc_pairs {Fg : D → Rho → Option Rho} {T : Rho → Option Bool} {Fe : Rho → Option SD} {ρ : Rho} (R : Int × Int → Rho) (p : Int × Int → Bool) (h1 : ∀ q, Fg (pairD q) ρ = some (R q)) (h2 : ∀ q, T (R q) = some (p q)) (h3 : ∀ q, Fe (R q) = some (.v (pairD q))) :
    ∀ h : List (Int × Int), lcGo Fg T Fe ρ (h.map pairD) = some ((h.filter p).map pairD)
  | [] => rfl
  | q :: h => by
    have ih := lc_pairs R p h1 h2 h3 h
    show ((Fg (pairD q) ρ).bind fun ρ1 => (T ρ1).bind fun b => if b then (Fe ρ1).bind fun s => match s with
      | .v x => (lcGo Fg T Fe ρ (h.map pairD)).map fun xs => x :: xs
      | _ => none
      else lcGo Fg T Fe ρ (h.map pairD)) = _
    rw [h1, ih]
    simp only [Option.bind_some, h2, h3, List.filter_cons]
    cases p q <;> rfl
def vL : Rho → Option SD := (fLc itT [2, 3] (fTwo gIx (fVar 0) (fC (.int 1))) (hTup 2 (hNames [2, 3])) (fTest (fTwo (gIn true) (fVar 2) (fVar 1))) (fTup (fCons (fVar 2) (fCons (fVar 3) fNil))))
theorem F_live_cells_is : F_live_cells = fRun 4 1 (fSeq (fSet 1 (fCall F_free_cells (fCons (fVar 0) fNil))) (fRetE (fOne gTupleW vL))) := rfl
def liveM (h : List (Int × Int)) (l : List Int) : List (Int × Int) := h.filter fun q => !decide (q.1 ∈ l)
theorem live_ok {fr top : D} {m : Mem} {l : List Int} (hn : (keysI m.h).Nodup) (hf : few m.h.length = true) (c : Chain m.h m.fr l) (nd : l.Nodup) (hl : l.length < 1000) :
    F_live_cells [.v (.tup false [fr, heapD m.h, .int m.fr, top])] = some (.v (.tup false ((liveM m.h l).map pairD))) := by
  have e0 := free_ok (fr := fr) (top := top) hn c nd hl
  have hf2 : few (m.h.map pairD).length = true := by simpa using hf
  rw [F_live_cells_is]
  refine run_rt rfl ?_
  refine (seq_nx (set_of (s := .v (.tup false (iD l))) e0 rfl)).trans ?_
  refine ret_at ?_
  refine (one_at (s := .lst .new ((liveM m.h l).map pairD)) ?_).trans rfl
  have q := lc_pairs (Fg := hTup 2 (hNames [2, 3])) (T := fTest (fTwo (gIn true) (fVar 2) (fVar 1))) (Fe := fTup (fCons (fVar 2) (fCons (fVar 3) fNil))) (ρ := [some (.v (.tup false [fr, heapD m.h, .int m.fr, top])), some (.v (.tup false (iD l))), none, none])
    (fun q => [some (.v (.tup false [fr, heapD m.h, .int m.fr, top])), some (.v (.tup false (iD l))), some (.v (.int q.1)), some (.v (.int q.2))]) (fun q => !decide (q.1 ∈ l)) (fun q => rfl) (fun q => ?_) (fun q => rfl) m.h
  · show (if few (m.h.map pairD).length then (lcGo (hTup 2 (hNames [2, 3])) (fTest (fTwo (gIn true) (fVar 2) (fVar 1))) (fTup (fCons (fVar 2) (fCons (fVar 3) fNil))) [some (.v (.tup false [fr, heapD m.h, .int m.fr, top])), some (.v (.tup false (iD l))), none, none] (m.h.map pairD)).map fun out => SD.lst .new out else none) = _
    rw [if_pos hf2, q]
    rfl
  · have e := in_ints true q.1 l (.v (.tup false (iD l))) rfl
    show ((gIn true (.v (.int q.1)) (.v (.tup false (iD l)))).bind SD.bool?) = _
    rw [e]
    rfl
end K9
/-! The cells and the free ones: what holds along the checked run. -/
namespace K9
open PySem L2 Dn
theorem getI_mem {h : List (Int × Int)} {k v : Int} (hn : (keysI h).Nodup) (hm : (k, v) ∈ h) : getI h k = v := by
  induction h with
  | nil => cases hm
  | cons p h ih =>
    rw [keysI, List.map_cons, List.nodup_cons] at hn
    unfold getI
    rw [List.find?_cons]
    by_cases e : p.1 = k
    · rw [decide_eq_true e]
      rcases List.mem_cons.mp hm with q | q
      · subst q; rfl
      · exact absurd (List.mem_map.mpr ⟨_, q, rfl⟩) (by rw [e] at hn; exact hn.1)
    · rw [decide_eq_false e]
      rcases List.mem_cons.mp hm with q | q
      · subst q; exact absurd rfl e
      · exact ih hn.2 q
theorem getI_not {h : List (Int × Int)} {k : Int} (hm : k ∉ keysI h) : getI h k = 0 := by
  unfold getI
  have e : h.find? (fun p => decide (p.1 = k)) = none := by
    rw [List.find?_eq_none]
    intro p hp q
    exact hm (List.mem_map.mpr ⟨p, hp, by simpa using q⟩)
  rw [e]
  rfl
theorem mem_key {h : List (Int × Int)} {k : Int} (hm : k ∈ keysI h) : ∃ v, (k, v) ∈ h := by
  obtain ⟨p, hp, e⟩ := List.mem_map.mp hm
  subst e
  exact ⟨p.2, hp⟩
theorem getI_perm {h g : List (Int × Int)} (hn : (keysI h).Nodup) (p : g.Perm h) (k : Int) : getI g k = getI h k := by
  have hg : (keysI g).Nodup := (p.map (·.1)).nodup_iff.mpr hn
  by_cases e : k ∈ keysI h
  · obtain ⟨v, hv⟩ := mem_key e
    rw [getI_mem hn hv, getI_mem hg (p.mem_iff.mpr hv)]
  · rw [getI_not e, getI_not (fun z => e ((p.map (·.1)).mem_iff.mp z))]
theorem getI_putI {h : List (Int × Int)} (a w k : Int) : getI (putI h a w) k = if k = a then w else getI h k := by
  have e := get_kv .own (putI h a w) k
  have e2 := valV_put (kv h) (Sum.inl a) (Sum.inl k) (V.int w)
  rw [putK_kv] at e2
  have e3 : gGet (.dic .own (kv (putI h a w))) (.v (.int k)) (.v (.int 0)) = (match valV (kv (putI h a w)) (.inl k) with
    | some y => (ofV y).map SD.v
    | none => some (.v (.int 0))) := rfl
  rw [e3, e2] at e
  by_cases q : k = a
  · subst q
    rw [if_pos rfl] at e ⊢
    have e := Option.some.inj e
    injection e with e
    injection e with e
    exact e.symm
  · rw [if_neg (by intro z; injection z with z; exact q z)] at e
    rw [if_neg q]
    have e4 := get_kv .own h k
    have e5 : gGet (.dic .own (kv h)) (.v (.int k)) (.v (.int 0)) = (match valV (kv h) (.inl k) with
      | some y => (ofV y).map SD.v
      | none => some (.v (.int 0))) := rfl
    rw [e5] at e4
    rw [e4] at e
    have e := Option.some.inj e
    injection e with e
    injection e with e
    exact e.symm
theorem getI_putH {h : List (Int × Int)} (hn : (keysI h).Nodup) (a w k : Int) : getI (putH h a w) k = if k = a then w else getI h k := by
  unfold putH
  rw [getI_perm (nodup_put hn) (sortP_perm _), getI_putI]
theorem key_putH {h : List (Int × Int)} (a w k : Int) : k ∈ keysI (putH h a w) ↔ k = a ∨ k ∈ keysI h := by
  unfold putH
  rw [((sortP_perm _).map (·.1)).mem_iff]
  show k ∈ keysI (putI h a w) ↔ _
  rw [keys_put]
  by_cases e : hasI h a = true
  · rw [if_pos e]
    rw [hasI_iff] at e
    constructor
    · exact .inr
    · rintro (q | q)
      · subst q; exact e
      · exact q
  · rw [if_neg e]
    simp [or_comm]
theorem chain_put {h : List (Int × Int)} (hn : (keysI h).Nodup) {a w : Int} : ∀ {l : List Int} {x : Int}, Chain h x l → a ∉ l → Chain (putH h a w) x l
  | _, _, .nil, _ => .nil
  | _, _, .cons (a := b) (l := l) h0 c, hm => by
    have hb : ¬ b = a := fun z => hm (by subst z; exact List.mem_cons_self ..)
    refine .cons h0 ?_
    rw [getI_putH hn, if_neg hb]
    exact chain_put hn c fun z => hm (List.mem_cons_of_mem _ z)
/-- cells cl, free ones l -/
structure CI (m : Mem) (cl l : List Int) : Prop where
  ch : Chain m.h m.fr l
  nl : l.Nodup
  nc : cl.Nodup
  oc : cl.Pairwise (· ≤ ·)
  mem : ∀ k, k ∈ cl ↔ k ∈ keysI m.h ∧ k ∉ l
  kb : ∀ k, k ∈ keysI m.h → 0 < k ∧ k < m.top
  lb : ∀ k, k ∈ l → 0 < k ∧ k < m.top
  tp : 0 < m.top
theorem ci_put {m : Mem} {cl l : List Int} {a w : Int} (hn : (keysI m.h).Nodup) (I : CI m cl l) (ha : a ∈ cl) : CI { m with h := putH m.h a w } cl l := by
  have hk := (I.mem a).mp ha
  refine ⟨chain_put hn I.ch hk.2, I.nl, I.nc, I.oc, fun k => ?_, fun k hm => ?_, I.lb, I.tp⟩
  · show _ ↔ k ∈ keysI (putH m.h a w) ∧ _
    rw [key_putH, I.mem]
    constructor
    · exact fun z => ⟨.inr z.1, z.2⟩
    · rintro ⟨q | q, z⟩
      · subst q; exact hk
      · exact ⟨q, z⟩
  · rcases (key_putH a w k).mp hm with q | q
    · subst q; exact I.kb _ hk.1
    · exact I.kb _ q
theorem chain_zero {h : List (Int × Int)} {l : List Int} (c : Chain h 0 l) : l = [] := by
  cases c with
  | nil => rfl
  | cons h0 _ => exact absurd rfl h0
theorem sort_mem (k : Int) (cl : List Int) : k ∈ sortI cl ↔ k ∈ cl := (sortI_perm cl).mem_iff
theorem ci_alloc0 {m : Mem} {cl l : List Int} (hn : (keysI m.h).Nodup) (I : CI m cl l) (e : m.fr = 0) : CI ⟨putH m.h m.top 0, 0, m.top + 1⟩ (sortI (cl ++ [m.top])) [] := by
  have hl : l = [] := chain_zero (by have c := I.ch; rw [e] at c; exact c)
  subst hl
  have ht : m.top ∉ cl := fun z => by have := (I.kb _ ((I.mem _).mp z).1).2; omega
  refine ⟨.nil, List.nodup_nil, ?_, sortI_ord _, fun k => ?_, fun k hm => ?_, fun k hm => (nomatch hm), (by have := I.tp; show 0 < m.top + 1; omega)⟩
  · rw [(sortI_perm _).nodup_iff, List.nodup_append]
    refine ⟨I.nc, by simp, ?_⟩
    intro a ha b hb z
    rw [List.mem_singleton] at hb
    subst hb
    subst z
    exact ht ha
  · show _ ↔ k ∈ keysI (putH m.h m.top 0) ∧ _
    rw [sort_mem, key_putH, List.mem_append, I.mem, List.mem_singleton]
    constructor
    · rintro (q | q)
      · exact ⟨.inr q.1, by simp⟩
      · exact ⟨.inl q, by simp⟩
    · rintro ⟨q | q, _⟩
      · exact .inr q
      · exact .inl ⟨q, by simp⟩
  · rcases (key_putH m.top 0 k).mp hm with q | q
    · subst q; exact ⟨I.tp, by show m.top < m.top + 1; omega⟩
    · have := I.kb _ q; exact ⟨this.1, by show k < m.top + 1; omega⟩
theorem ci_alloc1 {m : Mem} {cl l : List Int} (hn : (keysI m.h).Nodup) (I : CI m cl l) (e : ¬ m.fr = 0) : ∃ l1, l = m.fr :: l1 ∧ CI ⟨putH m.h m.fr 0, getI m.h m.fr, m.top⟩ (sortI (cl ++ [m.fr])) l1 := by
  obtain ⟨ch, nl, nc, oc, mem, kb, lb, tp⟩ := I
  obtain ⟨h, fr, top⟩ := m
  cases ch with
  | nil => exact absurd rfl e
  | @cons a l1 h0 c =>
    refine ⟨l1, rfl, ?_⟩
    rw [List.nodup_cons] at nl
    refine ⟨chain_put hn c nl.1, nl.2, ?_, sortI_ord _, fun k => ?_, fun k hm => ?_, fun k hm => lb k (List.mem_cons_of_mem _ hm), tp⟩
    · rw [(sortI_perm _).nodup_iff, List.nodup_append]
      refine ⟨nc, by simp, ?_⟩
      intro x hx b hb z
      rw [List.mem_singleton] at hb
      subst hb
      subst z
      exact ((mem _).mp hx).2 (List.mem_cons_self ..)
    · show _ ↔ k ∈ keysI (putH h fr 0) ∧ _
      rw [sort_mem, key_putH, List.mem_append, mem, List.mem_singleton]
      constructor
      · rintro (q | q)
        · exact ⟨.inr q.1, fun z => q.2 (List.mem_cons_of_mem _ z)⟩
        · subst q; exact ⟨.inl rfl, nl.1⟩
      · rintro ⟨q | q, z⟩
        · exact .inr q
        · by_cases y : k = fr
          · exact .inr y
          · exact .inl ⟨q, fun x => by rcases List.mem_cons.mp x with x | x; exact y x; exact z x⟩
    · rcases (key_putH fr 0 k).mp hm with q | q
      · subst q; exact lb _ (List.mem_cons_self ..)
      · exact kb _ q
theorem ci_release {m : Mem} {cl l : List Int} {a : Int} (hn : (keysI m.h).Nodup) (I : CI m cl l) (ha : a ∈ cl) : CI ⟨putH m.h a m.fr, a, m.top⟩ (cl.filter fun j => !decide (j = a)) (a :: l) := by
  have hk := (I.mem a).mp ha
  have hb := I.kb _ hk.1
  refine ⟨.cons (Int.ne_of_gt hb.1) ?_, List.nodup_cons.mpr ⟨hk.2, I.nl⟩, I.nc.filter _, I.oc.filter _, fun k => ?_, fun k hm => ?_, fun k hm => ?_, I.tp⟩
  · show Chain (putH m.h a m.fr) (getI (putH m.h a m.fr) a) l
    rw [getI_putH hn, if_pos rfl]
    exact chain_put hn I.ch hk.2
  · show _ ↔ k ∈ keysI (putH m.h a m.fr) ∧ _
    rw [List.mem_filter, key_putH, I.mem, List.mem_cons]
    constructor
    · rintro ⟨q, z⟩
      have z : ¬ k = a := by simpa using z
      exact ⟨.inr q.1, fun y => by rcases y with y | y; exact z y; exact q.2 y⟩
    · rintro ⟨q | q, z⟩
      · exact absurd (.inl q) z
      · exact ⟨⟨q, fun y => z (.inr y)⟩, by have y : ¬ k = a := fun y => z (.inl y); simp [y]⟩
  · rcases (key_putH a m.fr k).mp hm with q | q
    · subst q; exact hb
    · exact I.kb _ q
  · rcases List.mem_cons.mp hm with q | q
    · subst q; exact hb
    · exact I.lb _ q
end K9
/-! The invariant along a step. -/
namespace K9
open PySem L2 Dn
theorem ci_go {i : Ins} {f f' : FM} {m m' : Mem} {cl l : List Int} (hn : (keysI m.h).Nodup) (I : CI m cl l) (ha : AskOk i f cl) (e : exI i f m = .go f' m') : ∃ l', CI m' (cellsM i f m cl) l' := by
  cases i with
  | move r s => injection e with h1 h2; subst h2; exact ⟨l, I⟩
  | zero r => injection e with h1 h2; subst h2; exact ⟨l, I⟩
  | load r s => injection e with h1 h2; subst h2; exact ⟨l, I⟩
  | store r s => injection e with h1 h2; subst h2; exact ⟨l, ci_put hn I (ha _ rfl)⟩
  | clear r => injection e with h1 h2; subst h2; exact ⟨l, ci_put hn I (ha _ rfl)⟩
  | release r => injection e with h1 h2; subst h2; exact ⟨_, ci_release hn I (ha _ rfl)⟩
  | alloc r =>
    simp only [exI] at e
    show ∃ l', CI m' (sortI (cl ++ [placeM m])) l'
    unfold placeM
    by_cases q : m.fr = 0
    · rw [if_pos q] at e ⊢
      injection e with h1 h2
      subst h2
      exact ⟨[], ci_alloc0 hn I q⟩
    · rw [if_neg q] at e ⊢
      injection e with h1 h2
      subst h2
      obtain ⟨l1, _, I1⟩ := ci_alloc1 hn I q
      exact ⟨l1, I1⟩
  | same r s t =>
    simp only [exI] at e
    split at e <;> (injection e with h1 h2; subst h2; exact ⟨l, I⟩)
  | nil r t =>
    simp only [exI] at e
    split at e <;> (injection e with h1 h2; subst h2; exact ⟨l, I⟩)
  | jump t => injection e with h1 h2; subst h2; exact ⟨l, I⟩
  | ret v => cases v <;> cases e
  | retn => cases e
  | call x b => cases e
theorem ex_ret {i : Ins} {f : FM} {m : Mem} {v : Option Int} {cl : List Int} (e : exI i f m = .ret v) : cellsM i f m cl = cl := by
  cases i with
  | alloc r => simp only [exI] at e; split at e <;> simp at e
  | release r => cases e
  | _ => rfl
theorem ci_step {cs : List (List Ins)} {s s' : St9} {i : Ins} {cl l : List Int} (hn : (keysI s.m.h).Nodup) (I : CI s.m cl l) (hi : nextM cs s = some i) (ha : AskOk i s.f cl) (h : stepM cs s = some s') : ∃ l', CI s'.m (cellsM i s.f s.m cl) l' := by
  unfold stepM at h
  rw [hi] at h
  replace h : doM i s = some s' := h
  cases s with
  | one f m =>
    cases e : exI i f m with
    | go f' m' => simp only [doM, e, Option.some.injEq] at h; subst h; exact ci_go hn I ha e
    | ret v => simp only [doM, e, Option.some.injEq] at h; subst h; exact ⟨l, by rw [show cellsM i (St9.one f m).f (St9.one f m).m cl = cl from ex_ret e]; exact I⟩
    | call w b =>
      obtain ⟨x, rfl, _⟩ := ex_call e
      simp only [doM, e, Option.some.injEq] at h; subst h; exact ⟨l, I⟩
  | two f g b m =>
    cases e : exI i g m with
    | go f' m' => simp only [doM, e, Option.some.injEq] at h; subst h; exact ci_go hn I ha e
    | ret v => simp only [doM, e, Option.some.injEq] at h; subst h; exact ⟨l, by rw [show cellsM i (St9.two f g b m).f (St9.two f g b m).m cl = cl from ex_ret e]; exact I⟩
    | call w b => simp [doM, e] at h
  | done g a b c m => cases hi
/-- rising lists of the same members are one -/
theorem rise_eq {a b : List Int} (ha : a.Nodup) (hb : b.Nodup) (oa : a.Pairwise (· ≤ ·)) (ob : b.Pairwise (· ≤ ·)) (h : ∀ k, k ∈ a ↔ k ∈ b) : a = b := by
  have p : a.Perm b := (List.perm_ext_iff_of_nodup ha hb).mpr h
  exact (sortI_is p oa).trans (sortI_is (List.Perm.refl b) ob).symm
theorem keys_rise {h : List (Int × Int)} (hs : sortP h = h) : (keysI h).Pairwise (· ≤ ·) := by
  have o := sortP_ord h
  rw [hs] at o
  unfold keysI
  rw [List.pairwise_map]
  refine o.imp fun {a b} q => ?_
  by_cases e : b.1 < a.1
  · rw [SrtO.lexB_iff.mpr (.inl e)] at q
    cases q
  · omega
theorem live_keys {m : Mem} {cl l : List Int} (hn : (keysI m.h).Nodup) (hs : sortP m.h = m.h) (I : CI m cl l) : (liveM m.h l).map (·.1) = cl := by
  refine rise_eq ?_ I.nc ?_ I.oc fun k => ?_
  · exact (hn.sublist ((List.filter_sublist).map _))
  · exact ((keys_rise hs).sublist ((List.filter_sublist).map _))
  · rw [I.mem, List.mem_map]
    constructor
    · rintro ⟨p, hp, rfl⟩
      have q := List.mem_filter.mp hp
      exact ⟨List.mem_map.mpr ⟨p, q.1, rfl⟩, by simpa using q.2⟩
    · rintro ⟨hk, hl⟩
      obtain ⟨p, hp, rfl⟩ := List.mem_map.mp hk
      exact ⟨p, List.mem_filter.mpr ⟨hp, by simp [hl]⟩, rfl⟩
theorem free_none {m : Mem} {cl l : List Int} (I : CI m cl l) : l.filter (fun k => decide (k ∈ cl)) = [] := by
  rw [List.filter_eq_nil_iff]
  intro k hk q
  exact ((I.mem k).mp (by simpa using q)).2 hk
end K9
/-! What the drawing defs draw. -/
namespace K9
open PySem L2 Dn
section
variable {F : Rho → Option SD} {ρ : Rho} {P : SD → Prop} {m : Nat} {ds : List D} {o : Own} {i : Nat}
theorem w_take (e : F ρ = some (.v (.int (m : Int)))) (h0 : 1 ≤ m) (hm : m ≤ 10000) (h : ∀ r : Nat, r < m → P (.v (.int r))) : wCall W_law_take (wCons (wDet F) wNil) ρ P := ⟨_, e, rfl, m, rfl, h0, hm, h⟩
theorem w_takeV (e : ρ[i]? = some (some (.v (.int (m : Int))))) (h0 : 1 ≤ m) (hm : m ≤ 10000) (h : ∀ r : Nat, r < m → P (.v (.int r))) : wCall W_law_take (wCons (wVar i) wNil) ρ P := ⟨_, e, m, rfl, h0, hm, h⟩
theorem ixL_nat {k : Nat} {d : D} (h : ds[k]? = some d) : gIx (.lst o ds) (.v (.int (k : Int))) = some (.v d) := ix_nat (p := false) h
theorem some_ok (h0 : 1 ≤ ds.length) (hm : ds.length ≤ 10000) (h : ∀ d ∈ ds, P (.v d)) : W_law_some [.lst o ds] P := by
  refine ⟨rfl, .lst o ds, rfl, ?_⟩
  refine w_take (m := ds.length) rfl h0 hm fun r hr => ?_
  exact ⟨_, ixL_nat (List.getElem?_eq_getElem hr), rfl, rfl, rfl, h _ (List.getElem_mem hr)⟩
theorem w_some (e : F ρ = some (.lst .new ds)) (h0 : 1 ≤ ds.length) (hm : ds.length ≤ 10000) (h : ∀ d ∈ ds, P (.v d)) : wCall W_law_some (wCons (wDet F) wNil) ρ P := ⟨_, e, rfl, some_ok h0 hm h⟩
theorem w_someV (e : ρ[i]? = some (some (.lst o ds))) (h0 : 1 ≤ ds.length) (hm : ds.length ≤ 10000) (h : ∀ d ∈ ds, P (.v d)) : wCall W_law_some (wCons (wVar i) wNil) ρ P := ⟨_, e, some_ok h0 hm h⟩
theorem mixed_ok {vs : List L2.V} (ha : allV ds = some vs) (hm : ds.length ≤ 9999) (h : ∀ ds', ds'.Perm ds → P (.lst .new ds')) : W_law_mixed [.lst .bor ds] P := by
  refine ⟨rfl, ?_⟩
  refine ⟨_, rfl, rfl, _, rfl, ?_⟩
  refine ⟨ds, vs, rfl, ha, fun j ρ => j ≤ ds.length ∧ ∃ fd x, ρ = [none, some (.lst .bor ds), some (.lst .own fd), x] ∧ fd.Perm (ds.take j), ⟨Nat.zero_le _, [], none, rfl, .refl _⟩, ?_, ?_⟩
  · rintro j d ρ' hd ⟨hj, fd, x, rfl, hp⟩
    have hjl : j < ds.length := by
      rcases Nat.lt_or_ge j ds.length with z | z
      · exact z
      · rw [List.getElem?_eq_none z] at hd; cases hd
    have hfl : fd.length = j := by rw [hp.length_eq, List.length_take]; omega
    refine ⟨fd, rfl, ?_⟩
    refine w_take (m := fd.length + 1) rfl (by omega) (by omega) fun r hr => ?_
    refine ⟨.v d, rfl, r, d, rfl, rfl, by omega, decide_eq_true (by omega), ?_⟩
    refine ⟨hjl, _, some (.v d), rfl, ?_⟩
    have e2 : ds.take (j + 1) = ds.take j ++ [d] := by
      rw [List.take_add_one, hd]; rfl
    rw [e2]
    have e3 : fd = fd.take r ++ fd.drop r := (List.take_append_drop r fd).symm
    have p1 : (fd.take r ++ [d] ++ fd.drop r).Perm ([d] ++ (fd.take r ++ fd.drop r)) := by
      rw [← List.append_assoc]
      exact List.Perm.append_right _ List.perm_append_comm
    rw [← e3] at p1
    exact p1.trans ((List.Perm.append_left _ hp).trans List.perm_append_comm)
  · rintro ρ' ⟨_, fd, x, rfl, hp⟩
    rw [List.take_length] at hp
    exact ⟨fd, rfl, rfl, h _ hp⟩
end
end K9
/-! Drawn instructions, drawn code. -/
namespace K9
open PySem L2 Dn
theorem rg_of {r : Nat} (h : r < 3) : ∃ g : Rg, D.int (r : Int) = rD g := by
  match r, h with
  | 0, _ => exact ⟨.r0, rfl⟩
  | 1, _ => exact ⟨.r1, rfl⟩
  | 2, _ => exact ⟨.r2, rfl⟩
def WordsI : List D := [.str "move", .str "zero", .str "load", .str "store", .str "clear", .str "alloc", .str "alloc", .str "release", .str "same", .str "none", .str "jump"]
theorem words_ix {d : D} (h : d ∈ WordsI) : d = .str "move" ∨ d = .str "zero" ∨ d = .str "load" ∨ d = .str "store" ∨ d = .str "clear" ∨ d = .str "alloc" ∨ d = .str "release" ∨ d = .str "same" ∨ d = .str "none" ∨ d = .str "jump" := by
  simp only [WordsI, List.mem_cons, List.not_mem_nil, or_false] at h
  rcases h with h | h | h | h | h | h | h | h | h | h | h <;> simp [h]
def InsOk (size : Nat) (i : Ins) : Prop := isEnd i = false ∧ (∀ x b, i ≠ .call x b) ∧ ∀ t, tgtI i = some t → t < size
theorem instr_ok {at_ : D} {size : Nat} {P : SD → Prop} (h0 : 1 ≤ size) (hm : size ≤ 10000) (h : ∀ i, InsOk size i → P (.v (encI i))) : W_law_instruction [.v (.int 3), .v at_, .v (.int size)] P := by
  refine ⟨rfl, ?_⟩
  refine ⟨_, rfl, rfl, _, rfl, ?_⟩
  refine w_someV (ds := WordsI) rfl (by decide) (by decide) fun d hd => ?_
  refine ⟨_, rfl, ?_⟩
  refine w_takeV (m := 3) rfl (by decide) (by decide) fun r hr => ?_
  refine w_takeV (m := 3) rfl (by decide) (by decide) fun s hs => ?_
  refine w_takeV (m := size) rfl h0 hm fun t ht => ?_
  refine ⟨_, rfl, ?_⟩
  obtain ⟨g1, e1⟩ := rg_of hr
  obtain ⟨g2, e2⟩ := rg_of hs
  rw [e1, e2]
  have nt : ∀ i, tgtI i = none → ∀ t, tgtI i = some t → t < size := fun i e t z => by rw [e] at z; cases z
  rcases words_ix hd with rfl | rfl | rfl | rfl | rfl | rfl | rfl | rfl | rfl | rfl
  · refine ⟨false, rfl, ?_⟩
    refine ⟨true, rfl, ?_⟩
    exact ⟨_, rfl, rfl, rfl, rfl, h (.move g1 g2) ⟨rfl, fun _ _ z => (nomatch z), nt _ rfl⟩⟩
  · refine ⟨true, rfl, ?_⟩
    exact ⟨_, rfl, rfl, rfl, rfl, h (.zero g1) ⟨rfl, fun _ _ z => (nomatch z), nt _ rfl⟩⟩
  · refine ⟨false, rfl, ?_⟩
    refine ⟨true, rfl, ?_⟩
    exact ⟨_, rfl, rfl, rfl, rfl, h (.load g1 g2) ⟨rfl, fun _ _ z => (nomatch z), nt _ rfl⟩⟩
  · refine ⟨false, rfl, ?_⟩
    refine ⟨true, rfl, ?_⟩
    exact ⟨_, rfl, rfl, rfl, rfl, h (.store g1 g2) ⟨rfl, fun _ _ z => (nomatch z), nt _ rfl⟩⟩
  · refine ⟨true, rfl, ?_⟩
    exact ⟨_, rfl, rfl, rfl, rfl, h (.clear g1) ⟨rfl, fun _ _ z => (nomatch z), nt _ rfl⟩⟩
  · refine ⟨true, rfl, ?_⟩
    exact ⟨_, rfl, rfl, rfl, rfl, h (.alloc g1) ⟨rfl, fun _ _ z => (nomatch z), nt _ rfl⟩⟩
  · refine ⟨true, rfl, ?_⟩
    exact ⟨_, rfl, rfl, rfl, rfl, h (.release g1) ⟨rfl, fun _ _ z => (nomatch z), nt _ rfl⟩⟩
  · refine ⟨false, rfl, ?_⟩
    refine ⟨false, rfl, ?_⟩
    refine ⟨true, rfl, ?_⟩
    exact ⟨_, rfl, rfl, rfl, rfl, h (.same g1 g2 t) ⟨rfl, fun _ _ z => (nomatch z), fun _ z => by cases z; exact ht⟩⟩
  · refine ⟨false, rfl, ?_⟩
    refine ⟨false, rfl, ?_⟩
    refine ⟨false, rfl, ?_⟩
    exact ⟨_, rfl, rfl, rfl, rfl, h (.nil g1 t) ⟨rfl, fun _ _ z => (nomatch z), fun _ z => by cases z; exact ht⟩⟩
  · refine ⟨false, rfl, ?_⟩
    refine ⟨false, rfl, ?_⟩
    refine ⟨false, rfl, ?_⟩
    exact ⟨_, rfl, rfl, rfl, rfl, h (.jump t) ⟨rfl, fun _ _ z => (nomatch z), fun _ z => by cases z; exact ht⟩⟩
end K9
/-! Drawn code. -/
namespace K9
open PySem L2 Dn
def NoCall (c : List Ins) : Prop := ∀ (j : Nat) x b, c[j]? ≠ some (.call x b)
def EachOk (c k : Nat) (cs : List (List Ins)) : Prop := cs.length = k ∧ ∀ (j : Nat) code, cs[j]? = some code → CodeOk code ∧ code.length ≤ 8 ∧ (NoCall code ∨ (j = 0 ∧ c = 1))
structure CsB (cs : List (List Ins)) : Prop where
  ok : CsOk cs
  ln : ∀ (j : Nat) code, cs[j]? = some code → code.length ≤ 8
theorem each_cs {c : Nat} {cs : List (List Ins)} (hc : c < 2) (E : EachOk c (1 + c) cs) : CsB cs := by
  obtain ⟨hl, h⟩ := E
  refine ⟨⟨?_, ?_, ?_⟩, fun j code hj => (h j code hj).2.1⟩
  · have : 0 < cs.length := by omega
    exact ⟨cs[0], List.getElem?_eq_getElem this, (h 0 _ (List.getElem?_eq_getElem this)).1⟩
  · intro j x b hi
    obtain ⟨code, h1, h2⟩ := Option.bind_eq_some_iff.mp hi
    rcases (h 0 code h1).2.2 with z | ⟨_, z⟩
    · exact absurd h2 (z j x b)
    · have : 1 < cs.length := by omega
      rw [List.getElem?_eq_getElem this]; rfl
  · intro code h1
    refine ⟨(h 1 code h1).1, ?_⟩
    rcases (h 1 code h1).2.2 with z | ⟨z, _⟩
    · exact z
    · cases z
theorem ins_list {size : Nat} : ∀ {ds : List D}, (∀ d ∈ ds, ∃ i, InsOk size i ∧ d = encI i) → ∃ is : List Ins, ds = is.map encI ∧ ∀ i ∈ is, InsOk size i
  | [], _ => ⟨[], rfl, fun _ h => nomatch h⟩
  | d :: ds, h => by
    obtain ⟨i, h1, h2⟩ := h d List.mem_cons_self
    obtain ⟨is, h3, h4⟩ := ins_list fun d hd => h d (List.mem_cons_of_mem _ hd)
    refine ⟨i :: is, by rw [h2, h3]; rfl, fun j hj => ?_⟩
    rcases List.mem_cons.mp hj with rfl | hj
    · exact h1
    · exact h4 j hj
theorem code_of {is : List Ins} {e : Ins} {size : Nat} (hs : is.length + 1 = size) (hi : ∀ i ∈ is, InsOk size i) (he : isEnd e = true) : CodeOk (is ++ [e]) ∧ NoCall (is ++ [e]) := by
  have hl : (is ++ [e]).length = size := by simpa using hs
  have key : ∀ (j : Nat) i, (is ++ [e])[j]? = some i → InsOk size i ∨ i = e := fun j i h => by
    have := List.mem_of_getElem? h
    rcases List.mem_append.mp this with z | z
    · exact .inl (hi i z)
    · exact .inr (List.mem_singleton.mp z)
  refine ⟨⟨by omega, fun i h => ?_, fun j i t h ht => ?_⟩, fun j x b h => ?_⟩
  · have : (is ++ [e]).length - 1 = is.length := by simp
    rw [this, List.getElem?_append_right (Nat.le_refl _)] at h
    simp at h
    rw [← h]; exact he
  · rcases key j i h with z | z
    · rw [hl]; exact z.2.2 t ht
    · subst z
      cases i <;> simp [tgtI, isEnd] at ht he
  · rcases key j _ h with z | z
    · exact z.2.1 x b rfl
    · rw [← z] at he; cases he
theorem code_set {code : List Ins} {j : Nat} {x : Option Rg} {b : Bool} (C : CodeOk code) (hj : j + 1 < code.length) : CodeOk (code.set j (.call x b)) := by
  refine ⟨by rw [List.length_set]; exact C.ne, fun i h => ?_, fun k i t h ht => ?_⟩
  · rw [List.length_set, List.getElem?_set_ne (by omega)] at h
    exact C.last i h
  · rw [List.length_set]
    by_cases e : j = k
    · subst e
      rw [List.getElem?_set_self (by omega)] at h
      cases h
      cases ht
    · rw [List.getElem?_set_ne e] at h
      exact C.tgt k i t h ht
theorem each_add {c k : Nat} {cs : List (List Ins)} {code : List Ins} (E : EachOk c k cs) (h1 : CodeOk code) (h2 : code.length ≤ 8) (h3 : NoCall code ∨ (k = 0 ∧ c = 1)) : EachOk c (k + 1) (cs ++ [code]) := by
  obtain ⟨hl, h⟩ := E
  refine ⟨by simp [hl], fun j code' hj => ?_⟩
  by_cases e : j < cs.length
  · rw [List.getElem?_append_left e] at hj
    exact h j code' hj
  · rw [List.getElem?_append_right (by omega)] at hj
    have e2 : j - cs.length = 0 := by
      rcases Nat.eq_zero_or_pos (j - cs.length) with z | z
      · exact z
      · rw [List.getElem?_eq_none (by show 1 ≤ _; omega)] at hj; cases hj
    rw [e2] at hj
    cases hj
    refine ⟨h1, h2, ?_⟩
    rcases h3 with h3 | ⟨h3, h4⟩
    · exact .inl h3
    · exact .inr ⟨by omega, h4⟩
theorem ixN_nat {n k : Nat} (h : k < n) : ixN n (k : Int) = some k := by
  unfold ixN
  simp [h]
theorem code_ok {c : Nat} {P : SD → Prop} (hc : c < 2) (h : ∀ cs, CsB cs → P (.v (encFs cs))) : W_law_code [.v (.int c)] P := by
  refine ⟨rfl, ?_⟩
  refine ⟨_, rfl, rfl, _, rfl, ?_⟩
  refine ⟨1 + c, rfl, by omega, fun k ρ => ∃ cs x3 x4 x5 x6, ρ = [none, some (.v (.int c)), some (.lst .own (cs.map encC)), x3, x4, x5, x6] ∧ EachOk c k cs, ⟨[], none, none, none, none, rfl, rfl, fun j code z => by cases z⟩, ?_, ?_⟩
  · rintro k ρ' hk ⟨cs, x3, x4, x5, x6, rfl, E⟩
    refine ⟨_, rfl, rfl, ?_⟩
    refine w_take (m := 5) rfl (by decide) (by decide) fun r hr => ?_
    refine ⟨.v (.int ((3 + r : Nat) : Int)), rfl, rfl, ?_⟩
    refine ⟨_, rfl, ?_⟩
    have sub1 : ∀ ρ : Rho, ρ[4]? = some (some (.v (.int ((3 + r : Nat) : Int)))) → (fTwo gSub2 (fVar 4) (fC (.int 1))) ρ = some (.v (.int ((2 + r : Nat) : Int))) := fun ρ e => by
      unfold fTwo fVar
      rw [e]
      show some (SD.v (.int (((3 + r : Nat) : Int) - 1))) = _
      congr 3
      omega
    refine ⟨2 + r, sub1 _ rfl, by omega, fun d => ∃ i, InsOk (3 + r) i ∧ d = encI i, fun j hj => ?_, fun ds hl hds => ?_⟩
    · refine ⟨_, rfl, rfl, ?_⟩
      refine ⟨_, rfl, ?_⟩
      refine ⟨_, rfl, ?_⟩
      exact instr_ok (by omega) (by omega) fun i hi => ⟨_, rfl, i, hi, rfl⟩
    · obtain ⟨is, rfl, hi⟩ := ins_list hds
      rw [List.length_map] at hl
      refine ⟨_, rfl, ?_⟩
      refine w_some (ds := [.tup false [.str "ret", .int 0], .tup false [.str "ret", .non], .tup false [.str "retnone"]]) rfl (by decide) (by decide) fun d hd => ?_
      obtain ⟨e, he, rfl⟩ : ∃ e, isEnd e = true ∧ d = encI e := by
        simp only [List.mem_cons, List.not_mem_nil, or_false] at hd
        rcases hd with rfl | rfl | rfl
        · exact ⟨.ret true, rfl, rfl⟩
        · exact ⟨.ret false, rfl, rfl⟩
        · exact ⟨.retn, rfl, rfl⟩
      refine ⟨_, rfl, decide_eq_true (by simp; omega), ?_⟩
      obtain ⟨CO, NC⟩ := code_of (size := 3 + r) (by omega) hi he
      have hlen : (is ++ [e]).length = 3 + r := by simp; omega
      have hmap : is.map encI ++ [encI e] = (is ++ [e]).map encI := by simp
      have fin : ∀ (code : List Ins) (ρ : Rho), ρ = [none, some (.v (.int c)), some (.lst .own (cs.map encC)), some (.v (.int (k : Int))), some (.v (.int ((3 + r : Nat) : Int))), some (.lst .own (code.map encI)), x6] → CodeOk code → code.length ≤ 8 → (NoCall code ∨ (k = 0 ∧ c = 1)) →
          wApp 2 (wDet (fTup (fCons (fC (.int 1)) (fCons (fC (.int 3)) (fCons (fOne gTupleW (fVar 5)) fNil))))) ρ (fun o => match o with
            | .nx ρ => ∃ cs x3 x4 x5 x6, ρ = [none, some (.v (.int c)), some (.lst .own (cs.map encC)), x3, x4, x5, x6] ∧ EachOk c (k + 1) cs
            | .ct ρ => ∃ cs x3 x4 x5 x6, ρ = [none, some (.v (.int c)), some (.lst .own (cs.map encC)), x3, x4, x5, x6] ∧ EachOk c (k + 1) cs
            | _ => False) := by
        rintro code ρ rfl h1 h2 h3
        refine ⟨_, rfl, _, rfl, rfl, encC code, rfl, ?_, cs ++ [code], some (.v (.int (k : Int))), some (.v (.int ((3 + r : Nat) : Int))), some (.lst .own (code.map encI)), x6, by rw [List.map_append]; rfl, each_add E h1 h2 h3⟩
        rw [List.length_map, E.1]
        exact decide_eq_true (by omega)
      have tst : ∀ ρ : Rho, ρ[3]? = some (some (.v (.int (k : Int)))) → ρ[1]? = some (some (.v (.int (c : Int)))) → (fAnd (fTest (fTwo (gEq false) (fVar 3) (fC (.int 0)))) (fTest (fTwo (gEq false) (fVar 1) (fC (.int 1))))) ρ = some (decide (k = 0) && decide (c = 1)) := fun ρ e1 e2 => by
        have c1 : c = 0 ∨ c = 1 := by omega
        have k1 : k = 0 ∨ k = 1 := by omega
        unfold fAnd fTest fTwo fVar
        rw [e1, e2]
        rcases c1 with rfl | rfl <;> rcases k1 with rfl | rfl <;> rfl
      refine ⟨_, tst _ rfl rfl, ?_⟩
      by_cases hkc : k = 0 ∧ c = 1
      · rw [if_pos (by simp [hkc])]
        refine ⟨_, rfl, ?_⟩
        refine ⟨_, rfl, rfl, ?_⟩
        refine ⟨_, rfl, rfl, ?_⟩
        refine w_some (ds := [.int 0, .int 1, .non]) rfl (by decide) (by decide) fun d hd => ?_
        obtain ⟨x, rfl⟩ : ∃ x : Option Rg, d = oD (x.map Rg.i) := by
          simp only [List.mem_cons, List.not_mem_nil, or_false] at hd
          rcases hd with rfl | rfl | rfl
          · exact ⟨some .r0, rfl⟩
          · exact ⟨some .r1, rfl⟩
          · exact ⟨none, rfl⟩
        refine ⟨_, rfl, rfl, ?_⟩
        refine w_some (ds := [.non, .int 2]) rfl (by decide) (by decide) fun d hd => ?_
        obtain ⟨b, rfl⟩ : ∃ b : Bool, d = bD b := by
          simp only [List.mem_cons, List.not_mem_nil, or_false] at hd
          rcases hd with rfl | rfl
          · exact ⟨false, rfl⟩
          · exact ⟨true, rfl⟩
        refine ⟨_, rfl, rfl, ?_⟩
        refine w_take (m := 2 + r) (sub1 _ rfl) (by omega) (by omega) fun j hj => ?_
        refine ⟨_, (j : Int), j, rfl, rfl, ixN_nat (by simp; omega), ?_⟩
        show wApp 2 _ _ _
        refine fin ((is ++ [e]).set j (.call x b)) _ ?_ (code_set CO (by omega)) (by rw [List.length_set]; omega) (.inr hkc)
        rw [List.map_set, ← hmap]
        rfl
      · rw [if_neg (by simpa using hkc)]
        show wApp 2 _ _ _
        refine fin (is ++ [e]) _ (by rw [← hmap]; rfl) CO (by omega) (.inl NC)
  · rintro ρ' ⟨cs, x3, x4, x5, x6, rfl, E⟩
    exact ⟨_, rfl, rfl, rfl, rfl, h cs (each_cs hc E)⟩
end K9
/-! Drawn memories. -/
namespace K9
open PySem L2 Dn
def insAll {α : Type} (a : α) (l : List α) : List (List α) := (List.range (l.length + 1)).map fun i => l.take i ++ a :: l.drop i
def perms {α : Type} : List α → List (List α)
  | [] => [[]]
  | a :: l => (perms l).flatMap (insAll a)
theorem perm_mem {α : Type} : ∀ {l l' : List α}, l'.Perm l → l' ∈ perms l
  | [], l', h => by
    rw [List.Perm.eq_nil h]
    exact List.mem_singleton.mpr rfl
  | a :: l, l', h => by
    have ha : a ∈ l' := h.mem_iff.mpr List.mem_cons_self
    obtain ⟨s, t, rfl⟩ := List.append_of_mem ha
    have h2 : (s ++ t).Perm l := (List.perm_middle.symm.trans h).cons_inv
    refine List.mem_flatMap.mpr ⟨s ++ t, perm_mem h2, List.mem_map.mpr ⟨s.length, ?_, ?_⟩⟩
    · rw [List.mem_range, List.length_append]; omega
    · simp
def memD (q : Int × List (Int × Int)) : D := .tup false [.tup true [.tup false [.str "x", .int q.1]], heapD q.2]
def mems : List (Int × List (Int × Int)) := [(0, []), (1, [(1, 0)]), (1, [(1, 2), (2, 0)]), (2, [(1, 0), (2, 1)]), (1, [(1, 2), (2, 3), (3, 0)]), (2, [(1, 3), (2, 1), (3, 0)]), (2, [(1, 0), (2, 3), (3, 1)]), (1, [(1, 3), (2, 0), (3, 2)]), (3, [(1, 2), (2, 0), (3, 1)]), (3, [(1, 0), (2, 1), (3, 2)])]
theorem chain_ok {n : Nat} {P : SD → Prop} (hn : n < 4) (h : ∀ q ∈ mems, P (.v (memD q))) : W_law_chain [.lst .bor [.str "x"], .lst .bor [.int n]] P := by
  match n, hn with
  | 0, _ =>
    refine ⟨rfl, ?_⟩
    refine ⟨_, rfl, rfl, _, rfl, ?_⟩
    refine ⟨.lst .new [], rfl, rfl, ?_⟩
    refine mixed_ok (vs := []) rfl (by decide) fun ds hp => ?_
    refine ⟨_, rfl, ?_⟩
    replace hp := perm_mem hp
    replace hp : ds ∈ [[]] := hp
    simp only [List.mem_cons, List.not_mem_nil, or_false] at hp
    subst hp
    exact ⟨.v (memD (mems[0]'(by decide))), rfl, rfl, rfl, h _ (List.getElem_mem _)⟩
  | 1, _ =>
    refine ⟨rfl, ?_⟩
    refine ⟨_, rfl, rfl, _, rfl, ?_⟩
    refine ⟨.lst .new [.int 1], rfl, rfl, ?_⟩
    refine mixed_ok (vs := [.int 1]) rfl (by decide) fun ds hp => ?_
    refine ⟨_, rfl, ?_⟩
    replace hp := perm_mem hp
    replace hp : ds ∈ [[.int 1]] := hp
    simp only [List.mem_cons, List.not_mem_nil, or_false] at hp
    subst hp
    exact ⟨.v (memD (mems[1]'(by decide))), rfl, rfl, rfl, h _ (List.getElem_mem _)⟩
  | 2, _ =>
    refine ⟨rfl, ?_⟩
    refine ⟨_, rfl, rfl, _, rfl, ?_⟩
    refine ⟨.lst .new [.int 1, .int 2], rfl, rfl, ?_⟩
    refine mixed_ok (vs := [.int 1, .int 2]) rfl (by decide) fun ds hp => ?_
    refine ⟨_, rfl, ?_⟩
    replace hp := perm_mem hp
    replace hp : ds ∈ [[.int 1, .int 2], [.int 2, .int 1]] := hp
    simp only [List.mem_cons, List.not_mem_nil, or_false] at hp
    rcases hp with rfl | rfl
    · exact ⟨.v (memD (mems[2]'(by decide))), rfl, rfl, rfl, h _ (List.getElem_mem _)⟩
    · exact ⟨.v (memD (mems[3]'(by decide))), rfl, rfl, rfl, h _ (List.getElem_mem _)⟩
  | 3, _ =>
    refine ⟨rfl, ?_⟩
    refine ⟨_, rfl, rfl, _, rfl, ?_⟩
    refine ⟨.lst .new [.int 1, .int 2, .int 3], rfl, rfl, ?_⟩
    refine mixed_ok (vs := [.int 1, .int 2, .int 3]) rfl (by decide) fun ds hp => ?_
    refine ⟨_, rfl, ?_⟩
    replace hp := perm_mem hp
    replace hp : ds ∈ [[.int 1, .int 2, .int 3], [.int 2, .int 1, .int 3], [.int 2, .int 3, .int 1], [.int 1, .int 3, .int 2], [.int 3, .int 1, .int 2], [.int 3, .int 2, .int 1]] := hp
    simp only [List.mem_cons, List.not_mem_nil, or_false] at hp
    rcases hp with rfl | rfl | rfl | rfl | rfl | rfl
    · exact ⟨.v (memD (mems[4]'(by decide))), rfl, rfl, rfl, h _ (List.getElem_mem _)⟩
    · exact ⟨.v (memD (mems[5]'(by decide))), rfl, rfl, rfl, h _ (List.getElem_mem _)⟩
    · exact ⟨.v (memD (mems[6]'(by decide))), rfl, rfl, rfl, h _ (List.getElem_mem _)⟩
    · exact ⟨.v (memD (mems[7]'(by decide))), rfl, rfl, rfl, h _ (List.getElem_mem _)⟩
    · exact ⟨.v (memD (mems[8]'(by decide))), rfl, rfl, rfl, h _ (List.getElem_mem _)⟩
    · exact ⟨.v (memD (mems[9]'(by decide))), rfl, rfl, rfl, h _ (List.getElem_mem _)⟩
end K9
/-! Small data has a short text. -/
namespace K9
open PySem PySem.Spec L2 Dn
mutual
def smallP : PyData → Bool
  | .none => true
  | .int i => decide (-1 ≤ i) && decide (i < 1000)
  | .tuple xs => smallAllP xs
  | _ => false
def smallAllP : List PyData → Bool
  | [] => true
  | x :: xs => smallP x && smallAllP xs
end
mutual
def costP : PyData → Nat
  | .tuple xs => costAllP xs + 3
  | _ => 5
def costAllP : List PyData → Nat
  | [] => 0
  | x :: xs => costP x + 2 + costAllP xs
end
theorem int_len {i : Int} (h0 : -1 ≤ i) (h1 : i < 1000) : (PyData.shown (.int i)).length ≤ 5 := by
  have k : ∀ n : Fin 1000, (PyData.shown (.int (n.val : Int))).length ≤ 5 := by decide +kernel
  have k1 : (PyData.shown (.int (-1))).length ≤ 5 := by decide +kernel
  rcases Int.lt_or_le i 0 with z | z
  · have : i = -1 := by omega
    subst this
    exact k1
  · obtain ⟨n, rfl⟩ := Int.eq_ofNat_of_zero_le z
    exact k ⟨n, by omega⟩
theorem tup_len (ts : List Str) : (tupleText ts).length ≤ piled ts + 3 := by
  unfold tupleText
  rw [strLen_append, strLen_append]
  have e1 : (("(" : String) : Str).length = 1 := rfl
  have e2 : (((if ts.length == 1 then ",)" else ")" : String)) : Str).length ≤ 2 := by split <;> decide
  have e3 : (Str.join ", " ts).length ≤ piled ts := by
    cases ts with
    | nil => exact Nat.le_refl _
    | cons t ts =>
      have := join_length_add (t :: ts) (by simp)
      omega
  have e4 : (("(" : Str)).length = 1 := rfl
  omega
mutual
theorem small_ok : ∀ d : PyData, smallP d = true → d.showable = true ∧ d.canLay0 = true ∧ d.shown.length ≤ costP d
  | .none, _ => ⟨rfl, rfl, by decide⟩
  | .int i, h => by
    have h := h
    simp only [smallP, Bool.and_eq_true, decide_eq_true_eq] at h
    refine ⟨decide_eq_true ?_, rfl, int_len h.1 h.2⟩
    have : i.natAbs < 1000 := by omega
    have := Nat.log2_le_self i.natAbs
    omega
  | .tuple xs, h => by
    simp only [smallP] at h
    obtain ⟨h1, h2, h3⟩ := smallAll_ok xs h
    refine ⟨by simp only [PyData.showable]; exact h1, by simp only [PyData.canLay0]; exact h2, ?_⟩
    simp only [PyData.shown, costP]
    exact Nat.le_trans (tup_len _) (by omega)
  | .bool _, h => by cases h
  | .str _, h => by cases h
  | .list _, h => by cases h
  | .dict _, h => by cases h
theorem smallAll_ok : ∀ xs : List PyData, smallAllP xs = true → PyData.showableAll xs = true ∧ PyData.canLayAll0 xs = true ∧ piled (PyData.shownAll xs) ≤ costAllP xs
  | [], _ => ⟨rfl, rfl, Nat.le_refl _⟩
  | x :: xs, h => by
    simp only [smallAllP, Bool.and_eq_true] at h
    obtain ⟨a1, a2, a3⟩ := small_ok x h.1
    obtain ⟨b1, b2, b3⟩ := smallAll_ok xs h.2
    refine ⟨by simp [PyData.showableAll, a1, b1], by simp [PyData.canLayAll0, a2, b2], ?_⟩
    simp only [PyData.shownAll, costAllP, piled_cons]
    omega
end
theorem alk_small {d : PyData} (h : smallP d = true) (hd : d.depth ≤ 64) (hc : costP d ≤ 1000000) : AlkOk d := by
  obtain ⟨h1, h2, h3⟩ := small_ok d h
  exact ⟨Bool.and_eq_true_iff.mpr ⟨h2, decide_eq_true hd⟩, h1, Nat.le_trans (Nat.le_trans h3 hc) (by decide)⟩
/-! lists of ints, of pairs -/
def w1 (i : Int) : Prop := -1 ≤ i ∧ i < 1000
theorem small_iD : ∀ {l : List Int}, (∀ i ∈ l, w1 i) → smallAllP (erAll (iD l)) = true
  | [], _ => rfl
  | i :: l, h => by
    have := h i List.mem_cons_self
    show (smallP (.int i) && smallAllP (erAll (iD l))) = true
    rw [small_iD fun j hj => h j (List.mem_cons_of_mem _ hj)]
    simp [smallP, this.1, this.2]
theorem cost_iD : ∀ (l : List Int), costAllP (erAll (iD l)) = 7 * l.length
  | [] => rfl
  | i :: l => by
    show 5 + 2 + costAllP (erAll (iD l)) = _
    rw [cost_iD l, List.length_cons]
    omega
theorem depth_iD : ∀ (l : List Int), PyData.depthAll (erAll (iD l)) = 0
  | [] => rfl
  | i :: l => by
    show max 0 (PyData.depthAll (erAll (iD l))) = 0
    rw [depth_iD l]
    rfl
theorem lay_iD : ∀ (l : List Int), PyData.canLayAll0 (erAll (iD l)) = true
  | [] => rfl
  | i :: l => by
    show (true && PyData.canLayAll0 (erAll (iD l))) = true
    rw [lay_iD l]
    rfl
theorem small_prs : ∀ {h : List (Int × Int)}, (∀ p ∈ h, w1 p.1 ∧ w1 p.2) → smallAllP (erAll (h.map pairD)) = true
  | [], _ => rfl
  | p :: l, h => by
    have := h p List.mem_cons_self
    show ((smallP (.int p.1) && (smallP (.int p.2) && true)) && smallAllP (erAll (l.map pairD))) = true
    rw [small_prs fun j hj => h j (List.mem_cons_of_mem _ hj)]
    simp [smallP, this.1.1, this.1.2, this.2.1, this.2.2]
theorem cost_prs : ∀ (h : List (Int × Int)), costAllP (erAll (h.map pairD)) = 19 * h.length
  | [] => rfl
  | p :: l => by
    show (5 + 2 + (5 + 2 + 0) + 3) + 2 + costAllP (erAll (l.map pairD)) = _
    rw [cost_prs l, List.length_cons]
    omega
theorem depth_prs : ∀ (h : List (Int × Int)), PyData.depthAll (erAll (h.map pairD)) ≤ 1
  | [] => Nat.zero_le _
  | p :: l => by
    show max (max 0 (max 0 0) + 1) (PyData.depthAll (erAll (l.map pairD))) ≤ 1
    have := depth_prs l
    omega
end K9
/-! The words of a stand are all below its top. -/
namespace K9
open PySem PySem.Spec L2 Dn
def inT (t i : Int) : Prop := 0 ≤ i ∧ i < t
theorem inT.mono {t u i : Int} (h : inT t i) (e : t ≤ u) : inT u i := ⟨h.1, Int.lt_of_lt_of_le h.2 e⟩
def WF (t : Int) (f : FM) : Prop := inT t f.a ∧ inT t f.b ∧ inT t f.c
theorem WF.mono {t u : Int} {f : FM} (h : WF t f) (e : t ≤ u) : WF u f := ⟨h.1.mono e, h.2.1.mono e, h.2.2.mono e⟩
theorem WF.get {t : Int} {f : FM} (h : WF t f) (r : Rg) : inT t (f.get r) := by
  cases r
  · exact h.1
  · exact h.2.1
  · exact h.2.2
theorem WF.set {t : Int} {f : FM} (h : WF t f) (r : Rg) {w : Int} (hw : inT t w) : WF t (f.set r w) := by
  cases r
  · exact ⟨hw, h.2.1, h.2.2⟩
  · exact ⟨h.1, hw, h.2.2⟩
  · exact ⟨h.1, h.2.1, hw⟩
structure WM (m : Mem) : Prop where
  tp : 0 < m.top
  hp : ∀ p ∈ m.h, inT m.top p.1 ∧ inT m.top p.2
  fr : inT m.top m.fr
theorem WM.zero {m : Mem} (h : WM m) : inT m.top 0 := ⟨Int.le_refl _, h.tp⟩
theorem getI_in {h : List (Int × Int)} {t a : Int} (h0 : inT t 0) (hp : ∀ p ∈ h, inT t p.1 ∧ inT t p.2) : inT t (getI h a) := by
  unfold getI
  cases e : h.find? (fun p => decide (p.1 = a)) with
  | none => exact h0
  | some p => exact (hp p (List.mem_of_find?_eq_some e)).2
theorem putH_in {h : List (Int × Int)} {t k v : Int} (hk : inT t k) (hv : inT t v) (hp : ∀ p ∈ h, inT t p.1 ∧ inT t p.2) : ∀ p ∈ putH h k v, inT t p.1 ∧ inT t p.2 := fun p hm => by
  have hm : p ∈ putI h k v := (sortP_perm _).mem_iff.mp hm
  unfold putI at hm
  split at hm
  · obtain ⟨q, hq, rfl⟩ := List.mem_map.mp hm
    split
    · exact ⟨(hp q hq).1, hv⟩
    · exact hp q hq
  · rcases List.mem_append.mp hm with z | z
    · exact hp p z
    · rw [List.mem_singleton.mp z]
      exact ⟨hk, hv⟩
theorem WM.put {m : Mem} (h : WM m) {k v : Int} (hk : inT m.top k) (hv : inT m.top v) : WM { m with h := putH m.h k v } := ⟨h.tp, putH_in hk hv h.hp, h.fr⟩
theorem ex_w {i : Ins} {f f' : FM} {m m' : Mem} (M : WM m) (W : WF m.top f) (e : exI i f m = .go f' m') : WM m' ∧ WF m'.top f' ∧ m.top ≤ m'.top ∧ m'.top ≤ m.top + 1 := by
  have le := Int.le_refl m.top
  have lt : m.top ≤ m.top + 1 := by omega
  cases i with
  | move r s => injection e with h1 h2; subst h1 h2; exact ⟨M, W.set r (W.get s), le, lt⟩
  | zero r => injection e with h1 h2; subst h1 h2; exact ⟨M, W.set r M.zero, le, lt⟩
  | load r s => injection e with h1 h2; subst h1 h2; exact ⟨M, W.set r (getI_in M.zero M.hp), le, lt⟩
  | store r s => injection e with h1 h2; subst h1 h2; exact ⟨M.put (W.get r) (W.get s), W, le, lt⟩
  | clear r => injection e with h1 h2; subst h1 h2; exact ⟨M.put (W.get r) M.zero, W, le, lt⟩
  | release r => injection e with h1 h2; subst h1 h2; exact ⟨⟨M.tp, putH_in (W.get r) M.fr M.hp, W.get r⟩, W, le, lt⟩
  | alloc r =>
    simp only [exI] at e
    split at e
    · injection e with h1 h2
      subst h1 h2
      have hp : ∀ p ∈ m.h, inT (m.top + 1) p.1 ∧ inT (m.top + 1) p.2 := fun p hp => ⟨(M.hp p hp).1.mono lt, (M.hp p hp).2.mono lt⟩
      have t0 : inT (m.top + 1) 0 := M.zero.mono lt
      have tt : inT (m.top + 1) m.top := ⟨Int.le_of_lt M.tp, by omega⟩
      exact ⟨⟨by have := M.tp; show 0 < m.top + 1; omega, putH_in tt t0 hp, t0⟩, (W.mono lt).set r tt, lt, Int.le_refl _⟩
    · injection e with h1 h2
      subst h1 h2
      exact ⟨⟨M.tp, putH_in M.fr M.zero M.hp, getI_in M.zero M.hp⟩, W.set r M.fr, le, lt⟩
  | same r s t =>
    simp only [exI] at e
    split at e <;> injection e with h1 h2 <;> subst h1 h2 <;> exact ⟨M, W, le, lt⟩
  | nil r t =>
    simp only [exI] at e
    split at e <;> injection e with h1 h2 <;> subst h1 h2 <;> exact ⟨M, W, le, lt⟩
  | jump t => injection e with h1 h2; subst h1 h2; exact ⟨M, W, le, lt⟩
  | ret v => cases v <;> cases e
  | retn => cases e
  | call x b => cases e
def WO : St9 → Prop
  | .one f m => WM m ∧ WF m.top f
  | .two f g _ m => WM m ∧ WF m.top f ∧ WF m.top g
  | .done v a b c m => WM m ∧ (∀ x, v = some x → inT m.top x) ∧ inT m.top a ∧ inT m.top b ∧ inT m.top c
theorem ret_in {i : Ins} {f : FM} {m : Mem} {v : Option Int} (M : WM m) (W : WF m.top f) (e : exI i f m = .ret v) : ∀ x, v = some x → inT m.top x := fun x hx => by
  subst hx
  cases i with
  | ret v =>
    cases v with
    | true => injection e with h1; cases h1; exact W.1
    | false => injection e with h1; cases h1
  | retn => injection e with h1; cases h1; exact M.zero
  | alloc r => simp only [exI] at e; split at e <;> cases e
  | same r s t => simp only [exI] at e; split at e <;> cases e
  | nil r t => simp only [exI] at e; split at e <;> cases e
  | _ => cases e
theorem step_w {cs : List (List Ins)} {s s' : St9} (W : WO s) (h : stepM cs s = some s') : WO s' ∧ s'.m.top ≤ s.m.top + 1 := by
  obtain ⟨i, hi, h⟩ := Option.bind_eq_some_iff.mp h
  cases s with
  | one f m =>
    obtain ⟨M, F⟩ := W
    simp only [doM] at h
    cases e : exI i f m with
    | go f' m' =>
      rw [e] at h
      cases h
      obtain ⟨a, b, c, d⟩ := ex_w M F e
      exact ⟨⟨a, b⟩, d⟩
    | ret v =>
      rw [e] at h
      cases h
      exact ⟨⟨M, ret_in M F e, F.1, F.2.1, F.2.2⟩, by show m.top ≤ m.top + 1; omega⟩
    | call w b =>
      rw [e] at h
      cases h
      obtain ⟨x, rfl, rfl⟩ := ex_call e
      refine ⟨⟨M, F, ?_, M.zero, M.zero⟩, by show m.top ≤ m.top + 1; omega⟩
      cases x with
      | none => exact M.zero
      | some r => exact F.get r
  | two f g b m =>
    obtain ⟨M, F, G⟩ := W
    simp only [doM] at h
    cases e : exI i g m with
    | go g' m' =>
      rw [e] at h
      cases h
      obtain ⟨x, y, z, d⟩ := ex_w M G e
      exact ⟨⟨x, F.mono z, y⟩, d⟩
    | ret v =>
      rw [e] at h
      cases h
      refine ⟨⟨M, ?_⟩, by show m.top ≤ m.top + 1; omega⟩
      cases b with
      | false => exact F
      | true =>
        refine F.set .r2 ?_
        cases v with
        | none => exact M.zero
        | some x => exact ret_in M G e x rfl
    | call w b => rw [e] at h; cases h
  | done v a b c m => cases hi
end K9
/-! Stands are small data. -/
namespace K9
open PySem PySem.Spec L2 Dn
structure SmD (d : PyData) (k c : Nat) : Prop where
  sm : smallP d = true
  dp : d.depth ≤ k
  co : costP d ≤ c
theorem SmD.alk {d : PyData} {k c : Nat} (h : SmD d k c) (hk : k ≤ 64) (hc : c ≤ 1000000) : AlkOk d := alk_small h.sm (Nat.le_trans h.dp hk) (Nat.le_trans h.co hc)
theorem inT.w1 {t i : Int} (h : inT t i) (ht : t ≤ 999) : w1 i := ⟨by have := h.1; omega, by have := h.2; omega⟩
theorem idx_lt {cs : List (List Ins)} {k j : Nat} (C : CsB cs) (h : IdxOk cs k j) : j < 8 := by
  obtain ⟨c, h1, h2⟩ := h
  have := C.ln k c h1
  omega
theorem sm_int {i : Int} (h : w1 i) : smallP (.int i) = true := by
  have := h.1
  have := h.2
  simp [smallP, *]
theorem sm_heap {m : Mem} (W : WM m) (ht : m.top ≤ 999) : smallAllP (erAll (m.h.map pairD)) = true := small_prs fun p hp => ⟨(W.hp p hp).1.w1 ht, (W.hp p hp).2.w1 ht⟩
theorem sm_fr {n : Int} {f : FM} {t : Int} {into : D} (hn : w1 n) (hi : f.idx < 8) (W : WF t f) (ht : t ≤ 999) (h2 : smallP (er into) = true) : smallP (er (encF n f into)) = true := by
  show (smallP (.int n) && (smallP (.int f.idx) && ((smallP (.int f.a) && (smallP (.int f.b) && (smallP (.int f.c) && true))) && (smallP (er into) && true)))) = true
  rw [sm_int hn, sm_int (i := f.idx) ⟨by omega, by omega⟩, sm_int (W.1.w1 ht), sm_int (W.2.1.w1 ht), sm_int (W.2.2.w1 ht), h2]
  rfl
theorem sm_encW {fr : List D} {m : Mem} (W : WM m) (ht : m.top ≤ 999) (hf : smallAllP (erAll fr) = true) (hd : PyData.depthAll (erAll fr) ≤ 2) (hc : costAllP (erAll fr) ≤ 1000) (hl : m.h.length ≤ 9999) : SmD (er (encW fr m)) 4 200000 := by
  refine ⟨?_, ?_, ?_⟩
  · show (smallAllP (erAll fr) && (smallAllP (erAll (m.h.map pairD)) && (smallP (.int m.fr) && (smallP (.int m.top) && true)))) = true
    rw [hf, sm_heap W ht, sm_int (W.fr.w1 ht), sm_int (i := m.top) ⟨by have := W.tp; omega, by omega⟩]
    rfl
  · show max (PyData.depthAll (erAll fr) + 1) (max (PyData.depthAll (erAll (m.h.map pairD)) + 1) (max 0 (max 0 0))) + 1 ≤ 4
    have := depth_prs m.h
    omega
  · show (costAllP (erAll fr) + 3) + 2 + ((costAllP (erAll (m.h.map pairD)) + 3) + 2 + (5 + 2 + (5 + 2 + 0))) + 3 ≤ 200000
    rw [cost_prs]
    omega
theorem sm_st {cs : List (List Ins)} {s : St9} (C : CsB cs) (S : StOk cs s) (W : WO s) (ht : s.m.top ≤ 999) (hl : s.m.h.length ≤ 9999) : SmD (er (encS s)) 4 200000 := by
  have w0 : w1 0 := ⟨by omega, by omega⟩
  cases s with
  | one f m =>
    refine sm_encW W.1 ht ?_ ?_ ?_ hl
    · show (smallP (er (encF 0 f .non)) && true) = true
      rw [sm_fr w0 (idx_lt C S) W.2 ht rfl]
      rfl
    · show max (max 0 (max 0 (max (max 0 (max 0 (max 0 0)) + 1) (max 0 0))) + 1) 0 ≤ 2
      decide
    · show (5 + 2 + (5 + 2 + ((5 + 2 + (5 + 2 + (5 + 2 + 0)) + 3) + 2 + (5 + 2 + 0))) + 3) + 2 + 0 ≤ 1000
      decide
  | two f g b m =>
    refine sm_encW W.1 ht ?_ ?_ ?_ hl
    · show (smallP (er (encF 0 f .non)) && (smallP (er (encF 1 g (bD b))) && true)) = true
      rw [sm_fr w0 (idx_lt C S.1) W.2.1 ht rfl, sm_fr ⟨by omega, by omega⟩ (idx_lt C S.2) W.2.2 ht (by cases b <;> decide)]
      rfl
    · cases b <;> exact (show max (max 0 (max 0 (max (max 0 (max 0 (max 0 0)) + 1) (max 0 0))) + 1) (max (max 0 (max 0 (max (max 0 (max 0 (max 0 0)) + 1) (max 0 0))) + 1) 0) ≤ 2 by decide)
    · cases b <;> exact (show (5 + 2 + (5 + 2 + ((5 + 2 + (5 + 2 + (5 + 2 + 0)) + 3) + 2 + (5 + 2 + 0))) + 3) + 2 + ((5 + 2 + (5 + 2 + ((5 + 2 + (5 + 2 + (5 + 2 + 0)) + 3) + 2 + (5 + 2 + 0))) + 3) + 2 + 0) ≤ 1000 by decide)
  | done v a b c m =>
    refine sm_encW W.1 ht ?_ ?_ ?_ hl
    · show ((smallP (.int (-1)) && (smallP (er (oD v)) && ((smallP (.int a) && (smallP (.int b) && (smallP (.int c) && true))) && (true && true)))) && true) = true
      have hv : smallP (er (oD v)) = true := by
        cases v with
        | none => rfl
        | some x => exact sm_int ((W.2.1 x rfl).w1 ht)
      rw [hv, sm_int (i := -1) ⟨by omega, by omega⟩, sm_int (W.2.2.1.w1 ht), sm_int (W.2.2.2.1.w1 ht), sm_int (W.2.2.2.2.w1 ht)]
      rfl
    · cases v <;> exact (show max (max 0 (max 0 (max (max 0 (max 0 (max 0 0)) + 1) (max 0 0))) + 1) 0 ≤ 2 by decide)
    · cases v <;> exact (show (5 + 2 + (5 + 2 + ((5 + 2 + (5 + 2 + (5 + 2 + 0)) + 3) + 2 + (5 + 2 + 0))) + 3) + 2 + 0 ≤ 1000 by decide)
/-- a stand beside its cells -/
theorem sm_pair {d : D} {cl : List Int} (h : SmD (er d) 4 200000) (hc : ∀ i ∈ cl, w1 i) (hl : cl.length ≤ 10000) : SmD (er (.tup false [d, .tup false (iD cl)])) 5 400000 := by
  refine ⟨?_, ?_, ?_⟩
  · show (smallP (er d) && (smallAllP (erAll (iD cl)) && true)) = true
    rw [h.sm, small_iD hc]
    rfl
  · show max (er d).depth (max (PyData.depthAll (erAll (iD cl)) + 1) 0) + 1 ≤ 5
    rw [depth_iD]
    have := h.dp
    omega
  · show costP (er d) + 2 + ((costAllP (erAll (iD cl)) + 3) + 2 + 0) + 3 ≤ 400000
    rw [cost_iD]
    have := h.co
    omega
theorem sm_oD {v : Option Int} (h : ∀ x, v = some x → w1 x) : SmD (er (oD v)) 0 5 := by
  cases v with
  | none => exact ⟨rfl, Nat.le_refl _, Nat.le_refl _⟩
  | some x => exact ⟨sm_int (h x rfl), Nat.le_refl _, Nat.le_refl _⟩
/-! distinct words within bounds are few -/
theorem nodup_len : ∀ (T : Nat) {l : List Int}, l.Nodup → (∀ k ∈ l, 0 < k ∧ k ≤ T) → l.length ≤ T
  | 0, [], _, _ => Nat.le_refl _
  | 0, k :: l, _, h => by
    have := h k List.mem_cons_self
    omega
  | T + 1, l, nd, h => by
    by_cases hm : ((T + 1 : Nat) : Int) ∈ l
    · have h1 := nodup_len T (l := l.erase ((T + 1 : Nat) : Int)) (nd.erase _) fun k hk => by
        have h2 := h k (List.mem_of_mem_erase hk)
        have h3 : k ≠ ((T + 1 : Nat) : Int) := fun e => by
          subst e
          exact (List.Nodup.mem_erase_iff nd).mp hk |>.1 rfl
        omega
      have h4 := List.length_erase_of_mem hm
      have h5 := List.length_pos_of_mem hm
      omega
    · have := nodup_len T nd fun k hk => by
        have h2 := h k hk
        have h3 : k ≠ ((T + 1 : Nat) : Int) := fun e => hm (e ▸ hk)
        omega
      omega
theorem ci_len {m : Mem} {cl l : List Int} (I : CI m cl l) (ht : m.top ≤ 999) : cl.length ≤ 999 ∧ l.length ≤ 999 ∧ (∀ k ∈ cl, w1 k) := by
  have hc : ∀ k ∈ cl, 0 < k ∧ k < m.top := fun k hk => I.kb k ((I.mem k).mp hk).1
  exact ⟨nodup_len 999 I.nc fun k hk => by have := hc k hk; omega, nodup_len 999 I.nl fun k hk => by have := I.lb k hk; omega, fun k hk => by have := hc k hk; exact ⟨by omega, by omega⟩⟩
end K9
/-! The plain functions at a stand. -/
namespace K9
open PySem PySem.Spec L2 Dn
section
variable {cs : List (List Ins)} {s s' : St9} {i : Ins} {cl : List Int} {o : Own}
theorem law_asked_is (hi : nextM cs s = some i) : F_law_asked [.v (encFs cs), .v (encS s)] = some (.v (oD (askM i s.f))) := by
  cases s with
  | one f m =>
    have hi : insAt cs 0 f.idx = some i := hi
    rw [one_is]
    exact law_asked_ok hi
  | two f g b m =>
    have hi : insAt cs 1 g.idx = some i := hi
    rw [two_is]
    exact law_asked_ok hi
  | done g a b c m => cases hi
theorem asked_is (hi : nextM cs s = some i) : F_asked_by [.v (encFs cs), .v (encS s)] = some (.v (oD (askM i s.f))) := by
  cases s with
  | one f m =>
    have hi : insAt cs 0 f.idx = some i := hi
    rw [one_is]
    exact asked_ok (one_on f .non (heapD m.h) (.int m.fr) (.int m.top)) hi
  | two f g b m =>
    have hi : insAt cs 1 g.idx = some i := hi
    rw [two_is]
    exact asked_ok (two_on f g (bD b) (heapD m.h) (.int m.fr) (.int m.top) .non) hi
  | done g a b c m => cases hi
theorem inst_is (hi : nextM cs s = some i) : F_instruction_at [.v (encFs cs), .v (encS s)] = some (.v (encI i)) := by
  cases s with
  | one f m =>
    have hi : insAt cs 0 f.idx = some i := hi
    rw [one_is]
    exact inst_ok (one_on f .non (heapD m.h) (.int m.fr) (.int m.top)) hi
  | two f g b m =>
    have hi : insAt cs 1 g.idx = some i := hi
    rw [two_is]
    exact inst_ok (two_on f g (bD b) (heapD m.h) (.int m.fr) (.int m.top) .non) hi
  | done g a b c m => cases hi
theorem law_cells_is (hl : few (cl.length + 1) = true) (hi : nextM cs s = some i) : F_law_cells [.v (encFs cs), .v (encS s), .lst o (iD cl)] = some (.lst .new (iD (cellsM i s.f s.m cl))) := by
  cases s with
  | one f m =>
    have hi : insAt cs 0 f.idx = some i := hi
    rw [one_is]
    exact law_cells_ok (m := m) hl hi
  | two f g b m =>
    have hi : insAt cs 1 g.idx = some i := hi
    rw [two_is]
    exact law_cells_ok (m := m) hl hi
  | done g a b c m => cases hi
def numF : St9 → Int
  | .one _ _ => 0
  | .two .. => 1
  | .done .. => -1
/-- the frame at the top: its number, its index -/
theorem top_sl (hd : isDone s = false) {F : Rho → Option SD} {ρ : Rho} (h : F ρ = some (.v (encS s))) : ∃ p, fSl (fTwo gIx (fTwo gIx F (fC (.int 0))) (fOne gNeg (fC (.int 1)))) (fun _ => some none) (fun ρ => ((fC (.int 2)) ρ).bind fun s => s.int?.map some) ρ = some (.v (.tup p [.int (numF s), .int s.f.idx])) := by
  unfold fSl fTwo
  rw [h]
  cases s with
  | one f m => exact ⟨_, rfl⟩
  | two f g b m => exact ⟨_, rfl⟩
  | done g a b c m => cases hd
theorem free_is {m : Mem} {l : List Int} (e : s.m = m) (I : CI m cl l) (nd : (keysI m.h).Nodup) (ht : m.top ≤ 999) : F_free_cells [.v (encS s)] = some (.v (.tup false (iD l))) := by
  subst e
  have hl := (ci_len I ht).2.1
  cases s <;> exact free_ok nd I.ch I.nl (by omega)
theorem live_is {m : Mem} {l : List Int} (e : s.m = m) (I : CI m cl l) (M : MB m 0) (ht : m.top ≤ 999) : F_live_cells [.v (encS s)] = some (.v (.tup false ((liveM m.h l).map pairD))) := by
  subst e
  have hl := (ci_len I ht).2.1
  have hf : few s.m.h.length = true := decide_eq_true (by have := M.len; omega)
  cases s <;> exact live_ok M.nd hf I.ch I.nl (by omega)
/-- first parts of pairs -/
theorem lc_fst {Fg : D → Rho → Option Rho} {T : Rho → Option Bool} {Fe : Rho → Option SD} {ρ : Rho} (R : Int × Int → Rho) (h1 : ∀ q, Fg (pairD q) ρ = some (R q)) (h2 : ∀ q, T (R q) = some true) (h3 : ∀ q, Fe (R q) = some (.v (.int q.1))) :
    ∀ h : List (Int × Int), lcGo Fg T Fe ρ (h.map pairD) = some (iD (h.map (·.1)))
  | [] => rfl
  | q :: h => by
    have ih := lc_fst R h1 h2 h3 h
    show ((Fg (pairD q) ρ).bind fun ρ1 => (T ρ1).bind fun b => if b then (Fe ρ1).bind fun s => match s with
      | .v x => (lcGo Fg T Fe ρ (h.map pairD)).map fun xs => x :: xs
      | _ => none
      else lcGo Fg T Fe ρ (h.map pairD)) = _
    rw [h1, ih]
    simp only [Option.bind_some, h2, h3]
    rfl
theorem eqv_refl_ints (l : List Int) : PyData.eqv (.list (erAll (iD l))) (.list (erAll (iD l))) = true := by
  have go : ∀ l : List Int, PyData.eqvAll (erAll (iD l)) (erAll (iD l)) = true := by
    intro l
    induction l with
    | nil => rfl
    | cons i l ih =>
      show (PyData.eqv (.int i) (.int i) && PyData.eqvAll (erAll (iD l)) (erAll (iD l))) = true
      rw [ih]
      simp [PyData.eqv]
  show PyData.eqvAll _ _ = true
  exact go l
theorem eqD_ints (neg : Bool) (o1 o2 : Own) (l : List Int) : gEqD neg (.lst o1 (iD l)) (.lst o2 (iD l)) = some (.v (.bl (!neg))) := by
  have sh : SeqAt.shaped (.list (erAll (iD l))) = true := by
    unfold SeqAt.shaped
    simp only [PyData.canLay0, PyData.depth, lay_iD, depth_iD, Bool.true_and]
    rfl
  show (if SeqAt.shaped (.list (erAll (iD l))) && SeqAt.shaped (.list (erAll (iD l))) then some (SD.v (.bl (if neg then !PyData.eqv (.list (erAll (iD l))) (.list (erAll (iD l))) else PyData.eqv (.list (erAll (iD l))) (.list (erAll (iD l)))))) else none) = _
  rw [sh, eqv_refl_ints]
  cases neg <;> rfl
theorem lenSet_ok {l : List Int} (nd : l.Nodup) (hl : l.length ≤ 4000) : gLenSet (.lst o (iD l)) = some (.v (.int l.length)) := by
  show ((ints? (iD l)).bind fun is => if is.Nodup ∧ is.length ≤ 4000 then some (SD.v (.int is.length)) else none) = _
  rw [ints_ints]
  show (if l.Nodup ∧ l.length ≤ 4000 then some (SD.v (.int l.length)) else none) = _
  rw [if_pos ⟨nd, hl⟩]
end
end K9
/-! One turn of the law. -/
namespace K9
open PySem PySem.Spec L2 Dn
section
variable {F : List SD → Option SD} {Fa Fb Fd : Rho → Option SD} {ρ : Rho} {s1 s2 s3 : SD}
theorem fcall1 (h1 : Fa ρ = some s1) : fCall F (fCons Fa fNil) ρ = F [s1.bor] := by
  simp [fCall, fCons, fNil, h1]
theorem fcall2 (h1 : Fa ρ = some s1) (h2 : Fb ρ = some s2) : fCall F (fCons Fa (fCons Fb fNil)) ρ = F [s1.bor, s2.bor] := by
  simp [fCall, fCons, fNil, h1, h2]
theorem fcall3 (h1 : Fa ρ = some s1) (h2 : Fb ρ = some s2) (h3 : Fd ρ = some s3) : fCall F (fCons Fa (fCons Fb (fCons Fd fNil))) ρ = F [s1.bor, s2.bor, s3.bor] := by
  simp [fCall, fCons, fNil, h1, h2, h3]
theorem alk2 {d : PyData} (h1 : Fa ρ = some s1) (h2 : Fb ρ = some s2) (e1 : erS s1 = some d) (e2 : erS s2 = some d) (ok : AlkOk d) : fNot (fTest (fun ρ => ((fCons Fa (fCons Fb fNil)) ρ).bind F_alike)) ρ = some false := by
  have e : ((fCons Fa (fCons Fb fNil)) ρ).bind F_alike = some (.v (.bl true)) := by
    simp only [fCons, fNil, h1, h2, Option.bind_some]
    exact F_alike_is e1 e2 ok
  have e2 : fTest (fun ρ => ((fCons Fa (fCons Fb fNil)) ρ).bind F_alike) ρ = some true := by
    unfold fTest
    show (((fCons Fa (fCons Fb fNil)) ρ).bind F_alike).bind SD.bool? = _
    rw [e]
    rfl
  unfold fNot
  rw [e2]
  rfl
theorem and_f {T U : Rho → Option Bool} {x : Bool} (h1 : T ρ = some x) (h2 : x = true → U ρ = some false) : fAnd T U ρ = some false := by
  unfold fAnd
  rw [h1]
  cases x with
  | false => rfl
  | true => exact h2 rfl
theorem or_f {T U : Rho → Option Bool} (h1 : T ρ = some false) (h2 : U ρ = some false) : fOr T U ρ = some false := by
  unfold fOr
  rw [h1]
  exact h2
theorem test_of {x : Bool} (h : Fa ρ = some (.v (.bl x))) : fTest Fa ρ = some x := by
  unfold fTest
  rw [h]
  rfl
theorem two_of {g : SD → SD → Option SD} (h1 : Fa ρ = some s1) (h2 : Fb ρ = some s2) : fTwo g Fa Fb ρ = g s1 s2 := by
  unfold fTwo
  rw [h1, h2]
  rfl
theorem wif_f {G G' : WG} {T : Rho → Option Bool} {P : Out → Prop} (h : T ρ = some false) (p : G' ρ P) : wIf T G G' ρ P := ⟨false, h, p⟩
theorem wif_t {G G' : WG} {T : Rho → Option Bool} {P : Out → Prop} (h : T ρ = some true) (p : G ρ P) : wIf T G G' ρ P := ⟨true, h, p⟩
theorem set_w {k : Nat} {s s' : SD} {P : Out → Prop} (h : Fa ρ = some s) (hf : s.fin = true) (hk : s.keep = some s') (p : P (.nx (ρ.set k (some s')))) : wSet k (wDet Fa) ρ P := ⟨s, h, hf, s', hk, p⟩
end
section
variable {cs : List (List Ins)} {s s' : St9} {i : Ins} {Fa Fb Fd : Rho → Option SD} {ρ : Rho} {cl : List Int} {o : Own}
theorem c_law_asked (h1 : Fa ρ = some (.v (encFs cs))) (h2 : Fb ρ = some (.v (encS s))) (hi : nextM cs s = some i) : fCall F_law_asked (fCons Fa (fCons Fb fNil)) ρ = some (.v (oD (askM i s.f))) := (fcall2 h1 h2).trans (law_asked_is hi)
theorem c_asked (h1 : Fa ρ = some (.v (encFs cs))) (h2 : Fb ρ = some (.v (encS s))) (hi : nextM cs s = some i) : fCall F_asked_by (fCons Fa (fCons Fb fNil)) ρ = some (.v (oD (askM i s.f))) := (fcall2 h1 h2).trans (asked_is hi)
theorem c_inst (h1 : Fa ρ = some (.v (encFs cs))) (h2 : Fb ρ = some (.v (encS s))) (hi : nextM cs s = some i) : fCall F_instruction_at (fCons Fa (fCons Fb fNil)) ρ = some (.v (encI i)) := (fcall2 h1 h2).trans (inst_is hi)
theorem c_do (h1 : Fa ρ = some (.v (encFs cs))) (h2 : Fb ρ = some (.v (encS s))) (C : CallOk cs) (M : MOk s.m) (hs : sortP s.m.h = s.m.h) (h : stepM cs s = some s') : fCall F_law_do (fCons Fa (fCons Fb fNil)) ρ = some (.v (encS s')) := (fcall2 h1 h2).trans (F_do_is C M hs h)
theorem c_step (h1 : Fa ρ = some (.v (encFs cs))) (h2 : Fb ρ = some (.v (encS s))) (C : CallOk cs) (M : MOk s.m) (h : stepM cs s = some s') : fCall F_step (fCons Fa (fCons Fb fNil)) ρ = some (.v (encS s')) := (fcall2 h1 h2).trans (F_step_is C M h)
theorem c_end (h1 : Fa ρ = some (.v (encS s))) : fCall F_is_ended (fCons Fa fNil) ρ = some (.v (.bl (isDone s))) := (fcall1 h1).trans (ended_is s)
theorem c_checked (h1 : Fa ρ = some (.v (encFs cs))) (h2 : Fb ρ = some (.v (encS s))) (h3 : Fd ρ = some (.v (.tup false (iD cl)))) (C : CallOk cs) (M : MOk s.m) (hl : few (cl.length + 1) = true) (hi : nextM cs s = some i) (h : stepM cs s = some s') (ha : AskOk i s.f cl) :
    fCall F_checked_step (fCons Fa (fCons Fb (fCons Fd fNil))) ρ = some (.v (.tup false [encS s', .tup false (iD (cellsM i s.f s.m cl))])) := (fcall3 h1 h2 h3).trans (checked_is C M hl hi h ha)
theorem c_cells (h1 : Fa ρ = some (.v (encFs cs))) (h2 : Fb ρ = some (.v (encS s))) (h3 : Fd ρ = some (.lst o (iD cl))) (hl : few (cl.length + 1) = true) (hi : nextM cs s = some i) : fCall F_law_cells (fCons Fa (fCons Fb (fCons Fd fNil))) ρ = some (.lst .new (iD (cellsM i s.f s.m cl))) := (fcall3 h1 h2 h3).trans (law_cells_is hl hi)
end
/-- what is kept of the frame of the law -/
def RhoL (fs me s0 tp due st raw : SD) (cl : List Int) (tr : Bool) (ρ : Rho) : Prop := ∃ a b c d e f g h i j k l m : Option SD, ρ = [a, b, c, some fs, some me, some s0, some tp, some due, some st, some raw, some (.lst .own (iD cl)), some (.v (.bl tr)), d, e, f, g, h, i, j, k, l, m]
/-- behind j turns -/
structure TI (cs : List (List Ins)) (s0 : St9) (cl0 : List Int) (j : Nat) (st : St9) (cl : List Int) : Prop where
  S : StOk cs st
  W : WO st
  t : st.m.top ≤ 4 + j
  M : MB st.m (60 - j)
  I : ∃ l, CI st.m cl l
  R : ∀ k s' cl', CRun cs k st cl s' cl' → CRun cs (j + k) s0 cl0 s' cl'
/-- behind the loop -/
structure TQ (cs : List (List Ins)) (s0 : St9) (cl0 : List Int) (st : St9) (cl : List Int) : Prop where
  S : StOk cs st
  W : WO st
  t : st.m.top ≤ 29
  M : MB st.m 0
  I : ∃ l, CI st.m cl l
  R : CRun cs 25 s0 cl0 st cl
theorem TI.stop {cs : List (List Ins)} {s0 : St9} {cl0 : List Int} {j : Nat} {st : St9} {cl : List Int} (h : TI cs s0 cl0 j st cl) (hj : j ≤ 25) (hd : j = 25 ∨ isDone st = true) : TQ cs s0 cl0 st cl := by
  refine ⟨h.S, h.W, by have := h.t; omega, h.M.mono (by omega), h.I, ?_⟩
  have e : j + (25 - j) = 25 := by omega
  have := h.R (25 - j) st cl (by
    rcases hd with rfl | hd
    · exact .zero _ _
    · exact .stop _ _ _ hd)
  rwa [e] at this
def LoopI (fs me sD tp due raw : SD) (cs : List (List Ins)) (s0 : St9) (cl0 : List Int) (j : Nat) (ρ : Rho) : Prop := ∃ st cl tr, RhoL fs me sD tp due (.v (encS st)) raw cl tr ρ ∧ (tr = false → TI cs s0 cl0 j st cl)
def LoopQ (fs me sD tp due raw : SD) (cs : List (List Ins)) (s0 : St9) (cl0 : List Int) (ρ : Rho) : Prop := ∃ st cl tr, RhoL fs me sD tp due (.v (encS st)) raw cl tr ρ ∧ (tr = false → TQ cs s0 cl0 st cl)
theorem step_frame {cs : List (List Ins)} {st s' : St9} {i : Ins} (hi : nextM cs st = some i) (W : WO st) : ∀ x, askM i st.f = some x → inT st.m.top x := fun x hx => by
  have go : ∀ f : FM, WF st.m.top f → askM i f = some x → inT st.m.top x := fun f Wf e => by
    cases i <;> first | (cases e; exact Wf.get _) | cases e
  cases st with
  | one f m => exact go f W.2 hx
  | two f g b m => exact go g W.2.2 hx
  | done v a b c m => cases hi
/-- a trap -/
theorem trap_ok {cs : List (List Ins)} {st : St9} {i : Ins} {cl : List Int} {a : Int} (hd : isDone st = false) (hi : nextM cs st = some i) (ha : askM i st.f = some a) (hc : a ∉ cl) :
    RCk [.v (encFs cs), .v (encS st), .v (.tup false (iD cl))] (numF st) st.f.idx := by
  refine ⟨rfl, ?_⟩
  obtain ⟨p, hs⟩ := top_sl hd (F := fVar 1) (ρ := [some (.v (encFs cs)), some (.v (encS st)), some (.v (.tup false (iD cl))), some (.v (.str (wordI i))), some (.v (.int a)), none, none, none, none, none]) rfl
  refine ⟨[some (.v (encFs cs)), some (.v (encS st)), some (.v (.tup false (iD cl))), some (.v (.str (wordI i))), some (.v (.int a)), none, none, none, none, none], [some (.v (encFs cs)), some (.v (encS st)), some (.v (.tup false (iD cl))), some (.v (.str (wordI i))), some (.v (.int a)), some (.v (.int (numF st))), some (.v (.int st.f.idx)), none, none, none], ?_, ?_, ?_, rfl, rfl⟩
  · unfold gCk1 fRow
    have h1 : (fTwo gIx (fCall F_instruction_at (fCons (fVar 0) (fCons (fVar 1) fNil))) (fC (.int 0))) ([SD.v (encFs cs), .v (encS st), .v (.tup false (iD cl))].map some ++ List.replicate 7 none) = some (.v (.str (wordI i))) :=
      (two_of (c_inst rfl rfl hi) rfl).trans (word_ok i)
    have h2 : (fCall F_asked_by (fCons (fVar 0) (fCons (fVar 1) fNil))) ([SD.v (encFs cs), .v (encS st), .v (.tup false (iD cl))].map some ++ List.replicate 7 none) = some (.v (.int a)) :=
      (c_asked rfl rfl hi).trans (by rw [ha]; rfl)
    simp only [fCons, fNil, h1, h2, Option.bind_some]
    rfl
  · refine (?_ : fAnd _ _ _ = some true)
    unfold fAnd
    rw [show fTest (fTwo (gIs true) (fVar 4) (fC .non)) _ = some true from rfl]
    refine test_of ((two_of rfl rfl).trans (in_ints true a cl (.v (.tup false (iD cl))) rfl) |>.trans ?_)
    simp [hc]
  · unfold gCk2 fAsg
    rw [hs]
    rfl
end K9
/-! One turn of the law goes on. -/
namespace K9
open PySem PySem.Spec L2 Dn
theorem lc_of {it : SD → Option (List D)} {vs : List Nat} {Fi : Rho → Option SD} {Fg : D → Rho → Option Rho} {T : Rho → Option Bool} {Fe : Rho → Option SD} {ρ : Rho} {s : SD} {ds out : List D} (h1 : Fi ρ = some s) (h2 : it s = some ds) (hf : few ds.length = true) (h3 : lcGo Fg T Fe (wipeR ρ vs) ds = some out) : fLc it vs Fi Fg T Fe ρ = some (.lst .new out) := by
  unfold fLc
  rw [h1]
  show ((it s).bind fun ds => if few ds.length then (lcGo Fg T Fe (wipeR ρ vs) ds).map fun out => SD.lst .new out else none) = _
  rw [h2]
  show (if few ds.length then (lcGo Fg T Fe (wipeR ρ vs) ds).map fun out => SD.lst .new out else none) = _
  rw [if_pos hf, h3]
  rfl
theorem len_iD {o : Own} (cl : List Int) : gLen (.lst o (iD cl)) = some (.v (.int cl.length)) := by
  show some (SD.v (.int ((iD cl).length : Int))) = _
  rw [List.length_map]
section
variable {fs me sD tp due raw : SD} {cs : List (List Ins)} {s0 : St9} {cl0 : List Int}
theorem sq_f {G R : WG} {T : Rho → Option Bool} {ρ : Rho} {P : Out → Prop} (h : T ρ = some false) (p : R ρ P) : wSeq (wIf T G wNext) R ρ P := ⟨false, h, p⟩
theorem sq_s {R : WG} {Fa : Rho → Option SD} {ρ : Rho} {P : Out → Prop} {k : Nat} {s s' : SD} (h : Fa ρ = some s) (hf : s.fin = true) (hk : s.keep = some s') (p : R (ρ.set k (some s')) P) : wSeq (wSet k (wDet Fa)) R ρ P := ⟨s, h, hf, s', hk, p⟩
theorem sq_bk {R : WG} {T : Rho → Option Bool} {ρ : Rho} {P : Out → Prop} (h : T ρ = some true) (p : P (.bk ρ)) : wSeq (wIf T (fun ρ P => P (.bk ρ)) wNext) R ρ P := ⟨true, h, p⟩
theorem turn_ok {j : Nat} {ρ : Rho} {P : Out → Prop} (C : CsB cs) (hj : j < 25) (hI : LoopI (.v (encFs cs)) me sD tp due raw cs s0 cl0 j ρ) (hP : ∀ ρ', LoopQ (.v (encFs cs)) me sD tp due raw cs s0 cl0 ρ' → P (.nx ρ')) :
    gTurn (ρ.set 12 (some (.v (.int (j : Int))))) (turnP (LoopI (.v (encFs cs)) me sD tp due raw cs s0 cl0 (j + 1)) P) := by
  obtain ⟨st, cl, tr, ⟨a, b, c, x12, x13, x14, x15, x16, x17, x18, x19, x20, x21, rfl⟩, hT⟩ := hI
  have e0 : (fOr (fTest (fCall F_is_ended (fCons (fVar 8) fNil))) (fTest (fVar 11))) [a, b, c, some (.v (encFs cs)), some me, some sD, some tp, some due, some (.v (encS st)), some raw, some (.lst .own (iD cl)), some (.v (.bl tr)), some (.v (.int (j : Int))), x13, x14, x15, x16, x17, x18, x19, x20, x21] = some (isDone st || tr) := by
    unfold fOr
    rw [test_of (c_end rfl)]
    cases isDone st with
    | true => rfl
    | false => rfl
  unfold gTurn gT0 gT1 gT2 gT3 gT4 gT6 gT7 gT8 gT9 gT10 gT11
  cases hd : isDone st || tr with
  | true =>
    rw [hd] at e0
    refine sq_bk e0 ?_
    refine hP _ ⟨st, cl, tr, ⟨_, _, _, _, _, _, _, _, _, _, _, _, _, rfl⟩, fun ht => (hT ht).stop (by omega) (.inr ?_)⟩
    subst ht
    simpa using hd
  | false =>
    rw [hd] at e0
    obtain ⟨hd1, ht⟩ := Bool.or_eq_false_iff.mp hd
    clear hd
    have hd := hd1
    subst ht
    have T := hT rfl
    obtain ⟨i, s', hi, hs, S'⟩ := step_some C.ok T.S hd
    obtain ⟨l, I⟩ := T.I
    have M1 : MB st.m (60 - (j + 1) + 1) := T.M.mono (by omega)
    have M' := step_mb M1 hs
    obtain ⟨W', t'⟩ := step_w T.W hs
    have t9 : st.m.top ≤ 999 := by have := T.t; omega
    have t9' : s'.m.top ≤ 999 := by have := T.t; omega
    obtain ⟨lc, ll, wc⟩ := ci_len I t9
    have hl : few (cl.length + 1) = true := decide_eq_true (by omega)
    have hask := step_frame (s' := s') hi T.W
    refine sq_f e0 ?_
    refine sq_s (c_law_asked rfl rfl hi) rfl rfl ?_
    refine sq_f (alk2 (c_asked rfl rfl hi) rfl rfl rfl ((sm_oD fun x hx => (hask x hx).w1 t9).alk (by decide) (by decide))) ?_
    refine sq_s (c_do rfl rfl C.ok.call T.M.ok T.M.srt hs) rfl rfl ?_
    have sm' := sm_st C S' W' t9' (by have := M'.len; omega)
    refine sq_f (alk2 (c_step rfl rfl C.ok.call T.M.ok hs) rfl rfl rfl (sm'.alk (by decide) (by decide))) ?_
    by_cases ha : AskOk i st.f cl
    · -- no trap
      obtain ⟨l', I'⟩ := ci_step T.M.nd I hi ha hs
      obtain ⟨lc', ll', wc'⟩ := ci_len I' t9'
      refine .inl ⟨_, _, c_checked rfl rfl rfl C.ok.call T.M.ok hl hi hs ha, rfl, ?_⟩
      refine sq_f (and_f (x := decide (askM i st.f ≠ none)) ?_ fun hx => ?_) ?_
      · refine test_of ((two_of rfl rfl).trans ?_)
        cases askM i st.f <;> rfl
      · cases hq : askM i st.f with
        | none => rw [hq] at hx; cases hx
        | some y =>
          refine test_of ((two_of (s1 := .v (.int y)) rfl rfl).trans ((in_ints true y cl (.lst .own (iD cl)) rfl).trans ?_))
          simp [ha y hq]
      refine sq_s (c_cells rfl rfl rfl hl hi) rfl rfl ?_
      refine sq_f (alk2 rfl rfl rfl rfl ((sm_pair sm' wc' (by omega)).alk (by decide) (by decide))) ?_
      have M0 : MB s'.m 0 := M'.mono (Nat.zero_le _)
      refine sq_f (or_f ?_ ?_) ?_
      · refine test_of ((two_of (lc_of ((fcall1 rfl).trans (live_is rfl I' M0 t9')) rfl ?_ (lc_fst (fun q => [a, b, c, some (.v (encFs cs)), some me, some sD, some tp, some due, some (.v (encS st)), some raw, some (.lst .own (iD (cellsM i st.f st.m cl))), some (.v (.bl false)), some (.v (.int (j : Int))), some (.v (oD (askM i st.f))), some (.v (encS s')), some (.v (.tup false [encS s', .tup false (iD (cellsM i st.f st.m cl))])), x16, x17, x18, some (.v (.int q.1)), x20, some (.v (.int q.2))]) (fun q => rfl) (fun q => rfl) (fun q => rfl) _)) rfl).trans ?_)
        · rw [List.length_map]
          have := List.length_filter_le (fun q : Int × Int => !decide (q.1 ∈ l')) s'.m.h
          have := M0.len
          exact decide_eq_true (by unfold liveM; omega)
        · rw [live_keys M0.nd M0.srt I']
          exact eqD_ints true .new .own _
      · refine test_of ((two_of ((one_at rfl).trans (lenSet_ok (o := .own) I'.nc (by omega))) ((one_at (g := gLen) (s := .lst .own (iD (cellsM i st.f st.m cl))) rfl).trans (len_iD _))).trans ((eqI true _ _).trans ?_))
        simp
      refine sq_f ?_ ?_
      · refine test_of ((two_of (lc_of ((fcall1 rfl).trans (free_is rfl I' M0.nd t9')) rfl ?_ (lc_filter (fun q => [a, b, c, some (.v (encFs cs)), some me, some sD, some tp, some due, some (.v (encS st)), some raw, some (.lst .own (iD (cellsM i st.f st.m cl))), some (.v (.bl false)), some (.v (.int (j : Int))), some (.v (oD (askM i st.f))), some (.v (encS s')), some (.v (.tup false [encS s', .tup false (iD (cellsM i st.f st.m cl))])), x16, x17, x18, some (.v (.int q)), x20, x21]) (fun k => decide (k ∈ cellsM i st.f st.m cl)) (fun q => rfl) (fun q => ?_) (fun q => rfl) _)) rfl).trans ?_)
        · rw [List.length_map]
          exact decide_eq_true (by omega)
        · refine test_of ((two_of rfl rfl).trans ((in_ints false q _ (.lst .own (iD (cellsM i st.f st.m cl))) rfl).trans rfl))
        · rw [free_none I']
          exact eqD_ints true .new .new []
      refine ⟨_, rfl, _, rfl, ?_⟩
      refine ⟨s', cellsM i st.f st.m cl, false, ⟨_, _, _, _, _, _, _, _, _, _, _, _, _, rfl⟩, fun _ => ⟨S', W', by have := T.t; omega, M', ⟨l', I'⟩, fun k s2 cl2 h => ?_⟩⟩
      have := T.R (k + 1) s2 cl2 (.go hd hi ha hs h)
      have e : j + 1 + k = j + (k + 1) := by omega
      rw [e]
      exact this
    · -- a trap
      obtain ⟨y, hy, hn⟩ : ∃ y, askM i st.f = some y ∧ y ∉ cl := by
        cases hq : askM i st.f with
        | none => exact absurd (fun y z => by rw [hq] at z; cases z) ha
        | some y => exact ⟨y, rfl, fun z => ha fun w hw => by rw [hq] at hw; cases hw; exact z⟩
      obtain ⟨p, hsl⟩ := top_sl hd (F := fVar 8) (ρ := [a, b, c, some (.v (encFs cs)), some me, some sD, some tp, some due, some (.v (encS st)), some raw, some (.lst .own (iD cl)), some (.v (.bl false)), some (.v (.int (j : Int))), some (.v (oD (askM i st.f))), some (.v (encS s')), x15, none, x17, x18, x19, x20, x21]) rfl
      refine .inr ⟨[.v (encFs cs), .v (encS st), .v (.tup false (iD cl))], numF st, st.f.idx, p, rfl, rfl, trap_ok hd hi hy hn, hsl, ?_, ?_⟩
      · have hn1 : w1 (numF st) := by cases st <;> simp [numF, w1]
        have hi8 : st.f.idx < 8 := by
          cases st with
          | one f m => exact idx_lt C T.S
          | two f g b m => exact idx_lt C T.S.2
          | done => cases hd
        refine alk_small ?_ (by show max 0 (max 0 0) + 1 ≤ 64; decide) (by show (5 + 2 + (5 + 2 + 0) + 3) ≤ 1000000; decide)
        show (smallP (.int (numF st)) && (smallP (.int st.f.idx) && true)) = true
        rw [sm_int hn1, sm_int (i := st.f.idx) ⟨by omega, by omega⟩]
        rfl
      · rintro ρ' rfl
        refine ⟨?_, ?_, ?_⟩
        · refine test_of ((two_of (s1 := .v (.int y)) (by rw [hy]; rfl) rfl).trans rfl)
        · refine test_of ((two_of (s1 := .v (.int y)) (by rw [hy]; rfl) rfl).trans ((in_ints false y cl (.lst .own (iD cl)) rfl).trans ?_))
          simp [hn]
        · exact ⟨st, cl, true, ⟨_, _, _, _, _, _, _, _, _, _, _, _, _, rfl⟩, fun h => nomatch h⟩
end
end K9
/-! What a drawn memory gives; the first stand. -/
namespace K9
open PySem PySem.Spec L2 Dn
theorem ifs_no {T : Rho → Option Bool} {G G' : Rho → Option Out} {ρ : Rho} (h : T ρ = some false) : fIfS T G G' ρ = G' ρ := by
  unfold fIfS
  rw [h]
  rfl
theorem begT_ok {cs : List (List Ins)} (C : CsB cs) {ps : List D} {x y z u : Option SD} : begT [some (.v (encFs cs)), some (.v (.int 0)), some (.v (.tup false ps)), x, y, z, u] = some (!decide (ps.length = 1)) := by
  obtain ⟨c, hc, _⟩ := C.ok.c0
  have h1 : gIx (.v (encFs cs)) (.v (.int 0)) = some (.v (encC c)) := fs_ix (k := 0) hc
  have h0 : 0 < cs.length := by
    cases cs with
    | nil => cases hc
    | cons a b => simp
  have hl : (fOne gLen (fVar 0)) [some (.v (encFs cs)), some (.v (.int 0)), some (.v (.tup false ps)), x, y, z, u] = some (.v (.int (cs.length : Int))) := by
    refine (one_at (g := gLen) (s := .v (encFs cs)) rfl).trans ?_
    show some (SD.v (.int (((cs.map encC).length : Nat) : Int))) = _
    rw [List.length_map]
  have e1 : (fChain (gII fun i j => decide (i ≤ j)) (gII fun i j => decide (i < j)) (fC (.int 0)) (fVar 1) (fOne gLen (fVar 0))) [some (.v (encFs cs)), some (.v (.int 0)), some (.v (.tup false ps)), x, y, z, u] = some (.v (.bl true)) := by
    unfold fChain
    rw [hl]
    show some (SD.v (.bl (decide ((0 : Int) < (cs.length : Int))))) = _
    rw [decide_eq_true (by omega)]
  have e2 : (fTwo (gEq true) (fOne gLen (fVar 2)) (fTwo gIx (fTwo gIx (fVar 0) (fVar 1)) (fC (.int 0)))) [some (.v (encFs cs)), some (.v (.int 0)), some (.v (.tup false ps)), x, y, z, u] = some (.v (.bl (!decide (ps.length = 1)))) := by
    have q : gIx (.v (encC c)) (.v (.int 0)) = some (.v (.int 1)) := rfl
    refine (two_of (s1 := .v (.int (ps.length : Int))) (s2 := .v (.int 1)) rfl ((two_of ((two_of rfl rfl).trans h1) rfl).trans q)).trans ((eqI true _ _).trans ?_)
    show some (SD.v (.bl (!decide ((ps.length : Int) = 1)))) = _
    have z : decide ((ps.length : Int) = 1) = decide (ps.length = 1) := by
      by_cases h : ps.length = 1
      · rw [h]; rfl
      · rw [decide_eq_false h, decide_eq_false (by omega)]
    rw [z]
  show fOr (fNot (fTest _)) (fTest _) _ = _
  unfold fOr fNot
  rw [test_of e1, test_of e2]
  rfl
theorem entered0 {cs : List (List Ins)} (C : CsB cs) (w : Int) : F_entered [.v (encFs cs), .v (.int 0), .v (.tup false [.int w]), .v .non] = some (.v (encF 0 ⟨0, w, 0, 0⟩ .non)) := by
  obtain ⟨c, hc, _⟩ := C.ok.c0
  have h1 : gIx (.v (encFs cs)) (.v (.int 0)) = some (.v (encC c)) := fs_ix (k := 0) hc
  have q : gIx (.v (encC c)) (.v (.int 1)) = some (.v (.int 3)) := rfl
  have e : (fTwo gIx (fTwo gIx (fVar 0) (fVar 1)) (fC (.int 1))) [some (.v (encFs cs)), some (.v (.int 0)), some (.v (.tup false [.int w])), some (.v .non)] = some (.v (.int 3)) := by simp [fTwo, fVar, fC, h1, q]
  rw [F_entered_G]
  refine (show _ = F_enteredG (fun _ => (fTwo gIx (fTwo gIx (fVar 0) (fVar 1)) (fC (.int 1))) [some (.v (encFs cs)), some (.v (.int 0)), some (.v (.tup false [.int w])), some (.v .non)]) [.v (encFs cs), .v (.int 0), .v (.tup false [.int w]), .v .non] from rfl).trans ?_
  rw [e]
  rfl
def memM (q : Int × List (Int × Int)) : Mem := ⟨q.2, 0, q.2.length + 1⟩
structure MemF (q : Int × List (Int × Int)) : Prop where
  place : F_law_place [.v (memD q), .v (.str "x")] = some (.v (.int q.1))
  at_ : F_law_at [.v (memD q)] = some (.v (.tup false (iD (keysI q.2))))
  btop : ∀ fs : SD, (fSet 4 (fTwo gAdd (fOne gMax (fTwo gAdd (fLst (fCons (fC (.int 0)) (fStar (fVar 2) fNil))) (fFlat 5 6 (fVar 3)))) (fC (.int 1)))) [some fs, some (.v (.int 0)), some (.v (.tup false [.int q.1])), some (.v (heapD q.2)), none, none, none] = some (.nx [some fs, some (.v (.int 0)), some (.v (.tup false [.int q.1])), some (.v (heapD q.2)), some (.v (.int (q.2.length + 1))), none, none])
  max : gMax (.lst .new (.int 0 :: iD (keysI q.2))) = some (.v (.int q.2.length))
  len : q.2.length ≤ 3
  nd : (keysI q.2).Nodup
  srt : sortP q.2 = q.2
  ord : (keysI q.2).Pairwise (· ≤ ·)
  key : ∀ p ∈ q.2, 0 < p.1 ∧ p.1 ≤ q.2.length ∧ 0 ≤ p.2 ∧ p.2 ≤ q.2.length
  p0 : 0 ≤ q.1 ∧ q.1 ≤ q.2.length
theorem mem_f : ∀ q ∈ mems, MemF q := fun q hq => by
  simp only [mems, List.mem_cons, List.not_mem_nil, or_false] at hq
  rcases hq with rfl | rfl | rfl | rfl | rfl | rfl | rfl | rfl | rfl | rfl <;> exact ⟨rfl, rfl, fun _ => rfl, rfl, by decide, by decide, rfl, by decide, by decide, by decide⟩
theorem begin_ok {cs : List (List Ins)} {q : Int × List (Int × Int)} (C : CsB cs) (Q : MemF q) : F_begin [.v (encFs cs), .v (.int 0), .v (.tup false [.int q.1]), .v (heapD q.2)] = some (.v (encS (.one ⟨0, q.1, 0, 0⟩ (memM q)))) := by
  unfold F_begin
  refine run_rt rfl ?_
  refine (seq_nx ((ifs_no (begT_ok (ps := [.int q.1]) C)).trans rfl)).trans ?_
  refine (seq_nx (Q.btop _)).trans ?_
  have e : (fCall F_entered (fCons (fVar 0) (fCons (fVar 1) (fCons (fOne gTupleW (fVar 2)) (fCons (fC .non) fNil))))) [some (.v (encFs cs)), some (.v (.int 0)), some (.v (.tup false [.int q.1])), some (.v (heapD q.2)), some (.v (.int (q.2.length + 1))), none, none] = some (.v (encF 0 ⟨0, q.1, 0, 0⟩ .non)) := entered0 C q.1
  refine ret_at ?_
  unfold fTup
  simp only [fCons, fNil, e, Option.bind_some]
  rfl
end K9
/-! One lap of the law. -/
namespace K9
open PySem PySem.Spec L2 Dn
theorem fcall4 {F : List SD → Option SD} {Fa Fb Fc Fd : Rho → Option SD} {ρ : Rho} {s1 s2 s3 s4 : SD} (h1 : Fa ρ = some s1) (h2 : Fb ρ = some s2) (h3 : Fc ρ = some s3) (h4 : Fd ρ = some s4) : fCall F (fCons Fa (fCons Fb (fCons Fc (fCons Fd fNil)))) ρ = F [s1.bor, s2.bor, s3.bor, s4.bor] := by
  simp [fCall, fCons, fNil, h1, h2, h3, h4]
abbrev S0 (q : Int × List (Int × Int)) : St9 := .one ⟨0, q.1, 0, 0⟩ (memM q)
theorem MemF.inT {q : Int × List (Int × Int)} (Q : MemF q) : WM (memM q) ∧ WF (memM q).top ⟨0, q.1, 0, 0⟩ := by
  have z : K9.inT (memM q).top 0 := ⟨Int.le_refl _, by show (0 : Int) < q.2.length + 1; omega⟩
  refine ⟨⟨z.2, fun p hp => ?_, z⟩, ⟨?_, z, z⟩⟩
  · obtain ⟨a, b, c, d⟩ := Q.key p hp
    exact ⟨⟨by omega, by show p.1 < (q.2.length : Int) + 1; omega⟩, ⟨c, by show p.2 < (q.2.length : Int) + 1; omega⟩⟩
  · exact ⟨Q.p0.1, by show q.1 < (q.2.length : Int) + 1; have := Q.p0.2; omega⟩
theorem MemF.ti {q : Int × List (Int × Int)} {cs : List (List Ins)} (C : CsB cs) (Q : MemF q) : TI cs (S0 q) (keysI q.2) 0 (S0 q) (keysI q.2) := by
  obtain ⟨c, hc, hk⟩ := C.ok.c0
  refine ⟨⟨c, hc, hk.ne⟩, Q.inT, ?_, ⟨Q.nd, Q.srt, ?_⟩, ⟨[], ?_⟩, fun k s' cl' h => by rw [Nat.zero_add]; exact h⟩
  · show (q.2.length : Int) + 1 ≤ 4 + (0 : Nat)
    have := Q.len
    omega
  · show q.2.length + 60 ≤ 9999
    have := Q.len
    omega
  · refine ⟨.nil, List.nodup_nil, Q.nd, Q.ord, fun k => ⟨fun h => ⟨h, fun z => nomatch z⟩, fun h => h.1⟩, fun k hk => ?_, (fun k hk => nomatch hk), ?_⟩
    · obtain ⟨v, hv⟩ := mem_key hk
      obtain ⟨a, b, _⟩ := Q.key _ hv
      exact ⟨a, by show k < (q.2.length : Int) + 1; omega⟩
    · show (0 : Int) < q.2.length + 1
      omega
/-- the raw machine behind k steps -/
structure RI (cs : List (List Ins)) (s0 : St9) (k : Nat) (r : St9) : Prop where
  S : StOk cs r
  W : WO r
  t : r.m.top ≤ 4 + k
  M : MB r.m (60 - k)
  R : ∀ n s', runM cs n r = some s' → runM cs (k + n) s0 = some s'
theorem raw_not (r : St9) {ρ : Rho} {F : Rho → Option SD} (h : F ρ = some (.v (encS r))) : (fTest (fTwo (gEq true) (fTwo gIx (fTwo gIx (fTwo gIx F (fC (.int 0))) (fC (.int 0))) (fC (.int 0))) (fOne gNeg (fC (.int 1))))) ρ = some (!isDone r) := by
  unfold fTest fTwo
  rw [h]
  cases r <;> rfl
theorem if_yes {T : Rho → Option Bool} {F G : Rho → Option SD} {ρ : Rho} (h : T ρ = some true) : fIf T F G ρ = F ρ := by
  unfold fIf
  rw [h]
  rfl
theorem if_no {T : Rho → Option Bool} {F G : Rho → Option SD} {ρ : Rho} (h : T ρ = some false) : fIf T F G ρ = G ρ := by
  unfold fIf
  rw [h]
  rfl
theorem run_cons {cs : List (List Ins)} {s s1 : St9} {n : Nat} (hd : isDone s = false) (h : stepM cs s = some s1) : runM cs (n + 1) s = runM cs n s1 := by
  show (if isDone s then some s else (stepM cs s).bind (runM cs n)) = _
  rw [hd, h]
  rfl
def gTail : WG := wSeq gL9 (wSeq gL10 (wSeq gLam1 (wSeq gL12 gLam2)))
section
variable {q : Int × List (Int × Int)} {cs : List (List Ins)} {tp due : SD} {ρ : Rho} {P : Out → Prop}
def RawI (q : Int × List (Int × Int)) (cs : List (List Ins)) (tp due : SD) (st : St9) (cl : List Int) (tr : Bool) (k : Nat) (ρ : Rho) : Prop := ∃ r, RhoL (.v (encFs cs)) (.v (memD q)) (.v (encS (S0 q))) tp due (.v (encS st)) (.v (encS r)) cl tr ρ ∧ RI cs (S0 q) k r
theorem raw_turn {st : St9} {cl : List Int} {tr : Bool} {k : Nat} (C : CsB cs) (hk : k < 12) (h : RawI q cs tp due st cl tr k ρ) :
    wSet 9 (wDet (fIf (fTest (fTwo (gEq true) (fTwo gIx (fTwo gIx (fTwo gIx (fVar 9) (fC (.int 0))) (fC (.int 0))) (fC (.int 0))) (fOne gNeg (fC (.int 1))))) (fCall F_law_do (fCons (fVar 3) (fCons (fVar 9) fNil))) (fVar 9))) (ρ.set 12 (some (.v (.int (k : Int))))) (turnP (RawI q cs tp due st cl tr (k + 1)) P) := by
  obtain ⟨r, ⟨a, b, c, x12, x13, x14, x15, x16, x17, x18, x19, x20, x21, rfl⟩, I⟩ := h
  cases hd : isDone r with
  | true =>
    refine set_w (s := .v (encS r)) ((if_no ((raw_not r rfl).trans (by rw [hd]; rfl))).trans rfl) rfl rfl ?_
    refine ⟨r, ⟨_, _, _, _, _, _, _, _, _, _, _, _, _, rfl⟩, I.S, I.W, by have := I.t; omega, I.M.mono (by omega), fun n s' h => ?_⟩
    rw [run_done hd] at h
    have := I.R (n + 1) s' (by rw [run_done hd]; exact h)
    have e : k + 1 + n = k + (n + 1) := by omega
    rw [e]
    exact this
  | false =>
    obtain ⟨i, s', hi, hs, S'⟩ := step_some C.ok I.S hd
    obtain ⟨W', t'⟩ := step_w I.W hs
    have M1 : MB r.m (60 - (k + 1) + 1) := I.M.mono (by omega)
    refine set_w (s := .v (encS s')) ((if_yes ((raw_not r rfl).trans (by rw [hd]; rfl))).trans (c_do rfl rfl C.ok.call I.M.ok I.M.srt hs)) rfl rfl ?_
    refine ⟨s', ⟨_, _, _, _, _, _, _, _, _, _, _, _, _, rfl⟩, S', W', by have := I.t; omega, step_mb M1 hs, fun n s2 h => ?_⟩
    have := I.R (n + 1) s2 (by rw [run_cons hd hs]; exact h)
    have e : k + 1 + n = k + (n + 1) := by omega
    rw [e]
    exact this
theorem tail_ok (C : CsB cs) (Q : MemF q) (h : LoopQ (.v (encFs cs)) (.v (memD q)) (.v (encS (S0 q))) tp due (.v (encS (S0 q))) cs (S0 q) (keysI q.2) ρ) (hP : ∀ ρ' : Rho, ρ'.length = 22 → P (.nx ρ')) : gTail ρ P := by
  obtain ⟨st, cl, tr, hρ, hT⟩ := h
  have I0 := Q.ti C
  have hlen := Q.len
  unfold gTail gL9
  refine ⟨12, rfl, by decide, RawI q cs tp due st cl tr, ⟨S0 q, hρ, I0.S, I0.W, I0.t, I0.M, fun n s' h => by rw [Nat.zero_add]; exact h⟩, fun k ρ' hk h => raw_turn C hk h, ?_⟩
  rintro ρ' ⟨r, ⟨a, b, c, x12, x13, x14, x15, x16, x17, x18, x19, x20, x21, rfl⟩, RI⟩
  have hrun : runM cs 12 (S0 q) = some r := RI.R 0 r rfl
  have t9 : r.m.top ≤ 999 := by have := RI.t; omega
  have e1 : (fCall F_run (fCons (fVar 3) (fCons (fVar 5) (fCons (fC (.int 12)) fNil)))) [a, b, c, some (.v (encFs cs)), some (.v (memD q)), some (.v (encS (S0 q))), some tp, some due, some (.v (encS st)), some (.v (encS r)), some (.lst .own (iD cl)), some (.v (.bl tr)), x12, x13, x14, x15, x16, x17, x18, x19, x20, x21] = some (.v (encS r)) :=
    (fcall3 (s1 := .v (encFs cs)) (s2 := .v (encS (S0 q))) (s3 := .v (.int (12 : Nat))) rfl rfl rfl).trans (F_run_ok (k := 12) (by decide) C.ok I0.S (I0.M.mono (by decide)) hrun)
  unfold gL10 gL12
  refine sq_f (alk2 e1 rfl rfl rfl ((sm_st C RI.S RI.W t9 (by have := RI.M.len; omega)).alk (by decide) (by decide))) ?_
  refine ⟨isDone st, test_of (c_end rfl), fun hx => ⟨_, _, rfl, rfl, (ended_is st).trans (by rw [hx])⟩, ?_⟩
  refine sq_f (and_f (x := !tr) ?_ fun hx => ?_) ?_
  · cases tr <;> rfl
  · have htr : tr = false := by simpa using hx
    have TQ := hT htr
    obtain ⟨l, I⟩ := TQ.I
    have t9 : st.m.top ≤ 999 := by have := TQ.t; omega
    obtain ⟨lc, _, wc⟩ := ci_len I t9
    have kl : (keysI q.2).length ≤ 3 := by rw [List.length_map]; exact hlen
    refine alk2 ((fcall4 (s1 := .v (encFs cs)) (s2 := .v (encS (S0 q))) (s3 := .v (.tup false (iD (keysI q.2)))) (s4 := .v (.int (25 : Nat))) rfl rfl ((fcall1 (s1 := .v (memD q)) rfl).trans Q.at_) rfl).trans (F_checked_run_ok (k := 25) (by decide) C.ok I0.S (I0.M.mono (by decide)) (by omega) TQ.R)) rfl rfl rfl ((sm_pair (sm_st C TQ.S TQ.W t9 (by have := TQ.M.len; omega)) wc (by omega)).alk (by decide) (by decide))
  · exact ⟨_, rfl, begT_ok (ps := []) C, hP _ rfl⟩
end
end K9
/-! A lap of the law, whole. -/
namespace K9
open PySem PySem.Spec L2 Dn
section
variable {ρ : Rho} {P : Out → Prop} {R : WG}
theorem sq_code (h : ∀ cs, CsB cs → R (ρ.set 3 (some (.v (encFs cs)))) P) : wSeq gL0 R ρ P := by
  unfold gL0
  refine w_take (m := 2) rfl (by decide) (by decide) fun c hc => ?_
  exact code_ok hc fun cs C => ⟨_, rfl, h cs C⟩
theorem sq_mem (h : ∀ q, MemF q → R (ρ.set 4 (some (.v (memD q)))) P) : wSeq gL1 R ρ P := by
  unfold gL1
  refine ⟨_, rfl, rfl, ?_⟩
  refine w_take (m := 4) rfl (by decide) (by decide) fun n hn => ?_
  refine ⟨_, rfl, rfl, ?_⟩
  exact chain_ok hn fun q hq => ⟨_, rfl, h q (mem_f q hq)⟩
theorem fst_lc {q : Int × List (Int × Int)} (Q : MemF q) {a b c d e f g h i j k l m n o p r s t u v w : Option SD} (hq : e = some (.v (memD q))) :
    (fLc itT [19, 20] (fTwo gIx (fVar 4) (fC (.int 1))) (hTup 2 (hNames [19, 20])) (fun _ => some true) (fVar 19)) [a, b, c, d, e, f, g, h, i, j, k, l, m, n, o, p, r, s, t, u, v, w] = some (.lst .new (iD (keysI q.2))) := by
  subst hq
  refine lc_of (s := .v (heapD q.2)) rfl rfl (by rw [List.length_map]; exact decide_eq_true (by have := Q.len; omega)) ?_
  exact lc_fst (fun x => [a, b, c, d, some (.v (memD q)), f, g, h, i, j, k, l, m, n, o, p, r, s, t, some (.v (.int x.1)), some (.v (.int x.2)), w]) (fun x => rfl) (fun x => rfl) (fun x => rfl) q.2
theorem due_ok {Fp Fh Ft : Rho → Option SD} {p t : Int} {hp : D} (h1 : Fp ρ = some (.v (.int p))) (h2 : Fh ρ = some (.v hp)) (h3 : Ft ρ = some (.v (.int t))) :
    fTup (fCons (fTup (fCons (fTup (fCons (fC (.int 0)) (fCons (fC (.int 0)) (fCons (fTup (fCons Fp (fCons (fC (.int 0)) (fCons (fC (.int 0)) fNil)))) (fCons (fC .non) fNil))))) fNil)) (fCons Fh (fCons (fC (.int 0)) (fCons Ft fNil)))) ρ = some (.v (.tup false [.tup false [.tup false [.int 0, .int 0, .tup false [.int p, .int 0, .int 0], .non]], hp, .int 0, .int t])) := by
  unfold fTup
  simp only [fCons, fNil, h1, h2, h3, Option.bind_some]
  rfl
theorem lap_ok (hl : ρ.length = 22) (hP : ∀ ρ' : Rho, ρ'.length = 22 → P (.nx ρ')) : gLap ρ P := by
  unfold gLap
  refine sq_code fun cs C => ?_
  refine sq_mem fun q Q => ?_
  match ρ, hl with
  | [a, b, c, d, e, f, g, h, i, j, k, l, m, n, o, p, r, s, t, u, v, w], _ =>
    have hlen := Q.len
    have T0 := Q.ti C
    unfold gL2 gL3 gL4 gL5 gL6 gL7 gL8
    have pl : ∀ a b c d f g h i j k l m n o p r s t u v w : Option SD, (fCall F_law_place (fCons (fVar 4) (fCons (fC (.str "x")) fNil))) [a, b, c, d, some (.v (memD q)), f, g, h, i, j, k, l, m, n, o, p, r, s, t, u, v, w] = some (.v (.int q.1)) := fun a b c d f g h i j k l m n o p r s t u v w => (fcall2 (s1 := .v (memD q)) (s2 := .v (.str "x")) rfl rfl).trans Q.place
    have tpl : ∀ ρ : Rho, (fCall F_law_place (fCons (fVar 4) (fCons (fC (.str "x")) fNil))) ρ = some (.v (.int q.1)) → (fTup (fCons (fCall F_law_place (fCons (fVar 4) (fCons (fC (.str "x")) fNil))) fNil)) ρ = some (.v (.tup false [.int q.1])) := fun ρ e => by
      unfold fTup
      simp only [fCons, fNil, e, Option.bind_some]
      rfl
    refine sq_s ((fcall4 (s1 := .v (encFs cs)) (s2 := .v (.int 0)) (s3 := .v (.tup false [.int q.1])) (s4 := .v (heapD q.2)) rfl rfl (tpl _ (pl ..)) rfl).trans (begin_ok C Q)) rfl rfl ?_
    have mx : ∀ a b c d f g h i j k l m n o p r s t u v w : Option SD, (fTwo gAdd (fOne gMax (fTwo gAdd (fLst (fCons (fC (.int 0)) fNil)) (fLc itT [19, 20] (fTwo gIx (fVar 4) (fC (.int 1))) (hTup 2 (hNames [19, 20])) (fun _ => some true) (fVar 19)))) (fC (.int 1))) [a, b, c, d, some (.v (memD q)), f, g, h, i, j, k, l, m, n, o, p, r, s, t, u, v, w] = some (.v (.int (q.2.length + 1))) := fun a b c d f g h i j k l m n o p r s t u v w => by
      refine (two_of (s1 := .v (.int q.2.length)) ((one_at (s := .lst .new (.int 0 :: iD (keysI q.2))) ?_).trans Q.max) rfl).trans rfl
      refine (two_of (s1 := .lst .new [.int 0]) rfl (fst_lc Q rfl)).trans ?_
      have fw : few ([D.int 0].length + (iD (keysI q.2)).length) = true := by
        rw [List.length_map, List.length_map]
        exact decide_eq_true (by show 1 + q.2.length ≤ 10000; omega)
      show (if few ([D.int 0].length + (iD (keysI q.2)).length) then some (SD.lst .new ([D.int 0] ++ iD (keysI q.2))) else none) = _
      rw [if_pos fw]
      rfl
    refine sq_s (mx ..) rfl rfl ?_
    refine sq_s (s := .v (encS (S0 q))) ?_ rfl rfl ?_
    · exact due_ok (pl ..) rfl rfl
    have sm0 := sm_st C T0.S T0.W (by have := T0.t; omega) (by show q.2.length ≤ 9999; omega)
    refine sq_f (alk2 (s1 := .v (encS (S0 q))) (s2 := .v (encS (S0 q))) rfl rfl rfl rfl (sm0.alk (by decide) (by decide))) ?_
    refine ⟨_, rfl, _, rfl, _, fst_lc Q rfl, rfl, _, rfl, ?_⟩
    refine sq_s rfl rfl rfl ?_
    have fin : ∀ ρ : Rho, LoopQ (.v (encFs cs)) (.v (memD q)) (.v (encS (S0 q))) (.v (.int (q.2.length + 1))) (.v (encS (S0 q))) (.v (encS (S0 q))) cs (S0 q) (keysI q.2) ρ → gTail ρ P := fun ρ h => tail_ok C Q h hP
    refine ⟨25, rfl, by decide, LoopI (.v (encFs cs)) (.v (memD q)) (.v (encS (S0 q))) (.v (.int (q.2.length + 1))) (.v (encS (S0 q))) (.v (encS (S0 q))) cs (S0 q) (keysI q.2), ⟨S0 q, keysI q.2, false, ⟨_, _, _, _, _, _, _, _, _, _, _, _, _, rfl⟩, fun _ => T0⟩, fun j ρ' hj hI => turn_ok C hj hI fin, ?_⟩
    rintro ρ' ⟨st, cl, tr, hρ, hT⟩
    exact fin ρ' ⟨st, cl, tr, hρ, fun ht => (hT ht).stop (Nat.le_refl _) (.inl rfl)⟩
end
end K9
/-! The bag. -/
namespace K9
open PySem PySem.Spec L2 Dn
open PyProof.Rows (envOfC)
open Evl (Ex Ex.refl Ex.trans Ex.new ex_rd ex_l ex_t fresh_back)
abbrev s_law_bag : Stmt := top 28
abbrev N_law_bag : List Str := ["script", "cell"]
abbrev P_law_bag : List Str := ["script"]
theorem sc_law_bag : FnScope N_law_bag P_law_bag (defScope s_law_bag) := ⟨rfl, rfl, rfl, by decide +kernel, rfl, by decide +kernel, by decide +kernel⟩
def spBag (K : PySem.W.Frag) : Sp := fun vs H Q _ => ∃ (s : Addr) (ns : List Int), vs = [.ref s] ∧ SqL K H s (ns.map V.int) ∧ ∀ p q H', Ex H H' → H p = none → Bg H' p q → Q (.ref p) H'
theorem ex_mut' {H H' : Hp} {D : Addr} {o : HO} (e : Ex H H') (h : H D = none) : Ex H (upd H' D o) := Evl.Ex.mut e h
section
variable {P : Program} {w : World} {K : PySem.W.Frag} {mg : Str → Option Value} {base : Heap}
theorem ok_law_bag {f : Addr} {fd : FuncData} (Fn : Fun K "_law_bag" "_law_bag" s_law_bag f fd) (T2 : Txt2 mg) : FnOk P w K mg base CX0 1 f fd P_law_bag (spBag K) := by
  have nd := sc_law_bag.nd
  refine Fn.ok sc_law_bag (fun vs H Q E h => ?_) (fun cdv A outer s H vs Q E hr h => ?_)
  · obtain ⟨a, ns, rfl, _⟩ := h
    rfl
  · obtain ⟨a, ns, rfl, hs, kk⟩ := h
    refine ⟨_, pss_one (ps_ret (pe_lst (pa_cons pe_int (pa_cons pe_int (pa_cons pe_int (pa_cons
      (pe_lc (own := [("cell", 1)]) (g := gName 1) (tt := tYes) rfl nd (pi_list (pe_slice sl_list (pv 0) po_none (po_some pe_int))) (blkOk_by (N := N_law_bag) (sc := defScope s_law_bag) (by decide +kernel)) (fun _ _ _ _ _ => pg_name (i := 1) nd rfl (Or.inl rfl)) (fun _ _ _ _ _ => pts_nil) (fun _ _ _ _ _ => pe_callB call_abs (by rfl) T2.abs (by decide +kernel) (pa_cons (pv 1) pa_nil))) pa_nil)))))), ?_⟩
    obtain ⟨ms, em, lm, mm⟩ := cut_ints ns none (some 63)
    refine ⟨.ref a, rfl, 63, rfl, a, ns.map V.int, rfl, hs, fun p1 h1 => ⟨p1, rfl, ⟨_, SqL.of upd_same⟩, fun D hD => ?_⟩⟩
    rw [em] at hD ⊢
    have l63 : ms.length ≤ 63 := by
      have e1 : (cutV (ns.map V.int) none (some 63)).length = ms.length := by rw [em, List.length_map]
      rw [← e1]
      unfold cutV
      rw [List.length_take]
      have : HT.sIx (ns.map V.int).length (ns.map V.int).length (some 63) ≤ 63 := by
        unfold HT.sIx
        simp
        omega
      omega
    refine lc_list (K := K) (a := p1) (xs := ms.map V.int) (fun i H' => Ex (upd H p1 (.lst (ms.map V.int))) H' ∧ ∃ as : List Int, H' D = some (.lst (as.map V.int)) ∧ as.length = i ∧ ∀ x ∈ as, 0 ≤ x)
      ⟨Ex.new hD, [], upd_same, rfl, fun x hx => by simp at hx⟩ (fun i H' _ h => SqL.of (h.1 _ _ upd_same)) (fun i v H' hv h => ?_) (fun H' h => ?_)
    · obtain ⟨x2, as, h3, h4, h5⟩ := h
      rw [List.getElem?_map] at hv
      cases e : ms[i]? with
      | none => rw [e] at hv; cases hv
      | some c =>
        rw [e] at hv
        cases hv
        have hil : i < ms.length := (List.getElem?_eq_some_iff.mp e).1
        refine ⟨rfl, ?_⟩
        unfold tYes
        refine iteT ?_
        refine ⟨_, rfl, c, rfl, _, h3, ?_, ex_mut' x2 ?_, as ++ [if c < 0 then -c else c], ?_, by simp [h4], fun x hx => ?_⟩
        · rw [List.length_map, h4]
          exact Nat.lt_of_lt_of_le hil (Nat.le_trans l63 (by decide))
        · exact hD
        · rw [upd_same, List.map_append]
          rfl
        · rcases List.mem_append.mp hx with hx | hx
          · exact h5 x hx
          · have : x = if c < 0 then -c else c := by simpa using hx
            rw [this]
            split <;> omega
    · obtain ⟨x2, as, h3, h4, h5⟩ := h
      have h4 : as.length = ms.length := by simpa using h4
      refine ⟨(by decide : 4 ≤ sizeLine), fun p hp => ?_⟩
      have e1 : Ex H (upd H' p (.lst [.int 0, .int 1234567891, .int 0, .ref D])) := ((Ex.new h1).trans x2).trans (Ex.new hp)
      have pD : D ≠ p := fun z => by rw [z, hp] at h3; cases h3
      exact kk p D _ e1 (fresh_back ((Ex.new h1).trans x2) hp) ⟨0, 1234567891, 0, as, upd_same, (upd_ne pD).trans h3, by decide, by decide, by decide, h5, by omega⟩
end
end K9
/-! The law's run. -/
namespace K9
open PySem PySem.Spec L2 Dn LamX
open PySem.W PyProof.Rows
open Evl (Ex Ex.refl Ex.trans Ex.new ex_rd ex_l ex_t fresh_back)
/-- where all stands that the law calls -/
structure LawFs (P : Program) (w : World) (K : Frag) (mg : Str → Option Value) (base : Heap) (CN CT c Pt : Addr) : Prop where
  T2 : Txt2 mg
  alk : ∃ f fd, mg "_law_alike" = some (.ref f) ∧ keepIn K (.ref f) = true ∧ Binds K fd N_law_alike [] ∧ Fun K "_law_alike" "_law_alike" s_law_alike f fd
  bag : ∃ f fd, mg "_law_bag" = some (.ref f) ∧ keepIn K (.ref f) = true ∧ Binds K fd P_law_bag [] ∧ FnOk P w K mg base CX0 1 f fd P_law_bag (spBag K)
  isn : ∃ g fd, mg "_law_is_nothing" = some (.ref g) ∧ keepIn K (.ref g) = true ∧ L2.Binds K fd N_isn [] ∧ Fun K "_law_is_nothing" "_law_is_nothing" s_isn g fd
  no : mg "Nothing" = some (.ref CN)
  eN : exmOne K (.ref CN) (.ref CN) = some true
  TT : TrC P w K mg base CT
  xf : XfC K CT
  fF : findIn K (.ref CT) "function" = some none
  fI : findIn K (.ref CT) "index" = some none
  eT : exmOne K (.ref CT) (.ref CT) = some true
  X_step : FDX P w K mg base 5 "step" P_step F_step (R_instruction_at CN)
  X_begin : FDX P w K mg base 2 "begin" P_begin F_begin (R_begin CN)
  N_checked_step : FDN P w K mg base 6 "checked_step" P_checked_step F_checked_step (R_checked_step CT)
  D_law_asked : FD P w K mg base 1 "_law_asked" P_law_asked F_law_asked
  D_law_at : FD P w K mg base 1 "_law_at" P_law_at F_law_at
  D_law_cells : FD P w K mg base 2 "_law_cells" P_law_cells F_law_cells
  D_law_chain : FW P w K mg base 3 "_law_chain" P_law_chain W_law_chain
  D_law_code : FW P w K mg base 4 "_law_code" P_law_code W_law_code
  D_law_do : FD P w K mg base 2 "_law_do" P_law_do F_law_do
  D_law_place : FD P w K mg base 1 "_law_place" P_law_place F_law_place
  D_law_take : FW P w K mg base 1 "_law_take" P_law_take W_law_take
  D_asked_by : FD P w K mg base 3 "asked_by" P_asked_by F_asked_by
  D_begin : FD P w K mg base 2 "begin" P_begin F_begin
  D_checked_run : FD P w K mg base 7 "checked_run" P_checked_run F_checked_run
  D_free_cells : FD P w K mg base 1 "free_cells" P_free_cells F_free_cells
  D_is_ended : FD P w K mg base 1 "is_ended" P_is_ended F_is_ended
  D_live_cells : FD P w K mg base 2 "live_cells" P_live_cells F_live_cells
  D_run : FD P w K mg base 6 "run" P_run F_run
  D_step : FD P w K mg base 5 "step" P_step F_step
section
variable {P : Program} {w : World} {K : Frag} {mg : Str → Option Value} {base : Heap} {CN CT c Pt fa : Addr}
theorem law_body {s : Shared} {H : Hp} {E : XK} {a : Addr} {ns : List Int} {Q : VK} (F : LawFs P w K mg base CN CT c Pt) (TB : TabB base mg c Pt) (hr : Room 7 (callerA.deeper (envOfC "law" (defScope s_law) s.heap.objs.size fa (.ref c)))) (hS : SqL K H a (ns.map V.int)) (hP : H Pt = some (.tbl #[])) (q : ∀ H', Q (.bl true) H') :
    ∃ t, PSs (XL P w K mg base fa (.ref c) callerA [] s H E) (defBody s_law) t ∧ t { nx := fun _ H' => Q .non H', rt := Q } (L2.start N_law [.ref a]) H := by
  obtain ⟨fb, fdb, hmB, kpB, hbB, GB⟩ := F.bag
  have hT := dws_try (f := fa) (cdv := .ref c) (A := callerA) (outer := []) (s := s) (H := H) (E := E) F.T2 F.TT F.xf F.fF F.fI F.eT hr rfl ⟨F.alk⟩ F.N_checked_step
  have hW := dws_turn F.T2 hr rfl ⟨F.alk⟩ F.D_law_asked F.D_law_at F.D_law_cells F.D_law_chain F.D_law_code F.D_law_do F.D_law_place F.D_law_take F.D_asked_by F.D_begin F.D_checked_run F.D_free_cells F.D_is_ended F.D_live_cells F.D_run F.D_step hT
  have h1 := dls_lam1 (T := [(Pt, "law.<locals>.<lambda>")]) (f := fa) (cdv := .ref c) (A := callerA) (outer := []) (s := s) (H := H) (E := E) ⟨F.isn, F.no, F.eN⟩ F.D_is_ended F.X_step TB rfl (List.mem_singleton.mpr rfl) (fun p hp _ => by rw [List.mem_singleton.mp hp]) hr
  have h2 := dls_lam2 (T := [(Pt, "law.<locals>.<lambda>")]) (f := fa) (cdv := .ref c) (A := callerA) (outer := []) (s := s) (H := H) (E := E) ⟨F.isn, F.no, F.eN⟩ F.X_begin TB rfl (List.mem_singleton.mpr rfl) (fun p hp _ => by rw [List.mem_singleton.mp hp]) hr
  obtain ⟨tl, hL⟩ := dls_lap F.T2 hr rfl ⟨F.alk⟩ F.D_law_asked F.D_law_at F.D_law_cells F.D_law_chain F.D_law_code F.D_law_do F.D_law_place F.D_law_take F.D_asked_by F.D_begin F.D_checked_run F.D_free_cells F.D_is_ended F.D_live_cells F.D_run F.D_step hW h1 h2
  have hF : DLS (XL P w K mg base fa (.ref c) callerA [] s H E) [(Pt, "law.<locals>.<lambda>")] (nth (defBody s_law) 1) (tFor (iRng1 (tCons (tC (.int 6)) tNil)) (gName 2) tl) (wFor 2 (fC (.int 6)) gLap) := dls_forR 2 rfl PassesOwn.never F.T2.T.range de_int hL sc_law.nd
  refine ⟨_, pss_cons (ps_set (i := 1) sc_law.nd rfl (.inl rfl) (pe_call GB (hr.mono (by decide)) rfl hmB kpB hbB .nil pass0 (pa_cons (pv 0) pa_nil))) (pss_cons hF.ps (pss_one (ps_ret pe_bl))), ?_⟩
  refine ⟨.ref a, rfl, a, ns, rfl, hS, fun p b H1 x np B => ?_⟩
  have hP1 : H1 Pt = some (.tbl #[]) := x _ _ hP
  have R : RL K p b ((L2.start N_law [.ref a]).set 1 (some (.ref p))) H1 (List.replicate 22 none) := by
    have none_at : ∀ (i : Nat) (s : SD), (List.replicate 22 (none : Option SD))[i]? = some (some s) → False := fun i s h => by
      have := List.mem_of_getElem? h
      have := List.eq_of_mem_replicate this
      cases this
    exact ⟨⟨⟨fun _ _ _ h => (nomatch h), fun _ h => absurd rfl h⟩, fun i s h => (none_at i s h).elim, fun i s h => (none_at i s h).elim, fun i s _ h => (none_at i s h).elim, fun i _ s _ _ h => (none_at i s h).elim, rfl⟩, rfl, rfl, B, fun i s _ h => (none_at i s h).elim⟩
  have tb : Tabs [(Pt, "law.<locals>.<lambda>")] H1 := fun z hz => by
    rw [List.mem_singleton.mp hz]
    exact ⟨#[], hP1, by trivial, fun pos cv h => by cases h⟩
  refine hF.ev p b _ H1 (List.replicate 22 none) (fun o => ∃ ρ, o = .nx ρ) R tb ?_ _ ?_
  · refine ⟨6, rfl, by decide, fun _ ρ => ρ.length = 22, rfl, fun j ρ hj hl => ?_, fun ρ _ => ⟨ρ, rfl⟩⟩
    exact lap_ok (by rw [List.length_set]; exact hl) fun ρ' h => h
  · rintro o ⟨ρ, rfl⟩
    exact fun σ' H' _ _ => q H'
theorem law_run {oc kV doc pm ct : Value} {od an : Option Addr} {osl : Array (Option Value)} (lk : K.lookup fa = some ⟨oc, od, .func (fnOf "law" "law" (defArgs s_law) (defBody s_law) (defScope s_law) .none kV doc pm an (.ref c) ct), osl⟩) (hcd : codeIn K (.ref c) "law" = true)
    (F : LawFs P w K mg base CN CT c Pt) (TB : TabB base mg c Pt) {s : Shared} {H : Hp} {a : Addr} {ns : List Int} (e0 : Env0 P w K mg base callerA [] s H) (hS : SqL K H a (ns.map V.int)) (hP : H Pt = some (.tbl #[])) :
    codeAny (model P w) callerA (.call (.ref fa) ⟨[.ref a], []⟩) (CR CX0 [] P w H s (fun v _ => v = .bl true) fun _ _ _ => False) s := by
  refine run_ofS (k := 7) (Q := fun v _ => v = V.bl true) (N := N_law) (ps := P_law) (us := [.ref a]) (vs := [.ref a]) lk hcd sc_law ⟨rfl, by decide, by decide⟩ e0 (.of_eq rfl) (.cons rfl .nil) rfl fun hr => ?_
  obtain ⟨t, ht, hq⟩ := law_body (E := fun _ _ _ => False) (Q := fun v _ => v = V.bl true) F TB hr hS hP fun _ => rfl
  exact ⟨t, ht.nox, hq⟩
end
end K9
/-! The law's head: its run is asked at the caller alone. -/
namespace K9
open PySem PySem.Spec L2 Dn LamX
open PySem.W PyProof.Rows
abbrev tab0 : Obj := { cls := .none, data := .fields #[] }
abbrev lstO (vs : List Value) : Obj := { cls := .type "list", data := .seq vs.toArray }
section
variable {P : Program} {w : World} {K : Frag} {mg mb : Str → Option Value} {fa a c T : Addr} {h : Heap} {vs : List Value} {ns : List Int}
/-- the table, and the script if it is none of the program's objects -/
def begH (K : Frag) (T a : Addr) (vs : List Value) (ns : List Int) : Hp := fun b =>
  if b = T then some (.tbl #[]) else if b = a then (if K.lookup a = none then some (.frz (lstO vs) (.lst (ns.map V.int))) else none) else none
/-- what is neither a list nor an empty table is not followed -/
theorem beg_other (hT : h.get? T = some tab0) (ha : h.get? a = some (lstO vs)) {b : Addr} {o : Obj} (e : h.get? b = some o) (n1 : o ≠ tab0) (n2 : o ≠ lstO vs) : begH K T a vs ns b = none := by
  unfold begH
  rw [if_neg (fun z => n1 (by rw [z, hT] at e; exact (Option.some.inj e).symm)), if_neg (fun z => n2 (by rw [z, ha] at e; exact (Option.some.inj e).symm))]
theorem beg_base (hT : h.get? T = some tab0) (ha : h.get? a = some (lstO vs)) {b : Addr} {o : Obj} (e : h.get? b = some o) (n1 : o ≠ tab0) (n2 : o ≠ lstO vs) : (hidT h (begH K T a vs ns)).get? b = some o := hidT_get e (beg_other hT ha e n1 n2)
theorem dict_other {o : Obj} {es : Array DictEntry} {ep : Nat} (d : o.data = .dict es ep) : o ≠ tab0 ∧ o ≠ lstO vs := ⟨fun z => (by rw [z] at d; cases d), fun z => (by rw [z] at d; cases d)⟩
theorem beg_ns (hT : h.get? T = some tab0) (ha : h.get? a = some (lstO vs)) {b : Addr} {m : Str → Option Value} (n : h.Ns b m) : (hidT h (begH K T a vs ns)).Ns b m := by
  obtain ⟨o, es, ep, e, d, r⟩ := n
  exact ⟨o, es, ep, beg_base hT ha e (dict_other (vs := vs) d).1 (dict_other (vs := vs) d).2, d, r⟩
theorem ne_ta (hT : h.get? T = some tab0) (ha : h.get? a = some (lstO vs)) : a ≠ T := fun z => by
  rw [z, hT] at ha
  have : Data.fields #[] = Data.seq vs.toArray _ := congrArg Obj.data (Option.some.inj ha)
  cases this
theorem beg_T : begH K T a vs ns T = some (.tbl #[]) := if_pos rfl
theorem beg_a (hT : h.get? T = some tab0) (ha : h.get? a = some (lstO vs)) : begH K T a vs ns a = if K.lookup a = none then some (.frz (lstO vs) (.lst (ns.map V.int))) else none :=
  (if_neg (ne_ta hT ha)).trans (if_pos rfl)
theorem beg_K (hT : h.get? T = some tab0) (ha : h.get? a = some (lstO vs)) (KX : K.In h) (nT : K.lookup T = none) : K.In (hidT h (begH K T a vs ns)) := fun b o e => by
  refine hidT_get (KX b o e) ?_
  by_cases z : b = T
  · rw [z, nT] at e; cases e
  · by_cases y : b = a
    · rw [y] at e ⊢
      rw [beg_a hT ha, if_neg (by rw [e]; simp)]
    · exact (if_neg z).trans (if_neg y)
theorem beg_hok (hT : h.get? T = some tab0) (ha : h.get? a = some (lstO vs)) (hi : IntsAre vs ns) (hl : ns.length ≤ sizeLine) : HOk P w (begH K T a vs ns) h := fun b u e => by
  unfold begH at e
  split at e
  · rename_i z
    cases e
    rw [z]
    exact hT
  · split at e
    · rename_i z
      split at e
      · cases e
        rw [z]
        exact ⟨ha, by rw [List.length_map]; exact hl, vs, _, vals_ints hi, ha⟩
      · cases e
    · cases e
theorem beg_seq (hT : h.get? T = some tab0) (ha : h.get? a = some (lstO vs)) (KX : K.In h) (hi : IntsAre vs ns) (hl : ns.length ≤ sizeLine) : SqL K (begH K T a vs ns) a (ns.map V.int) := by
  have e := beg_a (K := K) (ns := ns) hT ha
  cases k : K.lookup a with
  | none => exact .inl (.inr ⟨lstO vs, e.trans (if_pos k)⟩)
  | some o =>
    have e2 := KX a o k
    rw [ha] at e2
    cases e2
    exact .inr ⟨_, vs.toArray, _, k, rfl, rfl, rfl, by rw [List.size_toArray, hi.length]; exact hl, by simpa using vals_ints hi⟩
theorem beg_tab (hT : h.get? T = some tab0) (ha : h.get? a = some (lstO vs)) (hns : h.Ns mainGlobals mg) (C : CodeHd h c T)
    (hbm : ∃ (bm : Addr) (ob : Obj), mg "__builtins__" = some (.ref bm) ∧ bm ≠ builtinsNs ∧ h.get? bm = some ob ∧ ob.cls = .type "module" ∧ ob.dict = some builtinsNs ∧ ob.data = .plain) : TabB (hidT h (begH K T a vs ns)) mg c T := by
  have gT : mainGlobals ≠ T := fun z => by
    obtain ⟨o, es, ep, e, d, _⟩ := hns
    rw [z, hT] at e
    cases e
    cases d
  refine ⟨?_, ?_, gT⟩
  · obtain ⟨o, us, x1, x2, x3, x4, x5, x6, x7, e1, r1, r2⟩ := C
    have n1 : o ≠ tab0 := fun z => by rw [z] at r1; cases r1
    have n2 : o ≠ lstO vs := fun z => by
      have r3 := r2.1
      rw [z] at r3
      cases r3
    exact ⟨o, us, x1, x2, x3, x4, x5, x6, x7, beg_base hT ha e1 n1 n2, r1, r2⟩
  · obtain ⟨bm, ob, b1, b2, b3, b4, b5, b6⟩ := hbm
    have n1 : ob ≠ tab0 := fun z => by rw [z] at b6; cases b6
    have n2 : ob ≠ lstO vs := fun z => by rw [z] at b6; cases b6
    refine ⟨bm, ob, b1, b2, fun z => ?_, fun z => ?_, beg_base hT ha b3 n1 n2, b4, b5, b6⟩
    · obtain ⟨o, es, ep, e, d, _⟩ := hns
      rw [z, e] at b3
      cases b3
      rw [d] at b6
      cases b6
    · rw [z, hT] at b3
      exact n1 (Option.some.inj b3).symm
end
end K9
/-! The law's head goes on. -/
namespace K9
open PySem PySem.Spec L2 Dn LamX
open PySem.W PyProof.Rows
section
variable {P : Program} {w : World} {K : Frag} {mg mb : Str → Option Value} {fa a c T : Addr} {s : Shared} {vs : List Value} {ns : List Int}
/-- what is asked of the law's run -/
def RunAt (P : Program) (w : World) (K : Frag) (mg : Str → Option Value) (fa c T : Addr) : Prop := ∀ (base : Heap) (s : Shared) (H : Hp) (a : Addr) (ns : List Int), K.In base → base.Ns mainGlobals mg → TabB base mg c T → Env0 P w K mg base callerA [] s H → SqL K H a (ns.map V.int) → H T = some (.tbl #[]) →
  codeAny (model P w) callerA (.call (.ref fa) ⟨[.ref a], []⟩) (CR CX0 [] P w H s (fun v _ => v = .bl true) fun _ _ _ => False) s
theorem head_ok (R : RunAt P w K mg fa c T) (KX : K.In s.heap) (hns : s.heap.Ns mainGlobals mg) (hb : s.heap.Ns builtinsNs mb) (hbb : ∀ x : Str, x ≠ "__name__" → mb x = bootBuiltins x) (hlim : s.heap.NoLimit) (hg : s.gens = #[])
    (hT : s.heap.get? T = some tab0) (nT : K.lookup T = none) (C : CodeHd s.heap c T)
    (hbm : ∃ (bm : Addr) (ob : Obj), mg "__builtins__" = some (.ref bm) ∧ bm ≠ builtinsNs ∧ s.heap.get? bm = some ob ∧ ob.cls = .type "module" ∧ ob.dict = some builtinsNs ∧ ob.data = .plain)
    (ha : s.heap.get? a = some (lstO vs)) (hi : IntsAre vs ns) (hl : ns.length ≤ sizeLine) :
    codeAny (model P w) callerA (.call (.ref fa) ⟨[.ref a], []⟩) (fun r s' => r = .ok (.ret (.bool true)) ∧ OldK s.heap s'.heap ∧ s'.os = s.os ∧ AllBare s'.gens) s := by
  have kin := beg_K (vs := vs) (ns := ns) hT ha KX nT
  have glob := beg_ns (K := K) (ns := ns) hT ha hns
  have lim : (hidT s.heap (begH K T a vs ns)).NoLimit := by
    obtain ⟨m, h1, h2⟩ := hlim
    exact ⟨m, beg_ns hT ha h1, h2⟩
  have e0 : Env0 P w K mg (hidT s.heap (begH K T a vs ns)) callerA [] s (begH K T a vs ns) :=
    { frames := rfl, mod := ⟨kin, glob, ⟨mb, beg_ns hT ha hb, hbb⟩, lim⟩, bs := fun b o e => of_hidT e, bsz := Nat.le_of_eq (hidT_size _ _), funs := trivial, frf := (fun b hb => nomatch hb), hok := beg_hok hT ha hi hl, bare := .of_eq hg }
  refine codeAny_mono (R _ s _ a ns kin glob (beg_tab hT ha hns C hbm) e0 (beg_seq hT ha KX hi hl) beg_T) fun r s' q => ?_
  match r, q with
  | .ok (.ret u), ⟨v, H', os, bare, un, ok', rv, qv⟩ =>
    have qv : v = .bl true := qv
    subst qv
    have hu : u = .bool true := rv
    subst hu
    obtain ⟨more, z⟩ := un.tbls T #[] beg_T
    have tabAt : s'.heap.get? T = some { cls := .none, data := .fields (#[] ++ more) } := ok' T _ z
    have rest : ∀ b o, b ≠ T → s.heap.get? b = some o → s'.heap.get? b = some o := fun b o n e => by
      by_cases y : b = a ∧ K.lookup a = none
      · obtain ⟨rfl, k⟩ := y
        have f0 : begH K T b vs ns b = some (.frz (lstO vs) (.lst (ns.map V.int))) := (beg_a hT ha).trans (if_pos k)
        have e1 : s'.heap.get? b = some (lstO vs) := (ok' b _ (un.frzs b _ _ f0)).1
        rw [ha] at e
        rw [← e]
        exact e1
      · refine un.keep b o e ?_ (fun z => nomatch z) (fun z => nomatch z)
        unfold begH
        rw [if_neg n]
        split
        · rename_i w
          exact if_neg fun k => y ⟨w, k⟩
        · rfl
    refine ⟨rfl, ⟨fun b o e => ?_, fun b o e => ?_⟩, os, bare⟩
    · by_cases n : b = T
      · rw [n] at e ⊢
        rw [hT] at e
        cases e
        exact .inr (.inl ⟨(C.tab hT).isCodeTable, rfl, #[], more, rfl, tabAt⟩)
      · exact .inl (rest b o n e)
    · by_cases n : b = T
      · rw [n]
        exact ⟨_, tabAt⟩
      · exact ⟨o, rest b o n e⟩
end
/-- what the law's head knows -/
structure HeadAt (l : OpenLaw) (w : World) (mg : Str → Option Value) (fa : Addr) (h : Heap) : Prop where
  ex : ∃ (K : Frag) (c T : Addr), K.In h ∧ h.get? T = some tab0 ∧ K.lookup T = none ∧ CodeHd h c T ∧ RunAt l.prog w K mg fa c T
theorem walk_k09 {l : OpenLaw} {n : Nat} {q : Program} {loose : List Str} {XP : (Str → Option Value) → Heap → Prop} {YP : World → Heap → Prop} {d : DefRec} (hn : l.most = some n) (hn2 : n ≤ sizeLine) (hdf : d.params.defaults = [])
    (F : ∀ (w : World) (mg : Str → Option Value) (fa : Addr) (h : Heap), YP w h → h.Ns mainGlobals mg → mg d.name = some (.ref fa) → HeadAt l w mg fa h) :
    WalkO q loose XP YP l.row.toRowW d [] (fun f vs => PySem.call f vs) := by
  refine Att.attach_callB hn hdf fun w s₀ s₁ mg mb fa o pm cd doc a vs ns G Y _ _ _ hm ha hi hlen _ hg => ?_
  obtain ⟨K, c, T, KX, hT, nT, C, R⟩ := (F w mg fa s₁.heap Y G.T.g hm).ex
  exact head_ok R KX G.T.g G.T.b G.T.builtins G.T.nolimit hg hT nT C G.T.bmain ha hi (Nat.le_trans hlen hn2)
end K9
/-! Where the defs stand. -/
namespace K9
open PySem PySem.Spec L2 Dn LamX
open PySem.W PyProof.Rows
/-- a def stands at the top -/
structure DefAt (K : Frag) (mg : Str → Option Value) (x : Str) (st : Stmt) (ps : List Str) : Prop where
  ex : ∃ f fd, mg x = some (.ref f) ∧ Fun K x x st f fd ∧ Binds K fd ps []
theorem def_at {K : Frag} {mg : Str → Option Value} {h : Heap} {x : Str} {st : Stmt} {ps : List Str} {f : Addr} {oc kV dc pm cd ct : Value} {od an : Option Addr} {sl : Array (Option Value)} (X : K.In h) (G : h.Ns mainGlobals mg)
    (b : ∀ (kV doc pm : Value) (an : Option Addr) (cdv ct : Value) (us : List Value), us.length = ps.length → bindArgs (fnOf x x (defArgs st) (defBody st) (defScope st) .none kV doc pm an cdv ct) ⟨us, []⟩ = pure (ps.zip us))
    (a : nsIn K mainGlobals x = some (some (.ref f))) (l : K.lookup f = some ⟨oc, od, .func (fnOf x x (defArgs st) (defBody st) (defScope st) .none kV dc pm an cd ct), sl⟩) (c : codeIn K cd x = true) (k : keepIn K (.ref f) = true) : DefAt K mg x st ps :=
  ⟨f, _, mg_of X G a, fun_mk l c k, (fun_mk l c k).binds b⟩
theorem bd_law_take (kV doc pm : Value) (an : Option Addr) (cdv ct : Value) (us : List Value) (hl : us.length = P_law_take.length) : bindArgs (fnOf "_law_take" "_law_take" (defArgs s_law_take) (defBody s_law_take) (defScope s_law_take) .none kV doc pm an cdv ct) ⟨us, []⟩ = pure (P_law_take.zip us) :=
  match us, hl with | [_, _], _ => rfl
theorem bd_entered (kV doc pm : Value) (an : Option Addr) (cdv ct : Value) (us : List Value) (hl : us.length = P_entered.length) : bindArgs (fnOf "entered" "entered" (defArgs s_entered) (defBody s_entered) (defScope s_entered) .none kV doc pm an cdv ct) ⟨us, []⟩ = pure (P_entered.zip us) :=
  match us, hl with | [_, _, _, _], _ => rfl
theorem bd_is_ended (kV doc pm : Value) (an : Option Addr) (cdv ct : Value) (us : List Value) (hl : us.length = P_is_ended.length) : bindArgs (fnOf "is_ended" "is_ended" (defArgs s_is_ended) (defBody s_is_ended) (defScope s_is_ended) .none kV doc pm an cdv ct) ⟨us, []⟩ = pure (P_is_ended.zip us) :=
  match us, hl with | [_], _ => rfl
theorem bd_instruction_at (kV doc pm : Value) (an : Option Addr) (cdv ct : Value) (us : List Value) (hl : us.length = P_instruction_at.length) : bindArgs (fnOf "instruction_at" "instruction_at" (defArgs s_instruction_at) (defBody s_instruction_at) (defScope s_instruction_at) .none kV doc pm an cdv ct) ⟨us, []⟩ = pure (P_instruction_at.zip us) :=
  match us, hl with | [_, _], _ => rfl
theorem bd_asked_by (kV doc pm : Value) (an : Option Addr) (cdv ct : Value) (us : List Value) (hl : us.length = P_asked_by.length) : bindArgs (fnOf "asked_by" "asked_by" (defArgs s_asked_by) (defBody s_asked_by) (defScope s_asked_by) .none kV doc pm an cdv ct) ⟨us, []⟩ = pure (P_asked_by.zip us) :=
  match us, hl with | [_, _], _ => rfl
theorem bd_with_register (kV doc pm : Value) (an : Option Addr) (cdv ct : Value) (us : List Value) (hl : us.length = P_with_register.length) : bindArgs (fnOf "with_register" "with_register" (defArgs s_with_register) (defBody s_with_register) (defScope s_with_register) .none kV doc pm an cdv ct) ⟨us, []⟩ = pure (P_with_register.zip us) :=
  match us, hl with | [_, _, _], _ => rfl
theorem bd_at_index (kV doc pm : Value) (an : Option Addr) (cdv ct : Value) (us : List Value) (hl : us.length = P_at_index.length) : bindArgs (fnOf "at_index" "at_index" (defArgs s_at_index) (defBody s_at_index) (defScope s_at_index) .none kV doc pm an cdv ct) ⟨us, []⟩ = pure (P_at_index.zip us) :=
  match us, hl with | [_, _], _ => rfl
theorem bd_with_word (kV doc pm : Value) (an : Option Addr) (cdv ct : Value) (us : List Value) (hl : us.length = P_with_word.length) : bindArgs (fnOf "with_word" "with_word" (defArgs s_with_word) (defBody s_with_word) (defScope s_with_word) .none kV doc pm an cdv ct) ⟨us, []⟩ = pure (P_with_word.zip us) :=
  match us, hl with | [_, _, _], _ => rfl
theorem bd_taken (kV doc pm : Value) (an : Option Addr) (cdv ct : Value) (us : List Value) (hl : us.length = P_taken.length) : bindArgs (fnOf "taken" "taken" (defArgs s_taken) (defBody s_taken) (defScope s_taken) .none kV doc pm an cdv ct) ⟨us, []⟩ = pure (P_taken.zip us) :=
  match us, hl with | [_, _], _ => rfl
theorem bd_given_back (kV doc pm : Value) (an : Option Addr) (cdv ct : Value) (us : List Value) (hl : us.length = P_given_back.length) : bindArgs (fnOf "given_back" "given_back" (defArgs s_given_back) (defBody s_given_back) (defScope s_given_back) .none kV doc pm an cdv ct) ⟨us, []⟩ = pure (P_given_back.zip us) :=
  match us, hl with | [_, _], _ => rfl
theorem bd_called (kV doc pm : Value) (an : Option Addr) (cdv ct : Value) (us : List Value) (hl : us.length = P_called.length) : bindArgs (fnOf "called" "called" (defArgs s_called) (defBody s_called) (defScope s_called) .none kV doc pm an cdv ct) ⟨us, []⟩ = pure (P_called.zip us) :=
  match us, hl with | [_, _, _], _ => rfl
theorem bd_left (kV doc pm : Value) (an : Option Addr) (cdv ct : Value) (us : List Value) (hl : us.length = P_left.length) : bindArgs (fnOf "left" "left" (defArgs s_left) (defBody s_left) (defScope s_left) .none kV doc pm an cdv ct) ⟨us, []⟩ = pure (P_left.zip us) :=
  match us, hl with | [_, _], _ => rfl
theorem bd_given_by (kV doc pm : Value) (an : Option Addr) (cdv ct : Value) (us : List Value) (hl : us.length = P_given_by.length) : bindArgs (fnOf "given_by" "given_by" (defArgs s_given_by) (defBody s_given_by) (defScope s_given_by) .none kV doc pm an cdv ct) ⟨us, []⟩ = pure (P_given_by.zip us) :=
  match us, hl with | [_, _], _ => rfl
theorem bd_jumped (kV doc pm : Value) (an : Option Addr) (cdv ct : Value) (us : List Value) (hl : us.length = P_jumped.length) : bindArgs (fnOf "jumped" "jumped" (defArgs s_jumped) (defBody s_jumped) (defScope s_jumped) .none kV doc pm an cdv ct) ⟨us, []⟩ = pure (P_jumped.zip us) :=
  match us, hl with | [_, _, _], _ => rfl
theorem bd_touched (kV doc pm : Value) (an : Option Addr) (cdv ct : Value) (us : List Value) (hl : us.length = P_touched.length) : bindArgs (fnOf "touched" "touched" (defArgs s_touched) (defBody s_touched) (defScope s_touched) .none kV doc pm an cdv ct) ⟨us, []⟩ = pure (P_touched.zip us) :=
  match us, hl with | [_, _, _], _ => rfl
theorem bd_step (kV doc pm : Value) (an : Option Addr) (cdv ct : Value) (us : List Value) (hl : us.length = P_step.length) : bindArgs (fnOf "step" "step" (defArgs s_step) (defBody s_step) (defScope s_step) .none kV doc pm an cdv ct) ⟨us, []⟩ = pure (P_step.zip us) :=
  match us, hl with | [_, _], _ => rfl
theorem bd_checked_step (kV doc pm : Value) (an : Option Addr) (cdv ct : Value) (us : List Value) (hl : us.length = P_checked_step.length) : bindArgs (fnOf "checked_step" "checked_step" (defArgs s_checked_step) (defBody s_checked_step) (defScope s_checked_step) .none kV doc pm an cdv ct) ⟨us, []⟩ = pure (P_checked_step.zip us) :=
  match us, hl with | [_, _, _], _ => rfl
theorem bd_run (kV doc pm : Value) (an : Option Addr) (cdv ct : Value) (us : List Value) (hl : us.length = P_run.length) : bindArgs (fnOf "run" "run" (defArgs s_run) (defBody s_run) (defScope s_run) .none kV doc pm an cdv ct) ⟨us, []⟩ = pure (P_run.zip us) :=
  match us, hl with | [_, _, _], _ => rfl
theorem bd_checked_run (kV doc pm : Value) (an : Option Addr) (cdv ct : Value) (us : List Value) (hl : us.length = P_checked_run.length) : bindArgs (fnOf "checked_run" "checked_run" (defArgs s_checked_run) (defBody s_checked_run) (defScope s_checked_run) .none kV doc pm an cdv ct) ⟨us, []⟩ = pure (P_checked_run.zip us) :=
  match us, hl with | [_, _, _, _], _ => rfl
theorem bd_free_cells (kV doc pm : Value) (an : Option Addr) (cdv ct : Value) (us : List Value) (hl : us.length = P_free_cells.length) : bindArgs (fnOf "free_cells" "free_cells" (defArgs s_free_cells) (defBody s_free_cells) (defScope s_free_cells) .none kV doc pm an cdv ct) ⟨us, []⟩ = pure (P_free_cells.zip us) :=
  match us, hl with | [_], _ => rfl
theorem bd_live_cells (kV doc pm : Value) (an : Option Addr) (cdv ct : Value) (us : List Value) (hl : us.length = P_live_cells.length) : bindArgs (fnOf "live_cells" "live_cells" (defArgs s_live_cells) (defBody s_live_cells) (defScope s_live_cells) .none kV doc pm an cdv ct) ⟨us, []⟩ = pure (P_live_cells.zip us) :=
  match us, hl with | [_], _ => rfl
theorem bd_begin (kV doc pm : Value) (an : Option Addr) (cdv ct : Value) (us : List Value) (hl : us.length = P_begin.length) : bindArgs (fnOf "begin" "begin" (defArgs s_begin) (defBody s_begin) (defScope s_begin) .none kV doc pm an cdv ct) ⟨us, []⟩ = pure (P_begin.zip us) :=
  match us, hl with | [_, _, _, _], _ => rfl
theorem bd_law_place (kV doc pm : Value) (an : Option Addr) (cdv ct : Value) (us : List Value) (hl : us.length = P_law_place.length) : bindArgs (fnOf "_law_place" "_law_place" (defArgs s_law_place) (defBody s_law_place) (defScope s_law_place) .none kV doc pm an cdv ct) ⟨us, []⟩ = pure (P_law_place.zip us) :=
  match us, hl with | [_, _], _ => rfl
theorem bd_law_left (kV doc pm : Value) (an : Option Addr) (cdv ct : Value) (us : List Value) (hl : us.length = P_law_left.length) : bindArgs (fnOf "_law_left" "_law_left" (defArgs s_law_left) (defBody s_law_left) (defScope s_law_left) .none kV doc pm an cdv ct) ⟨us, []⟩ = pure (P_law_left.zip us) :=
  match us, hl with | [_, _, _, _, _], _ => rfl
theorem bd_law_do (kV doc pm : Value) (an : Option Addr) (cdv ct : Value) (us : List Value) (hl : us.length = P_law_do.length) : bindArgs (fnOf "_law_do" "_law_do" (defArgs s_law_do) (defBody s_law_do) (defScope s_law_do) .none kV doc pm an cdv ct) ⟨us, []⟩ = pure (P_law_do.zip us) :=
  match us, hl with | [_, _], _ => rfl
theorem bd_law_asked (kV doc pm : Value) (an : Option Addr) (cdv ct : Value) (us : List Value) (hl : us.length = P_law_asked.length) : bindArgs (fnOf "_law_asked" "_law_asked" (defArgs s_law_asked) (defBody s_law_asked) (defScope s_law_asked) .none kV doc pm an cdv ct) ⟨us, []⟩ = pure (P_law_asked.zip us) :=
  match us, hl with | [_, _], _ => rfl
theorem bd_law_cells (kV doc pm : Value) (an : Option Addr) (cdv ct : Value) (us : List Value) (hl : us.length = P_law_cells.length) : bindArgs (fnOf "_law_cells" "_law_cells" (defArgs s_law_cells) (defBody s_law_cells) (defScope s_law_cells) .none kV doc pm an cdv ct) ⟨us, []⟩ = pure (P_law_cells.zip us) :=
  match us, hl with | [_, _, _], _ => rfl
theorem bd_law_at (kV doc pm : Value) (an : Option Addr) (cdv ct : Value) (us : List Value) (hl : us.length = P_law_at.length) : bindArgs (fnOf "_law_at" "_law_at" (defArgs s_law_at) (defBody s_law_at) (defScope s_law_at) .none kV doc pm an cdv ct) ⟨us, []⟩ = pure (P_law_at.zip us) :=
  match us, hl with | [_], _ => rfl
theorem bd_law_some (kV doc pm : Value) (an : Option Addr) (cdv ct : Value) (us : List Value) (hl : us.length = P_law_some.length) : bindArgs (fnOf "_law_some" "_law_some" (defArgs s_law_some) (defBody s_law_some) (defScope s_law_some) .none kV doc pm an cdv ct) ⟨us, []⟩ = pure (P_law_some.zip us) :=
  match us, hl with | [_, _], _ => rfl
theorem bd_law_mixed (kV doc pm : Value) (an : Option Addr) (cdv ct : Value) (us : List Value) (hl : us.length = P_law_mixed.length) : bindArgs (fnOf "_law_mixed" "_law_mixed" (defArgs s_law_mixed) (defBody s_law_mixed) (defScope s_law_mixed) .none kV doc pm an cdv ct) ⟨us, []⟩ = pure (P_law_mixed.zip us) :=
  match us, hl with | [_, _], _ => rfl
theorem bd_law_instruction (kV doc pm : Value) (an : Option Addr) (cdv ct : Value) (us : List Value) (hl : us.length = P_law_instruction.length) : bindArgs (fnOf "_law_instruction" "_law_instruction" (defArgs s_law_instruction) (defBody s_law_instruction) (defScope s_law_instruction) .none kV doc pm an cdv ct) ⟨us, []⟩ = pure (P_law_instruction.zip us) :=
  match us, hl with | [_, _, _, _], _ => rfl
theorem bd_law_code (kV doc pm : Value) (an : Option Addr) (cdv ct : Value) (us : List Value) (hl : us.length = P_law_code.length) : bindArgs (fnOf "_law_code" "_law_code" (defArgs s_law_code) (defBody s_law_code) (defScope s_law_code) .none kV doc pm an cdv ct) ⟨us, []⟩ = pure (P_law_code.zip us) :=
  match us, hl with | [_, _], _ => rfl
theorem bd_law_bag (kV doc pm : Value) (an : Option Addr) (cdv ct : Value) (us : List Value) (hl : us.length = P_law_bag.length) : bindArgs (fnOf "_law_bag" "_law_bag" (defArgs s_law_bag) (defBody s_law_bag) (defScope s_law_bag) .none kV doc pm an cdv ct) ⟨us, []⟩ = pure (P_law_bag.zip us) :=
  match us, hl with | [_], _ => rfl
theorem bd_law_chain (kV doc pm : Value) (an : Option Addr) (cdv ct : Value) (us : List Value) (hl : us.length = P_law_chain.length) : bindArgs (fnOf "_law_chain" "_law_chain" (defArgs s_law_chain) (defBody s_law_chain) (defScope s_law_chain) .none kV doc pm an cdv ct) ⟨us, []⟩ = pure (P_law_chain.zip us) :=
  match us, hl with | [_, _, _], _ => rfl
theorem bd_law_alike (kV doc pm : Value) (an : Option Addr) (cdv ct : Value) (us : List Value) (hl : us.length = N_law_alike.length) : bindArgs (fnOf "_law_alike" "_law_alike" (defArgs s_law_alike) (defBody s_law_alike) (defScope s_law_alike) .none kV doc pm an cdv ct) ⟨us, []⟩ = pure (N_law_alike.zip us) :=
  match us, hl with | [_, _], _ => rfl
theorem bd_law_is_nothing (kV doc pm : Value) (an : Option Addr) (cdv ct : Value) (us : List Value) (hl : us.length = N_isn.length) : bindArgs (fnOf "_law_is_nothing" "_law_is_nothing" (defArgs s_isn) (defBody s_isn) (defScope s_isn) .none kV doc pm an cdv ct) ⟨us, []⟩ = pure (N_isn.zip us) :=
  match us, hl with | [_], _ => rfl
structure TopFs (K : Frag) (mg : Str → Option Value) : Prop where
  A_law_take : DefAt K mg "_law_take" s_law_take P_law_take
  A_entered : DefAt K mg "entered" s_entered P_entered
  A_is_ended : DefAt K mg "is_ended" s_is_ended P_is_ended
  A_instruction_at : DefAt K mg "instruction_at" s_instruction_at P_instruction_at
  A_asked_by : DefAt K mg "asked_by" s_asked_by P_asked_by
  A_with_register : DefAt K mg "with_register" s_with_register P_with_register
  A_at_index : DefAt K mg "at_index" s_at_index P_at_index
  A_with_word : DefAt K mg "with_word" s_with_word P_with_word
  A_taken : DefAt K mg "taken" s_taken P_taken
  A_given_back : DefAt K mg "given_back" s_given_back P_given_back
  A_called : DefAt K mg "called" s_called P_called
  A_left : DefAt K mg "left" s_left P_left
  A_given_by : DefAt K mg "given_by" s_given_by P_given_by
  A_jumped : DefAt K mg "jumped" s_jumped P_jumped
  A_touched : DefAt K mg "touched" s_touched P_touched
  A_step : DefAt K mg "step" s_step P_step
  A_checked_step : DefAt K mg "checked_step" s_checked_step P_checked_step
  A_run : DefAt K mg "run" s_run P_run
  A_checked_run : DefAt K mg "checked_run" s_checked_run P_checked_run
  A_free_cells : DefAt K mg "free_cells" s_free_cells P_free_cells
  A_live_cells : DefAt K mg "live_cells" s_live_cells P_live_cells
  A_begin : DefAt K mg "begin" s_begin P_begin
  A_law_place : DefAt K mg "_law_place" s_law_place P_law_place
  A_law_left : DefAt K mg "_law_left" s_law_left P_law_left
  A_law_do : DefAt K mg "_law_do" s_law_do P_law_do
  A_law_asked : DefAt K mg "_law_asked" s_law_asked P_law_asked
  A_law_cells : DefAt K mg "_law_cells" s_law_cells P_law_cells
  A_law_at : DefAt K mg "_law_at" s_law_at P_law_at
  A_law_some : DefAt K mg "_law_some" s_law_some P_law_some
  A_law_mixed : DefAt K mg "_law_mixed" s_law_mixed P_law_mixed
  A_law_instruction : DefAt K mg "_law_instruction" s_law_instruction P_law_instruction
  A_law_code : DefAt K mg "_law_code" s_law_code P_law_code
  A_law_bag : DefAt K mg "_law_bag" s_law_bag P_law_bag
  A_law_chain : DefAt K mg "_law_chain" s_law_chain P_law_chain
  A_law_alike : DefAt K mg "_law_alike" s_law_alike N_law_alike
  A_law_is_nothing : DefAt K mg "_law_is_nothing" s_isn N_isn
section
variable {P : Program} {w : World} {K : Frag} {mg : Str → Option Value} {base : Heap} {CN CT c Pt : Addr}
theorem lawFs_of (A : TopFs K mg) (T2 : Txt2 mg) (TN : NoC K mg CN) (eN : exmOne K (.ref CN) (.ref CN) = some true) (TT : TrC P w K mg base CT) (xf : XfC K CT) (fF : findIn K (.ref CT) "function" = some none) (fI : findIn K (.ref CT) "index" = some none) (eT : exmOne K (.ref CT) (.ref CT) = some true) : LawFs P w K mg base CN CT c Pt := by
  have T := T2.T
  obtain ⟨f_law_take, d_law_take, m_law_take, G_law_take, b_law_take⟩ := A.A_law_take.ex
  have D_law_take : FW P w K mg base 1 "_law_take" P_law_take W_law_take := .mk' G_law_take m_law_take b_law_take (ok_law_take G_law_take T2)
  obtain ⟨f_entered, d_entered, m_entered, G_entered, b_entered⟩ := A.A_entered.ex
  have D_entered : FD P w K mg base 1 "entered" P_entered F_entered := .mk' G_entered m_entered b_entered (ok_entered G_entered T)
  obtain ⟨f_is_ended, d_is_ended, m_is_ended, G_is_ended, b_is_ended⟩ := A.A_is_ended.ex
  have D_is_ended : FD P w K mg base 1 "is_ended" P_is_ended F_is_ended := .mk' G_is_ended m_is_ended b_is_ended (ok_is_ended G_is_ended T)
  obtain ⟨f_instruction_at, d_instruction_at, m_instruction_at, G_instruction_at, b_instruction_at⟩ := A.A_instruction_at.ex
  have D_instruction_at : FD P w K mg base 2 "instruction_at" P_instruction_at F_instruction_at := .mk' G_instruction_at m_instruction_at b_instruction_at (ok_instruction_at G_instruction_at T D_is_ended)
  obtain ⟨f_asked_by, d_asked_by, m_asked_by, G_asked_by, b_asked_by⟩ := A.A_asked_by.ex
  have D_asked_by : FD P w K mg base 3 "asked_by" P_asked_by F_asked_by := .mk' G_asked_by m_asked_by b_asked_by (ok_asked_by G_asked_by T D_instruction_at)
  obtain ⟨f_with_register, d_with_register, m_with_register, G_with_register, b_with_register⟩ := A.A_with_register.ex
  have D_with_register : FD P w K mg base 1 "with_register" P_with_register F_with_register := .mk' G_with_register m_with_register b_with_register (ok_with_register G_with_register T)
  obtain ⟨f_at_index, d_at_index, m_at_index, G_at_index, b_at_index⟩ := A.A_at_index.ex
  have D_at_index : FD P w K mg base 1 "at_index" P_at_index F_at_index := .mk' G_at_index m_at_index b_at_index (ok_at_index G_at_index T)
  obtain ⟨f_with_word, d_with_word, m_with_word, G_with_word, b_with_word⟩ := A.A_with_word.ex
  have D_with_word : FD P w K mg base 2 "with_word" P_with_word F_with_word := .mk' G_with_word m_with_word b_with_word (ok_with_word G_with_word T D_with_register)
  obtain ⟨f_taken, d_taken, m_taken, G_taken, b_taken⟩ := A.A_taken.ex
  have D_taken : FD P w K mg base 2 "taken" P_taken F_taken := .mk' G_taken m_taken b_taken (ok_taken G_taken T D_with_register)
  obtain ⟨f_given_back, d_given_back, m_given_back, G_given_back, b_given_back⟩ := A.A_given_back.ex
  have D_given_back : FD P w K mg base 3 "given_back" P_given_back F_given_back := .mk' G_given_back m_given_back b_given_back (ok_given_back G_given_back T D_with_word)
  obtain ⟨f_called, d_called, m_called, G_called, b_called⟩ := A.A_called.ex
  have D_called : FD P w K mg base 2 "called" P_called F_called := .mk' G_called m_called b_called (ok_called G_called T D_entered D_with_register)
  obtain ⟨f_left, d_left, m_left, G_left, b_left⟩ := A.A_left.ex
  have D_left : FD P w K mg base 2 "left" P_left F_left := .mk' G_left m_left b_left (ok_left G_left T D_with_register D_at_index)
  obtain ⟨f_given_by, d_given_by, m_given_by, G_given_by, b_given_by⟩ := A.A_given_by.ex
  have D_given_by : FD P w K mg base 1 "given_by" P_given_by F_given_by := .mk' G_given_by m_given_by b_given_by (ok_given_by G_given_by T)
  obtain ⟨f_jumped, d_jumped, m_jumped, G_jumped, b_jumped⟩ := A.A_jumped.ex
  have D_jumped : FD P w K mg base 2 "jumped" P_jumped F_jumped := .mk' G_jumped m_jumped b_jumped (ok_jumped G_jumped T D_with_register D_at_index)
  obtain ⟨f_touched, d_touched, m_touched, G_touched, b_touched⟩ := A.A_touched.ex
  have D_touched : FD P w K mg base 4 "touched" P_touched F_touched := .mk' G_touched m_touched b_touched (ok_touched G_touched T D_with_register D_with_word D_given_back)
  obtain ⟨f_step, d_step, m_step, G_step, b_step⟩ := A.A_step.ex
  have D_step : FD P w K mg base 5 "step" P_step F_step := .mk' G_step m_step b_step (ok_step G_step T D_instruction_at D_with_register D_taken D_called D_left D_given_by D_jumped D_touched)
  obtain ⟨f_checked_step, d_checked_step, m_checked_step, G_checked_step, b_checked_step⟩ := A.A_checked_step.ex
  have D_checked_step : FD P w K mg base 6 "checked_step" P_checked_step F_checked_step := .mk' G_checked_step m_checked_step b_checked_step (ok_checked_step G_checked_step T D_instruction_at D_asked_by D_step)
  obtain ⟨f_run, d_run, m_run, G_run, b_run⟩ := A.A_run.ex
  have D_run : FD P w K mg base 6 "run" P_run F_run := .mk' G_run m_run b_run (ok_run G_run T D_is_ended D_step)
  obtain ⟨f_checked_run, d_checked_run, m_checked_run, G_checked_run, b_checked_run⟩ := A.A_checked_run.ex
  have D_checked_run : FD P w K mg base 7 "checked_run" P_checked_run F_checked_run := .mk' G_checked_run m_checked_run b_checked_run (ok_checked_run G_checked_run T D_is_ended D_checked_step)
  obtain ⟨f_free_cells, d_free_cells, m_free_cells, G_free_cells, b_free_cells⟩ := A.A_free_cells.ex
  have D_free_cells : FD P w K mg base 1 "free_cells" P_free_cells F_free_cells := .mk' G_free_cells m_free_cells b_free_cells (ok_free_cells G_free_cells T)
  obtain ⟨f_live_cells, d_live_cells, m_live_cells, G_live_cells, b_live_cells⟩ := A.A_live_cells.ex
  have D_live_cells : FD P w K mg base 2 "live_cells" P_live_cells F_live_cells := .mk' G_live_cells m_live_cells b_live_cells (ok_live_cells G_live_cells T D_free_cells)
  obtain ⟨f_begin, d_begin, m_begin, G_begin, b_begin⟩ := A.A_begin.ex
  have D_begin : FD P w K mg base 2 "begin" P_begin F_begin := .mk' G_begin m_begin b_begin (ok_begin G_begin T D_entered)
  obtain ⟨f_law_place, d_law_place, m_law_place, G_law_place, b_law_place⟩ := A.A_law_place.ex
  have D_law_place : FD P w K mg base 1 "_law_place" P_law_place F_law_place := .mk' G_law_place m_law_place b_law_place (ok_law_place G_law_place T)
  obtain ⟨f_law_left, d_law_left, m_law_left, G_law_left, b_law_left⟩ := A.A_law_left.ex
  have D_law_left : FD P w K mg base 1 "_law_left" P_law_left F_law_left := .mk' G_law_left m_law_left b_law_left (ok_law_left G_law_left T)
  obtain ⟨f_law_do, d_law_do, m_law_do, G_law_do, b_law_do⟩ := A.A_law_do.ex
  have D_law_do : FD P w K mg base 2 "_law_do" P_law_do F_law_do := .mk' G_law_do m_law_do b_law_do (ok_law_do G_law_do T D_law_left)
  obtain ⟨f_law_asked, d_law_asked, m_law_asked, G_law_asked, b_law_asked⟩ := A.A_law_asked.ex
  have D_law_asked : FD P w K mg base 1 "_law_asked" P_law_asked F_law_asked := .mk' G_law_asked m_law_asked b_law_asked (ok_law_asked G_law_asked T)
  obtain ⟨f_law_cells, d_law_cells, m_law_cells, G_law_cells, b_law_cells⟩ := A.A_law_cells.ex
  have D_law_cells : FD P w K mg base 2 "_law_cells" P_law_cells F_law_cells := .mk' G_law_cells m_law_cells b_law_cells (ok_law_cells G_law_cells T D_law_asked)
  obtain ⟨f_law_at, d_law_at, m_law_at, G_law_at, b_law_at⟩ := A.A_law_at.ex
  have D_law_at : FD P w K mg base 1 "_law_at" P_law_at F_law_at := .mk' G_law_at m_law_at b_law_at (ok_law_at G_law_at T)
  obtain ⟨f_law_some, d_law_some, m_law_some, G_law_some, b_law_some⟩ := A.A_law_some.ex
  have D_law_some : FW P w K mg base 2 "_law_some" P_law_some W_law_some := .mk' G_law_some m_law_some b_law_some (ok_law_some G_law_some T D_law_take)
  obtain ⟨f_law_mixed, d_law_mixed, m_law_mixed, G_law_mixed, b_law_mixed⟩ := A.A_law_mixed.ex
  have D_law_mixed : FW P w K mg base 2 "_law_mixed" P_law_mixed W_law_mixed := .mk' G_law_mixed m_law_mixed b_law_mixed (ok_law_mixed G_law_mixed T D_law_take)
  obtain ⟨f_law_instruction, d_law_instruction, m_law_instruction, G_law_instruction, b_law_instruction⟩ := A.A_law_instruction.ex
  have D_law_instruction : FW P w K mg base 3 "_law_instruction" P_law_instruction W_law_instruction := .mk' G_law_instruction m_law_instruction b_law_instruction (ok_law_instruction G_law_instruction T D_law_take D_law_some)
  obtain ⟨f_law_code, d_law_code, m_law_code, G_law_code, b_law_code⟩ := A.A_law_code.ex
  have D_law_code : FW P w K mg base 4 "_law_code" P_law_code W_law_code := .mk' G_law_code m_law_code b_law_code (ok_law_code G_law_code T D_law_take D_law_some D_law_instruction)
  obtain ⟨f_law_bag, d_law_bag, m_law_bag, G_law_bag, b_law_bag⟩ := A.A_law_bag.ex
  have B_bag := ok_law_bag (P := P) (w := w) (base := base) G_law_bag T2
  obtain ⟨f_law_chain, d_law_chain, m_law_chain, G_law_chain, b_law_chain⟩ := A.A_law_chain.ex
  have D_law_chain : FW P w K mg base 3 "_law_chain" P_law_chain W_law_chain := .mk' G_law_chain m_law_chain b_law_chain (ok_law_chain G_law_chain T2 D_law_mixed)
  obtain ⟨f_al, d_al, m_al, F_al, b_al⟩ := A.A_law_alike.ex
  obtain ⟨f_is, d_is, m_is, F_is, b_is⟩ := A.A_law_is_nothing.ex
  have X_at : FDX P w K mg base 2 "instruction_at" P_instruction_at F_instruction_at (R_instruction_at CN) := .mk' G_instruction_at m_instruction_at b_instruction_at (okx_instruction_at G_instruction_at T TN D_is_ended)
  exact {
    T2 := T2
    alk := ⟨f_al, d_al, m_al, F_al.kp, b_al, F_al⟩
    bag := ⟨f_law_bag, d_law_bag, m_law_bag, G_law_bag.kp, b_law_bag, B_bag⟩
    isn := ⟨f_is, d_is, m_is, F_is.kp, b_is, F_is⟩
    no := TN.g
    eN := eN
    TT := TT
    xf := xf
    fF := fF
    fI := fI
    eT := eT
    X_step := .mk' G_step m_step b_step (okx_step G_step T X_at D_with_register D_taken D_called D_left D_given_by D_jumped D_touched)
    X_begin := .mk' G_begin m_begin b_begin (okx_begin G_begin T TN D_entered)
    N_checked_step := ⟨f_checked_step, d_checked_step, m_checked_step, G_checked_step.kp, b_checked_step, okn_checked_step G_checked_step T TT D_instruction_at D_asked_by D_step⟩
    D_law_asked := D_law_asked
    D_law_at := D_law_at
    D_law_cells := D_law_cells
    D_law_chain := D_law_chain
    D_law_code := D_law_code
    D_law_do := D_law_do
    D_law_place := D_law_place
    D_law_take := D_law_take
    D_asked_by := D_asked_by
    D_begin := D_begin
    D_checked_run := D_checked_run
    D_free_cells := D_free_cells
    D_is_ended := D_is_ended
    D_live_cells := D_live_cells
    D_run := D_run
    D_step := D_step
  }
end
end K9
/-! The own errors stand. -/
namespace K9
open PySem PySem.Spec L2 Dn LamX
open PySem.W PyProof.Rows
section
variable {P : Program} {w : World} {K : Frag} {mg : Str → Option Value} {base h : Heap} {C f cda cc : Addr}
/-- an own class names its own instances -/
theorem exm_at (h1 : subIn K (.ref C) (.type "BaseException") = some true) (h2 : isClsIn K C = true) (h3 : typeIn K (.ref C) = some (.type "type")) (h4 : subIn K (.ref C) (.ref C) = some true) : exmOne K (.ref C) (.ref C) = some true := by
  have h2 : (clsIn K C).isSome = true := h2
  unfold exmOne kitCls
  simp [h1, h2, h3, h4]
theorem bd_init {kV doc pm ct : Value} {an : Option Addr} (us : List Value) (hl : us.length = N_init.length) : bindArgs (ksFn "__init__" "Trap.__init__" (defArgs s_init) (defBody s_init) (defScope s_init) .none kV doc pm an (.ref cda) ct cc) ⟨us, []⟩ = pure (N_init.zip us) :=
  match us, hl with | [_, _, _], _ => rfl
theorem trC_of {nm q : Str} {N : Addr} {bs bm : List Value} {sn : List Str} {sub : List Value} {ab : Bool} {col : Option Bool} {dd : Option Addr} {m0 m1 m2 m3 m5 : Option Value}
    {oc kV doc pm ct ccl cl : Value} {od an cdd cld : Option Addr} {osl ccs csl : Array (Option Value)} {vs : Array Value} {file : Str} {tf : Tok} (X : K.In h) (G : h.Ns mainGlobals mg)
    (htop : (P.main.scope.names.lookup ("super" : Str)).isSome = false) (hf : ((P.main.file : Str) == file) = true)
    (aT : nsIn K mainGlobals "Trap" = some (some (.ref C))) (xL : K.lookup C = some (excClassObj nm q C N bs bm true sn sub ab col dd m0 m1 m2 m3 m5 "ValueError.__new__")) (rf : PySem.HandSPX.refsVE bm = true)
    (sa : findIn K (.ref C) "__setattr__" = some (some (.builtin "object.__setattr__"))) (exC : subIn K (.ref C) (.type "BaseException") = some true) (tyC : typeIn K (.ref C) = some (.type "type")) (kC : keepIn K (.ref C) = true)
    (iT : findIn K (.ref C) "__init__" = some (some (.ref f))) (tI : typeIn K (.ref f) = some (.type "function"))
    (l : K.lookup f = some ⟨oc, od, .func (ksFn "__init__" "Trap.__init__" (defArgs s_init) (defBody s_init) (defScope s_init) .none kV doc pm an (.ref cda) ct cc), osl⟩) (cI : codeIn K (.ref cda) "Trap.__init__" = true)
    (lc : K.lookup cda = some ⟨ccl, cdd, .fields vs, ccs⟩) (hv : vs[2]? = some (.str file tf)) (lcc : K.lookup cc = some ⟨cl, cld, .cell (some (.ref C)), csl⟩)
    (mro : mroIn K C (.ref C) = some true) (sup : ks_superIn K C C "__init__" = some (some (.builtin "ValueError.__init__"))) (sb : subIn K (.ref C) (.type "ValueError") = some true) (opq : nsIn K cStatics "thirdparty.any" = some none)
    (fF : findIn K (.ref C) "function" = some none) (fI : findIn K (.ref C) "index" = some none) (zs : nsIn K mainGlobals "super" = some none) : TrC P w K mg base C := by
  have ox : OexC K C := ⟨⟨nm, q, N, bs, bm, sn, sub, ab, col, dd, m0, m1, m2, m3, m5, xL, rf⟩, sa, exC, tyC, kC⟩
  refine ⟨mg_of X G aT, ox, f, _, iT, tI, ok_init ⟨⟨oc, kV, doc, pm, ct, ccl, cl, od, an, cdd, cld, osl, ccs, csl, cda, cc, vs, file, tf, rfl, l, cI, lc, hv, hf, lcc⟩, htop, ox, mro, sup, sb, opq, fF, fI⟩ (mg_none_of X G zs), .all fun us hl => bd_init us hl⟩
theorem trX_of {nm q : Str} {N : Addr} {bs bm : List Value} {sn : List Str} {sub : List Value} {ab : Bool} {col : Option Bool} {dd : Option Addr} {m0 m1 m2 m3 m5 : Option Value}
    {oc kV doc pm ct ccl cl : Value} {od an cdd cld : Option Addr} {osl ccs csl : Array (Option Value)} {vs : Array Value} {file : Str} {tf : Tok} (X : K.In h) (G : h.Ns mainGlobals mg)
    (htop : (P.main.scope.names.lookup ("super" : Str)).isSome = false) (hf : ((P.main.file : Str) == file) = true)
    (aT : nsIn K mainGlobals "Trap" = some (some (.ref C))) (xL : K.lookup C = some (excClassObj nm q C N bs bm true sn sub ab col dd m0 m1 m2 m3 m5 "ValueError.__new__")) (rf : PySem.HandSPX.refsVE bm = true)
    (sa : findIn K (.ref C) "__setattr__" = some (some (.builtin "object.__setattr__"))) (exC : subIn K (.ref C) (.type "BaseException") = some true) (tyC : typeIn K (.ref C) = some (.type "type")) (kC : keepIn K (.ref C) = true)
    (iT : findIn K (.ref C) "__init__" = some (some (.ref f))) (tI : typeIn K (.ref f) = some (.type "function"))
    (l : K.lookup f = some ⟨oc, od, .func (ksFn "__init__" "Trap.__init__" (defArgs s_init) (defBody s_init) (defScope s_init) .none kV doc pm an (.ref cda) ct cc), osl⟩) (cI : codeIn K (.ref cda) "Trap.__init__" = true)
    (lc : K.lookup cda = some ⟨ccl, cdd, .fields vs, ccs⟩) (hv : vs[2]? = some (.str file tf)) (lcc : K.lookup cc = some ⟨cl, cld, .cell (some (.ref C)), csl⟩)
    (mro : mroIn K C (.ref C) = some true) (sup : ks_superIn K C C "__init__" = some (some (.builtin "ValueError.__init__"))) (sb : subIn K (.ref C) (.type "ValueError") = some true) (opq : nsIn K cStatics "thirdparty.any" = some none)
    (fF : findIn K (.ref C) "function" = some none) (fI : findIn K (.ref C) "index" = some none) (zs : nsIn K mainGlobals "super" = some none)
    (ga : findIn K (.ref C) "__getattribute__" = some (some (.builtin "BaseException.__getattribute__"))) (gg : findIn K (.ref C) "__getattr__" = some none) (hd : hasDictIn K C = true) (ic : isClsIn K C = true) (sc : subIn K (.ref C) (.ref C) = some true) :
    ∃ C, (∀ base, TrC P w K mg base C) ∧ XfC K C ∧ findIn K (.ref C) "function" = some none ∧ findIn K (.ref C) "index" = some none ∧ exmOne K (.ref C) (.ref C) = some true :=
  ⟨C, fun base => trC_of X G htop hf aT xL rf sa exC tyC kC iT tI l cI lc hv lcc mro sup sb opq fF fI zs, ⟨ga, gg, exC, hd⟩, fF, fI, exm_at exC ic tyC sc⟩
theorem txt2_of (X : K.In h) (G : h.Ns mainGlobals mg) (z1 : nsIn K mainGlobals "len" = some none) (z2 : nsIn K mainGlobals "tuple" = some none) (z3 : nsIn K mainGlobals "list" = some none) (z4 : nsIn K mainGlobals "dict" = some none) (z5 : nsIn K mainGlobals "sorted" = some none) (z6 : nsIn K mainGlobals "max" = some none) (z7 : nsIn K mainGlobals "range" = some none)
    (z8 : nsIn K mainGlobals "int" = some none) (z9 : nsIn K mainGlobals "abs" = some none) (z10 : nsIn K mainGlobals "sum" = some none) (z11 : nsIn K mainGlobals "zip" = some none) (z12 : nsIn K mainGlobals "set" = some none) (z13 : nsIn K mainGlobals "repr" = some none) : Txt2 mg :=
  ⟨⟨mg_none_of X G z1, mg_none_of X G z2, mg_none_of X G z3, mg_none_of X G z4, mg_none_of X G z5, mg_none_of X G z6, mg_none_of X G z7⟩, mg_none_of X G z8, mg_none_of X G z9, mg_none_of X G z10, mg_none_of X G z11, mg_none_of X G z12, mg_none_of X G z13⟩
theorem noC_of (X : K.In h) (G : h.Ns mainGlobals mg) (a : nsIn K mainGlobals "Nothing" = some (some (.ref C))) (x : excIn K C [.type "ValueError", .type "Exception", .type "BaseException", .type "object"] "ValueError.__new__" = true) (k : keepIn K (.ref C) = true) (b : subIn K (.ref C) (.type "BaseException") = some true) (t : typeIn K (.ref C) = some (.type "type")) : NoC K mg C :=
  ⟨mg_of X G a, x, k, b, t⟩
end
/-- the same, the written part told by what holds of it -/
abbrev DefX {K : Frag} {h : Heap} (_ : K.In h) (mg : Str → Option Value) (x : Str) (st : Stmt) (ps : List Str) : Prop := DefAt K mg x st ps
abbrev NoX {K : Frag} {h : Heap} (_ : K.In h) (mg : Str → Option Value) : Prop := ∃ C, NoC K mg C ∧ exmOne K (.ref C) (.ref C) = some true
abbrev TrX {K : Frag} {h : Heap} (_ : K.In h) (P : Program) (w : World) (mg : Str → Option Value) : Prop := ∃ C, (∀ base, TrC P w K mg base C) ∧ XfC K C ∧ findIn K (.ref C) "function" = some none ∧ findIn K (.ref C) "index" = some none ∧ exmOne K (.ref C) (.ref C) = some true
abbrev TopX {K : Frag} {h : Heap} (_ : K.In h) (mg : Str → Option Value) : Prop := TopFs K mg
/-- the law's own def, its code and table -/
theorem head_of {l : OpenLaw} {w : World} {K : Frag} {mg : Str → Option Value} {h : Heap} {fa f CN CT c T : Addr} {oc kV doc pm ct : Value} {od an : Option Addr} {osl : Array (Option Value)} (X : K.In h) (G : h.Ns mainGlobals mg) (hfa : mg "law" = some (.ref fa)) (hT : h.get? T = some tab0) (nT : K.lookup T = none) (C : codeHdIn K c T = true)
    (a : nsIn K mainGlobals "law" = some (some (.ref f))) (lk : K.lookup f = some ⟨oc, od, .func (fnOf "law" "law" (defArgs s_law) (defBody s_law) (defScope s_law) .none kV doc pm an (.ref c) ct), osl⟩) (hcd : codeIn K (.ref c) "law" = true)
    (F : ∀ base : Heap, LawFs l.prog w K mg base CN CT c T) : HeadAt l w mg fa h := by
  have e := hfa.symm.trans (mg_of X G a)
  cases e
  exact ⟨K, c, T, X, hT, nT, codeHd_of_K X C, fun base s H a ns _ _ TB e0 hS hP => law_run lk hcd (F base) TB e0 hS hP⟩
end K9
open PySem PySem.W PyProof.Rows
set_option maxRecDepth 100000 in
set_option maxHeartbeats 0 in
theorem PySem.Challenge.cw_listwright_k09_whole_single_instructions_holds : PySem.Challenge.rw_listwright_k09_whole_single_instructions.Holds := by
  w_on; o_law; k_head; (case hw => w_witness2)
  k_fill
  refine K9.walk_k09 (l := PySem.Challenge.rw_listwright_k09_whole_single_instructions) (n := 63) rfl (by decide) rfl ?F
  case F =>
    intro w mg fa h Y G hmg
    have KX := km_in_of Y
    have hTs := km_tabs_of Y
    have A_law_take : K9.DefX KX mg "_law_take" K9.s_law_take K9.P_law_take := by
      refine' K9.def_at KX G K9.bd_law_take ?a ?l ?c ?k
      (case a => k_is); (case l => k_is); (case c => k_is); (case k => k_is)
    have A_entered : K9.DefX KX mg "entered" K9.s_entered K9.P_entered := by
      refine' K9.def_at KX G K9.bd_entered ?a ?l ?c ?k
      (case a => k_is); (case l => k_is); (case c => k_is); (case k => k_is)
    have A_is_ended : K9.DefX KX mg "is_ended" K9.s_is_ended K9.P_is_ended := by
      refine' K9.def_at KX G K9.bd_is_ended ?a ?l ?c ?k
      (case a => k_is); (case l => k_is); (case c => k_is); (case k => k_is)
    have A_instruction_at : K9.DefX KX mg "instruction_at" K9.s_instruction_at K9.P_instruction_at := by
      refine' K9.def_at KX G K9.bd_instruction_at ?a ?l ?c ?k
      (case a => k_is); (case l => k_is); (case c => k_is); (case k => k_is)
    have A_asked_by : K9.DefX KX mg "asked_by" K9.s_asked_by K9.P_asked_by := by
      refine' K9.def_at KX G K9.bd_asked_by ?a ?l ?c ?k
      (case a => k_is); (case l => k_is); (case c => k_is); (case k => k_is)
    have A_with_register : K9.DefX KX mg "with_register" K9.s_with_register K9.P_with_register := by
      refine' K9.def_at KX G K9.bd_with_register ?a ?l ?c ?k
      (case a => k_is); (case l => k_is); (case c => k_is); (case k => k_is)
    have A_at_index : K9.DefX KX mg "at_index" K9.s_at_index K9.P_at_index := by
      refine' K9.def_at KX G K9.bd_at_index ?a ?l ?c ?k
      (case a => k_is); (case l => k_is); (case c => k_is); (case k => k_is)
    have A_with_word : K9.DefX KX mg "with_word" K9.s_with_word K9.P_with_word := by
      refine' K9.def_at KX G K9.bd_with_word ?a ?l ?c ?k
      (case a => k_is); (case l => k_is); (case c => k_is); (case k => k_is)
    have A_taken : K9.DefX KX mg "taken" K9.s_taken K9.P_taken := by
      refine' K9.def_at KX G K9.bd_taken ?a ?l ?c ?k
      (case a => k_is); (case l => k_is); (case c => k_is); (case k => k_is)
    have A_given_back : K9.DefX KX mg "given_back" K9.s_given_back K9.P_given_back := by
      refine' K9.def_at KX G K9.bd_given_back ?a ?l ?c ?k
      (case a => k_is); (case l => k_is); (case c => k_is); (case k => k_is)
    have A_called : K9.DefX KX mg "called" K9.s_called K9.P_called := by
      refine' K9.def_at KX G K9.bd_called ?a ?l ?c ?k
      (case a => k_is); (case l => k_is); (case c => k_is); (case k => k_is)
    have A_left : K9.DefX KX mg "left" K9.s_left K9.P_left := by
      refine' K9.def_at KX G K9.bd_left ?a ?l ?c ?k
      (case a => k_is); (case l => k_is); (case c => k_is); (case k => k_is)
    have A_given_by : K9.DefX KX mg "given_by" K9.s_given_by K9.P_given_by := by
      refine' K9.def_at KX G K9.bd_given_by ?a ?l ?c ?k
      (case a => k_is); (case l => k_is); (case c => k_is); (case k => k_is)
    have A_jumped : K9.DefX KX mg "jumped" K9.s_jumped K9.P_jumped := by
      refine' K9.def_at KX G K9.bd_jumped ?a ?l ?c ?k
      (case a => k_is); (case l => k_is); (case c => k_is); (case k => k_is)
    have A_touched : K9.DefX KX mg "touched" K9.s_touched K9.P_touched := by
      refine' K9.def_at KX G K9.bd_touched ?a ?l ?c ?k
      (case a => k_is); (case l => k_is); (case c => k_is); (case k => k_is)
    have A_step : K9.DefX KX mg "step" K9.s_step K9.P_step := by
      refine' K9.def_at KX G K9.bd_step ?a ?l ?c ?k
      (case a => k_is); (case l => k_is); (case c => k_is); (case k => k_is)
    have A_checked_step : K9.DefX KX mg "checked_step" K9.s_checked_step K9.P_checked_step := by
      refine' K9.def_at KX G K9.bd_checked_step ?a ?l ?c ?k
      (case a => k_is); (case l => k_is); (case c => k_is); (case k => k_is)
    have A_run : K9.DefX KX mg "run" K9.s_run K9.P_run := by
      refine' K9.def_at KX G K9.bd_run ?a ?l ?c ?k
      (case a => k_is); (case l => k_is); (case c => k_is); (case k => k_is)
    have A_checked_run : K9.DefX KX mg "checked_run" K9.s_checked_run K9.P_checked_run := by
      refine' K9.def_at KX G K9.bd_checked_run ?a ?l ?c ?k
      (case a => k_is); (case l => k_is); (case c => k_is); (case k => k_is)
    have A_free_cells : K9.DefX KX mg "free_cells" K9.s_free_cells K9.P_free_cells := by
      refine' K9.def_at KX G K9.bd_free_cells ?a ?l ?c ?k
      (case a => k_is); (case l => k_is); (case c => k_is); (case k => k_is)
    have A_live_cells : K9.DefX KX mg "live_cells" K9.s_live_cells K9.P_live_cells := by
      refine' K9.def_at KX G K9.bd_live_cells ?a ?l ?c ?k
      (case a => k_is); (case l => k_is); (case c => k_is); (case k => k_is)
    have A_begin : K9.DefX KX mg "begin" K9.s_begin K9.P_begin := by
      refine' K9.def_at KX G K9.bd_begin ?a ?l ?c ?k
      (case a => k_is); (case l => k_is); (case c => k_is); (case k => k_is)
    have A_law_place : K9.DefX KX mg "_law_place" K9.s_law_place K9.P_law_place := by
      refine' K9.def_at KX G K9.bd_law_place ?a ?l ?c ?k
      (case a => k_is); (case l => k_is); (case c => k_is); (case k => k_is)
    have A_law_left : K9.DefX KX mg "_law_left" K9.s_law_left K9.P_law_left := by
      refine' K9.def_at KX G K9.bd_law_left ?a ?l ?c ?k
      (case a => k_is); (case l => k_is); (case c => k_is); (case k => k_is)
    have A_law_do : K9.DefX KX mg "_law_do" K9.s_law_do K9.P_law_do := by
      refine' K9.def_at KX G K9.bd_law_do ?a ?l ?c ?k
      (case a => k_is); (case l => k_is); (case c => k_is); (case k => k_is)
    have A_law_asked : K9.DefX KX mg "_law_asked" K9.s_law_asked K9.P_law_asked := by
      refine' K9.def_at KX G K9.bd_law_asked ?a ?l ?c ?k
      (case a => k_is); (case l => k_is); (case c => k_is); (case k => k_is)
    have A_law_cells : K9.DefX KX mg "_law_cells" K9.s_law_cells K9.P_law_cells := by
      refine' K9.def_at KX G K9.bd_law_cells ?a ?l ?c ?k
      (case a => k_is); (case l => k_is); (case c => k_is); (case k => k_is)
    have A_law_at : K9.DefX KX mg "_law_at" K9.s_law_at K9.P_law_at := by
      refine' K9.def_at KX G K9.bd_law_at ?a ?l ?c ?k
      (case a => k_is); (case l => k_is); (case c => k_is); (case k => k_is)
    have A_law_some : K9.DefX KX mg "_law_some" K9.s_law_some K9.P_law_some := by
      refine' K9.def_at KX G K9.bd_law_some ?a ?l ?c ?k
      (case a => k_is); (case l => k_is); (case c => k_is); (case k => k_is)
    have A_law_mixed : K9.DefX KX mg "_law_mixed" K9.s_law_mixed K9.P_law_mixed := by
      refine' K9.def_at KX G K9.bd_law_mixed ?a ?l ?c ?k
      (case a => k_is); (case l => k_is); (case c => k_is); (case k => k_is)
    have A_law_instruction : K9.DefX KX mg "_law_instruction" K9.s_law_instruction K9.P_law_instruction := by
      refine' K9.def_at KX G K9.bd_law_instruction ?a ?l ?c ?k
      (case a => k_is); (case l => k_is); (case c => k_is); (case k => k_is)
    have A_law_code : K9.DefX KX mg "_law_code" K9.s_law_code K9.P_law_code := by
      refine' K9.def_at KX G K9.bd_law_code ?a ?l ?c ?k
      (case a => k_is); (case l => k_is); (case c => k_is); (case k => k_is)
    have A_law_bag : K9.DefX KX mg "_law_bag" K9.s_law_bag K9.P_law_bag := by
      refine' K9.def_at KX G K9.bd_law_bag ?a ?l ?c ?k
      (case a => k_is); (case l => k_is); (case c => k_is); (case k => k_is)
    have A_law_chain : K9.DefX KX mg "_law_chain" K9.s_law_chain K9.P_law_chain := by
      refine' K9.def_at KX G K9.bd_law_chain ?a ?l ?c ?k
      (case a => k_is); (case l => k_is); (case c => k_is); (case k => k_is)
    have A_law_alike : K9.DefX KX mg "_law_alike" K9.s_law_alike K9.N_law_alike := by
      refine' K9.def_at KX G K9.bd_law_alike ?a ?l ?c ?k
      (case a => k_is); (case l => k_is); (case c => k_is); (case k => k_is)
    have A_law_is_nothing : K9.DefX KX mg "_law_is_nothing" K9.s_isn K9.N_isn := by
      refine' K9.def_at KX G K9.bd_law_is_nothing ?a ?l ?c ?k
      (case a => k_is); (case l => k_is); (case c => k_is); (case k => k_is)
    have A : K9.TopX KX mg := ⟨A_law_take, A_entered, A_is_ended, A_instruction_at, A_asked_by, A_with_register, A_at_index, A_with_word, A_taken, A_given_back, A_called, A_left, A_given_by, A_jumped, A_touched, A_step, A_checked_step, A_run, A_checked_run, A_free_cells, A_live_cells, A_begin, A_law_place, A_law_left, A_law_do, A_law_asked, A_law_cells, A_law_at, A_law_some, A_law_mixed, A_law_instruction, A_law_code, A_law_bag, A_law_chain, A_law_alike, A_law_is_nothing⟩
    have T2 : K9.Txt2 mg := by
      refine' K9.txt2_of KX G ?z1 ?z2 ?z3 ?z4 ?z5 ?z6 ?z7 ?z8 ?z9 ?z10 ?z11 ?z12 ?z13
      (case z1 => k_is); (case z2 => k_is); (case z3 => k_is); (case z4 => k_is); (case z5 => k_is); (case z6 => k_is); (case z7 => k_is); (case z8 => k_is); (case z9 => k_is); (case z10 => k_is); (case z11 => k_is); (case z12 => k_is); (case z13 => k_is)
    obtain ⟨CN, TN, eN⟩ : K9.NoX KX mg := by
      refine' ⟨_, K9.noC_of KX G ?a ?x ?k ?b ?t, K9.exm_at ?b2 ?i ?t2 ?s⟩
      (case a => k_is); (case x => k_exc); (case k => k_is); (case b => k_is); (case t => k_is); (case b2 => k_is); (case i => k_is); (case t2 => k_is); (case s => (first | rfl | k_is))
    obtain ⟨CT, TT, xf, fF, fI, eT⟩ : K9.TrX KX PySem.Challenge.rw_listwright_k09_whole_single_instructions.prog w mg := by
      refine' K9.trX_of KX G ?top ?hf ?aT ?xL ?rf ?sa ?exC ?tyC ?kC ?iT ?tI ?l ?cI ?lc ?hv ?lcc ?mro ?sup ?sb ?opq ?fF ?fI ?zs ?ga ?gg ?hd ?ic ?sc
      (case aT => k_is); (case xL => k_is); (case rf => (first | rfl | decide +kernel)); (case sa => k_is); (case exC => k_is); (case tyC => k_is); (case kC => k_is); (case iT => k_is); (case tI => k_is); (case l => k_is); (case cI => k_is); (case lc => k_is); (case hv => (first | rfl | decide +kernel)); (case lcc => k_is); (case hf => (first | rfl | decide +kernel)); (case top => (first | rfl | decide +kernel)); (case mro => (first | rfl | k_is)); (case sup => (first | ks_is | kernel_rfl | rfl)); (case sb => k_is); (case opq => k_is); (case fF => k_is); (case fI => k_is); (case zs => k_is); (case ga => k_is); (case gg => k_is); (case hd => k_is); (case ic => k_is); (case sc => (first | rfl | k_is))
    refine' K9.head_of (T := 308) KX G hmg (hTs _ (by decide)) ?nT ?C ?a ?l ?c fun base => K9.lawFs_of A T2 TN eN (TT base) xf fF fI eT
    (case a => k_is); (case l => k_is); (case c => k_is)
    (case nT => (first | rfl | decide +kernel)); (case C => kernel_rfl)
