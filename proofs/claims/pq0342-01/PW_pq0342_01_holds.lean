import PyProof.Rows.All
import Wide.All
import OpenK.AllK
import Wide.FinOn
import PySem.Challenge.RW_pq0342_01
open PySem PySem.W PyProof.Rows
set_option Elab.async false
set_option maxRecDepth 100000
set_option linter.unusedVariables false

namespace Mine
set_option maxHeartbeats 8000000 in
open_top hd for PySem.Challenge.rw_pq0342_01
end Mine

open PySem.Calls PySem.Spec
namespace Mine

/-- data -/
inductive D where
  | none
  | bool (b : Bool)
  | int (i : Int)
  | str (x : Str)
  | tup (ds : List D)
  | lst (ds : List D)
  | cel (a : Addr)
  | scr (ns : List Int)
  | rng (n : Int)
  | typ (n : String)

abbrev View := Addr → Option Obj
abbrev Mu := Addr → Option (List D)
abbrev Rho := Str → Option D

abbrev tupO (vs : List Value) : Obj := { cls := .type "tuple", dict := none, data := .seq vs.toArray 0, slots := #[] }
abbrev lstO (vs : List Value) (n : Nat) : Obj := { cls := .type "list", dict := none, data := .seq vs.toArray n, slots := #[] }

mutual
inductive In (g : View) : Value → D → Prop
  | none : In g Value.none D.none
  | bool (b : Bool) : In g (Value.bool b) (D.bool b)
  | int (i : Int) (t : Tok) : In g (Value.int i t) (D.int i)
  | str (x : Str) (t : Tok) : In g (Value.str x t) (D.str x)
  | tup {a : Addr} {vs : List Value} {ds : List D} : g a = some (tupO vs) → All g vs ds → In g (Value.ref a) (D.tup ds)
  | lst {a : Addr} {vs : List Value} {n : Nat} {ds : List D} : g a = some (lstO vs n) → All g vs ds → In g (Value.ref a) (D.lst ds)
  | cel (a : Addr) : In g (Value.ref a) (D.cel a)
  | scr {a : Addr} {o : Obj} {vs : List Value} {n : Nat} {ns : List Int} : g a = some o → o.cls = .type "list" → o.data = .seq vs.toArray n → IntsAre vs ns → In g (Value.ref a) (D.scr ns)
  | rng {a : Addr} {n : Int} {t u v : Tok} : g a = some { cls := .type "range", dict := none, data := .fields #[.int 0 t, .int n u, .int 1 v], slots := #[] } → In g (Value.ref a) (D.rng n)
  | typ (n : String) : In g (Value.type n) (D.typ n)
inductive All (g : View) : List Value → List D → Prop
  | nil : All g [] []
  | cons {v : Value} {vs : List Value} {d : D} {ds : List D} : In g v d → All g vs ds → All g (v :: vs) (d :: ds)
end

abbrev Sub (g g' : View) : Prop := ∀ b o, g b = some o → g' b = some o
mutual
theorem In.mono {g g' : View} (hs : Sub g g') : ∀ {v : Value} {d : D}, In g v d → In g' v d
  | _, _, .none => .none
  | _, _, .bool b => .bool b
  | _, _, .int i t => .int i t
  | _, _, .str x t => .str x t
  | _, _, .tup h r => .tup (hs _ _ h) (All.mono hs r)
  | _, _, .lst h r => .lst (hs _ _ h) (All.mono hs r)
  | _, _, .cel a => .cel a
  | _, _, .scr h c d i => .scr (hs _ _ h) c d i
  | _, _, .rng h => .rng (hs _ _ h)
  | _, _, .typ n => .typ n
theorem All.mono {g g' : View} (hs : Sub g g') : ∀ {vs : List Value} {ds : List D}, All g vs ds → All g' vs ds
  | _, _, .nil => .nil
  | _, _, .cons h r => .cons (In.mono hs h) (All.mono hs r)
end

section
variable {g : View} {v : Value} {d : D} {vs ws : List Value} {ds es : List D}
theorem All.length (h : All g vs ds) : vs.length = ds.length := by
  induction vs generalizing ds with
  | nil => cases h; rfl
  | cons v vs ih =>
    cases h with
    | cons _ r => rw [List.length_cons, List.length_cons, ih r]
theorem All.append (h : All g vs ds) (k : All g ws es) : All g (vs ++ ws) (ds ++ es) := by
  induction vs generalizing ds with
  | nil => cases h; exact k
  | cons v vs ih =>
    cases h with
    | cons h r => exact .cons h (ih r)
theorem All.get (h : All g vs ds) {k : Nat} {d : D} (hk : ds[k]? = some d) : ∃ v, vs[k]? = some v ∧ In g v d := by
  induction vs generalizing ds k with
  | nil => cases h; simp at hk
  | cons v vs ih =>
    cases h with
    | cons h r =>
      cases k with
      | zero => simp at hk; subst hk; exact ⟨v, rfl, h⟩
      | succ k => exact ih r (by simpa using hk)
theorem All.getV (h : All g vs ds) {k : Nat} {v : Value} (hk : vs[k]? = some v) : ∃ d, ds[k]? = some d ∧ In g v d := by
  induction vs generalizing ds k with
  | nil => simp at hk
  | cons u vs ih =>
    cases h with
    | cons h r =>
      cases k with
      | zero => simp at hk; subst hk; exact ⟨_, rfl, h⟩
      | succ k => exact ih r (by simpa using hk)
theorem All.take (h : All g vs ds) (k : Nat) : All g (vs.take k) (ds.take k) := by
  induction vs generalizing ds k with
  | nil => cases h; simpa using All.nil
  | cons v vs ih =>
    cases h with
    | cons h r =>
      cases k with
      | zero => simpa using All.nil
      | succ k => simpa using All.cons h (ih r k)
theorem All.drop (h : All g vs ds) (k : Nat) : All g (vs.drop k) (ds.drop k) := by
  induction vs generalizing ds k with
  | nil => cases h; simpa using All.nil
  | cons v vs ih =>
    cases h with
    | cons h r =>
      cases k with
      | zero => simpa using All.cons h r
      | succ k => simpa using ih r k
theorem All.reverse (h : All g vs ds) : All g vs.reverse ds.reverse := by
  induction vs generalizing ds with
  | nil => cases h; simpa using All.nil
  | cons v vs ih =>
    cases h with
    | cons h r => simpa using (ih r).append (.cons h .nil)
theorem All.set (h : All g vs ds) (k : Nat) (hv : In g v d) : All g (vs.set k v) (ds.set k d) := by
  induction vs generalizing ds k with
  | nil => cases h; simpa using All.nil
  | cons u vs ih =>
    cases h with
    | cons h r =>
      cases k with
      | zero => simpa using All.cons hv r
      | succ k => simpa using All.cons h (ih r k)
theorem All.ints {ns : List Int} (h : IntsAre vs ns) : All g vs (ns.map D.int) := by
  induction vs generalizing ns with
  | nil => cases h; exact .nil
  | cons v vs ih =>
    cases h with
    | cons n t r => exact .cons (.int _ t) (ih r)
theorem All.toInts {ns : List Int} (h : All g vs (ns.map D.int)) : IntsAre vs ns := by
  induction vs generalizing ns with
  | nil => cases ns with
    | nil => exact .nil
    | cons n ns => cases h
  | cons v vs ih =>
    cases ns with
    | nil => cases h
    | cons n ns =>
      cases h with
      | cons h r => cases h with
        | int i t => exact .cons _ t (ih r)
end

/-- the part of the state that no frame owns -/
structure Vw (h₀ h : Heap) (g : View) (μ : Mu) : Prop where
  base : ∀ b o, h₀.get? b = some o → g b = some o
  sub : ∀ b o, g b = some o → h.get? b = some o
  mu : ∀ a ds, μ a = some ds → g a = none ∧ ∃ vs n, h.get? a = some (lstO vs n) ∧ All g vs ds

/-- what a step keeps -/
structure Gr (off : Addr → Prop) (μ : Mu) (h : Heap) (g : View) (h' : Heap) (g' : View) (μ' : Mu) : Prop where
  sub : Sub g g'
  keep : ∀ b o, ¬ off b → μ b = none → h.get? b = some o → h'.get? b = some o
  newM : ∀ b, μ' b ≠ none → μ b ≠ none ∨ h.get? b = none ∨ off b
  newG : ∀ b, g' b ≠ none → g b ≠ none ∨ μ b ≠ none ∨ h.get? b = none ∨ off b

abbrev noOff : Addr → Prop := fun _ => False

theorem Gr.refl (off : Addr → Prop) (μ : Mu) (h : Heap) (g : View) : Gr off μ h g h g μ :=
  ⟨fun _ _ e => e, fun _ _ _ _ e => e, fun _ e => .inl e, fun _ e => .inl e⟩
theorem Gr.trans {off : Addr → Prop} {μ μ' μ'' : Mu} {h h' h'' : Heap} {g g' g'' : View} (x : Gr off μ h g h' g' μ') (y : Gr off μ' h' g' h'' g'' μ'') : Gr off μ h g h'' g'' μ'' where
  sub := fun b o e => y.sub b o (x.sub b o e)
  keep := fun b o hb hm e => by
    refine y.keep b o hb ?_ (x.keep b o hb hm e)
    cases q : μ' b with
    | none => rfl
    | some ds =>
      rcases x.newM b (by rw [q]; exact Option.some_ne_none _) with h1 | h1 | h1
      · exact absurd hm h1
      · rw [e] at h1; cases h1
      · exact absurd h1 hb
  newM := fun b hb => by
    rcases y.newM b hb with h1 | h1 | h1
    · exact x.newM b h1
    · by_cases hm : μ b = none
      · by_cases ho : off b
        · exact .inr (.inr ho)
        · cases q : h.get? b with
          | none => exact .inr (.inl rfl)
          | some o => rw [x.keep b o ho hm q] at h1; cases h1
      · exact .inl hm
    · exact .inr (.inr h1)
  newG := fun b hb => by
    rcases y.newG b hb with h1 | h1 | h1 | h1
    · exact x.newG b h1
    · rcases x.newM b h1 with h2 | h2 | h2
      · exact .inr (.inl h2)
      · exact .inr (.inr (.inl h2))
      · exact .inr (.inr (.inr h2))
    · by_cases hm : μ b = none
      · by_cases ho : off b
        · exact .inr (.inr (.inr ho))
        · cases q : h.get? b with
          | none => exact .inr (.inr (.inl rfl))
          | some o => rw [x.keep b o ho hm q] at h1; cases h1
      · exact .inr (.inl hm)
    · exact .inr (.inr (.inr h1))
theorem Gr.off {off off' : Addr → Prop} {μ μ' : Mu} {h h' : Heap} {g g' : View} (x : Gr off μ h g h' g' μ') (ho : ∀ b, off b → off' b) : Gr off' μ h g h' g' μ' :=
  ⟨x.sub, fun b o hb hm e => x.keep b o (fun q => hb (ho b q)) hm e, fun b hb => (x.newM b hb).imp id (Or.imp id (ho b)), fun b hb => (x.newG b hb).imp id (Or.imp id (Or.imp id (ho b)))⟩

/-- the heap has grown by a push and the view is as it was -/
theorem Gr.ext {off : Addr → Prop} {μ : Mu} {h h' : Heap} {g : View} (hk : ∀ b o, ¬ off b → μ b = none → h.get? b = some o → h'.get? b = some o) : Gr off μ h g h' g μ :=
  ⟨fun _ _ e => e, hk, fun _ e => .inl e, fun _ e => .inl e⟩

abbrev Off (env : Env) : Addr → Prop := fun b => b = env.locals ∨ ∃ x, env.cells.lookup x = some b

structure St (h₀ : Heap) (env : Env) (h : Heap) (g : View) (ρ : Rho) (μ : Mu) : Prop where
  vw : Vw h₀ h g μ
  ns : ∃ m, h.Ns env.locals m ∧ ∀ x d, env.kindOf x = some .local → ρ x = some d → ∃ v, m x = some v ∧ In g v d
  cl : ∀ x c, env.cells.lookup x = some c → ∃ ov, h.IsCell c ov ∧ ∀ d, env.kindOf x = some .cell → ρ x = some d → ∃ v, ov = some v ∧ In g v d
  offC : ∀ x c, env.cells.lookup x = some c → g c = none ∧ μ c = none ∧ c ≠ env.locals
  offL : g env.locals = none ∧ μ env.locals = none
  apart : ∀ x y c, env.cells.lookup x = some c → env.cells.lookup y = some c → x = y

theorem St.grow {h₀ : Heap} {env : Env} {h h' : Heap} {g g' : View} {ρ : Rho} {μ μ' : Mu} (S : St h₀ env h g ρ μ) (G : Gr noOff μ h g h' g' μ') (V : Vw h₀ h' g' μ') : St h₀ env h' g' ρ μ' := by
  obtain ⟨m, hn, hm⟩ := S.ns
  refine ⟨V, ⟨m, hn.at' fun o e => G.keep _ o id S.offL.2 e, fun x d hx hd => ?_⟩, fun x c hc => ?_, fun x c hc => ?_, ?_, S.apart⟩
  · obtain ⟨v, h1, h2⟩ := hm x d hx hd
    exact ⟨v, h1, h2.mono G.sub⟩
  · obtain ⟨ov, ⟨o, ho, hd⟩, h2⟩ := S.cl x c hc
    refine ⟨ov, ⟨o, G.keep c o id (S.offC x c hc).2.1 ho, hd⟩, fun d hk hd => ?_⟩
    obtain ⟨v, h3, h4⟩ := h2 d hk hd
    exact ⟨v, h3, h4.mono G.sub⟩
  · obtain ⟨ov, ⟨o, ho, _⟩, _⟩ := S.cl x c hc
    obtain ⟨a1, a2, a3⟩ := S.offC x c hc
    refine ⟨?_, ?_, a3⟩
    · cases q : g' c with
      | none => rfl
      | some o' =>
        rcases G.newG c (by rw [q]; exact Option.some_ne_none _) with h1 | h1 | h1 | h1
        · exact absurd a1 h1
        · exact absurd a2 h1
        · rw [ho] at h1; cases h1
        · exact h1.elim
    · cases q : μ' c with
      | none => rfl
      | some o' =>
        rcases G.newM c (by rw [q]; exact Option.some_ne_none _) with h1 | h1 | h1
        · exact absurd a2 h1
        · rw [ho] at h1; cases h1
        · exact h1.elim
  · obtain ⟨o, _, _, ho, _⟩ := hn
    obtain ⟨a1, a2⟩ := S.offL
    refine ⟨?_, ?_⟩
    · cases q : g' env.locals with
      | none => rfl
      | some o' =>
        rcases G.newG _ (by rw [q]; exact Option.some_ne_none _) with h1 | h1 | h1 | h1
        · exact absurd a1 h1
        · exact absurd a2 h1
        · rw [ho] at h1; cases h1
        · exact h1.elim
    · cases q : μ' env.locals with
      | none => rfl
      | some o' =>
        rcases G.newM _ (by rw [q]; exact Option.some_ne_none _) with h1 | h1 | h1
        · exact absurd a2 h1
        · rw [ho] at h1; cases h1
        · exact h1.elim

/-- the fixed things -/
structure Base where
  prog : Program
  w : World
  h₀ : Heap
  mg : Str → Option Value
  mb : Str → Option Value

def defNo (i : Nat) : DefRec := match PySem.Challenge.pw_pq0342_01.main.body[i]? with
  | some (.FunctionDef name a b _ _ _ sc _ _ pos) => ⟨name, a, b, sc, pos⟩
  | _ => ⟨Str.empty, { posonlyargs := [], args := [], vararg := none, kwonlyargs := [], kw_defaults := [], kwarg := none, defaults := [] }, [], default, default⟩

structure Base.FnAt (B : Base) (f : DefRec) (a : Addr) : Prop where
  glob : B.mg f.name = some (.ref a)
  obj : ∃ o pm cd doc, B.h₀.get? a = some o ∧ o.data = .func (f.data pm cd doc) ∧ B.h₀.CodeRec cd f.name

structure Base.Ok (B : Base) : Prop where
  g : B.h₀.Ns mainGlobals B.mg
  b : B.h₀.Ns builtinsNs B.mb
  nolimit : B.h₀.NoLimit
  builtins : ∀ x : Str, x ≠ "__name__" → B.mb x = bootBuiltins x

/-- room around -/
structure Room (A : Around) (n : Nat) : Prop where
  hh : A.handled = none
  dep : A.depth + n < recursionLimit
  un : A.units + 8 * n + 80 < cLine

structure EnvOk (env : Env) : Prop where
  kind : env.scope.kind = .function
  gl : env.globals = mainGlobals
  bl : env.builtins = builtinsNs

abbrev Base.M (B : Base) : Model := model B.prog B.w

/-- an expression -/
structure Ev (B : Base) (A : Around) (env : Env) (e : Expr) (ρ : Rho) (μ : Mu) (Φ : D → Mu → Prop) : Prop where
  run : ∀ (s : Shared) (g : View), St B.h₀ env s.heap g ρ μ → ∀ (Q : Value → Shared → Prop) (E : Value → Shared → Prop),
    (∀ v d μ' g' h' tk', In g' v d → Φ d μ' → Vw B.h₀ h' g' μ' → Gr noOff μ s.heap g h' g' μ' → Q v { s with heap := h', toks := tk' }) →
    wpAny B.M A (eval e env) Q E s

/-- a test -/
structure Ts (B : Base) (A : Around) (env : Env) (e : Expr) (ρ : Rho) (μ : Mu) (Φ : Bool → Mu → Prop) : Prop where
  run : ∀ (s : Shared) (g : View), St B.h₀ env s.heap g ρ μ → ∀ (Q : Bool → Shared → Prop) (E : Value → Shared → Prop),
    (∀ b μ' g' h' tk', Φ b μ' → Vw B.h₀ h' g' μ' → Gr noOff μ s.heap g h' g' μ' → Q b { s with heap := h', toks := tk' }) →
    wpAny B.M A (isTrue e env (eval e env)) Q E s

inductive Fl where
  | next
  | ret (d : D)
inductive FlIn (g : View) : Flow → Fl → Prop
  | next : FlIn g .next .next
  | ret {v : Value} {d : D} : In g v d → FlIn g (.ret v) (.ret d)

/-- statements -/
structure Ex (B : Base) (A : Around) (env : Env) (ss : List Stmt) (ρ : Rho) (μ : Mu) (Φ : Fl → Rho → Mu → Prop) : Prop where
  run : ∀ (s : Shared) (g : View), St B.h₀ env s.heap g ρ μ → ∀ (Q : Flow → Shared → Prop) (E : Value → Shared → Prop),
    (∀ f fl ρ' μ' g' h' tk', FlIn g' f fl → Φ fl ρ' μ' → St B.h₀ env h' g' ρ' μ' → Gr (Off env) μ s.heap g h' g' μ' → Q f { s with heap := h', toks := tk' }) →
    wpAny B.M A (execs ss env) Q E s
structure Ex1 (B : Base) (A : Around) (env : Env) (st : Stmt) (ρ : Rho) (μ : Mu) (Φ : Fl → Rho → Mu → Prop) : Prop where
  run : ∀ (s : Shared) (g : View), St B.h₀ env s.heap g ρ μ → ∀ (Q : Flow → Shared → Prop) (E : Value → Shared → Prop),
    (∀ f fl ρ' μ' g' h' tk', FlIn g' f fl → Φ fl ρ' μ' → St B.h₀ env h' g' ρ' μ' → Gr (Off env) μ s.heap g h' g' μ' → Q f { s with heap := h', toks := tk' }) →
    wpAny B.M A (exec st env) Q E s

/-- a call of a def -/
structure FSpec (B : Base) (f : DefRec) (lv : Nat) (ds : List D) (μ : Mu) (Φ : D → Mu → Prop) : Prop where
  run : ∀ (A : Around) (a : Addr) (s : Shared) (g : View) (vs : List Value) (R : Result → Shared → Prop), B.FnAt f a → Room A lv → Vw B.h₀ s.heap g μ → All g vs ds →
    (∀ v d μ' g' h' tk', In g' v d → Φ d μ' → Vw B.h₀ h' g' μ' → Gr noOff μ s.heap g h' g' μ' → R (.ok (.ret v)) { s with heap := h', toks := tk' }) →
    codeAny B.M A (.call (.ref a) ⟨vs, []⟩) R s

theorem Ev.mono {B A env e ρ μ} {Φ Φ' : D → Mu → Prop} (h : Ev B A env e ρ μ Φ) (hp : ∀ d μ', Φ d μ' → Φ' d μ') : Ev B A env e ρ μ Φ' :=
  .mk fun s g S Q E k => h.run s g S Q E fun v d μ' g' h' tk' i p => k v d μ' g' h' tk' i (hp d μ' p)
theorem Ts.mono {B A env e ρ μ} {Φ Φ' : Bool → Mu → Prop} (h : Ts B A env e ρ μ Φ) (hp : ∀ d μ', Φ d μ' → Φ' d μ') : Ts B A env e ρ μ Φ' :=
  .mk fun s g S Q E k => h.run s g S Q E fun d μ' g' h' tk' p => k d μ' g' h' tk' (hp d μ' p)
theorem Ex.mono {B A env e ρ μ} {Φ Φ' : Fl → Rho → Mu → Prop} (h : Ex B A env e ρ μ Φ) (hp : ∀ f r μ', Φ f r μ' → Φ' f r μ') : Ex B A env e ρ μ Φ' :=
  .mk fun s g S Q E k => h.run s g S Q E fun f fl ρ' μ' g' h' tk' i p => k f fl ρ' μ' g' h' tk' i (hp fl ρ' μ' p)
theorem Ex1.mono {B A env e ρ μ} {Φ Φ' : Fl → Rho → Mu → Prop} (h : Ex1 B A env e ρ μ Φ) (hp : ∀ f r μ', Φ f r μ' → Φ' f r μ') : Ex1 B A env e ρ μ Φ' :=
  .mk fun s g S Q E k => h.run s g S Q E fun f fl ρ' μ' g' h' tk' i p => k f fl ρ' μ' g' h' tk' i (hp fl ρ' μ' p)
theorem FSpec.mono {B f lv ds μ} {Φ Φ' : D → Mu → Prop} (h : FSpec B f lv ds μ Φ) (hp : ∀ d μ', Φ d μ' → Φ' d μ') : FSpec B f lv ds μ Φ' :=
  .mk fun A a s g vs R F rm V I k => h.run A a s g vs R F rm V I fun v d μ' g' h' tk' i p => k v d μ' g' h' tk' i (hp d μ' p)

structure Act1 (B : Base) (A : Around) (μ : Mu) (d : D) (t : Value → Sem Value) (Φ : D → Mu → Prop) : Prop where
  run : ∀ (s : Shared) (g : View) (v : Value), Vw B.h₀ s.heap g μ → In g v d → ∀ (Q : Value → Shared → Prop) (E : Value → Shared → Prop),
    (∀ v d μ' g' h' tk', In g' v d → Φ d μ' → Vw B.h₀ h' g' μ' → Gr noOff μ s.heap g h' g' μ' → Q v { s with heap := h', toks := tk' }) → wpAny B.M A (t v) Q E s
structure Act2 (B : Base) (A : Around) (μ : Mu) (d e : D) (t : Value → Value → Sem Value) (Φ : D → Mu → Prop) : Prop where
  run : ∀ (s : Shared) (g : View) (v u : Value), Vw B.h₀ s.heap g μ → In g v d → In g u e → ∀ (Q : Value → Shared → Prop) (E : Value → Shared → Prop),
    (∀ v d μ' g' h' tk', In g' v d → Φ d μ' → Vw B.h₀ h' g' μ' → Gr noOff μ s.heap g h' g' μ' → Q v { s with heap := h', toks := tk' }) → wpAny B.M A (t v u) Q E s

/-- an argument list -/
structure EvL (B : Base) (A : Around) (env : Env) (es : List Expr) (ρ : Rho) (μ : Mu) (Φ : List D → Mu → Prop) : Prop where
  run : ∀ (pos : Pos) (s : Shared) (g : View), St B.h₀ env s.heap g ρ μ → ∀ (Q : List Value → Shared → Prop) (E : Value → Shared → Prop),
    (∀ vs ds μ' g' h' tk', All g' vs ds → Φ ds μ' → Vw B.h₀ h' g' μ' → Gr noOff μ s.heap g h' g' μ' → Q vs { s with heap := h', toks := tk' }) →
    wpAny B.M A (spliced (backTo pos (starEach es env))) Q E s

section
variable {B : Base} {A : Around} {env : Env} {ρ : Rho} {μ : Mu} {Φ : D → Mu → Prop}

theorem Ev_local {x : Str} {pos : Pos} {d : D} (hE : EnvOk env) (hx : ρ x = some d) (h : Φ d μ) (hk : env.kindOf x = some .local := by rfl) (hd : (x == ("__debug__" : Str)) = false := by decide) :
    Ev B A env (.Name x pos) ρ μ Φ := by
  constructor
  intro s g S Q E k
  obtain ⟨m, hn, hm⟩ := S.ns
  obtain ⟨v, hv, hi⟩ := hm x d hk hx
  exact wpAny_Name (wpAny_loadName_local hE.kind hk hn hv (k v d μ g s.heap s.toks hi h S.vw (Gr.refl ..))) hd

theorem Ev_cell {x : Str} {pos : Pos} {d : D} {c : Addr} (hE : EnvOk env) (hx : ρ x = some d) (h : Φ d μ) (hk : env.kindOf x = some .cell := by rfl) (hc : env.cells.lookup x = some c := by rfl)
    (hd : (x == ("__debug__" : Str)) = false := by decide) :
    Ev B A env (.Name x pos) ρ μ Φ := by
  constructor
  intro s g S Q E k
  obtain ⟨ov, hv, hm⟩ := S.cl x c hc
  obtain ⟨v, rfl, hi⟩ := hm d hk hx
  exact wpAny_Name (wpAny_loadName_cell hE.kind hk hc hv (k v d μ g s.heap s.toks hi h S.vw (Gr.refl ..))) hd

theorem Ev_int {i : Int} {n : Nat} {pos : Pos} (h : Φ (.int i) μ) : Ev B A env (.Constant (.int i) n pos) ρ μ Φ :=
  .mk fun s g S _ _ k => wpAny_Constant_int (k _ _ μ g s.heap _ (.int i _) h S.vw (Gr.refl ..))
theorem Ev_str {x : Str} {n : Nat} {pos : Pos} (h : Φ (.str x) μ) : Ev B A env (.Constant (.str x) n pos) ρ μ Φ :=
  .mk fun s g S _ _ k => Calls.Constant_str (k _ _ μ g s.heap _ (.str x _) h S.vw (Gr.refl ..))
theorem Ev_bool {b : Bool} {n : Nat} {pos : Pos} (h : Φ (.bool b) μ) : Ev B A env (.Constant (.bool b) n pos) ρ μ Φ :=
  .mk fun s g S _ _ k => by rw [eval_Constant]; exact wpAny_pure (k _ _ μ g s.heap _ (.bool b) h S.vw (Gr.refl ..))
theorem Ev_none {n : Nat} {pos : Pos} (h : Φ .none μ) : Ev B A env (.Constant .none n pos) ρ μ Φ :=
  .mk fun s g S _ _ k => by rw [eval_Constant]; exact wpAny_pure (k _ _ μ g s.heap _ .none h S.vw (Gr.refl ..))

theorem Ev_bin {l r : Expr} {op : Operator} {pos : Pos} (h : Ev B A env l ρ μ fun d μ₁ => Ev B A env r ρ μ₁ fun e μ₂ => Act2 B A μ₂ d e (binaryOp op) Φ) : Ev B A env (.BinOp l op r pos) ρ μ Φ := by
  constructor
  intro s g S Q E k
  refine wpAny_BinOp (h.run s g S _ E fun v d μ₁ g₁ h₁ tk₁ i₁ p₁ V₁ G₁ => ?_)
  refine p₁.run _ g₁ (S.grow G₁ V₁) _ E fun u e μ₂ g₂ h₂ tk₂ i₂ p₂ V₂ G₂ => ?_
  exact p₂.run _ g₂ v u V₂ (i₁.mono G₂.sub) i₂ Q E fun r d' μ' g' h' tk' i' p' V' G' => k r d' μ' g' h' tk' i' p' V' ((G₁.trans G₂).trans G')

theorem Ev_cmp {l r : Expr} {op : CmpOp} {pos : Pos} (h : Ev B A env l ρ μ fun d μ₁ => Ev B A env r ρ μ₁ fun e μ₂ => Act2 B A μ₂ d e (compareOp op) Φ)
    (hm : behindInMarks op r = false := by with_unfolding_all rfl) : Ev B A env (.Compare l [op] [r] pos) ρ μ Φ := by
  constructor
  intro s g S Q E k
  refine wpAny_Compare1 (h.run s g S _ E fun v d μ₁ g₁ h₁ tk₁ i₁ p₁ V₁ G₁ => ?_) hm
  refine p₁.run _ g₁ (S.grow G₁ V₁) _ E fun u e μ₂ g₂ h₂ tk₂ i₂ p₂ V₂ G₂ => ?_
  exact p₂.run _ g₂ v u V₂ (i₁.mono G₂.sub) i₂ Q E fun r d' μ' g' h' tk' i' p' V' G' => k r d' μ' g' h' tk' i' p' V' ((G₁.trans G₂).trans G')

theorem Ev_neg {i : Int} {n : Nat} {p pos : Pos} (h : Φ (.int (-i)) μ) : Ev B A env (.UnaryOp .USub (.Constant (.int i) n p) pos) ρ μ Φ :=
  .mk fun s g S _ _ k => UnaryOp_ (wpAny_Constant_int (neg_int (k _ _ μ g s.heap _ (.int _ _) h S.vw (Gr.refl ..))))

theorem Ev_and {x y : Expr} {rest : List Expr} {pos : Pos} (h : Ev B A env x ρ μ fun d μ₁ => ∃ b, d = .bool b ∧ (if b then Ev B A env (.BoolOp .And (y :: rest) pos) ρ μ₁ Φ else Φ (.bool false) μ₁)) :
    Ev B A env (.BoolOp .And (x :: y :: rest) pos) ρ μ Φ := by
  constructor
  intro s g S Q E k
  refine BoolOp_and (h.run s g S _ E fun v d μ₁ g₁ h₁ tk₁ i₁ p₁ V₁ G₁ => ?_)
  obtain ⟨b, rfl, p₁⟩ := p₁
  cases i₁
  refine wpAny_truthy_bool ?_
  cases b with
  | false => exact k _ _ _ _ _ _ (.bool false) p₁ V₁ G₁
  | true =>
    refine p₁.run _ g₁ (S.grow G₁ V₁) Q E fun u e μ₂ g₂ h₂ tk₂ i₂ p₂ V₂ G₂ => k _ _ _ _ _ _ i₂ p₂ V₂ (G₁.trans G₂)
theorem Ev_or {x y : Expr} {rest : List Expr} {pos : Pos} (h : Ev B A env x ρ μ fun d μ₁ => ∃ b, d = .bool b ∧ (if b then Φ (.bool true) μ₁ else Ev B A env (.BoolOp .Or (y :: rest) pos) ρ μ₁ Φ)) :
    Ev B A env (.BoolOp .Or (x :: y :: rest) pos) ρ μ Φ := by
  constructor
  intro s g S Q E k
  refine BoolOp_or (h.run s g S _ E fun v d μ₁ g₁ h₁ tk₁ i₁ p₁ V₁ G₁ => ?_)
  obtain ⟨b, rfl, p₁⟩ := p₁
  cases i₁
  refine wpAny_truthy_bool ?_
  cases b with
  | true => exact k _ _ _ _ _ _ (.bool true) p₁ V₁ G₁
  | false =>
    refine p₁.run _ g₁ (S.grow G₁ V₁) Q E fun u e μ₂ g₂ h₂ tk₂ i₂ p₂ V₂ G₂ => k _ _ _ _ _ _ i₂ p₂ V₂ (G₁.trans G₂)
theorem Ev_bool1 {op : BoolOp} {x : Expr} {pos : Pos} (h : Ev B A env x ρ μ Φ) : Ev B A env (.BoolOp op [x] pos) ρ μ Φ := .mk fun s g S Q E k => BoolOp_one (h.run s g S Q E k)

theorem Ev_if {test x y : Expr} {pos : Pos} (h : Ts B A env test ρ μ fun b μ₁ => if b then Ev B A env x ρ μ₁ Φ else Ev B A env y ρ μ₁ Φ) : Ev B A env (.IfExp test x y pos) ρ μ Φ := by
  constructor
  intro s g S Q E k
  refine IfExp_ (h.run s g S _ E fun b μ₁ g₁ h₁ tk₁ p₁ V₁ G₁ => ?_)
  cases b with
  | true => exact p₁.run _ g₁ (S.grow G₁ V₁) Q E fun u e μ₂ g₂ h₂ tk₂ i₂ p₂ V₂ G₂ => k _ _ _ _ _ _ i₂ p₂ V₂ (G₁.trans G₂)
  | false => exact p₁.run _ g₁ (S.grow G₁ V₁) Q E fun u e μ₂ g₂ h₂ tk₂ i₂ p₂ V₂ G₂ => k _ _ _ _ _ _ i₂ p₂ V₂ (G₁.trans G₂)

theorem EvL_nil {Φ : List D → Mu → Prop} (h : Φ [] μ) : EvL B A env [] ρ μ Φ :=
  .mk fun _ s g S _ _ k => Calls.spliced_nil (k [] [] μ g s.heap s.toks .nil h S.vw (Gr.refl ..))
theorem EvL_cons {e : Expr} {es : List Expr} {Φ : List D → Mu → Prop} (h : Ev B A env e ρ μ fun d μ₁ => EvL B A env es ρ μ₁ fun ds μ₂ => Φ (d :: ds) μ₂)
    (hs : starEach (e :: es) env = (false, eval e env) :: starEach es env := by rfl) : EvL B A env (e :: es) ρ μ Φ := by
  constructor
  intro pos s g S Q E k
  rw [hs]
  refine Calls.spliced_cons (h.run s g S _ E fun v d μ₁ g₁ h₁ tk₁ i₁ p₁ V₁ G₁ => ?_)
  exact p₁.run pos _ g₁ (S.grow G₁ V₁) _ E fun vs ds μ₂ g₂ h₂ tk₂ i₂ p₂ V₂ G₂ => k _ _ _ _ _ _ (.cons (i₁.mono G₂.sub) i₂) p₂ V₂ (G₁.trans G₂)

theorem Vw.newTup {h₀ h : Heap} {g : View} {vs : List Value} {ds : List D} (V : Vw h₀ h g μ) (hA : All g vs ds) :
    ∃ g', In g' (.ref h.objs.size) (.tup ds) ∧ Vw h₀ (h.push (tupO vs)) g' μ ∧ Gr noOff μ h g (h.push (tupO vs)) g' μ := by
  have hgn : g h.objs.size = none := by
    cases q : g h.objs.size with
    | none => rfl
    | some o => exact absurd (Heap.lt_size (V.sub _ _ q)) (Nat.lt_irrefl _)
  have hmn : μ h.objs.size = none := by
    cases q : μ h.objs.size with
    | none => rfl
    | some o => obtain ⟨_, _, _, e, _⟩ := V.mu _ _ q; exact absurd (Heap.lt_size e) (Nat.lt_irrefl _)
  have hsub : Sub g (fun b => if b = h.objs.size then some (tupO vs) else g b) := fun b o e => by
    by_cases hb : b = h.objs.size
    · subst hb; rw [hgn] at e; cases e
    · simp only [hb, if_false]; exact e
  refine ⟨fun b => if b = h.objs.size then some (tupO vs) else g b, .tup (by simp) (hA.mono hsub), ⟨fun b o e => hsub b o (V.base b o e), fun b o e => ?_, fun a ds e => ?_⟩,
    hsub, fun b o _ _ e => Heap.get?_push_of_some _ e, fun b e => .inl e, fun b e => ?_⟩
  · by_cases hb : b = h.objs.size
    · subst hb; simp at e; subst e; exact Heap.get?_push_size _ rfl
    · simp only [hb, if_false] at e; exact Heap.get?_push_of_some _ (V.sub b o e)
  · obtain ⟨e1, ws, n, e2, e3⟩ := V.mu a ds e
    refine ⟨?_, ws, n, Heap.get?_push_of_some _ e2, e3.mono hsub⟩
    by_cases hb : a = h.objs.size
    · subst hb; rw [hmn] at e; cases e
    · simp only [hb, if_false]; exact e1
  · by_cases hb : b = h.objs.size
    · refine .inr (.inr (.inl ?_))
      cases q : h.get? b with
      | none => rfl
      | some o => rw [hb] at q; exact absurd (Heap.lt_size q) (Nat.lt_irrefl _)
    · simp only [hb, if_false] at e; exact .inl e

theorem Vw.newLst {h₀ h : Heap} {g : View} {vs : List Value} {ds : List D} {n : Nat} (V : Vw h₀ h g μ) (hA : All g vs ds) :
    ∃ g', In g' (.ref h.objs.size) (.lst ds) ∧ Vw h₀ (h.push (lstO vs n)) g' μ ∧ Gr noOff μ h g (h.push (lstO vs n)) g' μ := by
  have hgn : g h.objs.size = none := by
    cases q : g h.objs.size with
    | none => rfl
    | some o => exact absurd (Heap.lt_size (V.sub _ _ q)) (Nat.lt_irrefl _)
  have hmn : μ h.objs.size = none := by
    cases q : μ h.objs.size with
    | none => rfl
    | some o => obtain ⟨_, _, _, e, _⟩ := V.mu _ _ q; exact absurd (Heap.lt_size e) (Nat.lt_irrefl _)
  have hsub : Sub g (fun b => if b = h.objs.size then some (lstO vs n) else g b) := fun b o e => by
    by_cases hb : b = h.objs.size
    · subst hb; rw [hgn] at e; cases e
    · simp only [hb, if_false]; exact e
  refine ⟨fun b => if b = h.objs.size then some (lstO vs n) else g b, .lst (n := n) (by simp) (hA.mono hsub), ⟨fun b o e => hsub b o (V.base b o e), fun b o e => ?_, fun a ds e => ?_⟩,
    hsub, fun b o _ _ e => Heap.get?_push_of_some _ e, fun b e => .inl e, fun b e => ?_⟩
  · by_cases hb : b = h.objs.size
    · subst hb; simp at e; subst e; exact Heap.get?_push_size _ rfl
    · simp only [hb, if_false] at e; exact Heap.get?_push_of_some _ (V.sub b o e)
  · obtain ⟨e1, ws, n, e2, e3⟩ := V.mu a ds e
    refine ⟨?_, ws, n, Heap.get?_push_of_some _ e2, e3.mono hsub⟩
    by_cases hb : a = h.objs.size
    · subst hb; rw [hmn] at e; cases e
    · simp only [hb, if_false]; exact e1
  · by_cases hb : b = h.objs.size
    · refine .inr (.inr (.inl ?_))
      cases q : h.get? b with
      | none => rfl
      | some o => rw [hb] at q; exact absurd (Heap.lt_size q) (Nat.lt_irrefl _)
    · simp only [hb, if_false] at e; exact .inl e

abbrev upd (μ : Mu) (a : Addr) (ds : List D) : Mu := fun b => if b = a then some ds else μ b

/-- a new list as a cell of its own -/
theorem Vw.newCel {h₀ h : Heap} {g : View} {vs : List Value} {ds : List D} {n : Nat} (V : Vw h₀ h g μ) (hA : All g vs ds) :
    μ h.objs.size = none ∧ Vw h₀ (h.push (lstO vs n)) g (upd μ h.objs.size ds) ∧ Gr noOff μ h g (h.push (lstO vs n)) g (upd μ h.objs.size ds) := by
  have hgn : g h.objs.size = none := by
    cases q : g h.objs.size with
    | none => rfl
    | some o => exact absurd (Heap.lt_size (V.sub _ _ q)) (Nat.lt_irrefl _)
  have hmn : μ h.objs.size = none := by
    cases q : μ h.objs.size with
    | none => rfl
    | some o => obtain ⟨_, _, _, e, _⟩ := V.mu _ _ q; exact absurd (Heap.lt_size e) (Nat.lt_irrefl _)
  refine ⟨hmn, ⟨V.base, fun b o e => Heap.get?_push_of_some _ (V.sub b o e), fun a ds' e => ?_⟩, fun _ _ e => e, fun b o _ _ e => Heap.get?_push_of_some _ e, fun b e => ?_, fun b e => .inl e⟩
  · by_cases hb : a = h.objs.size
    · subst hb; simp [upd] at e; subst e; exact ⟨hgn, vs, n, Heap.get?_push_size _ rfl, hA⟩
    · simp only [upd, hb, if_false] at e
      obtain ⟨e1, ws, n, e2, e3⟩ := V.mu a ds' e
      exact ⟨e1, ws, n, Heap.get?_push_of_some _ e2, e3⟩
  · by_cases hb : b = h.objs.size
    · refine .inr (.inl ?_)
      cases q : h.get? b with
      | none => rfl
      | some o => rw [hb] at q; exact absurd (Heap.lt_size q) (Nat.lt_irrefl _)
    · simp only [upd, hb, if_false] at e; exact .inl e

theorem Ev_tup {es : List Expr} {k : Nat} {pos : Pos} (h : EvL B A env es ρ μ fun ds μ₁ => ds.length ≤ 100 ∧ Φ (.tup ds) μ₁) : Ev B A env (.Tuple es k pos) ρ μ Φ := by
  constructor
  intro s g S Q E k'
  refine Tuple_ (h.run pos s g S _ E fun vs ds μ₁ g₁ h₁ tk₁ i₁ p₁ V₁ G₁ => ?_)
  obtain ⟨g', a1, a2, a3⟩ := V₁.newTup i₁
  refine wpAny_newObj_type (k' _ _ _ _ _ _ a1 p₁.2 a2 (G₁.trans a3)) ?_
  show vs.toArray.size ≤ sizeLine
  have := i₁.length; have := p₁.1; rw [List.size_toArray, sizeLine_eq]; omega
theorem Ev_lst {es : List Expr} {pos : Pos} (h : EvL B A env es ρ μ fun ds μ₁ => ds.length ≤ 100 ∧ Φ (.lst ds) μ₁) : Ev B A env (.List es pos) ρ μ Φ := by
  constructor
  intro s g S Q E k'
  refine List_ (h.run pos s g S _ E fun vs ds μ₁ g₁ h₁ tk₁ i₁ p₁ V₁ G₁ => ?_)
  obtain ⟨g', a1, a2, a3⟩ := V₁.newLst (n := 0) i₁
  refine wpAny_newObj_type (k' _ _ _ _ _ _ a1 p₁.2 a2 (G₁.trans a3)) ?_
  show vs.toArray.size ≤ sizeLine
  have := i₁.length; have := p₁.1; rw [List.size_toArray, sizeLine_eq]; omega
theorem Ev_lstC {es : List Expr} {pos : Pos} (h : EvL B A env es ρ μ fun ds μ₁ => ds.length ≤ 100 ∧ ∀ a, μ₁ a = none → Φ (.cel a) (upd μ₁ a ds)) : Ev B A env (.List es pos) ρ μ Φ := by
  constructor
  intro s g S Q E k'
  refine List_ (h.run pos s g S _ E fun vs ds μ₁ g₁ h₁ tk₁ i₁ p₁ V₁ G₁ => ?_)
  obtain ⟨a1, a2, a3⟩ := V₁.newCel (n := 0) i₁
  refine wpAny_newObj_type (k' _ _ _ _ _ _ (.cel _) (p₁.2 _ a1) a2 (G₁.trans a3)) ?_
  show vs.toArray.size ≤ sizeLine
  have := i₁.length; have := p₁.1; rw [List.size_toArray, sizeLine_eq]; omega

theorem Ev_call {f : DefRec} {a : Addr} {x : Str} {p pos : Pos} {e : Expr} {es : List Expr} {lv : Nat} (hB : B.Ok) (hE : EnvOk env) (ha : B.FnAt f a) (rm : Room A lv)
    (h : EvL B A env (e :: es) ρ μ fun ds μ₁ => FSpec B f lv ds μ₁ Φ) (hx : f.name = x := by rfl) (hk : env.kindOf x = some .globalImplicit := by rfl)
    (hs : starEach (e :: es) env = (false, eval e env) :: starEach es env := by rfl) (hd : (x == ("__debug__" : Str)) = false := by decide) :
    Ev B A env (.Call (.Name x p) (e :: es) [] pos) ρ μ Φ := by
  constructor
  intro s g S Q E k
  subst hx
  have hbase : ∀ b o, B.h₀.get? b = some o → s.heap.get? b = some o := fun b o q => S.vw.sub b o (S.vw.base b o q)
  refine wpAny_Call_Name_kw (Calls.Name_function_global hE.kind hk (Calls.loadGlobal_global (by rw [hE.gl]; exact hB.g.keeps hbase) ha.glob ?_) hd)
  obtain ⟨o, pm, cd, doc, ho, hdat, _⟩ := ha.obj
  refine Calls.callWith_function (o := o) (fd := f.data pm cd doc) ?_
  have h' := h.run pos s g S (fun vs s' => (s'.heap.get? a = some o ∧ o.data = .func (f.data pm cd doc)) ∧ wpAny B.M A (call (.ref a) vs) Q E s') E
  rw [hs] at h' ⊢
  refine Calls.evalArgs_plain (h' fun vs ds μ₁ g₁ h₁ tk₁ i₁ p₁ V₁ G₁ => ?_)
  refine ⟨⟨V₁.sub a o (V₁.base a o ho), hdat⟩, wpAny_call ?_⟩
  exact p₁.run A a _ g₁ vs _ ha rm V₁ i₁ fun v d μ' g' h' tk' i' p' V' G' => k v d μ' g' h' tk' i' p' V' (G₁.trans G')

theorem backTo_any {pos : Pos} (ts : List (Bool × Sem Value)) : (backTo pos ts).any (·.1) = ts.any (·.1) := List.any_map

/-- a call of a built-in function -/
theorem Ev_builtin {id : String} {x : Str} {p pos : Pos} {e : Expr} {es : List Expr} (hB : B.Ok) (hE : EnvOk env)
    (h : EvL B A env (e :: es) ρ μ fun ds μ₁ => ∀ (s : Shared) (g : View) (vs : List Value), Vw B.h₀ s.heap g μ₁ → All g vs ds → ∀ (Q : Value → Shared → Prop) (E : Value → Shared → Prop),
      (∀ v d μ' g' h' tk', In g' v d → Φ d μ' → Vw B.h₀ h' g' μ' → Gr noOff μ₁ s.heap g h' g' μ' → Q v { s with heap := h', toks := tk' }) → wpAny B.M A (call (.builtin id) vs) Q E s)
    (hmg : B.mg x = none) (hb : bootBuiltins x = some (.builtin id) := by decide +kernel) (hn : x ≠ "__name__" := by decide) (hk : env.kindOf x = some .globalImplicit := by rfl)
    (hs : starEach (e :: es) env = (false, eval e env) :: starEach es env := by rfl) (hpl : (starEach es env).any (·.1) = false := by rfl) (hd : (x == ("__debug__" : Str)) = false := by decide) :
    Ev B A env (.Call (.Name x p) (e :: es) [] pos) ρ μ Φ := by
  constructor
  intro s g S Q E k
  have hbase : ∀ b o, B.h₀.get? b = some o → s.heap.get? b = some o := fun b o q => S.vw.sub b o (S.vw.base b o q)
  refine wpAny_Call_Name_kw (Calls.Name_function_global hE.kind hk (Calls.loadGlobal_builtin (by rw [hE.gl]; exact hB.g.keeps hbase) hmg (by rw [hE.bl]; exact hB.b.keeps hbase) ((hB.builtins x hn).trans hb) ?_) hd)
  refine Calls.callWith_builtin ?_ ?_
  · rw [hs, backTo_any, List.any_cons, Bool.false_or]; exact hpl
  have h' := h.run pos s g S (fun vs s' => wpAny B.M A (call (.builtin id) vs) Q E s') E
  rw [hs] at h' ⊢
  refine Calls.evalArgs_plain (h' fun vs ds μ₁ g₁ h₁ tk₁ i₁ p₁ V₁ G₁ => ?_)
  exact p₁ _ g₁ vs V₁ i₁ Q E fun v d μ' g' h' tk' i' p' V' G' => k v d μ' g' h' tk' i' p' V' (G₁.trans G')
end

/-- a list's items, immutable or a cell -/
inductive Sq (μ : Mu) : D → List D → Prop
  | lst (ds : List D) : Sq μ (.lst ds) ds
  | cel {a : Addr} {ds : List D} : μ a = some ds → Sq μ (.cel a) ds

theorem Sq.at {h₀ h : Heap} {g : View} {μ : Mu} {v : Value} {d : D} {ds : List D} (x : Sq μ d ds) (V : Vw h₀ h g μ) (i : In g v d) :
    ∃ a vs n, v = .ref a ∧ h.get? a = some (lstO vs n) ∧ All g vs ds := by
  cases x with
  | lst =>
    cases i with
    | lst e r => exact ⟨_, _, _, rfl, V.sub _ _ e, r⟩
  | cel e =>
    cases i
    obtain ⟨_, vs, n, e2, e3⟩ := V.mu _ _ e
    exact ⟨_, vs, n, rfl, e2, e3⟩

-- to the library's data
mutual
noncomputable def D.py : D → PyData
  | .none => .none
  | .bool b => .bool b
  | .int i => .int i
  | .str x => .str x
  | .tup ds => .tuple (D.pys ds)
  | .lst ds => .list (D.pys ds)
  | .cel _ => .none
  | .scr _ => .none
  | .rng _ => .none
  | .typ _ => .none
noncomputable def D.pys : List D → List PyData
  | [] => []
  | d :: ds => D.py d :: D.pys ds
end
mutual
noncomputable def D.ok : D → Bool
  | .none => true
  | .bool _ => true
  | .int _ => true
  | .str x => PyData.strOk x
  | .tup ds => D.oks ds
  | .lst ds => D.oks ds
  | .cel _ => false
  | .scr _ => false
  | .rng _ => false
  | .typ _ => false
noncomputable def D.oks : List D → Bool
  | [] => true
  | d :: ds => D.ok d && D.oks ds
end
mutual
theorem In.reads {g : View} {h : Heap} (hs : ∀ b o, g b = some o → h.get? b = some o) : ∀ {v : Value} {d : D}, In g v d → d.ok = true → ∃ as, Reads h v d.py as
  | _, _, .none, _ => ⟨_, Reads.none⟩
  | _, _, .bool b, _ => ⟨_, Reads.bool b⟩
  | _, _, .int i t, _ => ⟨_, Reads.int i t⟩
  | _, _, .str x t, _ => ⟨_, Reads.str x t⟩
  | _, _, .tup e r, hk => by
    obtain ⟨as, q⟩ := All.reads hs r (by simpa [D.ok] using hk)
    rw [D.py]
    exact ⟨as, Reads.tuple (hs _ _ e) rfl rfl (by simpa using q)⟩
  | _, _, .lst e r, hk => by
    obtain ⟨as, q⟩ := All.reads hs r (by simpa [D.ok] using hk)
    rw [D.py]
    exact ⟨_, Reads.list (hs _ _ e) rfl rfl (by simpa using q)⟩
  | _, _, .cel _, hk => by simp [D.ok] at hk
  | _, _, .scr _ _ _ _, hk => by simp [D.ok] at hk
  | _, _, .rng _, hk => by simp [D.ok] at hk
  | _, _, .typ _, hk => by simp [D.ok] at hk
theorem All.reads {g : View} {h : Heap} (hs : ∀ b o, g b = some o → h.get? b = some o) : ∀ {vs : List Value} {ds : List D}, All g vs ds → D.oks ds = true → ∃ as, ReadsAll h vs (D.pys ds) as
  | _, _, .nil, _ => ⟨_, ReadsAll.nil⟩
  | _, _, .cons i r, hk => by
    simp only [D.oks, Bool.and_eq_true] at hk
    obtain ⟨as, q⟩ := In.reads hs i hk.1
    obtain ⟨bs, p⟩ := All.reads hs r hk.2
    rw [D.pys]
    exact ⟨_, ReadsAll.cons q p⟩
end
mutual
theorem D.canLay : ∀ d : D, d.ok = true → d.py.canLay0 = true
  | .none, _ => rfl
  | .bool _, _ => rfl
  | .int _, _ => rfl
  | .str x, h => by simpa [D.py, PyData.canLay0, D.ok] using h
  | .tup ds, h => by rw [D.py, PyData.canLay0]; exact D.canLays ds (by simpa [D.ok] using h)
  | .lst ds, h => by rw [D.py, PyData.canLay0]; exact D.canLays ds (by simpa [D.ok] using h)
  | .cel _, h => by simp [D.ok] at h
  | .scr _, h => by simp [D.ok] at h
  | .rng _, h => by simp [D.ok] at h
  | .typ _, h => by simp [D.ok] at h
theorem D.canLays : ∀ ds : List D, D.oks ds = true → PyData.canLayAll0 (D.pys ds) = true
  | [], _ => rfl
  | d :: ds, h => by
    simp only [D.oks, Bool.and_eq_true] at h
    rw [D.pys, PyData.canLayAll0, D.canLay d h.1, D.canLays ds h.2]; rfl
end

/-- what an operand of == is, as the library's data -/
inductive Cm (μ : Mu) : D → PyData → Prop
  | pl (d : D) : d.ok = true → SeqAt.shaped d.py = true → Cm μ d d.py
  | cel {a : Addr} {ds : List D} : μ a = some ds → D.oks ds = true → SeqAt.shaped (.list (D.pys ds)) = true → Cm μ (.cel a) (.list (D.pys ds))
theorem Cm.at {h₀ h : Heap} {g : View} {μ : Mu} {v : Value} {d : D} {P : PyData} (x : Cm μ d P) (V : Vw h₀ h g μ) (i : In g v d) : (∃ as, Reads h v P as) ∧ SeqAt.shaped P = true := by
  cases x with
  | pl _ e1 e2 => exact ⟨i.reads V.sub e1, e2⟩
  | cel e1 e2 e3 =>
    cases i
    obtain ⟨_, vs, n, e4, e5⟩ := V.mu _ _ e1
    obtain ⟨as, q⟩ := e5.reads V.sub e2
    exact ⟨⟨_, Reads.list e4 rfl rfl (by simpa using q)⟩, e3⟩

section
variable {B : Base} {A : Around} {env : Env} {ρ : Rho} {μ : Mu} {Φ : D → Mu → Prop}

theorem A_add {i j : Int} (h : Φ (.int (i + j)) μ) : Act2 B A μ (.int i) (.int j) (binaryOp .Add) Φ := by
  constructor
  intro s g v u V iv iu Q E k
  cases iv; cases iu
  exact wpAny_add_int (k _ _ μ g s.heap _ (.int _ _) h V (Gr.refl ..))
theorem A_mod {i j : Int} (hj : j ≠ 0) (h : Φ (.int (i.fmod j)) μ) : Act2 B A μ (.int i) (.int j) (binaryOp .Mod) Φ := by
  constructor
  intro s g v u V iv iu Q E k
  cases iv; cases iu
  exact mod_int' hj (k _ _ μ g s.heap _ (.int _ _) h V (Gr.refl ..))
theorem A_fdiv {i j : Int} (hj : j ≠ 0) (hs : j.natAbs < 1073741824) (h : Φ (.int (i.fdiv j)) μ) : Act2 B A μ (.int i) (.int j) (binaryOp .FloorDiv) Φ := by
  constructor
  intro s g v u V iv iu Q E k
  cases iv; cases iu
  exact floordiv_int hj (k _ _ μ g s.heap _ (.int _ _) h V (Gr.refl ..)) (.inl (PyProof.noPylong_small hs))
theorem A_pow {i n : Int} (hn : 0 ≤ n) (hn2 : n ≤ 1000000) (ha : i.natAbs < 2 ^ 64) (h : Φ (.int (i ^ n.toNat)) μ) : Act2 B A μ (.int i) (.int n) (binaryOp .Pow) Φ := by
  constructor
  intro s g v u V iv iu Q E k
  cases iv; cases iu
  exact pow_int_small hn hn2 ha (k _ _ μ g s.heap _ (.int _ _) h V (Gr.refl ..))
theorem A_cat {d e : D} {ds es : List D} (hd : Sq μ d ds) (he : Sq μ e es) (hl : ds.length + es.length ≤ 1000) (h : Φ (.lst (ds ++ es)) μ) : Act2 B A μ d e (binaryOp .Add) Φ := by
  constructor
  intro s g v u V iv iu Q E k
  obtain ⟨a, vs, n, rfl, e1, r1⟩ := hd.at V iv
  obtain ⟨b, us, m, rfl, e2, r2⟩ := he.at V iu
  obtain ⟨g', a1, a2, a3⟩ := V.newLst (n := 0) (r1.append r2)
  have hq := k _ _ μ g' _ s.toks a1 h a2 a3
  refine P.add_list e1 e2 ?_ ?_
  · rw [List.append_toArray]; exact hq
  · rw [List.size_toArray, List.size_toArray, sizeLine_eq]; have := r1.length; have := r2.length; omega
theorem A_eq {d e : D} {p q : PyData} {n : Nat} (rm : Room A n) (hd : Cm μ d p) (he : Cm μ e q) (h : Φ (.bool (PyData.eqv p q)) μ) : Act2 B A μ d e (compareOp .Eq) Φ := by
  constructor
  intro s g v u V iv iu Q E k
  obtain ⟨⟨as, r1⟩, s1⟩ := hd.at V iv
  obtain ⟨⟨bs, r2⟩, s2⟩ := he.at V iu
  exact eq_dataH r1 r2 s1 s2 (by have := rm.un; omega) (k _ _ μ g s.heap _ (.bool _) h V (Gr.refl ..))
theorem A_ne {d e : D} {p q : PyData} {n : Nat} (rm : Room A n) (hd : Cm μ d p) (he : Cm μ e q) (h : Φ (.bool (!PyData.eqv p q)) μ) : Act2 B A μ d e (compareOp .NotEq) Φ := by
  constructor
  intro s g v u V iv iu Q E k
  obtain ⟨⟨as, r1⟩, s1⟩ := hd.at V iv
  obtain ⟨⟨bs, r2⟩, s2⟩ := he.at V iu
  exact ne_dataH r1 r2 s1 s2 (by have := rm.un; omega) (k _ _ μ g s.heap _ (.bool _) h V (Gr.refl ..))
theorem A_lt {i j : Int} (h : Φ (.bool (decide (i < j))) μ) : Act2 B A μ (.int i) (.int j) (compareOp .Lt) Φ := by
  constructor
  intro s g v u V iv iu Q E k
  cases iv; cases iu
  exact PyProof.Rows.lt_int (k _ _ μ g s.heap _ (.bool _) h V (Gr.refl ..))
theorem A_ge {i j : Int} (h : Φ (.bool (decide (j ≤ i))) μ) : Act2 B A μ (.int i) (.int j) (compareOp .GtE) Φ := by
  constructor
  intro s g v u V iv iu Q E k
  cases iv; cases iu
  exact PyProof.Rows.ge_int (k _ _ μ g s.heap _ (.bool _) h V (Gr.refl ..))
def D.isNone : D → Bool
  | .none => true
  | _ => false
theorem In.isNone {g : View} {v : Value} {d : D} (i : In g v d) : (v == Value.none) = d.isNone := by cases i <;> rfl
theorem A_is {d : D} (h : Φ (.bool d.isNone) μ) : Act2 B A μ d .none (compareOp .Is) Φ := by
  constructor
  intro s g v u V iv iu Q E k
  cases iu
  refine is_none_gen ?_
  rw [iv.isNone]; exact k _ _ μ g s.heap _ (.bool _) h V (Gr.refl ..)
theorem A_isnt {d : D} (h : Φ (.bool (!d.isNone)) μ) : Act2 B A μ d .none (compareOp .IsNot) Φ := by
  constructor
  intro s g v u V iv iu Q E k
  cases iu
  refine isnot_none_gen ?_
  rw [iv.isNone]; exact k _ _ μ g s.heap _ (.bool _) h V (Gr.refl ..)
theorem A_in {d e : D} {es : List D} {n : Nat} (rm : Room A n) (hd : d.ok = true) (hs : SeqAt.shaped d.py = true) (he : Sq μ e es) (ho : D.oks es = true) (h : Φ (.bool ((D.pys es).any fun y => PyData.eqv y d.py)) μ) :
    Act2 B A μ d e (compareOp .In) Φ := by
  constructor
  intro s g v u V iv iu Q E k
  obtain ⟨as, r1⟩ := iv.reads V.sub hd
  obtain ⟨b, us, m, rfl, e2, r2⟩ := he.at V iu
  obtain ⟨bs, r3⟩ := r2.reads V.sub ho
  refine SeqAt.in_list_reads (Reads.list e2 rfl rfl (by simpa using r3)) r1 (D.canLays es ho) (SeqAt.canLay_of_shaped hs) ?_ (k _ _ μ g s.heap _ (.bool _) h V (Gr.refl ..))
  have := SeqAt.depth_of_shaped hs; have := Nat.min_le_right (PyData.depthAll (D.pys es)) d.py.depth; have := rm.un; omega
theorem A_nin {d e : D} {es : List D} {n : Nat} (rm : Room A n) (hd : d.ok = true) (hs : SeqAt.shaped d.py = true) (he : Sq μ e es) (ho : D.oks es = true) (h : Φ (.bool (!(D.pys es).any fun y => PyData.eqv y d.py)) μ) :
    Act2 B A μ d e (compareOp .NotIn) Φ := by
  constructor
  intro s g v u V iv iu Q E k
  obtain ⟨as, r1⟩ := iv.reads V.sub hd
  obtain ⟨b, us, m, rfl, e2, r2⟩ := he.at V iu
  obtain ⟨bs, r3⟩ := r2.reads V.sub ho
  refine SeqAt.notIn_list_reads (Reads.list e2 rfl rfl (by simpa using r3)) r1 (D.canLays es ho) (SeqAt.canLay_of_shaped hs) ?_ (k _ _ μ g s.heap _ (.bool _) h V (Gr.refl ..))
  have := SeqAt.depth_of_shaped hs; have := Nat.min_le_right (PyData.depthAll (D.pys es)) d.py.depth; have := rm.un; omega

-- tests
theorem Ts_cmp {l r : Expr} {op : CmpOp} {pos : Pos} {Φ : Bool → Mu → Prop} (h : Ev B A env l ρ μ fun d μ₁ => Ev B A env r ρ μ₁ fun e μ₂ => Act2 B A μ₂ d e (compareOp op) fun d μ' => ∃ b, d = .bool b ∧ Φ b μ')
    (hm : behindInMarks op r = false := by with_unfolding_all rfl) : Ts B A env (.Compare l [op] [r] pos) ρ μ Φ := by
  constructor
  intro s g S Q E k
  refine wpAny_isTrue_Compare1 (h.run s g S _ E fun v d μ₁ g₁ h₁ tk₁ i₁ p₁ V₁ G₁ => ?_) hm
  refine p₁.run _ g₁ (S.grow G₁ V₁) _ E fun u e μ₂ g₂ h₂ tk₂ i₂ p₂ V₂ G₂ => ?_
  refine p₂.run _ g₂ v u V₂ (i₁.mono G₂.sub) i₂ _ E fun r d' μ' g' h' tk' i' p' V' G' => ?_
  obtain ⟨b, rfl, p'⟩ := p'
  cases i'
  exact wpAny_truthy_bool (k b μ' g' h' tk' p' V' ((G₁.trans G₂).trans G'))
theorem Ts_not {x : Expr} {pos : Pos} {Φ : Bool → Mu → Prop} (h : Ts B A env x ρ μ fun b μ' => Φ (!b) μ') : Ts B A env (.UnaryOp .Not x pos) ρ μ Φ :=
  .mk fun s g S Q E k => isTrue_not (h.run s g S _ E fun b μ' g' h' tk' p' V' G' => k _ μ' g' h' tk' p' V' G')
theorem Ts_andN {pos : Pos} {Φ : Bool → Mu → Prop} (h : Φ true μ) : Ts B A env (.BoolOp .And [] pos) ρ μ Φ := .mk fun s g S _ _ k => isTrue_and_nil (k _ _ _ _ s.toks h S.vw (Gr.refl ..))
theorem Ts_orN {pos : Pos} {Φ : Bool → Mu → Prop} (h : Φ false μ) : Ts B A env (.BoolOp .Or [] pos) ρ μ Φ := .mk fun s g S _ _ k => isTrue_or_nil (k _ _ _ _ s.toks h S.vw (Gr.refl ..))
theorem Ts_and {x : Expr} {rest : List Expr} {pos : Pos} {Φ : Bool → Mu → Prop} (h : Ts B A env x ρ μ fun b μ₁ => if b then Ts B A env (.BoolOp .And rest pos) ρ μ₁ Φ else Φ false μ₁) :
    Ts B A env (.BoolOp .And (x :: rest) pos) ρ μ Φ := by
  constructor
  intro s g S Q E k
  refine isTrue_and (h.run s g S _ E fun b μ₁ g₁ h₁ tk₁ p₁ V₁ G₁ => ?_)
  cases b with
  | false => exact k _ _ _ _ _ p₁ V₁ G₁
  | true => exact p₁.run _ g₁ (S.grow G₁ V₁) Q E fun b μ₂ g₂ h₂ tk₂ p₂ V₂ G₂ => k _ _ _ _ _ p₂ V₂ (G₁.trans G₂)
theorem Ts_or {x : Expr} {rest : List Expr} {pos : Pos} {Φ : Bool → Mu → Prop} (h : Ts B A env x ρ μ fun b μ₁ => if b then Φ true μ₁ else Ts B A env (.BoolOp .Or rest pos) ρ μ₁ Φ) :
    Ts B A env (.BoolOp .Or (x :: rest) pos) ρ μ Φ := by
  constructor
  intro s g S Q E k
  refine isTrue_or (h.run s g S _ E fun b μ₁ g₁ h₁ tk₁ p₁ V₁ G₁ => ?_)
  cases b with
  | true => exact k _ _ _ _ _ p₁ V₁ G₁
  | false => exact p₁.run _ g₁ (S.grow G₁ V₁) Q E fun b μ₂ g₂ h₂ tk₂ p₂ V₂ G₂ => k _ _ _ _ _ p₂ V₂ (G₁.trans G₂)
theorem Ts_plain {e : Expr} {Φ : Bool → Mu → Prop} (h : Ev B A env e ρ μ fun d μ' => ∃ b, d = .bool b ∧ Φ b μ')
    (he : isTrue e env (eval e env) = (do let v ← eval e env; standAt e.pos; holding [v] (truthy v)) := by rfl) : Ts B A env e ρ μ Φ := by
  constructor
  intro s g S Q E k
  refine isTrue_plain (h.run s g S _ E fun v d μ' g' h' tk' i' p' V' G' => ?_) he
  obtain ⟨b, rfl, p'⟩ := p'
  cases i'
  exact wpAny_truthy_bool (k b μ' g' h' tk' p' V' G')
theorem Ev_not {x : Expr} {pos : Pos} (h : Ev B A env x ρ μ fun d μ' => ∃ b, d = .bool b ∧ Φ (.bool (!b)) μ') : Ev B A env (.UnaryOp .Not x pos) ρ μ Φ := by
  constructor
  intro s g S Q E k
  refine UnaryOp_ (h.run s g S _ E fun v d μ' g' h' tk' i' p' V' G' => ?_)
  obtain ⟨b, rfl, p'⟩ := p'
  cases i'
  exact not_of (wpAny_truthy_bool (k _ _ μ' g' h' tk' (.bool _) p' V' G'))

-- statements
variable {Ψ : Fl → Rho → Mu → Prop}
theorem Ex_nil (h : Ψ .next ρ μ) : Ex B A env [] ρ μ Ψ := .mk fun s g S _ _ k => wpAny_execs_nil (k _ _ ρ μ g s.heap s.toks .next h S (Gr.refl ..))
theorem Ex_cons {st : Stmt} {rest : List Stmt} (h : Ex1 B A env st ρ μ fun fl ρ₁ μ₁ => match fl with | .next => Ex B A env rest ρ₁ μ₁ Ψ | .ret d => Ψ (.ret d) ρ₁ μ₁) : Ex B A env (st :: rest) ρ μ Ψ := by
  constructor
  intro s g S Q E k
  refine wpAny_execs_cons (h.run s g S _ E fun f fl ρ₁ μ₁ g₁ h₁ tk₁ i₁ p₁ S₁ G₁ => ?_)
  cases i₁ with
  | next => exact p₁.run _ g₁ S₁ Q E fun f fl ρ₂ μ₂ g₂ h₂ tk₂ i₂ p₂ S₂ G₂ => k _ _ _ _ _ _ _ i₂ p₂ S₂ (G₁.trans G₂)
  | ret i => exact k _ _ _ _ _ _ _ (.ret i) p₁ S₁ G₁
theorem Gr.any {off : Addr → Prop} {μ μ' : Mu} {h h' : Heap} {g g' : View} (x : Gr noOff μ h g h' g' μ') : Gr off μ h g h' g' μ' := x.off fun _ q => q.elim
theorem Ex1_ret {e : Expr} {pos : Pos} (h : Ev B A env e ρ μ fun d μ' => Ψ (.ret d) ρ μ') : Ex1 B A env (.Return (some e) pos) ρ μ Ψ := by
  constructor
  intro s g S Q E k
  exact wpAny_Return_some (h.run s g S _ E fun v d μ' g' h' tk' i' p' V' G' => k _ _ ρ μ' g' h' tk' (.ret i') p' (S.grow G' V') G'.any)
theorem Ex1_if {test : Expr} {body orelse : List Stmt} {pos : Pos} (h : Ts B A env test ρ μ fun b μ' => if b then Ex B A env body ρ μ' Ψ else Ex B A env orelse ρ μ' Ψ) : Ex1 B A env (.If test body orelse pos) ρ μ Ψ := by
  constructor
  intro s g S Q E k
  refine wpAny_If (h.run s g S _ E fun b μ₁ g₁ h₁ tk₁ p₁ V₁ G₁ => ?_)
  cases b with
  | true => exact p₁.run _ g₁ (S.grow G₁ V₁) Q E fun f fl ρ₂ μ₂ g₂ h₂ tk₂ i₂ p₂ S₂ G₂ => k _ _ _ _ _ _ _ i₂ p₂ S₂ (G₁.any.trans G₂)
  | false => exact p₁.run _ g₁ (S.grow G₁ V₁) Q E fun f fl ρ₂ μ₂ g₂ h₂ tk₂ i₂ p₂ S₂ G₂ => k _ _ _ _ _ _ _ i₂ p₂ S₂ (G₁.any.trans G₂)

/-- an expression statement whose value is no object -/
theorem Ex1_expr {e : Expr} {pos : Pos} (h : Ev B A env e ρ μ fun d μ' => (match d with | .none | .int _ | .bool _ => True | _ => False) ∧ Ψ .next ρ μ')
    (hi : interactive env = false := by rfl) (hs : swapsWith e none pos.line env = pure false := by rfl) : Ex1 B A env (.Expr e pos) ρ μ Ψ := by
  constructor
  intro s g S Q E k
  refine wpAny_Expr (h.run s g S _ E fun v d μ' g' h' tk' i' p' V' G' => ?_) hi hs
  have := k _ _ ρ μ' g' h' tk' .next p'.2 (S.grow G' V') G'.any
  have p1 := p'.1
  cases i' <;> first | exact this | exact p1.elim

def up (ρ : Rho) (x : Str) (d : D) : Rho := fun y => if y = x then some d else ρ y
theorem up_same {ρ : Rho} {x : Str} {d : D} : up ρ x d x = some d := by simp [up]
theorem up_ne {ρ : Rho} {x y : Str} {d : D} (h : (y == x) = false) : up ρ x d y = ρ y := by simp [up, beq_eq_false_iff_ne.mp h]

inductive Nm (env : Env) (x : Str) : Prop
  | loc : env.kindOf x = some .local → Nm env x
  | cel {c : Addr} : env.kindOf x = some .cell → env.cells.lookup x = some c → Nm env x

theorem wp_storeL {M : Model} {s : Shared} {g : View} {x : Str} {v : Value} {d : D} (hE : EnvOk env) (hk : env.kindOf x = some .local) (S : St B.h₀ env s.heap g ρ μ) (i : In g v d) {Q : Unit → Shared → Prop} {E : Value → Shared → Prop}
    (k : ∀ h' tk', St B.h₀ env h' g (up ρ x d) μ → Gr (fun b => b = env.locals) μ s.heap g h' g μ → Q () { s with heap := h', toks := tk' }) : wpAny M A (storeName env x v) Q E s := by
  obtain ⟨m, hn, hm⟩ := S.ns
  refine wpAny_storeName_local hk hn (fun h' hn' hs' => k h' _ ⟨⟨S.vw.base, fun b o e => hs'.extBut b o (fun q => ?_) (S.vw.sub b o e), fun a ds e => ?_⟩, ⟨_, hn', fun y e hy he => ?_⟩, fun y c hc => ?_, S.offC, S.offL, S.apart⟩ ⟨fun _ _ e => e, fun b o hb _ e => hs'.extBut b o (fun q => hb q) e, fun _ e => .inl e, fun _ e => .inl e⟩) ?_
  · subst q; rw [S.offL.1] at e; cases e
  · obtain ⟨e1, vs, n, e2, e3⟩ := S.vw.mu a ds e
    exact ⟨e1, vs, n, hs'.extBut a _ (fun q => by subst q; rw [S.offL.2] at e; cases e) e2, e3⟩
  · by_cases hyx : y = x
    · subst hyx; simp [up] at he; subst he; exact ⟨v, by simp, i⟩
    · simp only [up, hyx, if_false] at he ⊢; exact hm y e hy he
  · obtain ⟨ov, hov, h2⟩ := S.cl y c hc
    refine ⟨ov, hov.sameBut hs' (S.offC y c hc).2.2, fun e hy he => ?_⟩
    by_cases hyx : y = x
    · subst hyx; rw [hk] at hy; cases hy
    · simp only [up, hyx, if_false] at he; exact h2 e hy he
  · rw [hE.kind]; rfl

theorem wp_store {M : Model} {s : Shared} {g : View} {x : Str} {v : Value} {d : D} (hE : EnvOk env) (hN : Nm env x) (S : St B.h₀ env s.heap g ρ μ) (i : In g v d) {Q : Unit → Shared → Prop} {E : Value → Shared → Prop}
    (k : ∀ h' tk', St B.h₀ env h' g (up ρ x d) μ → Gr (Off env) μ s.heap g h' g μ → Q () { s with heap := h', toks := tk' }) : wpAny M A (storeName env x v) Q E s := by
  obtain ⟨m, hn, hm⟩ := S.ns
  cases hN with
  | loc hk => exact wp_storeL hE hk S i fun h' tk' S' G' => k h' tk' S' (G'.off fun b q => .inl q)
  | @cel c hk hc =>
    obtain ⟨ov, hov, _⟩ := S.cl x c hc
    refine wpAny_storeName_cell hE.kind hk hc hov fun h' hv' hs' => k h' s.toks ⟨⟨S.vw.base, fun b o e => hs'.extBut b o (fun q => ?_) (S.vw.sub b o e), fun a ds e => ?_⟩, ⟨m, hn.sameBut hs' (fun q => (S.offC x c hc).2.2 q.symm), fun y e hy he => ?_⟩, fun y c' hc' => ?_, S.offC, S.offL, S.apart⟩ ⟨fun _ _ e => e, fun b o hb _ e => hs'.extBut b o (fun q => hb (.inr ⟨x, by rw [q]; exact hc⟩)) e, fun _ e => .inl e, fun _ e => .inl e⟩
    · subst q; rw [(S.offC x b hc).1] at e; cases e
    · obtain ⟨e1, vs, n, e2, e3⟩ := S.vw.mu a ds e
      exact ⟨e1, vs, n, hs'.extBut a _ (fun q => by subst q; rw [(S.offC x a hc).2.1] at e; cases e) e2, e3⟩
    · by_cases hyx : y = x
      · subst hyx; rw [hk] at hy; cases hy
      · simp only [up, hyx, if_false] at he; exact hm y e hy he
    · by_cases hcc : c' = c
      · subst hcc
        have hyx := S.apart y x c' hc' hc
        subst hyx
        exact ⟨some v, hv', fun e _ he => by simp [up] at he; subst he; exact ⟨v, rfl, i⟩⟩
      · obtain ⟨ov', hov', h2⟩ := S.cl y c' hc'
        refine ⟨ov', hov'.sameBut hs' hcc, fun e hy he => ?_⟩
        by_cases hyx : y = x
        · subst hyx; rw [hc] at hc'; cases hc'; exact absurd rfl hcc
        · simp only [up, hyx, if_false] at he; exact h2 e hy he

/-- a target -/
structure Asg (B : Base) (A : Around) (env : Env) (t : Expr) (d : D) (ρ : Rho) (μ : Mu) (Θ : Rho → Mu → Prop) : Prop where
  run : ∀ (s : Shared) (g : View) (v : Value), St B.h₀ env s.heap g ρ μ → In g v d → ∀ (Q : Unit → Shared → Prop) (E : Value → Shared → Prop),
    (∀ ρ' μ' g' h' tk', Θ ρ' μ' → St B.h₀ env h' g' ρ' μ' → Gr (Off env) μ s.heap g h' g' μ' → Q () { s with heap := h', toks := tk' }) → wpAny B.M A (assign t env v) Q E s
variable {Θ : Rho → Mu → Prop}
theorem Asg_name {x : Str} {pos : Pos} {d : D} (hE : EnvOk env) (hN : Nm env x) (h : Θ (up ρ x d) μ) : Asg B A env (.Name x pos) d ρ μ Θ :=
  .mk fun s g v S i Q E k => wpAny_assign_Name (wp_store (B := B) hE hN S i fun h' tk' S' G' => k _ _ _ _ _ h S' G')

/-- a target of a comprehension: plain locals -/
structure AsgL (B : Base) (A : Around) (env : Env) (t : Expr) (d : D) (ρ : Rho) (μ : Mu) (Θ : Rho → Mu → Prop) : Prop where
  run : ∀ (s : Shared) (g : View) (v : Value), St B.h₀ env s.heap g ρ μ → In g v d → ∀ (Q : Unit → Shared → Prop) (E : Value → Shared → Prop),
    (∀ ρ' μ' g' h' tk', Θ ρ' μ' → St B.h₀ env h' g' ρ' μ' → Gr (fun b => b = env.locals) μ s.heap g h' g' μ' → Q () { s with heap := h', toks := tk' }) → wpAny B.M A (assign t env v) Q E s
theorem AsgL_name {x : Str} {pos : Pos} {d : D} (hE : EnvOk env) (h : Θ (up ρ x d) μ) (hk : env.kindOf x = some .local := by rfl) : AsgL B A env (.Name x pos) d ρ μ Θ :=
  .mk fun s g v S i Q E k => wpAny_assign_Name (wp_storeL (B := B) hE hk S i fun h' tk' S' G' => k _ _ _ _ _ h S' G')

theorem In.isTup {h₀ h : Heap} {g : View} {v : Value} {ds : List D} (V : Vw h₀ h g μ) (i : In g v (.tup ds)) : ∃ a vs, v = .ref a ∧ h.get? a = some (tupO vs) ∧ All g vs ds := by
  cases i with
  | tup e r => exact ⟨_, _, rfl, V.sub _ _ e, r⟩

theorem St.ext {h₀ : Heap} {h h' : Heap} {g : View} (S : St h₀ env h g ρ μ) (hk : ∀ b o, h.get? b = some o → h'.get? b = some o) : St h₀ env h' g ρ μ :=
  S.grow (Gr.ext fun b o _ _ e => hk b o e) ⟨S.vw.base, fun b o e => hk b o (S.vw.sub b o e), fun a ds e => let ⟨e1, vs, n, e2, e3⟩ := S.vw.mu a ds e; ⟨e1, vs, n, hk a _ e2, e3⟩⟩

/-- two targets from a pair -/
theorem Asg_tup2 {t₁ t₂ : Expr} {k : Nat} {pos : Pos} {d₁ d₂ : D} (hh : A.handled = none) (h : Asg B A env t₁ d₁ ρ μ fun ρ₁ μ₁ => Asg B A env t₂ d₂ ρ₁ μ₁ Θ)
    (hs : assignEach [t₁, t₂] env = [(false, assign t₁ env), (false, assign t₂ env)] := by rfl) : Asg B A env (.Tuple [t₁, t₂] k pos) (.tup [d₁, d₂]) ρ μ Θ := by
  constructor
  intro s g v S i Q E k'
  obtain ⟨a, vs, rfl, e, r⟩ := In.isTup S.vw i
  cases r with
  | @cons v₁ vs' _ _ i₁ r => cases r with
    | @cons v₂ vs'' _ _ i₂ r =>
      cases r
      refine assign_Tuple_tuple (items := ([v₁, v₂] : List Value).toArray) hh ⟨_, e, rfl, 0, rfl⟩ ?_ ?_ fun h' hx => ?_
      · rw [hs]; rfl
      · rw [hs]; rfl
      · rw [hs]
        have ek : ∀ b o, s.heap.get? b = some o → h'.get? b = some o := fun b o q => hx b o (Nat.ne_of_lt (Heap.lt_size q)) q
        show wpAny _ A (do holding [v₂] (assign t₁ env v₁); assignInOrder [assign t₂ env] [v₂]) Q E _
        refine wpAny_bind (wpAny_holding (h.run _ g v₁ (S.ext ek) i₁ _ E fun ρ₁ μ₁ g₁ h₁ tk₁ p₁ S₁ G₁ => ?_))
        show wpAny _ A (do holding [] (assign t₂ env v₂); assignInOrder [] []) Q E _
        refine wpAny_bind (wpAny_holding (p₁.run _ g₁ v₂ S₁ (i₂.mono G₁.sub) _ E fun ρ₂ μ₂ g₂ h₂ tk₂ p₂ S₂ G₂ => ?_))
        show wpAny _ A (pure ()) Q E _
        exact wpAny_pure (k' ρ₂ μ₂ g₂ h₂ tk₂ p₂ S₂ ((Gr.ext fun b o _ _ q => ek b o q).trans (G₁.trans G₂)))

theorem AsgL_tup2 {t₁ t₂ : Expr} {k : Nat} {pos : Pos} {d₁ d₂ : D} (hh : A.handled = none) (h : AsgL B A env t₁ d₁ ρ μ fun ρ₁ μ₁ => AsgL B A env t₂ d₂ ρ₁ μ₁ Θ)
    (hs : assignEach [t₁, t₂] env = [(false, assign t₁ env), (false, assign t₂ env)] := by rfl) : AsgL B A env (.Tuple [t₁, t₂] k pos) (.tup [d₁, d₂]) ρ μ Θ := by
  constructor
  intro s g v S i Q E k'
  obtain ⟨a, vs, rfl, e, r⟩ := In.isTup S.vw i
  cases r with
  | @cons v₁ vs' _ _ i₁ r => cases r with
    | @cons v₂ vs'' _ _ i₂ r =>
      cases r
      refine assign_Tuple_tuple (items := ([v₁, v₂] : List Value).toArray) hh ⟨_, e, rfl, 0, rfl⟩ ?_ ?_ fun h' hx => ?_
      · rw [hs]; rfl
      · rw [hs]; rfl
      · rw [hs]
        have ek : ∀ b o, s.heap.get? b = some o → h'.get? b = some o := fun b o q => hx b o (Nat.ne_of_lt (Heap.lt_size q)) q
        show wpAny _ A (do holding [v₂] (assign t₁ env v₁); assignInOrder [assign t₂ env] [v₂]) Q E _
        refine wpAny_bind (wpAny_holding (h.run _ g v₁ (S.ext ek) i₁ _ E fun ρ₁ μ₁ g₁ h₁ tk₁ p₁ S₁ G₁ => ?_))
        show wpAny _ A (do holding [] (assign t₂ env v₂); assignInOrder [] []) Q E _
        refine wpAny_bind (wpAny_holding (p₁.run _ g₁ v₂ S₁ (i₂.mono G₁.sub) _ E fun ρ₂ μ₂ g₂ h₂ tk₂ p₂ S₂ G₂ => ?_))
        show wpAny _ A (pure ()) Q E _
        exact wpAny_pure (k' ρ₂ μ₂ g₂ h₂ tk₂ p₂ S₂ ((Gr.ext fun b o _ _ q => ek b o q).trans (G₁.trans G₂)))

theorem Ex1_assign {x : Str} {p pos : Pos} {value : Expr} (hE : EnvOk env) (hN : Nm env x) (h : Ev B A env value ρ μ fun d μ' => Ψ .next (up ρ x d) μ')
    (hs : swapsWith value (some (.Name x p)) pos.line env = pure false := by rfl) : Ex1 B A env (.Assign [.Name x p] value pos) ρ μ Ψ := by
  constructor
  intro s g S Q E k
  refine wpAny_Assign_Name (h.run s g S _ E fun v d μ₁ g₁ h₁ tk₁ i₁ p₁ V₁ G₁ => ?_) hs
  exact wp_store (B := B) hE hN (S.grow G₁ V₁) i₁ fun h' tk' S' G' => k _ _ _ _ _ _ _ .next p₁ S' (G₁.any.trans G')

/-- a, b = call(..): a tuple handed back -/
theorem Ex1_assignT {elts : List Expr} {n : Nat} {tp pos : Pos} {value : Expr} (h : Ev B A env value ρ μ fun d μ₁ => Asg B A env (.Tuple elts n tp) d ρ μ₁ fun ρ' μ' => Ψ .next ρ' μ')
    (hs : swapsWithSole [.Tuple elts n tp] value pos.line env = pure false := by rfl) (hw : swappedStores [.Tuple elts n tp] value env = pure none := by rfl) :
    Ex1 B A env (.Assign [.Tuple elts n tp] value pos) ρ μ Ψ := by
  constructor
  intro s g S Q E k
  refine Assign_Tuple (h.run s g S _ E fun v d μ₁ g₁ h₁ tk₁ i₁ p₁ V₁ G₁ => ?_) hs hw
  exact p₁.run _ g₁ v (S.grow G₁ V₁) i₁ _ E fun ρ' μ' g' h' tk' p' S' G' => k _ _ _ _ _ _ _ .next p' S' (G₁.any.trans G')

/-- a, b = x, y: stores exchanged -/
theorem Ex1_assign2 {x y : Str} {elts : List Expr} {n : Nat} {tp pos : Pos} {value : Expr} (hE : EnvOk env) (hh : A.handled = none) (hx : Nm env x) (hy : Nm env y)
    (h : Ev B A env value ρ μ fun d μ₁ => ∃ d₁ d₂, d = .tup [d₁, d₂] ∧ Ψ .next (up (up ρ y d₂) x d₁) μ₁)
    (hs : swapsWithSole [.Tuple elts n tp] value pos.line env = pure false := by rfl) (hw : swappedStores [.Tuple elts n tp] value env = pure (some [x, y]) := by rfl) :
    Ex1 B A env (.Assign [.Tuple elts n tp] value pos) ρ μ Ψ := by
  constructor
  intro s g S Q E k
  refine Assign_Tuple_swapped (h.run s g S _ E fun v d μ₁ g₁ h₁ tk₁ i₁ p₁ V₁ G₁ => ?_) hs hw
  obtain ⟨d₁, d₂, rfl, p₁⟩ := p₁
  obtain ⟨a, vs, rfl, e, r⟩ := In.isTup V₁ i₁
  cases r with
  | @cons v₁ vs' _ _ j₁ r => cases r with
    | @cons v₂ vs'' _ _ j₂ r =>
      cases r
      refine unpackItems_tuple (items := ([v₁, v₂] : List Value).toArray) hh ⟨_, e, rfl, 0, rfl⟩ fun h' hx' => ?_
      have ek : ∀ b o, h₁.get? b = some o → h'.get? b = some o := fun b o q => hx' b o (Nat.ne_of_lt (Heap.lt_size q)) q
      show wpAny _ A (do holding [v₁] (bindName env y v₂); assignInOrder [bindName env x] [v₁]) _ E _
      refine wpAny_bind (wpAny_holding (wpAny_bindName (wp_store (B := B) hE hy ((S.grow G₁ V₁).ext ek) j₂ fun h₂ tk₂ S₂ G₂ => ?_)))
      show wpAny _ A (do holding [] (bindName env x v₁); assignInOrder [] []) _ E _
      refine wpAny_bind (wpAny_holding (wpAny_bindName (wp_store (B := B) hE hx S₂ j₁ fun h₃ tk₃ S₃ G₃ => ?_)))
      show wpAny _ A (pure ()) _ E _
      exact wpAny_pure (k _ _ _ _ _ _ _ .next p₁ S₃ (G₁.any.trans ((Gr.ext fun b o _ _ q => ek b o q).trans (G₂.trans G₃))))
end

noncomputable def bindR : List (Str × D) → Rho → Rho
  | [], r => r
  | (n, d) :: t, r => bindR t (up r n d)

abbrev emp : Rho := fun _ => none

theorem bindLn {kindOf : Str → Option NameKind} {m : Str → Option Value} : bindL kindOf [] m = m := rfl
theorem bindLc {kindOf : Str → Option NameKind} {m : Str → Option Value} {n : Str} {v : Value} {r : List (Str × Value)} : bindL kindOf ((n, v) :: r) m = bindL kindOf r (if kindOf n = some .local then fun y => if y = n then some v else m y else m) := rfl
theorem bindCn {kindOf : Str → Option NameKind} {m : Str → Option Value} : bindC kindOf [] m = m := rfl
theorem bindCc {kindOf : Str → Option NameKind} {m : Str → Option Value} {n : Str} {v : Value} {r : List (Str × Value)} : bindC kindOf ((n, v) :: r) m = bindC kindOf r (if kindOf n = some .local then m else fun y => if y = n then some v else m y) := rfl
theorem bindL_in {g : View} {kindOf : Str → Option NameKind} : ∀ {xs : List Str} {vs : List Value} {ds : List D} {m : Str → Option Value} {ρ : Rho}, All g vs ds →
    (∀ x d, kindOf x = some .local → ρ x = some d → ∃ v, m x = some v ∧ In g v d) → ∀ x d, kindOf x = some .local → bindR (xs.zip ds) ρ x = some d → ∃ v, bindL kindOf (xs.zip vs) m x = some v ∧ In g v d
  | [], _, _, _, _, _, h => by simpa [bindR, bindLn] using h
  | _ :: _, _, _, _, _, .nil, h => by simpa [bindR, bindLn] using h
  | y :: xs, _, _, m, ρ, .cons (v := v) (d := d) i r, h => by
    simp only [List.zip_cons_cons, bindR, bindLc]
    refine bindL_in r fun z e hz he => ?_
    by_cases hzy : z = y
    · subst hzy; simp [up] at he; subst he; rw [if_pos hz]; exact ⟨v, by simp, i⟩
    · simp only [up, hzy, if_false] at he
      obtain ⟨u, h1, h2⟩ := h z e hz he
      refine ⟨u, ?_, h2⟩
      split
      · simp only [hzy, if_false]; exact h1
      · exact h1
theorem bindC_in {g : View} {kindOf : Str → Option NameKind} : ∀ {xs : List Str} {vs : List Value} {ds : List D} {m : Str → Option Value} {ρ : Rho}, All g vs ds →
    (∀ x d, kindOf x = some .cell → ρ x = some d → ∃ v, m x = some v ∧ In g v d) → ∀ x d, kindOf x = some .cell → bindR (xs.zip ds) ρ x = some d → ∃ v, bindC kindOf (xs.zip vs) m x = some v ∧ In g v d
  | [], _, _, _, _, _, h => by simpa [bindR, bindCn] using h
  | _ :: _, _, _, _, _, .nil, h => by simpa [bindR, bindCn] using h
  | y :: xs, _, _, m, ρ, .cons (v := v) (d := d) i r, h => by
    simp only [List.zip_cons_cons, bindR, bindCc]
    refine bindC_in r fun z e hz he => ?_
    by_cases hzy : z = y
    · subst hzy; simp [up] at he; subst he; rw [if_neg (by rw [hz]; decide)]; exact ⟨v, by simp, i⟩
    · simp only [up, hzy, if_false] at he
      obtain ⟨u, h1, h2⟩ := h z e hz he
      refine ⟨u, ?_, h2⟩
      split
      · exact h1
      · simp only [hzy, if_false]; exact h1

theorem FSpec_of {B : Base} {name : Str} {params : Arguments} {body : List Stmt} {scope : Scope} {pos : Pos} {f : DefRec} (hf : f = ⟨name, params, body, scope, pos⟩) (hB : B.Ok) {lv : Nat} {ds : List D} {xs : List Str} {μ : Mu} {Φ : D → Mu → Prop}
    (hlen : xs.length = ds.length)
    (hbind : ∀ (vs : List Value) pm cd doc, vs.length = xs.length → bindArgs (docDef name params body scope pm cd doc) ⟨vs, []⟩ = pure (xs.zip vs))
    (hkind : ∀ L, ∀ x ∈ xs, scope.names.lookup x = some .local ∨ (scope.names.lookup x = some .cell ∧ ((cellsFrom (L + 1) scope.names []).lookup x).isSome = true))
    (h : ∀ A L a cd, Room A lv → Ex B A (envOfC name scope L a cd) body (bindR (xs.zip ds) emp) μ fun fl ρ' μ' => ∃ d, fl = .ret d ∧ ∃ μ'', Φ d μ'' ∧ ∀ a ds, μ'' a = some ds → μ' a = some ds)
    (hco : scope.isCoroutine = false := by rfl) (hgen : scope.isGenerator = false := by rfl) (hk : scope.kind = .function := by rfl) : FSpec B f (lv + 1) ds μ Φ := by
  subst hf
  constructor
  intro A a s g vs R F rm V I k
  obtain ⟨o, pm, cd, doc, ho, hdat, hcr⟩ := F.obj
  have hb : ∀ b o, B.h₀.get? b = some o → s.heap.get? b = some o := fun b o e => V.sub b o (V.base b o e)
  have hl : vs.length = xs.length := by rw [I.length, hlen]
  have hdep := rm.dep
  have hun := rm.un
  refine call_cells_ret (by omega) (hb _ _ ho) hdat (hB.nolimit.keeps hb) (hcr.keeps hb) (hbind vs pm cd doc hl) (fun x hx => ?_) (fun h₁ tk F₁ C₁ => ?_) hco hgen hk
  · exact hkind _ _ (List.of_mem_zip hx).1
  have hsz : ∀ b o, s.heap.get? b = some o → b < s.heap.objs.size := fun b o e => Heap.lt_size e
  have gN : ∀ b, s.heap.objs.size ≤ b → g b = none := fun b hbs => by
    cases q : g b with
    | none => rfl
    | some o => exact absurd (hsz _ _ (V.sub _ _ q)) (Nat.not_lt.mpr hbs)
  have mN : ∀ b, s.heap.objs.size ≤ b → μ b = none := fun b hbs => by
    cases q : μ b with
    | none => rfl
    | some o => obtain ⟨_, _, _, e, _⟩ := V.mu _ _ q; exact absurd (hsz _ _ e) (Nat.not_lt.mpr hbs)
  have offN : ∀ b, Off (envOfC name scope s.heap.objs.size a cd) b → s.heap.objs.size ≤ b := fun b hb => by
    rcases hb with rfl | ⟨x, hx⟩
    · exact Nat.le_refl _
    · exact Nat.le_of_lt (C₁.above x b (mem_of_lookup hx))
  have S : St B.h₀ (envOfC name scope s.heap.objs.size a cd) h₁ g (bindR (xs.zip ds) emp) μ := by
    refine ⟨⟨V.base, fun b o e => F₁.keep b o (V.sub b o e), fun a ds e => let ⟨e1, ws, n, e2, e3⟩ := V.mu a ds e; ⟨e1, ws, n, F₁.keep _ _ e2, e3⟩⟩, ⟨_, F₁.ns, bindL_in I fun _ _ _ e => by cases e⟩, fun x c hc => ⟨_, C₁.cell x c hc, fun d hk' hd => bindC_in I (fun _ _ _ e => by cases e) x d hk' hd⟩, fun x c hc => ?_, ⟨gN _ (Nat.le_refl _), mN _ (Nat.le_refl _)⟩, fun x y c h1 h2 => name_of_addr C₁.apart (mem_of_lookup h1) (mem_of_lookup h2)⟩
    have hlt := C₁.above x c (mem_of_lookup hc)
    exact ⟨gN c (Nat.le_of_lt hlt), mN c (Nat.le_of_lt hlt), Nat.ne_of_gt hlt⟩
  refine (h (A.deeper (envOfC name scope s.heap.objs.size a cd)) _ _ _ ⟨rm.hh, ?_, ?_⟩).run { s with heap := h₁, toks := tk } g S _ _ ?_
  · show A.depth + 1 + lv < recursionLimit
    omega
  · show A.units + 3 + 8 * lv + 80 < cLine
    omega
  · rintro f fl ρ' μ' g' h' tk' i ⟨d, rfl, μ'', p, hsub⟩ S' G'
    cases i with
    | ret i =>
      have none_of : ∀ b, μ'' b ≠ none → μ' b ≠ none := fun b hb => by
        cases q : μ'' b with
        | none => exact absurd q hb
        | some ds => rw [hsub b ds q]; exact Option.some_ne_none _
      refine k _ d μ'' g' h' tk' i p ⟨S'.vw.base, S'.vw.sub, fun a ds e => S'.vw.mu a ds (hsub a ds e)⟩ ⟨G'.sub, fun b o _ hm e => ?_, fun b hb => ?_, fun b hb => ?_⟩
      · exact G'.keep b o (fun q => absurd (hsz b o e) (Nat.not_lt.mpr (offN b q))) hm (F₁.keep b o e)
      · rcases G'.newM b (none_of b hb) with q | q | q
        · exact .inl q
        · refine .inr (.inl ?_)
          cases e : s.heap.get? b with
          | none => rfl
          | some o => rw [F₁.keep b o e] at q; cases q
        · refine .inr (.inl ?_)
          cases e : s.heap.get? b with
          | none => rfl
          | some o => exact absurd (hsz b o e) (Nat.not_lt.mpr (offN b q))
      · rcases G'.newG b hb with q | q | q | q
        · exact .inl q
        · exact .inr (.inl q)
        · refine .inr (.inr (.inl ?_))
          cases e : s.heap.get? b with
          | none => rfl
          | some o => rw [F₁.keep b o e] at q; cases q
        · refine .inr (.inr (.inl ?_))
          cases e : s.heap.get? b with
          | none => rfl
          | some o => exact absurd (hsz b o e) (Nat.not_lt.mpr (offN b q))

/-- what can be walked: an iterator over known data -/
structure ItrAt (B : Base) (A : Around) (g : View) (h : Heap) (I : Addr) (ds : List D) (fp wr : List Addr) (P : Nat → Value → Prop) (Stt : Nat → Heap → Prop) : Prop where
  W : Walks B.prog B.w A I fp wr ds.length P Stt
  alive : ∀ i h', Stt i h' → ∀ b ∈ fp, ∃ o, h'.get? b = some o
  go : ∀ i (s' : Shared) (target : Expr) v (Q : Unit → Shared → Prop) (E : Value → Shared → Prop), Stt i s'.heap → Q () s' → wpAny B.M A (letOwnedTupleGo target (.ref I) v) Q E s'
  item : ∀ i v, P i v → ∀ g', Sub g g' → ∃ d, ds[i]? = some d ∧ In g' v d
  fpOk : ∀ b ∈ fp, g b ≠ none ∨ h.get? b = none
  wrOk : ∀ b ∈ wr, h.get? b = none

structure Itr (B : Base) (A : Around) (μ : Mu) (d : D) (ds : List D) : Prop where
  run : ∀ (s : Shared) (g : View) (v : Value), Vw B.h₀ s.heap g μ → In g v d → ∀ (Q : Value → Shared → Prop) (E : Value → Shared → Prop),
    (∀ I fp wr P Stt h', ItrAt B A g s.heap I ds fp wr P Stt → Stt 0 h' → (∀ b o, s.heap.get? b = some o → h'.get? b = some o) → Q (.ref I) { s with heap := h' }) → wpAny B.M A (pyIter v) Q E s

theorem letGo_listiter {prog : Program} {w : World} {A : Around} {E : Value → Shared → Prop} {target : Expr} {I t : Addr} {i : Nat} {v : Value} {Q' : Unit → Shared → Prop} {s' : Shared} (hit : s'.heap.IsListIter I t i) (h : Q' () s') :
    wpAny (model prog w) A (letOwnedTupleGo target (.ref I) v) Q' E s' := by
  obtain ⟨o, ho, hc, hd⟩ := hit
  unfold letOwnedTupleGo
  cases target <;> first
    | exact wpAny_pure h
    | (cases v <;> first
        | exact wpAny_pure h
        | (refine wpAny_bind (wpAny_load ho ?_)
           rw [hc, hd]
           simp only [show (["enumerate", "zip", "dict_itemiterator", "dict_reverseitemiterator", "odict_iterator", "itertools.zip_longest", "itertools.pairwise"].contains "list_iterator") = false from by decide, Bool.false_and, Bool.false_eq_true, if_false]
           exact wpAny_pure h))
theorem letGo_rangeiter {prog : Program} {w : World} {A : Around} {E : Value → Shared → Prop} {target : Expr} {I : Addr} {x l st : Int} {v : Value} {Q' : Unit → Shared → Prop} {s' : Shared} (hit : IsRangeIter s'.heap I x l st) (h : Q' () s') :
    wpAny (model prog w) A (letOwnedTupleGo target (.ref I) v) Q' E s' := by
  unfold letOwnedTupleGo
  cases target <;> first
    | exact wpAny_pure h
    | (cases v <;> first
        | exact wpAny_pure h
        | (refine wpAny_bind (wpAny_load hit ?_)
           dsimp only
           simp only [show (["enumerate", "zip", "dict_itemiterator", "dict_reverseitemiterator", "odict_iterator", "itertools.zip_longest", "itertools.pairwise"].contains "range_iterator") = false from by decide, Bool.false_and, Bool.false_eq_true, if_false]
           exact wpAny_pure h))

section
variable {B : Base} {A : Around} {env : Env} {ρ : Rho} {μ : Mu}

theorem fresh_none {h : Heap} : h.get? h.objs.size = none := by
  cases q : h.get? h.objs.size with
  | none => rfl
  | some o => exact absurd (Heap.lt_size q) (Nat.lt_irrefl _)

theorem Itr_lst {ds : List D} (hh : A.handled = none) : Itr B A μ (.lst ds) ds := by
  constructor
  intro s g v V i Q E k
  cases i with
  | @lst a vs n _ e r =>
    have hl : s.heap.IsList a vs.toArray := ⟨_, V.sub _ _ e, rfl, n, rfl⟩
    have hne : a ≠ s.heap.objs.size := Nat.ne_of_lt (Heap.lt_size (V.sub _ _ e))
    refine wpAny_pyIter_list hl (k s.heap.objs.size [s.heap.objs.size, a] [s.heap.objs.size] (fun i v => vs.toArray[i]? = some v) (fun i h => h.IsListIter s.heap.objs.size a i ∧ h.IsList a vs.toArray) _ ⟨?_, ?_, ?_, ?_, ?_, ?_⟩ ⟨⟨_, Heap.get?_push_size _ rfl, rfl, rfl⟩, hl.push _⟩ fun b o e => Heap.get?_push_of_some _ e)
    · have W := Walks.list (prog := B.prog) (w := B.w) hh s.heap.objs.size a hne vs.toArray
      have hz : vs.toArray.size = ds.length := by rw [List.size_toArray, r.length]
      exact hz ▸ W
    · rintro i h' ⟨⟨o1, h1, _⟩, o2, h2, _⟩ b hb
      simp only [List.mem_cons, List.not_mem_nil, or_false] at hb
      rcases hb with rfl | rfl
      · exact ⟨_, h1⟩
      · exact ⟨_, h2⟩
    · intro i s' target v Q E hs hq
      exact letGo_listiter hs.1 hq
    · intro i v hv g' hs
      obtain ⟨d, h1, h2⟩ := r.getV (k := i) (v := v) (by simpa using hv)
      exact ⟨d, h1, h2.mono hs⟩
    · intro b hb
      simp only [List.mem_cons, List.not_mem_nil, or_false] at hb
      rcases hb with rfl | rfl
      · exact .inr fresh_none
      · exact .inl (by rw [e]; exact Option.some_ne_none _)
    · intro b hb
      rw [List.mem_singleton.mp hb]
      exact fresh_none

theorem Itr_tup {ds : List D} (hh : A.handled = none) : Itr B A μ (.tup ds) ds := by
  constructor
  intro s g v V i Q E k
  cases i with
  | @tup a vs _ e r =>
    have hl : IsTup s.heap a vs.toArray := ⟨_, V.sub _ _ e, rfl, 0, rfl⟩
    have hne : a ≠ s.heap.objs.size := Nat.ne_of_lt (Heap.lt_size (V.sub _ _ e))
    refine iter_tuple hl (k s.heap.objs.size [s.heap.objs.size, a] [s.heap.objs.size] (fun i v => vs.toArray[i]? = some v) (fun i h => h.IsTupleIter s.heap.objs.size a i ∧ h.IsTuple a vs.toArray) _ ⟨?_, ?_, ?_, ?_, ?_, ?_⟩ ⟨⟨_, Heap.get?_push_size _ rfl, rfl, rfl⟩, hl.push _⟩ fun b o e => Heap.get?_push_of_some _ e)
    · have W := Walks.tuple (prog := B.prog) (w := B.w) hh s.heap.objs.size a hne vs.toArray
      have hz : vs.toArray.size = ds.length := by rw [List.size_toArray, r.length]
      exact hz ▸ W
    · rintro i h' ⟨⟨o1, h1, _⟩, o2, h2, _⟩ b hb
      simp only [List.mem_cons, List.not_mem_nil, or_false] at hb
      rcases hb with rfl | rfl
      · exact ⟨_, h1⟩
      · exact ⟨_, h2⟩
    · intro i s' target v Q E hs hq
      exact letGo_tupleiter hs.1 hq
    · intro i v hv g' hs
      obtain ⟨d, h1, h2⟩ := r.getV (k := i) (v := v) (by simpa using hv)
      exact ⟨d, h1, h2.mono hs⟩
    · intro b hb
      simp only [List.mem_cons, List.not_mem_nil, or_false] at hb
      rcases hb with rfl | rfl
      · exact .inr fresh_none
      · exact .inl (by rw [e]; exact Option.some_ne_none _)
    · intro b hb
      rw [List.mem_singleton.mp hb]
      exact fresh_none

abbrev rngD (n : Nat) : List D := (List.range n).map fun (i : Nat) => D.int (i : Int)

theorem Itr_rng {n : Nat} (hh : A.handled = none) (hn : n ≤ 1000) : Itr B A μ (.rng (n : Int)) (rngD n) := by
  constructor
  intro s g v V i Q E k
  cases i with
  | @rng a _ t u v e =>
    have hsz : Builtin.Range.rangeSize 0 (n : Int) 1 = (n : Int) := by
      rw [rangeSize_one]; split <;> omega
    have hsm : Builtin.Range.small 0 (n : Int) 1 = true := by
      exact small_one (by omega) (by omega) (by omega) (by omega)
    refine wpAny_pyIter_range (V.sub _ _ e) hsm ?_
    rw [hsz]
    refine k s.heap.objs.size [s.heap.objs.size] [s.heap.objs.size] (fun i v => (∃ t, v = .int (0 + i * 1) t) ∧ i < n) (fun i h => IsRangeIter h s.heap.objs.size (0 + (i : Nat) * 1) ((n : Int) - (i : Nat)) 1) _ ⟨?_, ?_, ?_, ?_, ?_, ?_⟩ ?_ fun b o e => Heap.get?_push_of_some _ e
    · have W := Walks.range (prog := B.prog) (w := B.w) hh s.heap.objs.size 0 1 n
      have hl : (rngD n).length = n := by simp [rngD]
      rw [hl]
      exact ⟨W.sub, W.frame, fun i s Q E hi st hQ => W.item i s Q E hi st fun v h' tk p => hQ v h' tk ⟨p, hi⟩, W.done, W.self⟩
    · intro i h' hs b hb
      rw [List.mem_singleton.mp hb]; exact ⟨_, hs⟩
    · intro i s' target v Q E hs hq
      exact letGo_rangeiter hs hq
    · rintro i v ⟨⟨t, rfl⟩, hi⟩ g' hs
      refine ⟨.int i, ?_, ?_⟩
      · simp [rngD, hi]
      · have : (0 + (i : Int) * 1) = (i : Int) := by omega
        rw [this]; exact .int _ _
    · intro b hb
      rw [List.mem_singleton.mp hb]; exact .inr fresh_none
    · intro b hb
      rw [List.mem_singleton.mp hb]; exact fresh_none
    · show IsRangeIter _ _ _ _ _
      simpa using Heap.get?_push_size _ rfl
end

section
variable {B : Base} {A : Around} {env : Env} {ρ : Rho} {μ : Mu}

/-- some objects that no one sees have changed -/
theorem St.but {h₀ : Heap} {h h' : Heap} {g : View} {wr : List Addr} (S : St h₀ env h g ρ μ) (hw : ∀ b ∈ wr, ¬ Off env b ∧ μ b = none ∧ g b = none) (hk : ∀ b o, b ∉ wr → h.get? b = some o → h'.get? b = some o) : St h₀ env h' g ρ μ := by
  obtain ⟨m, hn, hm⟩ := S.ns
  refine ⟨⟨S.vw.base, fun b o e => hk b o (fun q => ?_) (S.vw.sub b o e), fun a ds e => ?_⟩, ⟨m, hn.at' fun o e => hk _ o (fun q => (hw _ q).1 (.inl rfl)) e, hm⟩, fun x c hc => ?_, S.offC, S.offL, S.apart⟩
  · rw [(hw b q).2.2] at e; cases e
  · obtain ⟨e1, vs, n, e2, e3⟩ := S.vw.mu a ds e
    exact ⟨e1, vs, n, hk a _ (fun q => by rw [(hw a q).2.1] at e; cases e) e2, e3⟩
  · obtain ⟨ov, ⟨o, ho, hd⟩, h2⟩ := S.cl x c hc
    exact ⟨ov, ⟨o, hk c o (fun q => (hw c q).1 (.inr ⟨x, hc⟩)) ho, hd⟩, h2⟩

/-- fewer names -/
theorem St.less {h₀ : Heap} {h : Heap} {g : View} {ρ' : Rho} (S : St h₀ env h g ρ μ) (hs : ∀ x d, ρ' x = some d → ρ x = some d) : St h₀ env h g ρ' μ := by
  obtain ⟨m, hn, hm⟩ := S.ns
  exact ⟨S.vw, ⟨m, hn, fun x d hx hd => hm x d hx (hs x d hd)⟩, fun x c hc => let ⟨ov, h1, h2⟩ := S.cl x c hc; ⟨ov, h1, fun d hk hd => h2 d hk (hs x d hd)⟩, S.offC, S.offL, S.apart⟩

theorem for_core {I : Addr} {fp wr : List Addr} {ds : List D} {P : Nat → Value → Prop} {Stt : Nat → Heap → Prop} {target : Expr} {body : List Stmt} {R : Result → Shared → Prop} {s : Shared} {g g₀ : View} {h₀ : Heap} {Ψ : Fl → Rho → Mu → Prop}
    (T : ItrAt B A g h₀ I ds fp wr P Stt) (J : Nat → Rho → Mu → Prop) (hgg : Sub g g₀)
    (S : St B.h₀ env s.heap g₀ ρ μ) (hst : Stt 0 s.heap) (hfp : ∀ b ∈ fp, ¬ Off env b ∧ μ b = none) (hwr : ∀ b ∈ wr, g₀ b = none) (hJ : J 0 ρ μ)
    (turn : ∀ i d ρ μ, ds[i]? = some d → J i ρ μ → Asg B A env target d ρ μ fun ρ₁ μ₁ => Ex B A env body ρ₁ μ₁ fun fl ρ₂ μ₂ => match fl with | .next => J (i + 1) ρ₂ μ₂ | .ret d => Ψ (.ret d) ρ₂ μ₂)
    (done : ∀ ρ μ, J ds.length ρ μ → Ψ .next ρ μ)
    (hR : ∀ f fl ρ' μ' g' h' tk', FlIn g' f fl → Ψ fl ρ' μ' → St B.h₀ env h' g' ρ' μ' → Gr (fun b => Off env b ∨ b ∈ wr) μ s.heap g₀ h' g' μ' → R (.ok f) { s with heap := h', toks := tk' }) :
    codeAny B.M A (.forLoop target (.ref I) body [] env) R s := by
  refine codeAny_forLoop_any (fun k s' => ∃ i ρ' μ' g' h' tk', s' = { s with heap := h', toks := tk' } ∧ k = ds.length + 1 - i ∧ i ≤ ds.length ∧ J i ρ' μ' ∧ St B.h₀ env h' g' ρ' μ' ∧ Stt i h' ∧
      (∀ b ∈ fp, ¬ Off env b ∧ μ' b = none) ∧ (∀ b ∈ wr, g' b = none) ∧ Gr (fun b => Off env b ∨ b ∈ wr) μ s.heap g₀ h' g' μ') ?_ (ds.length + 1)
    ⟨0, ρ, μ, g₀, s.heap, s.toks, rfl, rfl, Nat.zero_le _, hJ, S, hst, hfp, hwr, Gr.refl ..⟩
  rintro k s' ⟨i, ρ', μ', g', h', tk', rfl, rfl, hi, hJ', S', hst', hfp', hwr', G'⟩
  have hw : ∀ b ∈ wr, ¬ Off env b ∧ μ' b = none ∧ g' b = none := fun b hb => ⟨(hfp' b (T.W.sub b hb)).1, (hfp' b (T.W.sub b hb)).2, hwr' b hb⟩
  by_cases hlt : i < ds.length
  · refine T.W.item i _ _ _ hlt hst' fun v h₁ tk₁ hP hst₁ hk₁ => ?_
    have S₁ := S'.but hw hk₁
    have G₁ : Gr (fun b => Off env b ∨ b ∈ wr) μ s.heap g₀ h₁ g' μ' := G'.trans (Gr.ext fun b o hb _ e => hk₁ b o (fun q => hb (.inr q)) e)
    refine T.go (i + 1) _ target v _ _ hst₁ ?_
    obtain ⟨d, hd, hin⟩ := T.item i v hP g' (fun b o e => G'.sub b o (hgg b o e))
    refine (turn i d ρ' μ' hd hJ').run _ g' v S₁ hin _ _ fun ρ₂ μ₂ g₂ h₂ tk₂ p₂ S₂ G₂ => ?_
    refine p₂.run _ g₂ S₂ _ _ fun f fl ρ₃ μ₃ g₃ h₃ tk₃ i₃ p₃ S₃ G₃ => ?_
    have G₂₃ := G₂.trans G₃
    have G₄ : Gr (fun b => Off env b ∨ b ∈ wr) μ s.heap g₀ h₃ g₃ μ₃ := G₁.trans (G₂₃.off fun b q => .inl q)
    cases i₃ with
    | ret i₃ => exact hR _ _ ρ₃ μ₃ g₃ h₃ tk₃ (.ret i₃) p₃ S₃ G₄
    | next =>
      refine ⟨ds.length + 1 - (i + 1), by omega, i + 1, ρ₃, μ₃, g₃, h₃, tk₃, rfl, rfl, hlt, p₃, S₃, ?_, ?_, ?_, G₄⟩
      · exact T.W.frame _ _ _ hst₁ fun b hb o e => G₂₃.keep b o (hfp' b hb).1 (hfp' b hb).2 e
      · intro b hb
        refine ⟨(hfp' b hb).1, ?_⟩
        cases q : μ₃ b with
        | none => rfl
        | some x =>
          obtain ⟨o, ho⟩ := T.alive _ _ hst₁ b hb
          rcases G₂₃.newM b (by rw [q]; exact Option.some_ne_none _) with r | r | r
          · exact absurd (hfp' b hb).2 r
          · rw [ho] at r; cases r
          · exact absurd r (hfp' b hb).1
      · intro b hb
        cases q : g₃ b with
        | none => rfl
        | some x =>
          obtain ⟨o, ho⟩ := T.alive _ _ hst₁ b (T.W.sub b hb)
          rcases G₂₃.newG b (by rw [q]; exact Option.some_ne_none _) with r | r | r | r
          · exact absurd (hwr' b hb) r
          · exact absurd (hw b hb).2.1 r
          · rw [ho] at r; cases r
          · exact absurd r (hw b hb).1
  · have hin : i = ds.length := by omega
    subst hin
    refine T.W.done _ _ _ hst' fun h₁ tk₁ hk₁ => wpAny_execs_nil ?_
    exact hR _ _ ρ' μ' g' h₁ tk₁ .next (done _ _ hJ') (S'.but hw hk₁) (G'.trans (Gr.ext fun b o hb _ e => hk₁ b o (fun q => hb (.inr q)) e))

theorem St.alive {h₀ : Heap} {h : Heap} {g : View} (S : St h₀ env h g ρ μ) {b : Addr} (hb : Off env b) : ∃ o, h.get? b = some o := by
  rcases hb with rfl | ⟨x, hx⟩
  · obtain ⟨m, ⟨o, _, _, ho, _⟩, _⟩ := S.ns; exact ⟨o, ho⟩
  · obtain ⟨ov, ⟨o, ho, _⟩, _⟩ := S.cl x b hx; exact ⟨o, ho⟩
theorem St.offG {h₀ : Heap} {h : Heap} {g : View} (S : St h₀ env h g ρ μ) {b : Addr} (hb : Off env b) : g b = none ∧ μ b = none := by
  rcases hb with rfl | ⟨x, hx⟩
  · exact S.offL
  · exact ⟨(S.offC x b hx).1, (S.offC x b hx).2.1⟩
theorem Vw.muAlive {h₀ : Heap} {h : Heap} {g : View} (V : Vw h₀ h g μ) {b : Addr} (hb : h.get? b = none) : μ b = none := by
  cases q : μ b with
  | none => rfl
  | some ds => obtain ⟨_, _, _, e, _⟩ := V.mu _ _ q; rw [hb] at e; cases e
theorem Vw.gAlive {h₀ : Heap} {h : Heap} {g : View} (V : Vw h₀ h g μ) {b : Addr} (hb : h.get? b = none) : g b = none := by
  cases q : g b with
  | none => rfl
  | some ds => rw [V.sub _ _ q] at hb; cases hb

theorem Gr.wr {off : Addr → Prop} {wr : List Addr} {μ μ' : Mu} {h₁ h₂ h' : Heap} {g g' : View} (G : Gr (fun b => off b ∨ b ∈ wr) μ h₂ g h' g' μ') (hk : ∀ b o, h₁.get? b = some o → h₂.get? b = some o) (hw : ∀ b ∈ wr, h₁.get? b = none) :
    Gr off μ h₁ g h' g' μ' := by
  have nn : ∀ b, h₂.get? b = none → h₁.get? b = none := fun b q => by
    cases e : h₁.get? b with
    | none => rfl
    | some o => rw [hk b o e] at q; cases q
  refine ⟨G.sub, fun b o hb hm e => G.keep b o (fun q => ?_) hm (hk b o e), fun b hb => ?_, fun b hb => ?_⟩
  · rcases q with q | q
    · exact hb q
    · rw [hw b q] at e; cases e
  · rcases G.newM b hb with q | q | q | q
    · exact .inl q
    · exact .inr (.inl (nn b q))
    · exact .inr (.inr q)
    · exact .inr (.inl (hw b q))
  · rcases G.newG b hb with q | q | q | q | q
    · exact .inl q
    · exact .inr (.inl q)
    · exact .inr (.inr (.inl (nn b q)))
    · exact .inr (.inr (.inr q))
    · exact .inr (.inr (.inl (hw b q)))

theorem Ex1_for {target iter : Expr} {body : List Stmt} {pos : Pos} {Ψ : Fl → Rho → Mu → Prop} (J : List D → Nat → Rho → Mu → Prop)
    (h : Ev B A env iter ρ μ fun d μ₁ => ∃ ds, Itr B A μ₁ d ds ∧ J ds 0 ρ μ₁ ∧
      (∀ i d ρ μ, ds[i]? = some d → J ds i ρ μ → Asg B A env target d ρ μ fun ρ₁ μ₁ => Ex B A env body ρ₁ μ₁ fun fl ρ₂ μ₂ => match fl with | .next => J ds (i + 1) ρ₂ μ₂ | .ret d => Ψ (.ret d) ρ₂ μ₂) ∧
      (∀ ρ μ, J ds ds.length ρ μ → Ψ .next ρ μ))
    (hs : ∀ x, foldedSetIterable iter env x = pure x := by intro _; rfl) : Ex1 B A env (.For target iter body [] pos) ρ μ Ψ := by
  constructor
  intro s g S Q E k
  refine wpAny_For (h.run s g S _ E fun v d μ₁ g₁ h₁ tk₁ i₁ p₁ V₁ G₁ => ?_) hs
  obtain ⟨ds, hI, hJ, turn, done⟩ := p₁
  have S₁ := S.grow G₁ V₁
  refine hI.run _ g₁ v V₁ i₁ _ E fun I fp wr P Stt h₂ T hst hk => ?_
  have hfp : ∀ b ∈ fp, ¬ Off env b ∧ μ₁ b = none := fun b hb => by
    rcases T.fpOk b hb with q | q
    · refine ⟨fun o => q (S₁.offG o).1, ?_⟩
      cases r : μ₁ b with
      | none => rfl
      | some ds => exact absurd (V₁.mu b ds r).1 q
    · exact ⟨fun o => (by obtain ⟨x, hx⟩ := S₁.alive o; rw [q] at hx; cases hx), V₁.muAlive q⟩
  refine for_core (R := fun r s' => match r with | .ok f => Q f s' | .error e => cameBackBy B.M A env E e s') T (J ds) (fun _ _ e => e) (S₁.ext hk) hst hfp (fun b hb => V₁.gAlive (T.wrOk b hb)) hJ turn done ?_
  intro f fl ρ' μ' g' h' tk' i' p' S' G'
  exact k f fl ρ' μ' g' h' tk' i' p' S' (G₁.any.trans (G'.wr hk T.wrOk))
end

/-- the conditions of a comprehension -/
structure TsL (B : Base) (A : Around) (env : Env) (ifs : List Expr) (ρ : Rho) (μ : Mu) (Φ : Bool → Mu → Prop) : Prop where
  run : ∀ (s : Shared) (g : View), St B.h₀ env s.heap g ρ μ → ∀ (Q : Bool → Shared → Prop) (E : Value → Shared → Prop),
    (∀ b μ' g' h' tk', Φ b μ' → Vw B.h₀ h' g' μ' → Gr noOff μ s.heap g h' g' μ' → Q b { s with heap := h', toks := tk' }) →
    wpAny B.M A (forIn ifs true fun c r => if r = true then do let ok ← isTrue c env (eval c env); pure (ForInStep.yield ok) else pure (ForInStep.yield r)) Q E s

section
variable {B : Base} {A : Around} {env : Env} {ρ : Rho} {μ : Mu}
theorem TsL_nil {Φ : Bool → Mu → Prop} (h : Φ true μ) : TsL B A env [] ρ μ Φ := .mk fun s g S Q E k => wpAny_tests_nil (k _ _ g s.heap s.toks h S.vw (Gr.refl ..))
theorem TsL_one {c : Expr} {Φ : Bool → Mu → Prop} (h : Ts B A env c ρ μ Φ) : TsL B A env [c] ρ μ Φ := .mk fun s g S Q E k => wpAny_tests_one (h.run s g S Q E k)

theorem compLoop_go {prog : Program} {w : World} {A : Around} {R : Result → Shared → Prop} {s : Shared} {elt target iter : Expr} {ifs : List Expr} {scope : Scope} {pos : Pos} {it acc : Value} {env : Env} (I : Nat → Shared → Prop)
    (turn : ∀ n s, I n s → wpAny (model prog w) A (pyNext it) (fun r s₁ => match r with
      | none => R (.ok .next) s₁
      | some v => wpAny (model prog w) A (letOwnedTupleGo target it v) (fun _ s₁' => wpAny (model prog w) A (assign target env v) (fun _ s₂ =>
          wpAny (model prog w) A (forIn ifs true fun c r => if r = true then do let ok ← isTrue c env (eval c env); pure (ForInStep.yield ok) else pure (ForInStep.yield r)) (fun ok s₃ =>
            if ok = true then wpAny (model prog w) A (eval elt env) (fun x s₄ =>
              wpAny (model prog w) A (call (.builtin "list.append") [acc, x]) (fun _ s₅ => ∃ m, m < n ∧ I m s₅) (notedBy (model prog w) A env fun e s' => R (.error e) s') s₄) (notedBy (model prog w) A env fun e s' => R (.error e) s') s₃
            else ∃ m, m < n ∧ I m s₃) (notedBy (model prog w) A env fun e s' => R (.error e) s') s₂) (notedBy (model prog w) A env fun e s' => R (.error e) s') s₁') (notedBy (model prog w) A env fun e s' => R (.error e) s') s₁) (notedBy (model prog w) A env fun e s' => R (.error e) s') s)
    (n : Nat) (h : I n s) :
    codeAny (model prog w) A (.compLoop (.ListComp elt [⟨target, iter, ifs, 0⟩] scope pos) 0 it acc env) R s := by
  refine codeAny_loop rfl I (fun n s hI => ?_) n h
  show wpAny _ A ((compTurn (.ListComp elt [⟨target, iter, ifs, 0⟩] scope pos) 0 it acc env).onRaise (fun x => do noteFrame x env; theTreesLotGoes x)) _ _ s
  refine wpAny_noted ?_
  rw [compTurn_list]
  refine wpAny_bind (wpAny_standAt (wpAny_bind (wpAny_mono (turn n s hI) (fun r s₁ h₁ => ?_) fun _ _ h' => h')))
  cases r with
  | none => exact wpAny_pure h₁
  | some v =>
    refine wpAny_bind (wpAny_mono h₁ (fun _ s₁' h₁' => ?_) fun _ _ h' => h')
    refine wpAny_bind (wpAny_mono h₁' (fun _ s₂ h₂ => wpAny_bind (wpAny_mono h₂ (fun ok s₃ h₃ => ?_) fun _ _ h' => h')) fun _ _ h' => h')
    cases ok with
    | false => exact wpAny_pure ⟨rfl, h₃⟩
    | true =>
      exact wpAny_bind (wpAny_bind (wpAny_mono h₃ (fun x s₄ h₄ => wpAny_bind (wpAny_mono h₄ (fun _ s₅ h₅ => wpAny_pure (wpAny_pure ⟨rfl, h₅⟩)) fun _ _ h' => h')) fun _ _ h' => h'))

/-- the closure of a comprehension's scope -/
noncomputable def closL (env : Env) : List (Str × NameKind) → List (Str × Addr) → List (Str × Addr)
  | [], acc => acc
  | (n, k) :: r, acc => if k == .free then closL env r ((n, (env.cells.lookup n).getD 0) :: acc) else closL env r acc
noncomputable abbrev clos (scope : Scope) (env : Env) : List (Str × Addr) := closL env scope.names []

noncomputable def freeOk (scope : Scope) (env : Env) : Bool := scope.names.all fun x => x.2 != .free || (env.kindOf x.1 == some .cell && (env.cells.lookup x.1).isSome)
def locOk (scope : Scope) : Bool := scope.names.all fun x => x.2 != .local || scope.names.lookup x.1 == some .local
def noCell (scope : Scope) : Bool := scope.names.all fun x => x.2 != .cell
noncomputable def relOk (scope : Scope) (env : Env) : Bool := (clos scope env).all fun p => (relabel scope env).names.lookup p.1 == some .cell

theorem cellOf_at {x : Str} {c : Addr} (h : env.cells.lookup x = some c) : cellOf env x = pure c := by
  delta cellOf; rw [h]

theorem closureFor_eq {scope : Scope} (h : freeOk scope env = true) : closureFor scope env = pure (clos scope env) := by
  have all : ∀ (l : List (Str × NameKind)) (acc : List (Str × Addr)), (∀ x ∈ l, x.2 = .free → (env.cells.lookup x.1).isSome = true) →
      (forIn l acc fun x cs => (if x.2 == .free then do let c ← cellOf env x.1; pure (ForInStep.yield ((x.1, c) :: cs)) else pure (ForInStep.yield cs) : Sem (ForInStep (List (Str × Addr))))) = pure (closL env l acc) := by
    intro l
    induction l with
    | nil => intro acc _; rfl
    | cons x r ih =>
      intro acc hx
      obtain ⟨n, k⟩ := x
      rw [List.forIn_cons]
      by_cases hk : k = .free
      · subst hk
        have hc := hx (n, .free) List.mem_cons_self rfl
        obtain ⟨c, hc'⟩ := Option.isSome_iff_exists.mp hc
        have hf : (do let c ← cellOf env n; pure (ForInStep.yield ((n, c) :: acc)) : Sem (ForInStep (List (Str × Addr)))) = pure (ForInStep.yield ((n, c) :: acc)) := by rw [cellOf_at hc', pure_bind]
        have hl : closL env ((n, .free) :: r) acc = closL env r ((n, c) :: acc) := by
          show closL env r ((n, (env.cells.lookup n).getD 0) :: acc) = _
          rw [hc', Option.getD_some]
        rw [hl]
        exact (congrArg (fun t => Bind.bind t _) hf).trans ((pure_bind _ _).trans (ih _ fun y hy => hx y (List.mem_cons_of_mem _ hy)))
      · have hb : (k == NameKind.free) = false := by simpa using hk
        have hf : (if (k == NameKind.free) = true then do let c ← cellOf env n; pure (ForInStep.yield ((n, c) :: acc)) else pure (ForInStep.yield acc) : Sem (ForInStep (List (Str × Addr)))) = pure (ForInStep.yield acc) := by rw [hb, if_neg (by decide)]
        have hl : closL env ((n, k) :: r) acc = closL env r acc := by
          rw [closL, hb, if_neg (by decide)]
        rw [hl]
        exact (congrArg (fun t => Bind.bind t _) hf).trans ((pure_bind _ _).trans (ih _ fun y hy => hx y (List.mem_cons_of_mem _ hy)))
  have hx : ∀ x ∈ scope.names, x.2 = .free → (env.cells.lookup x.1).isSome = true := fun x hx hf => by
    have := List.all_eq_true.mp h x hx
    rw [hf] at this
    simp at this
    simpa using this.2
  have e := all scope.names [] hx
  unfold closureFor
  dsimp only
  simp only [bind_pure]
  exact e

theorem closL_mem {x : Str} {c : Addr} : ∀ {l : List (Str × NameKind)} {acc : List (Str × Addr)}, (x, c) ∈ closL env l acc → (x, c) ∈ acc ∨ ((x, NameKind.free) ∈ l ∧ c = (env.cells.lookup x).getD 0)
  | [], acc, h => .inl h
  | (n, k) :: r, acc, h => by
    unfold closL at h
    by_cases hk : k = .free
    · subst hk
      simp only [beq_self_eq_true, if_true] at h
      rcases closL_mem h with h | h
      · rcases List.mem_cons.mp h with h | h
        · obtain ⟨rfl, rfl⟩ := Prod.mk.inj h
          exact .inr ⟨List.mem_cons_self, rfl⟩
        · exact .inl h
      · exact .inr ⟨List.mem_cons_of_mem _ h.1, h.2⟩
    · have hb : (k == NameKind.free) = false := by simpa using hk
      simp only [hb, Bool.false_eq_true, if_false] at h
      rcases closL_mem h with h | h
      · exact .inl h
      · exact .inr ⟨List.mem_cons_of_mem _ h.1, h.2⟩
theorem clos_at {scope : Scope} (h : freeOk scope env = true) {x : Str} {c : Addr} (hc : (clos scope env).lookup x = some c) : env.cells.lookup x = some c ∧ env.kindOf x = some .cell := by
  rcases closL_mem (mem_of_lookup hc) with q | ⟨q, e⟩
  · cases q
  · have h1 := List.all_eq_true.mp h _ q
    simp only [bne_self_eq_false, Bool.false_or, Bool.and_eq_true, beq_iff_eq] at h1
    obtain ⟨c', hc'⟩ := Option.isSome_iff_exists.mp h1.2
    rw [hc'] at e
    exact ⟨e ▸ hc', h1.1⟩

/-- what a comprehension knows of the names around it -/
noncomputable def capR (scope : Scope) (env : Env) (ρ : Rho) : Rho := fun y => if ((clos scope env).lookup y).isSome then ρ y else none
theorem capR_at {scope : Scope} {x : Str} {d : D} (hx : ρ x = some d) (h : ((clos scope env).lookup x).isSome = true := by rfl) : capR scope env ρ x = some d := by
  unfold capR; rw [if_pos h]; exact hx
theorem capR_none {scope : Scope} {x : Str} (h : ((clos scope env).lookup x).isSome = false := by rfl) : capR scope env ρ x = none := by
  unfold capR; rw [h]; rfl
theorem capR_sub {scope : Scope} {x : Str} {d : D} (h : capR scope env ρ x = some d) : ρ x = some d ∧ ∃ c, (clos scope env).lookup x = some c := by
  unfold capR at h
  split at h
  · rename_i q; exact ⟨h, Option.isSome_iff_exists.mp q⟩
  · cases h
theorem sub_up {ρ : Rho} {x : Str} {d : D} (h : ρ x = none) : ∀ y e, ρ y = some e → up ρ x d y = some e := fun y e q => by
  by_cases hy : y = x
  · subst hy; rw [h] at q; cases q
  · simp [up, hy, q]

structure CompOk (scope : Scope) (env : Env) : Prop where
  kind : scope.kind = .function
  free : freeOk scope env = true
  loc : locOk scope = true
  nocell : noCell scope = true
  rel : relOk scope env = true

theorem CompOk.env' {scope : Scope} {C : Addr} (hE : EnvOk env) (hc : CompOk scope env) : EnvOk (compEnvC scope (clos scope env) C env) := ⟨hc.kind, hE.gl, hE.bl⟩

theorem comp_core {elt target iter : Expr} {ifs : List Expr} {scope : Scope} {pos : Pos} {I : Addr} {fp wr : List Addr} {ds : List D} {P : Nat → Value → Prop} {Stt : Nat → Heap → Prop} {s : Shared} {g : View} {hI : Heap}
    {RR : Value → Addr → Result → Shared → Prop} {E : Value → Shared → Prop} (hE : EnvOk env) (hc : CompOk scope env)
    (T : ItrAt B A g hI I ds fp wr P Stt) (hds : ds.length ≤ 1000) (J : Nat → List D → Mu → Prop) (hk : ∀ b o, hI.get? b = some o → s.heap.get? b = some o)
    (S : St B.h₀ env s.heap g ρ μ) (hst : Stt 0 s.heap) (hfp : ∀ b ∈ fp, ¬ Off env b ∧ μ b = none) (hwr : ∀ b ∈ wr, g b = none) (hJ : J 0 [] μ)
    (turn : ∀ C i d acc μ', ds[i]? = some d → J i acc μ' → AsgL B A (compEnvC scope (clos scope env) C env) target d (capR scope env ρ) μ' fun ρ₁ μ₁ =>
      (∀ y e, capR scope env ρ y = some e → ρ₁ y = some e) ∧
      TsL B A (compEnvC scope (clos scope env) C env) ifs ρ₁ μ₁ fun b μ₂ => if b then Ev B A (compEnvC scope (clos scope env) C env) elt ρ₁ μ₂ fun e μ₃ => J (i + 1) (acc ++ [e]) μ₃ else J (i + 1) acc μ₂)
    (hR : ∀ Dl C acc ys n m' μ' g' h' tk', J ds.length acc μ' → All g' ys acc → h'.get? Dl = some (lstO ys n) → g' Dl = none → μ' Dl = none → s.heap.get? Dl = none → s.heap.get? C = none → C ≠ Dl → h'.Ns C m' → g' C = none → μ' C = none →
      Vw B.h₀ h' g' μ' → Gr (fun b => b ∈ wr) μ s.heap g h' g' μ' → RR (.ref Dl) C (.ok .next) { s with heap := h', toks := tk' }) :
    wpAny B.M A (newList []) (fun acc s₃ => wpAny B.M A (newFunctionEnv scope env.globals (clos scope env) [] env.qual none .none (some env)) (fun cenv s₄ =>
      codeAny B.M A (.compStart (.ListComp elt [⟨target, iter, ifs, 0⟩] scope pos) 0 (.ref I) acc { cenv with scope := relabel scope env }) (RR acc cenv.locals) s₄) E s₃) E s := by
  have hcell : ∀ y ∈ scope.names, y.2 ≠ .cell := fun y hy => by have := List.all_eq_true.mp hc.nocell y hy; simpa using this
  refine wpAny_newObj_type (wpAny_newFunctionEnv hcell (by intro y hy; simp at hy) (fun h₁ hns₁ hsb₁ => ?_) hc.kind)
  dsimp only at hns₁ hsb₁ ⊢
  generalize hDl : s.heap.objs.size = Dl at hns₁ hsb₁ ⊢
  generalize hH2 : s.heap.push { cls := .type "list", dict := none, data := .seq ([] : List Value).toArray } = H2 at hns₁ hsb₁ ⊢
  have hC : H2.objs.size = Dl + 1 := by rw [← hH2, Heap.size_push, hDl]
  generalize hCC : H2.objs.size = C at hns₁ hsb₁ hC ⊢
  have hCD : C ≠ Dl := by rw [hC]; exact Nat.ne_of_gt (Nat.lt_succ_self _)
  have below : ∀ b o, s.heap.get? b = some o → b ≠ C ∧ b ≠ Dl := fun b o e => by
    have := Heap.lt_size e
    rw [hDl] at this
    exact ⟨by rw [hC]; exact Nat.ne_of_lt (Nat.lt_succ_of_lt this), Nat.ne_of_lt this⟩
  have old : ∀ b o, s.heap.get? b = some o → h₁.get? b = some o := fun b o e => hsb₁.extBut b o (below b o e).1 (Heap.get?_push_of_some _ (hH2 ▸ Heap.get?_push_of_some _ e))
  have hacc : h₁.get? Dl = some (lstO [] 0) := hsb₁.extBut _ _ (Ne.symm hCD) (Heap.get?_push_of_some _ (by rw [← hH2, ← hDl]; exact Heap.get?_push_size _ rfl))
  have freshC : s.heap.get? C = none := by
    cases q : s.heap.get? C with
    | none => rfl
    | some o => exact absurd rfl (below C o q).1
  have freshD : s.heap.get? Dl = none := by
    cases q : s.heap.get? Dl with
    | none => rfl
    | some o => exact absurd rfl (below Dl o q).2
  have gC := S.vw.gAlive freshC
  have mC := S.vw.muAlive freshC
  have gD := S.vw.gAlive freshD
  have mD := S.vw.muAlive freshD
  have fpA : ∀ b ∈ fp, b ≠ C ∧ b ≠ Dl := fun b hb => by obtain ⟨o, ho⟩ := T.alive 0 _ hst b hb; exact below b o ho
  have cells : ∀ x c, (clos scope env).lookup x = some c → c ≠ C ∧ c ≠ Dl ∧ g c = none ∧ μ c = none ∧ (c ∉ fp) := fun x c hx => by
    obtain ⟨e1, e2⟩ := clos_at hc.free hx
    obtain ⟨ov, ⟨o, ho, _⟩, _⟩ := S.cl x c e1
    obtain ⟨a1, a2, a3⟩ := S.offC x c e1
    refine ⟨(below c o ho).1, (below c o ho).2, a1, a2, fun hm => ?_⟩
    exact (hfp c hm).1 (.inr ⟨x, e1⟩)
  have S₁ : St B.h₀ (compEnvC scope (clos scope env) C env) h₁ g (capR scope env ρ) μ := by
    refine ⟨⟨S.vw.base, fun b o e => old b o (S.vw.sub b o e), fun a ds e => let ⟨e1, vs, n, e2, e3⟩ := S.vw.mu a ds e; ⟨e1, vs, n, old _ _ e2, e3⟩⟩, ⟨_, hns₁, fun x d hx hd => ?_⟩, fun x c hx => ?_, fun x c hx => ⟨(cells x c hx).2.2.1, (cells x c hx).2.2.2.1, (cells x c hx).1⟩, ⟨gC, mC⟩, fun x y c h1 h2 => S.apart x y c (clos_at hc.free h1).1 (clos_at hc.free h2).1⟩
    · exfalso
      obtain ⟨_, c, h2⟩ := capR_sub hd
      have h3 := List.all_eq_true.mp hc.rel _ (mem_of_lookup h2)
      have h4 : (relabel scope env).names.lookup x = some .cell := by simpa using h3
      have h5 : (relabel scope env).names.lookup x = some .local := hx
      rw [h4] at h5; cases h5
    · obtain ⟨e1, e2⟩ := clos_at hc.free hx
      obtain ⟨ov, ⟨o, ho, hd'⟩, h2⟩ := S.cl x c e1
      exact ⟨ov, ⟨o, old _ _ ho, hd'⟩, fun d _ hd => h2 d e2 (capR_sub hd).1⟩
  have offC : ∀ b, Off (compEnvC scope (clos scope env) C env) b → b = C ∨ ∃ x, (clos scope env).lookup x = some b := fun b hb => hb
  have loop : ∀ tk₀, codeAny B.M A (.compLoop (.ListComp elt [⟨target, iter, ifs, 0⟩] scope pos) 0 (.ref I) (.ref Dl) (compEnvC scope (clos scope env) C env)) (RR (.ref Dl) C) { s with heap := h₁, toks := tk₀ } := by
    intro tk₀
    refine compLoop_go (fun k s' => ∃ i acc ys n μ' g' h' tk', s' = { s with heap := h', toks := tk' } ∧ k = ds.length + 1 - i ∧ i ≤ ds.length ∧ acc.length ≤ i ∧ J i acc μ' ∧ All g' ys acc ∧ h'.get? Dl = some (lstO ys n) ∧ g' Dl = none ∧ μ' Dl = none ∧
        St B.h₀ (compEnvC scope (clos scope env) C env) h' g' (capR scope env ρ) μ' ∧ Stt i h' ∧ (∀ b ∈ fp, μ' b = none) ∧ (∀ b ∈ wr, g' b = none) ∧
        Gr (fun b => b = C ∨ b = Dl ∨ b ∈ wr) μ h₁ g h' g' μ') ?_ (ds.length + 1)
      ⟨0, [], [], 0, μ, g, h₁, tk₀, rfl, rfl, Nat.zero_le _, Nat.le_refl _, hJ, .nil, hacc, gD, mD, S₁, T.W.frame _ _ _ hst fun b _ o e => old b o e, fun b hb => (hfp b hb).2, hwr, Gr.refl ..⟩
    rintro k s' ⟨i, acc, ys, n, μ', g', h', tk', rfl, rfl, hi, hal, hJ', hA, hD', gD', mD', S', hst', hfp', hwr', G'⟩
    have offN : ∀ b ∈ fp, ¬ Off (compEnvC scope (clos scope env) C env) b := fun b hb ho => by
      rcases offC b ho with q | ⟨x, q⟩
      · exact (fpA b hb).1 q
      · exact (cells x b q).2.2.2.2 hb
    have hw : ∀ b ∈ wr, ¬ Off (compEnvC scope (clos scope env) C env) b ∧ μ' b = none ∧ g' b = none := fun b hb => ⟨offN b (T.W.sub b hb), hfp' b (T.W.sub b hb), hwr' b hb⟩
    have hDw : Dl ∉ wr := fun hb => (fpA Dl (T.W.sub _ hb)).2 rfl
    have hCw : C ∉ wr := fun hb => (fpA C (T.W.sub _ hb)).1 rfl
    by_cases hlt : i < ds.length
    · refine T.W.item i _ _ _ hlt hst' fun v h₂ tk₂ hP hst₂ hk₂ => ?_
      have S₂ := S'.but hw hk₂
      refine T.go (i + 1) _ target v _ _ hst₂ ?_
      obtain ⟨d, hd, hin⟩ := T.item i v hP g' (fun b o e => G'.sub b o e)
      refine (turn C i d acc μ' hd hJ').run _ g' v S₂ hin _ _ fun ρ₃ μ₃ g₃ h₃ tk₃ p₃ S₃ G₃ => ?_
      refine p₃.2.run _ g₃ S₃ _ _ fun b μ₄ g₄ h₄ tk₄ p₄ V₄ G₄ => ?_
      have hD₂ : h₂.get? Dl = some (lstO ys n) := hk₂ Dl _ hDw hD'
      have hD₃ : h₃.get? Dl = some (lstO ys n) := G₃.keep Dl _ (fun q => hCD q.symm) mD' hD₂
      -- what stays off through a growth
      have fromC : ∀ {μa μb : Mu} {ha hb : Heap} {ga gb : View}, Gr (fun b => b = C) μa ha ga hb gb μb → (∀ b ∈ fp, μa b = none) → (∀ b ∈ wr, ga b = none) → μa Dl = none → ga Dl = none → (∀ b ∈ fp, ∃ o, ha.get? b = some o) → (∃ o, ha.get? Dl = some o) →
          (∀ b ∈ fp, μb b = none) ∧ (∀ b ∈ wr, gb b = none) ∧ μb Dl = none ∧ gb Dl = none := by
        intro μa μb ha hb ga gb G q1 q2 q3 q4 q5 q6
        have mk : ∀ b, b ≠ C → μa b = none → (∃ o, ha.get? b = some o) → μb b = none := fun b n1 n2 ⟨o, n3⟩ => by
          cases q : μb b with
          | none => rfl
          | some x =>
            rcases G.newM b (by rw [q]; exact Option.some_ne_none _) with r | r | r
            · exact absurd n2 r
            · rw [n3] at r; cases r
            · exact absurd r n1
        have gk : ∀ b, b ≠ C → μa b = none → ga b = none → (∃ o, ha.get? b = some o) → gb b = none := fun b n1 n2 n2' ⟨o, n3⟩ => by
          cases q : gb b with
          | none => rfl
          | some x =>
            rcases G.newG b (by rw [q]; exact Option.some_ne_none _) with r | r | r | r
            · exact absurd n2' r
            · exact absurd n2 r
            · rw [n3] at r; cases r
            · exact absurd r n1
        exact ⟨fun b hb => mk b (fpA b hb).1 (q1 b hb) (q5 b hb), fun b hb => gk b (fpA b (T.W.sub b hb)).1 (q1 b (T.W.sub b hb)) (q2 b hb) (q5 b (T.W.sub b hb)), mk Dl (Ne.symm hCD) q3 q6, gk Dl (Ne.symm hCD) q3 q4 q6⟩
      have al₂ : ∀ b ∈ fp, ∃ o, h₂.get? b = some o := T.alive _ _ hst₂
      have G₂₄ : Gr (fun b => b = C) μ' h₂ g' h₄ g₄ μ₄ := G₃.trans G₄.any
      have frame₄ : Stt (i + 1) h₄ := T.W.frame _ _ _ hst₂ fun b hb o e => G₂₄.keep b o (fpA b hb).1 (hfp' b hb) e
      have hD₄ : h₄.get? Dl = some (lstO ys n) := G₂₄.keep Dl _ (Ne.symm hCD) mD' hD₂
      obtain ⟨f1, f2, f3, f4⟩ := fromC G₂₄ hfp' hwr' mD' gD' al₂ ⟨_, hD₂⟩
      have S₄ := S₃.grow G₄ V₄
      have G₀₂ : Gr (fun b => b = C ∨ b = Dl ∨ b ∈ wr) μ h₁ g h₂ g' μ' := G'.trans (Gr.ext fun b o hb _ e => hk₂ b o (fun q => hb (.inr (.inr q))) e)
      have G₀₄ : Gr (fun b => b = C ∨ b = Dl ∨ b ∈ wr) μ h₁ g h₄ g₄ μ₄ := G₀₂.trans (G₂₄.off fun b q => .inl q)
      cases b with
      | false =>
        simp only [Bool.false_eq_true, if_false] at p₄ ⊢
        exact ⟨ds.length + 1 - (i + 1), by omega, i + 1, acc, ys, n, μ₄, g₄, h₄, tk₄, rfl, rfl, hlt, Nat.le_succ_of_le hal, p₄, hA.mono G₂₄.sub, hD₄, f4, f3, S₄.less p₃.1, frame₄, f1, f2, G₀₄⟩
      | true =>
        simp only [if_true] at p₄ ⊢
        refine p₄.run _ g₄ S₄ _ _ fun x e μ₅ g₅ h₅ tk₅ i₅ p₅ V₅ G₅ => ?_
        have hD₅ : h₅.get? Dl = some (lstO ys n) := G₅.keep Dl _ id f3 hD₄
        have al₄ : ∀ b ∈ fp, ∃ o, h₄.get? b = some o := T.alive _ _ frame₄
        obtain ⟨e1, e2, e3, e4⟩ := fromC (G₅.off fun _ q => q.elim) f1 f2 f3 f4 al₄ ⟨_, hD₄⟩
        have S₅ := S₄.grow G₅ V₅
        have hlen : ys.length = acc.length := hA.length
        refine wpAny_list_append_plain (items := ys.toArray) ⟨n, hD₅⟩ (fun h₆ hp₆ hs₆ => ?_) (by rw [List.size_toArray, sizeLine_eq]; omega)
        obtain ⟨n₆, hp₆⟩ := hp₆
        have hp₇ : h₆.get? Dl = some (lstO (ys ++ [x]) n₆) := by rw [hp₆]; simp
        have ex₆ : ∀ b o, b ∉ [Dl] → h₅.get? b = some o → h₆.get? b = some o := fun b o hb e => hs₆.extBut b o (fun q => hb (by simp [q])) e
        have hoD : ¬ Off (compEnvC scope (clos scope env) C env) Dl := fun ho => by
          rcases offC Dl ho with q | ⟨z, q⟩
          · exact hCD q.symm
          · exact (cells z Dl q).2.1 rfl
        have S₆ := S₅.but (wr := [Dl]) (fun b hb => by rw [List.mem_singleton.mp hb]; exact ⟨hoD, e3, e4⟩) ex₆
        refine ⟨ds.length + 1 - (i + 1), by omega, i + 1, acc ++ [e], ys ++ [x], n₆, μ₅, g₅, h₆, tk₅, rfl, rfl, hlt, by rw [List.length_append, List.length_singleton]; omega, p₅, ((hA.mono G₂₄.sub).mono G₅.sub).append (.cons i₅ .nil), hp₇, e4, e3, S₆.less p₃.1, ?_, e1, e2, ?_⟩
        · refine T.W.frame _ _ _ (T.W.frame _ _ _ frame₄ fun b hb o q => G₅.keep b o id (f1 b hb) q) fun b hb o q => ex₆ b o (fun r => (fpA b hb).2 (List.mem_singleton.mp r)) q
        · refine (G₀₄.trans (G₅.off fun _ q => q.elim)).trans (Gr.ext fun b o hb _ q => ex₆ b o (fun r => hb (.inr (.inl (List.mem_singleton.mp r)))) q)
    · have hin : i = ds.length := by omega
      subst hin
      refine T.W.done _ _ _ hst' fun h₂ tk₂ hk₂ => ?_
      obtain ⟨m', hm', _⟩ := S'.ns
      have S₂ := S'.but hw hk₂
      have gC' := S'.offL
      refine hR Dl C acc ys n m' μ' g' h₂ tk₂ hJ' hA (hk₂ Dl _ hDw hD') gD' mD' freshD freshC hCD (hm'.at' fun o e => hk₂ _ o hCw e) gC'.1 gC'.2 S₂.vw ?_
      have G₂ : Gr (fun b => b = C ∨ b = Dl ∨ b ∈ wr) μ h₁ g h₂ g' μ' := G'.trans (Gr.ext fun b o hb _ e => hk₂ b o (fun q => hb (.inr (.inr q))) e)
      have G₃ := Gr.wr (off := fun b => b ∈ wr) (wr := [C, Dl]) (h₁ := s.heap) (G₂.off fun b q => by
        rcases q with q | q | q
        · exact .inr (by simp [q])
        · exact .inr (by simp [q])
        · exact .inl q) old (fun b hb => by
        simp only [List.mem_cons, List.not_mem_nil, or_false] at hb
        rcases hb with rfl | rfl
        · exact freshC
        · exact freshD)
      exact G₃
  exact codeAny_compStart_list (loop _) (T.W.self 0 _ _ _ (T.W.frame _ _ _ hst fun b _ o e => old b o e) (loop _))
end

section
variable {B : Base} {A : Around} {env : Env} {ρ : Rho} {μ : Mu}

theorem fin_lst {h₀ hI h h' h'' : Heap} {g g' : View} {μ' : Mu} {wr : List Addr} {Dl C : Addr} {ys : List Value} {acc : List D} {n : Nat} (V : Vw h₀ h' g' μ') (hA : All g' ys acc) (hD : h'.get? Dl = some (lstO ys n)) (gD : g' Dl = none) (mD : μ' Dl = none)
    (gC : g' C = none) (mC : μ' C = none) (hCD : C ≠ Dl) (G : Gr (fun b => b ∈ wr) μ h g h' g' μ') (hk : ∀ b o, hI.get? b = some o → h.get? b = some o) (hw : ∀ b ∈ wr, hI.get? b = none) (fD : h.get? Dl = none) (fC : h.get? C = none)
    (hs : Heap.SameBut C h' h'') : ∃ g'', In g'' (.ref Dl) (.lst acc) ∧ Vw h₀ h'' g'' μ' ∧ Gr noOff μ hI g h'' g'' μ' ∧ ∀ b, b ≠ Dl → g'' b = g' b := by
  have hsub : Sub g' (fun b => if b = Dl then some (lstO ys n) else g' b) := fun b o e => by
    by_cases hb : b = Dl
    · subst hb; rw [gD] at e; cases e
    · simp only [hb, if_false]; exact e
  have GI : Gr noOff μ hI g h' g' μ' := Gr.wr (G.off fun b q => .inr q) hk hw
  have fDI : hI.get? Dl = none := by
    cases q : hI.get? Dl with
    | none => rfl
    | some o => rw [hk _ _ q] at fD; cases fD
  have fCI : hI.get? C = none := by
    cases q : hI.get? C with
    | none => rfl
    | some o => rw [hk _ _ q] at fC; cases fC
  refine ⟨fun b => if b = Dl then some (lstO ys n) else g' b, .lst (n := n) (by simp) (hA.mono hsub), ⟨fun b o e => hsub b o (V.base b o e), fun b o e => ?_, fun a ds e => ?_⟩, ⟨fun b o e => hsub b o (GI.sub b o e), fun b o _ hm e => ?_, fun b e => ?_, fun b e => ?_⟩, fun b hb => by simp only [hb, if_false]⟩
  · by_cases hb : b = Dl
    · subst hb; simp at e; subst e; exact hs.extBut _ _ (Ne.symm hCD) hD
    · simp only [hb, if_false] at e
      exact hs.extBut b o (fun q => by subst q; rw [gC] at e; cases e) (V.sub b o e)
  · obtain ⟨e1, ws, k, e2, e3⟩ := V.mu a ds e
    refine ⟨?_, ws, k, hs.extBut a _ (fun q => by subst q; rw [mC] at e; cases e) e2, e3.mono hsub⟩
    by_cases hb : a = Dl
    · subst hb; rw [mD] at e; cases e
    · simp only [hb, if_false]; exact e1
  · exact hs.extBut b o (fun q => by subst q; rw [fCI] at e; cases e) (GI.keep b o id hm e)
  · exact GI.newM b e
  · by_cases hb : b = Dl
    · subst hb; exact .inr (.inr (.inl fDI))
    · simp only [hb, if_false] at e; exact GI.newG b e
theorem fin_cel {h₀ hI h h' h'' : Heap} {g g' : View} {μ' : Mu} {wr : List Addr} {Dl C : Addr} {ys : List Value} {acc : List D} {n : Nat} (V : Vw h₀ h' g' μ') (hA : All g' ys acc) (hD : h'.get? Dl = some (lstO ys n)) (gD : g' Dl = none) (mD : μ' Dl = none)
    (gC : g' C = none) (mC : μ' C = none) (hCD : C ≠ Dl) (G : Gr (fun b => b ∈ wr) μ h g h' g' μ') (hk : ∀ b o, hI.get? b = some o → h.get? b = some o) (hw : ∀ b ∈ wr, hI.get? b = none) (fD : h.get? Dl = none) (fC : h.get? C = none)
    (hs : Heap.SameBut C h' h'') : Vw h₀ h'' g' (upd μ' Dl acc) ∧ Gr noOff μ hI g h'' g' (upd μ' Dl acc) := by
  have GI : Gr noOff μ hI g h' g' μ' := Gr.wr (G.off fun b q => .inr q) hk hw
  have fDI : hI.get? Dl = none := by
    cases q : hI.get? Dl with
    | none => rfl
    | some o => rw [hk _ _ q] at fD; cases fD
  have fCI : hI.get? C = none := by
    cases q : hI.get? C with
    | none => rfl
    | some o => rw [hk _ _ q] at fC; cases fC
  refine ⟨⟨V.base, fun b o e => hs.extBut b o (fun q => by subst q; rw [gC] at e; cases e) (V.sub b o e), fun a ds e => ?_⟩, GI.sub, fun b o _ hm e => ?_, fun b e => ?_, GI.newG⟩
  · by_cases hb : a = Dl
    · subst hb; simp [upd] at e; subst e; exact ⟨gD, ys, n, hs.extBut _ _ (Ne.symm hCD) hD, hA⟩
    · simp only [upd, hb, if_false] at e
      obtain ⟨e1, ws, k, e2, e3⟩ := V.mu a ds e
      exact ⟨e1, ws, k, hs.extBut a _ (fun q => by subst q; rw [mC] at e; cases e) e2, e3⟩
  · exact hs.extBut b o (fun q => by subst q; rw [fCI] at e; cases e) (GI.keep b o id hm e)
  · by_cases hb : b = Dl
    · subst hb; exact .inr (.inl fDI)
    · simp only [upd, hb, if_false] at e; exact GI.newM b e

/-- one turn of a comprehension -/
def Turn (B : Base) (A : Around) (env : Env) (scope : Scope) (ρ : Rho) (elt target : Expr) (ifs : List Expr) (ds : List D) (J : Nat → List D → Mu → Prop) : Prop :=
  ∀ C i d acc μ', EnvOk (compEnvC scope (clos scope env) C env) → ds[i]? = some d → J i acc μ' → AsgL B A (compEnvC scope (clos scope env) C env) target d (capR scope env ρ) μ' fun ρ₁ μ₁ =>
      (∀ y e, capR scope env ρ y = some e → ρ₁ y = some e) ∧
      TsL B A (compEnvC scope (clos scope env) C env) ifs ρ₁ μ₁ fun b μ₂ => if b then Ev B A (compEnvC scope (clos scope env) C env) elt ρ₁ μ₂ fun e μ₃ => J (i + 1) (acc ++ [e]) μ₃ else J (i + 1) acc μ₂

theorem itr_fp {h₀ : Heap} {s₁ : Heap} {g₁ : View} {μ₁ : Mu} {I : Addr} {ds : List D} {fp wr : List Addr} {P : Nat → Value → Prop} {Stt : Nat → Heap → Prop} (S₁ : St h₀ env s₁ g₁ ρ μ₁) (T : ItrAt B A g₁ s₁ I ds fp wr P Stt) : ∀ b ∈ fp, ¬ Off env b ∧ μ₁ b = none := fun b hb => by
  rcases T.fpOk b hb with q | q
  · refine ⟨fun o => q (S₁.offG o).1, ?_⟩
    cases r : μ₁ b with
    | none => rfl
    | some ds => exact absurd (S₁.vw.mu b ds r).1 q
  · exact ⟨fun o => (by obtain ⟨x, hx⟩ := S₁.alive o; rw [q] at hx; cases hx), S₁.vw.muAlive q⟩

theorem Ev_comp {elt target iter : Expr} {ifs : List Expr} {scope : Scope} {pos : Pos} {Φ : D → Mu → Prop} (hE : EnvOk env) (hc : CompOk scope env)
    (h : Ev B A env iter ρ μ fun d μ₁ => ∃ ds, Itr B A μ₁ d ds ∧ ds.length ≤ 1000 ∧ ∃ J, J 0 [] μ₁ ∧ Turn B A env scope ρ elt target ifs ds J ∧ ∀ acc μ', J ds.length acc μ' → Φ (.lst acc) μ')
    (hs : ∀ x, foldedSetIterable iter env x = pure x := by intro _; rfl) : Ev B A env (.ListComp elt [⟨target, iter, ifs, 0⟩] scope pos) ρ μ Φ := by
  constructor
  intro s g S Q E k
  rw [eval_ListComp]
  refine wpAny_comprehension_free (use := none) rfl hs (closureFor_eq hc.free) hc.kind (fun x hx hl => ?_) (h.run s g S _ E fun v d μ₁ g₁ h₁ tk₁ i₁ p₁ V₁ G₁ => ?_)
  · have := List.all_eq_true.mp hc.loc x hx
    rw [hl] at this; simpa using this
  obtain ⟨ds, hI, hds, J, hJ, turn, fin⟩ := p₁
  have S₁ := S.grow G₁ V₁
  refine hI.run _ g₁ v V₁ i₁ _ E fun I fp wr P Stt h₂ T hst hk => ?_
  refine comp_core (RR := fun acc C => compPost B.M A E none Q acc C) hE hc T hds J hk (S₁.ext hk) hst (itr_fp S₁ T) (fun b hb => V₁.gAlive (T.wrOk b hb)) hJ (fun C i d acc μ' => turn C i d acc μ' (hc.env' hE)) ?_
  intro Dl C acc ys n m' μ' g' h' tk' p' hA hD gD mD fD fC hCD hn gC mC V' G'
  refine ⟨m', hn, fun h'' hs'' => ?_⟩
  obtain ⟨g'', a1, a2, a3, _⟩ := fin_lst V' hA hD gD mD gC mC hCD G' hk T.wrOk fD fC hs''
  exact k _ _ μ' g'' h'' tk' a1 (fin _ _ p') a2 (G₁.trans a3)

theorem Ev_compC {elt target iter : Expr} {ifs : List Expr} {scope : Scope} {pos : Pos} {Φ : D → Mu → Prop} (hE : EnvOk env) (hc : CompOk scope env)
    (h : Ev B A env iter ρ μ fun d μ₁ => ∃ ds, Itr B A μ₁ d ds ∧ ds.length ≤ 1000 ∧ ∃ J, J 0 [] μ₁ ∧ Turn B A env scope ρ elt target ifs ds J ∧ ∀ acc μ', J ds.length acc μ' → ∀ a, μ' a = none → Φ (.cel a) (upd μ' a acc))
    (hs : ∀ x, foldedSetIterable iter env x = pure x := by intro _; rfl) : Ev B A env (.ListComp elt [⟨target, iter, ifs, 0⟩] scope pos) ρ μ Φ := by
  constructor
  intro s g S Q E k
  rw [eval_ListComp]
  refine wpAny_comprehension_free (use := none) rfl hs (closureFor_eq hc.free) hc.kind (fun x hx hl => ?_) (h.run s g S _ E fun v d μ₁ g₁ h₁ tk₁ i₁ p₁ V₁ G₁ => ?_)
  · have := List.all_eq_true.mp hc.loc x hx
    rw [hl] at this; simpa using this
  obtain ⟨ds, hI, hds, J, hJ, turn, fin⟩ := p₁
  have S₁ := S.grow G₁ V₁
  refine hI.run _ g₁ v V₁ i₁ _ E fun I fp wr P Stt h₂ T hst hk => ?_
  refine comp_core (RR := fun acc C => compPost B.M A E none Q acc C) hE hc T hds J hk (S₁.ext hk) hst (itr_fp S₁ T) (fun b hb => V₁.gAlive (T.wrOk b hb)) hJ (fun C i d acc μ' => turn C i d acc μ' (hc.env' hE)) ?_
  intro Dl C acc ys n m' μ' g' h' tk' p' hA hD gD mD fD fC hCD hn gC mC V' G'
  refine ⟨m', hn, fun h'' hs'' => ?_⟩
  obtain ⟨a2, a3⟩ := fin_cel V' hA hD gD mD gC mC hCD G' hk T.wrOk fD fC hs''
  exact k _ _ _ g' h'' tk' (.cel _) (fin _ _ p' _ mD) a2 (G₁.trans a3)

/-- x = [.. for ..] where the stores are exchanged -/
theorem Ex1_assignComp {y : Str} {py spos : Pos} {elt target iter : Expr} {ifs : List Expr} {scope : Scope} {pos : Pos} {Ψ : Fl → Rho → Mu → Prop} (hE : EnvOk env) (hc : CompOk scope env)
    (h : Ev B A env iter ρ μ fun d μ₁ => ∃ ds, Itr B A μ₁ d ds ∧ ds.length ≤ 1000 ∧ ∃ J, J 0 [] μ₁ ∧ Turn B A env scope ρ elt target ifs ds J ∧ ∀ acc μ', J ds.length acc μ' → Ψ .next (up ρ y (.lst acc)) μ')
    (hy : env.kindOf y = some .local := by rfl)
    (hsw : swapsWith (.ListComp elt [⟨target, iter, ifs, 0⟩] scope pos) (some (.Name y py)) spos.line env = pure true := by rfl)
    (hs : ∀ x, foldedSetIterable iter env x = pure x := by intro _; rfl) : Ex1 B A env (.Assign [.Name y py] (.ListComp elt [⟨target, iter, ifs, 0⟩] scope pos) spos) ρ μ Ψ := by
  constructor
  intro s g S Q E k
  rw [exec_Assign_Name_used _ _ _ _ hsw]
  refine wpAny_bind (wpAny_standAt (wpAny_bind ?_))
  show wpAny _ A (do let _ ← comprehension (.ListComp elt [⟨target, iter, ifs, 0⟩] scope pos) scope env _ (newList []) false (eval iter env) (some (assign (.Name y py) env))) _ _ s
  refine wpAny_bind (wpAny_mono (wpAny_comprehension_free (use := some (assign (.Name y py) env)) (Q := fun _ s' => Q .next s') rfl hs (closureFor_eq hc.free) hc.kind (fun x hx hl => ?_) (h.run s g S _ E fun v d μ₁ g₁ h₁ tk₁ i₁ p₁ V₁ G₁ => ?_)) (fun _ s' hq => wpAny_pure (wpAny_pure hq)) fun _ _ e => e)
  · have := List.all_eq_true.mp hc.loc x hx
    rw [hl] at this; simpa using this
  obtain ⟨ds, hI, hds, J, hJ, turn, fin⟩ := p₁
  have S₁ := S.grow G₁ V₁
  refine hI.run _ g₁ v V₁ i₁ _ E fun I fp wr P Stt h₂ T hst hk => ?_
  refine comp_core (RR := fun acc C => compPost B.M A E (some (assign (.Name y py) env)) (fun _ s' => Q .next s') acc C) hE hc T hds J hk (S₁.ext hk) hst (itr_fp S₁ T) (fun b hb => V₁.gAlive (T.wrOk b hb)) hJ (fun C i d acc μ' => turn C i d acc μ' (hc.env' hE)) ?_
  intro Dl C acc ys n m' μ' g' h' tk' p' hA hD gD mD fD fC hCD hn gC mC V' G'
  obtain ⟨g'', a1, a2, a3, a4⟩ := fin_lst V' hA hD gD mD gC mC hCD G' hk T.wrOk fD fC (Heap.SameBut.refl C h')
  have S₂ := S₁.grow a3 a2
  have fCI : h₁.get? C = none := by
    cases z : h₁.get? C with
    | none => rfl
    | some o => rw [hk _ _ z] at fC; cases fC
  have hoC : ¬ Off env C := fun ho => by obtain ⟨o, ho'⟩ := S₁.alive ho; rw [fCI] at ho'; cases ho'
  have gC'' : g'' C = none := (a4 C hCD).trans gC
  show wpAny _ A (assign (.Name y py) env (.ref Dl)) _ _ _
  refine wpAny_assign_Name (wp_storeL (B := B) hE hy S₂ a1 fun h₃ tk₃ S₃ G₃ => ?_)
  refine ⟨m', hn.at' fun o e => G₃.keep C o (fun q => hoC (.inl q)) mC e, fun h₄ hs₄ => ?_⟩
  have ex₄ : ∀ b o, b ∉ [C] → h₃.get? b = some o → h₄.get? b = some o := fun b o hb e => hs₄.extBut b o (fun q => hb (by simp [q])) e
  have S₄ := S₃.but (wr := [C]) (fun b hb => by rw [List.mem_singleton.mp hb]; exact ⟨hoC, mC, gC''⟩) ex₄
  have G₅ : Gr (fun b => Off env b ∨ b ∈ [C]) μ₁ h₁ g₁ h₄ g'' μ' := ((a3.any).trans (G₃.off fun b q => .inl (.inl q))).trans (Gr.ext fun b o hb _ e => ex₄ b o (fun q => hb (.inr q)) e)
  exact k _ _ _ μ' g'' h₄ _ .next (fin _ _ p') S₄ (G₁.any.trans (Gr.wr G₅ (fun _ _ e => e) fun b hb => by rw [List.mem_singleton.mp hb]; exact fCI))
end

section
variable {B : Base} {A : Around} {env : Env} {ρ : Rho} {μ : Mu} {Φ : D → Mu → Prop}

/-- an item of a list at a place in it -/
theorem Ev_item {value slice : Expr} {pos : Pos} (h : Ev B A env value ρ μ fun d μ₁ => Ev B A env slice ρ μ₁ fun e μ₂ => ∃ ds i x, Sq μ₂ d ds ∧ e = .int i ∧ 0 ≤ i ∧ i < 2 ^ 62 ∧ ds[i.toNat]? = some x ∧ Φ x μ₂)
    (hs : ∀ l k u, subscripted slice false (.ref l) (.int k u) = operate [.ref l, .int k u] (getItem (.ref l) (.int k u)) := by intro _ _ _; with_unfolding_all rfl) :
    Ev B A env (.Subscript value slice pos) ρ μ Φ := by
  constructor
  intro s g S Q E k
  refine Subscript_ (h.run s g S _ E fun v d μ₁ g₁ h₁ tk₁ i₁ p₁ V₁ G₁ => p₁.run _ g₁ (S.grow G₁ V₁) _ E fun u e μ₂ g₂ h₂ tk₂ i₂ p₂ V₂ G₂ => ?_)
  obtain ⟨ds, i, x, hq, rfl, h0, hlt, hx, hp⟩ := p₂
  obtain ⟨a, vs, n, rfl, ho, hA⟩ := hq.at V₂ (i₁.mono G₂.sub)
  cases i₂ with
  | int _ t =>
    obtain ⟨w, hw, iw⟩ := hA.get hx
    have hl : h₂.IsList a vs.toArray := ⟨_, ho, rfl, n, rfl⟩
    exact tail_any hl.typeIs slot_list_getitem.lookup (wpAny_getItem_list hl h0 (by omega) (by simpa using hw) (k _ _ μ₂ g₂ h₂ tk₂ iw hp V₂ (G₁.trans G₂))) (hs _ _ _)
/-- a place of a tuple, written -/
theorem Ev_place {value : Expr} {j : Nat} {n : Nat} {p pos : Pos} (h : Ev B A env value ρ μ fun d μ₁ => ∃ ds x, d = .tup ds ∧ ds[j]? = some x ∧ j < 100 ∧ Φ x μ₁)
    (hs : ∀ l k u, subscripted (.Constant (.int (j : Int)) n p) false (.ref l) (.int k u) = operate [.ref l, .int k u] (getItem (.ref l) (.int k u)) := by intro _ _ _; with_unfolding_all rfl) :
    Ev B A env (.Subscript value (.Constant (.int (j : Int)) n p) pos) ρ μ Φ := by
  constructor
  intro s g S Q E k
  refine Subscript_ (h.run s g S _ E fun v d μ₁ g₁ h₁ tk₁ i₁ p₁ V₁ G₁ => wpAny_Constant_int ?_)
  obtain ⟨ds, x, rfl, hx, hj, hp⟩ := p₁
  obtain ⟨a, vs, rfl, ho, hA⟩ := In.isTup V₁ i₁
  obtain ⟨w, hw, iw⟩ := hA.get hx
  have hjl : j < vs.length := (List.getElem?_eq_some_iff.mp hw).1
  refine item_tupleT (l := vs) ⟨_, ho, rfl, 0, rfl⟩ (by omega) (by omega) (j := j) ?_ hw (k _ _ μ₁ g₁ h₁ _ iw hp V₁ G₁) (hs _ _ _)
  have h0 : ¬ ((j : Int) < 0) := by omega
  simp only [seqIndex?, if_neg h0]
  rw [if_pos (by simp; omega)]
  simp

theorem Vw.ext {h₀ h h' : Heap} {g : View} (V : Vw h₀ h g μ) (hk : ∀ b o, h.get? b = some o → h'.get? b = some o) : Vw h₀ h' g μ :=
  ⟨V.base, fun b o e => hk b o (V.sub b o e), fun a ds e => let ⟨e1, vs, n, e2, e3⟩ := V.mu a ds e; ⟨e1, vs, n, hk a _ e2, e3⟩⟩

/-- parts of a slice -/
structure Pt (B : Base) (A : Around) (env : Env) (x : Option Expr) (ρ : Rho) (μ : Mu) (Φ : Option Int → Mu → Prop) : Prop where
  run : ∀ (s : Shared) (g : View), St B.h₀ env s.heap g ρ μ → ∀ (Q : Value → Shared → Prop) (E : Value → Shared → Prop),
    (∀ v i μ' g' h' tk', IsPart v i → Φ i μ' → Vw B.h₀ h' g' μ' → Gr noOff μ s.heap g h' g' μ' → Q v { s with heap := h', toks := tk' }) → wpAny B.M A (evalPart x env) Q E s
theorem Pt_none {Φ : Option Int → Mu → Prop} (h : Φ none μ) : Pt B A env none ρ μ Φ := .mk fun s g S Q E k => by
  rw [evalPart_none]; exact wpAny_pure (k _ _ μ g s.heap s.toks .none h S.vw (Gr.refl ..))
theorem Pt_some {e : Expr} {Φ : Option Int → Mu → Prop} (h : Ev B A env e ρ μ fun d μ' => ∃ i, d = .int i ∧ Φ (some i) μ') : Pt B A env (some e) ρ μ Φ := .mk fun s g S Q E k => by
  rw [evalPart_some]
  refine h.run s g S Q E fun v d μ' g' h' tk' i' p' V' G' => ?_
  obtain ⟨i, rfl, p⟩ := p'
  cases i' with
  | int _ t => exact k _ _ μ' g' h' tk' (.int i t) p V' G'

theorem Ev_slice {value : Expr} {lower upper step : Option Expr} {p pos : Pos}
    (h : Ev B A env value ρ μ fun d μ₁ => Pt B A env lower ρ μ₁ fun lo μ₂ => Pt B A env upper ρ μ₂ fun hi μ₃ => Pt B A env step ρ μ₃ fun st μ₄ =>
      ∃ ds es, (Sq μ₄ d ds ∨ ∃ ns, d = .scr ns ∧ ds = ns.map .int) ∧ ds.length ≤ 1000 ∧ st ≠ some 0 ∧ (∀ g vs, All g vs ds → All g (slicePick vs.toArray lo hi st).toList es) ∧ Φ (.lst es) μ₄)
    (hs : ∀ l sl, ∃ ops, subscripted (.Slice lower upper step p) false (.ref l) (.ref sl) = operate ops (getItem (.ref l) (.ref sl)) := by intro _ _; exact ⟨_, by with_unfolding_all rfl⟩) :
    Ev B A env (.Subscript value (.Slice lower upper step p) pos) ρ μ Φ := by
  constructor
  intro s g S Q E k
  refine Subscript_ (h.run s g S _ E fun v d μ₁ g₁ h₁ tk₁ i₁ p₁ V₁ G₁ => wpAny_Slice (p₁.run _ g₁ (S.grow G₁ V₁) _ E fun vl lo μ₂ g₂ h₂ tk₂ q₂ p₂ V₂ G₂ => p₂.run _ g₂ ((S.grow G₁ V₁).grow G₂ V₂) _ E fun vu hi μ₃ g₃ h₃ tk₃ q₃ p₃ V₃ G₃ =>
    p₃.run _ g₃ (((S.grow G₁ V₁).grow G₂ V₂).grow G₃ V₃) _ E fun vst st μ₄ g₄ h₄ tk₄ q₄ p₄ V₄ G₄ => ?_))
  obtain ⟨ds, es, hd, hlen, hst, hpick, hp⟩ := p₄
  have i₄ := ((i₁.mono G₂.sub).mono G₃.sub).mono G₄.sub
  obtain ⟨a, vs, rfl, hl, hA⟩ : ∃ a vs, v = .ref a ∧ h₄.IsList a vs.toArray ∧ All g₄ vs ds := by
    rcases hd with hd | ⟨ns, rfl, rfl⟩
    · obtain ⟨a, vs, n, rfl, ho, hA⟩ := hd.at V₄ i₄
      exact ⟨a, vs, rfl, ⟨_, ho, rfl, n, rfl⟩, hA⟩
    · cases i₄ with
      | scr e c d i => exact ⟨_, _, rfl, ⟨_, V₄.sub _ _ e, c, _, d⟩, All.ints i⟩
  obtain ⟨ops, hops⟩ := hs a h₄.objs.size
  have ex : ∀ b o, h₄.get? b = some o → (h₄.push { cls := .type "slice", data := .fields #[vl, vu, vst] }).get? b = some o := fun b o e => Heap.get?_push_of_some _ e
  have V₅ := V₄.ext ex
  obtain ⟨g', a1, a2, a3⟩ := V₅.newLst (n := 0) (hpick g₄ vs hA)
  refine tail_any (hl.push _).typeIs slot_list_getitem.lookup (wpAny_getItem_list_slice (hl.push _) (Heap.IsSliceOf.new ..) q₂ q₃ q₄ hst ?_ ?_) hops
  · have hq := k _ _ μ₄ g' _ tk₄ a1 hp a2 (G₁.trans (G₂.trans (G₃.trans (G₄.trans ((Gr.ext fun b o _ _ e => ex b o e).trans a3)))))
    exact hq
  · rw [List.size_toArray, sizeLine_eq]; have := hA.length; omega

theorem Vw.setCel {h₀ h h' : Heap} {g : View} {a : Addr} {ds ds' : List D} {vs : List Value} {n : Nat} (V : Vw h₀ h g μ) (ha : μ a = some ds) (hs : Heap.SameBut a h h') (hat : h'.get? a = some (lstO vs n)) (hA : All g vs ds') :
    Vw h₀ h' g (upd μ a ds') ∧ Gr noOff μ h g h' g (upd μ a ds') := by
  refine ⟨⟨V.base, fun b o e => hs.extBut b o (fun q => ?_) (V.sub b o e), fun b es e => ?_⟩, fun _ _ e => e, fun b o _ hm e => hs.extBut b o (fun q => by subst q; rw [ha] at hm; cases hm) e, fun b e => ?_, fun b e => .inl e⟩
  · subst q; rw [(V.mu _ _ ha).1] at e; cases e
  · by_cases hb : b = a
    · subst hb; simp [upd] at e; subst e; exact ⟨(V.mu _ _ ha).1, vs, n, hat, hA⟩
    · simp only [upd, hb, if_false] at e
      obtain ⟨e1, ws, k, e2, e3⟩ := V.mu b es e
      exact ⟨e1, ws, k, hs.extBut b _ hb e2, e3⟩
  · by_cases hb : b = a
    · subst hb; exact .inl (by rw [ha]; exact Option.some_ne_none _)
    · simp only [upd, hb, if_false] at e; exact .inl e

/-- deck.pop(0) -/
theorem Ev_pop0 {o : Expr} {n : Nat} {p apos pos : Pos} (h : Ev B A env o ρ μ fun d μ₁ => ∃ a x ds, d = .cel a ∧ μ₁ a = some (x :: ds) ∧ ds.length ≤ 1000 ∧ Φ x (upd μ₁ a ds))
    (hbase : attributeBase o (Str.ofString "pop") env (eval o env) = eval o env := by rfl)
    (hline : (apos.endLine == pos.line) = true := by rfl) : Ev B A env (.Call (.Attribute o (Str.ofString "pop") apos) [.Constant (.int 0) n p] [] pos) ρ μ Φ := by
  constructor
  intro s g S Q E k
  refine wpAny_Call_method hbase rfl hline F.plainAttrs_list F.slot_list_pop F.type_list_pop (h.run s g S _ E fun v d μ₁ g₁ h₁ tk₁ i₁ p₁ V₁ G₁ => ?_)
  obtain ⟨a, x, ds, rfl, hm, hlen, hp⟩ := p₁
  cases i₁
  obtain ⟨e1, vs, m, e2, e3⟩ := V₁.mu a _ hm
  cases e3 with
  | @cons w ws _ _ iw r =>
    have hl : h₁.IsList a (w :: ws).toArray := ⟨_, e2, rfl, m, rfl⟩
    refine ⟨hl.typeIs, fun b hb => ⟨_, by cases hb; exact e2, rfl⟩, ?_⟩
    show wpAny _ A (callWith pos (.builtin "list.pop") [.ref a] [(false, eval (.Constant (.int 0) n p) env)] []) Q E _
    refine P.pop_at_list (wpAny_Constant_int ⟨(w :: ws).toArray, m, 0, _, 0, w, ?_, rfl, e2, by decide, ?_, by simp, ?_⟩)
    · rw [List.size_toArray, sizeLine_eq, List.length_cons]; have := r.length; omega
    · simp [seqIndex?]
    · have hs : Heap.SameBut a h₁ (h₁.update a (Obj.mapSeq fun xs => xs.eraseIdxIfInBounds 0)) := Heap.SameBut.update ..
      have hat : (h₁.update a (Obj.mapSeq fun xs => xs.eraseIdxIfInBounds 0)).get? a = some (lstO ws (m + 1)) := by
        rw [Heap.get?_update_self _ e2 rfl]
        simp [Obj.mapSeq]
      obtain ⟨a1, a2⟩ := V₁.setCel hm hs hat r
      exact k _ _ _ g₁ _ _ iw hp a1 (G₁.trans a2)

/-- found.append(x) -/
theorem Ev_append {o x : Expr} {apos pos : Pos} (h : Ev B A env o ρ μ fun d μ₁ => ∃ a es, d = .cel a ∧ μ₁ a = some es ∧ Ev B A env x ρ μ₁ fun e μ₂ => ∃ ds, μ₂ a = some ds ∧ ds.length ≤ 1000 ∧ Φ .none (upd μ₂ a (ds ++ [e])))
    (hbase : attributeBase o (Str.ofString "append") env (eval o env) = eval o env := by rfl) (hs : starEach [x] env = [(false, eval x env)] := by rfl)
    (hline : (apos.endLine == pos.line) = true := by rfl) : Ev B A env (.Call (.Attribute o (Str.ofString "append") apos) [x] [] pos) ρ μ Φ := by
  constructor
  intro s g S Q E k
  refine wpAny_Call_method hbase (by rw [hs]; rfl) hline F.plainAttrs_list F.slot_list_append F.type_list_append (h.run s g S _ E fun v d μ₁ g₁ h₁ tk₁ i₁ p₁ V₁ G₁ => ?_)
  obtain ⟨a, es, rfl, hm, p₁⟩ := p₁
  cases i₁
  obtain ⟨e1, vs, m, e2, e3⟩ := V₁.mu a _ hm
  have hl : h₁.IsList a vs.toArray := ⟨_, e2, rfl, m, rfl⟩
  refine ⟨hl.typeIs, fun b hb => ⟨_, by cases hb; exact e2, rfl⟩, ?_⟩
  rw [hs]
  show wpAny _ A (callWith pos (.builtin "list.append") [.ref a] [(false, eval x env)] []) Q E _
  refine P.append_list (p₁.run _ g₁ (S.grow G₁ V₁) _ E fun u e μ₂ g₂ h₂ tk₂ i₂ p₂ V₂ G₂ => ?_)
  obtain ⟨ds, hm₂, hlen, hp⟩ := p₂
  obtain ⟨f1, ws, j, f2, f3⟩ := V₂.mu a _ hm₂
  refine ⟨ws.toArray, j, ?_, f2, ?_⟩
  · rw [List.size_toArray, sizeLine_eq]; have := f3.length; omega
  · have hs' : Heap.SameBut a h₂ (h₂.update a (Obj.mapSeq fun xs => xs.push u)) := Heap.SameBut.update ..
    have hat : (h₂.update a (Obj.mapSeq fun xs => xs.push u)).get? a = some (lstO (ws ++ [u]) (j + 1)) := by
      rw [Heap.get?_update_self _ f2 rfl]
      simp [Obj.mapSeq]
    obtain ⟨a1, a2⟩ := V₂.setCel hm₂ hs' hat (f3.append (.cons i₂ .nil))
    exact k _ _ _ g₂ _ _ .none hp a1 (G₁.trans (G₂.trans a2))

/-- [..].index(x), ints -/
theorem Ev_index {o x : Expr} {apos pos : Pos} (h : Ev B A env o ρ μ fun d μ₁ => ∃ ns : List Int, d = .lst (ns.map .int) ∧ Ev B A env x ρ μ₁ fun e μ₂ => ∃ (i : Int) (j : Nat), e = .int i ∧ ns[j]? = some i ∧ (∀ m : Nat, m < j → ns[m]? ≠ some i) ∧ j < 1000 ∧ Φ (.int (j : Int)) μ₂)
    (hbase : attributeBase o (Str.ofString "index") env (eval o env) = eval o env := by rfl) (hs : starEach [x] env = [(false, eval x env)] := by rfl)
    (hline : (apos.endLine == pos.line) = true := by rfl) : Ev B A env (.Call (.Attribute o (Str.ofString "index") apos) [x] [] pos) ρ μ Φ := by
  constructor
  intro s g S Q E k
  refine wpAny_Call_method hbase (by rw [hs]; rfl) hline F.plainAttrs_list F.slot_list_index F.type_list_index (h.run s g S _ E fun v d μ₁ g₁ h₁ tk₁ i₁ p₁ V₁ G₁ => ?_)
  obtain ⟨ns, rfl, p₁⟩ := p₁
  cases i₁ with
  | @lst a vs m _ e1 hA =>
    have e2 := V₁.sub _ _ e1
    have hl : h₁.IsList a vs.toArray := ⟨_, e2, rfl, m, rfl⟩
    refine ⟨hl.typeIs, fun b hb => ⟨_, by cases hb; exact e2, rfl⟩, ?_⟩
    rw [hs]
    show wpAny _ A (callWith pos (.builtin "list.index") [.ref a] [(false, eval x env)] []) Q E _
    refine P.index_list (p₁.run _ g₁ (S.grow G₁ V₁) _ E fun u e μ₂ g₂ h₂ tk₂ i₂ p₂ V₂ G₂ => ?_)
    obtain ⟨i, j, rfl, hj, hno, hj1, hp⟩ := p₂
    have hI : IntsAre vs ns := All.toInts hA
    cases i₂ with
    | int _ t =>
      have hlen : vs.length = ns.length := hI.length
      have hjl : j < ns.length := (List.getElem?_eq_some_iff.mp hj).1
      have at' : ∀ m, m < ns.length → ∃ t, vs[m]? = some (.int (ns[m]!) t) := fun m hm => by
        obtain ⟨w, hw, iw⟩ := hA.get (k := m) (d := .int (ns[m]!)) (by simp [hm])
        cases iw with
        | int _ t => exact ⟨t, hw⟩
      refine ⟨vs.toArray, m, fun v => match v with | .int n _ => n == i | _ => false, j, by rw [List.size_toArray]; omega, V₂.sub _ _ (G₂.sub _ _ e1), fun y hy => ?_, by omega, ?_, fun q hq hlt => ?_, ?_⟩
      · have hy' : y ∈ vs := by simpa using hy
        obtain ⟨q, hq⟩ := List.mem_iff_getElem?.mp hy'
        obtain ⟨d, hd, id'⟩ := hA.getV hq
        have : ∃ n t, y = .int n t := by
          rw [List.getElem?_map] at hd
          cases hn : ns[q]? with
          | none => rw [hn] at hd; cases hd
          | some n => rw [hn] at hd; cases hd; cases id' with | int _ t => exact ⟨_, _, rfl⟩
        obtain ⟨n, t', rfl⟩ := this
        exact MeetsSeq.EqGives.int _ _ _ _
      · obtain ⟨t', ht⟩ := at' j hjl
        have : (vs.toArray)[j]'(by rw [List.size_toArray]; omega) = .int (ns[j]!) t' := by
          have h9 : vs.toArray[j]? = some (.int (ns[j]!) t') := by simpa using ht
          exact (Array.getElem?_eq_some_iff.mp h9).2
        rw [this]
        have h8 : ns[j]! = i := by rw [List.getElem!_eq_getElem?_getD, hj]; rfl
        simp [h8]
      · have hql : q < ns.length := by rw [List.size_toArray] at hq; omega
        obtain ⟨t', ht⟩ := at' q hql
        have : (vs.toArray)[q]'hq = .int (ns[q]!) t' := by
          have h9 : vs.toArray[q]? = some (.int (ns[q]!) t') := by simpa using ht
          exact (Array.getElem?_eq_some_iff.mp h9).2
        rw [this]
        have h8 : ns[q]! ≠ i := fun h7 => hno q hlt (by rw [← h7, List.getElem!_eq_getElem?_getD, List.getElem?_eq_getElem hql]; rfl)
        simpa using h8
      · exact k _ _ μ₂ g₂ h₂ _ (.int _ _) hp V₂ (G₁.trans G₂)

-- built-in functions
theorem Ev_bname {x : Str} {n : String} {pos : Pos} (hB : B.Ok) (hE : EnvOk env) (hmg : B.mg x = none) (h : Φ (.typ n) μ) (hb : bootBuiltins x = some (.type n) := by decide +kernel) (hn : x ≠ "__name__" := by decide)
    (hk : env.kindOf x = some .globalImplicit := by rfl) (hd : (x == ("__debug__" : Str)) = false := by decide) : Ev B A env (.Name x pos) ρ μ Φ := by
  constructor
  intro s g S Q E k
  have hbase : ∀ b o, B.h₀.get? b = some o → s.heap.get? b = some o := fun b o q => S.vw.sub b o (S.vw.base b o q)
  exact Calls.Name_function_global hE.kind hk (Calls.loadGlobal_builtin (by rw [hE.gl]; exact hB.g.keeps hbase) hmg (by rw [hE.bl]; exact hB.b.keeps hbase) ((hB.builtins x hn).trans hb) (k _ _ μ g s.heap s.toks (.typ n) h S.vw (Gr.refl ..))) hd

def D.isB : D → Option Bool
  | .bool _ => some true
  | .int _ => some false
  | .str _ => some false
  | _ => Option.none

theorem Ev_isb {e : Expr} {p p' pos : Pos} (hB : B.Ok) (hE : EnvOk env) (h : Ev B A env e ρ μ fun d μ₁ => ∃ b, d.isB = some b ∧ Φ (.bool b) μ₁) (hmg : B.mg (Str.ofString "isinstance") = none) (hmb : B.mg (Str.ofString "bool") = none)
    (hk : env.kindOf (Str.ofString "isinstance") = some .globalImplicit := by rfl) (hk' : env.kindOf (Str.ofString "bool") = some .globalImplicit := by rfl)
    (hs : starEach [e, .Name (Str.ofString "bool") p'] env = (false, eval e env) :: starEach [.Name (Str.ofString "bool") p'] env := by rfl) :
    Ev B A env (.Call (.Name (Str.ofString "isinstance") p) [e, .Name (Str.ofString "bool") p'] [] pos) ρ μ Φ := by
  refine Ev_builtin (id := "isinstance") hB hE ?_ hmg (hk := hk) (hs := hs)
  refine EvL_cons (h.mono fun d μ₁ hd => EvL_cons (Ev_bname (n := "bool") hB hE hmb (EvL_nil ?_) (hk := hk'))) (hs := hs)
  obtain ⟨b, hb, hp⟩ := hd
  intro s g vs V I Q E k
  cases I with
  | cons i1 r => cases r with
    | cons i2 r =>
      cases r
      cases i2
      have kk := fun tk => k (.bool b) _ μ₁ g s.heap tk (.bool b) hp V (Gr.refl ..)
      cases i1 <;> simp only [D.isB] at hb <;> cases hb
      · exact IsiPair.bool_bool (kk _)
      · exact IsiPair.int_bool (kk _)
      · exact IsiPair.str_bool (kk _)

theorem Ev_len {e : Expr} {p pos : Pos} (hB : B.Ok) (hE : EnvOk env) (h : Ev B A env e ρ μ fun d μ₁ => ∃ ds, Sq μ₁ d ds ∧ ds.length ≤ 1000 ∧ Φ (.int (ds.length : Int)) μ₁) (hmg : B.mg (Str.ofString "len") = none)
    (hk : env.kindOf (Str.ofString "len") = some .globalImplicit := by rfl) (hs : starEach [e] env = (false, eval e env) :: starEach [] env := by rfl) :
    Ev B A env (.Call (.Name (Str.ofString "len") p) [e] [] pos) ρ μ Φ := by
  refine Ev_builtin (id := "len") hB hE ?_ hmg (hk := hk) (hs := hs)
  refine EvL_cons (h.mono fun d μ₁ hd => EvL_nil ?_) (hs := hs)
  obtain ⟨ds, hq, hlen, hp⟩ := hd
  intro s g vs V I Q E k
  cases I with
  | cons i1 r =>
    cases r
    obtain ⟨a, ws, n, rfl, ho, hA⟩ := hq.at V i1
    have hl : s.heap.IsList a ws.toArray := ⟨_, ho, rfl, n, rfl⟩
    have hz : (ws.toArray.size : Int) = (ds.length : Int) := by rw [List.size_toArray, hA.length]
    refine call_len_list hl (by rw [hz]; omega) ?_
    rw [hz]
    exact k _ _ μ₁ g s.heap _ (.int _ _) hp V (Gr.refl ..)

theorem Ev_abs {e : Expr} {p pos : Pos} (hB : B.Ok) (hE : EnvOk env) (h : Ev B A env e ρ μ fun d μ₁ => ∃ i, d = .int i ∧ Φ (.int (if i < 0 then -i else i)) μ₁) (hmg : B.mg (Str.ofString "abs") = none)
    (hk : env.kindOf (Str.ofString "abs") = some .globalImplicit := by rfl) (hs : starEach [e] env = (false, eval e env) :: starEach [] env := by rfl) :
    Ev B A env (.Call (.Name (Str.ofString "abs") p) [e] [] pos) ρ μ Φ := by
  refine Ev_builtin (id := "abs") hB hE ?_ hmg (hk := hk) (hs := hs)
  refine EvL_cons (h.mono fun d μ₁ hd => EvL_nil ?_) (hs := hs)
  obtain ⟨i, rfl, hp⟩ := hd
  intro s g vs V I Q E k
  cases I with
  | cons i1 r =>
    cases r
    cases i1
    exact call_abs_int fun u tk => k _ _ μ₁ g s.heap tk (.int _ _) hp V (Gr.refl ..)

theorem Vw.freshLst {h₀ h h' : Heap} {g : View} {Dl : Addr} {vs : List Value} {ds : List D} {n : Nat} (V : Vw h₀ h g μ) (hk : ∀ b o, h.get? b = some o → h'.get? b = some o) (hf : h.get? Dl = none) (hat : h'.get? Dl = some (lstO vs n)) (hA : All g vs ds) :
    ∃ g', In g' (.ref Dl) (.lst ds) ∧ Vw h₀ h' g' μ ∧ Gr noOff μ h g h' g' μ := by
  have hgn := V.gAlive hf
  have hmn := V.muAlive hf
  have hsub : Sub g (fun b => if b = Dl then some (lstO vs n) else g b) := fun b o e => by
    by_cases hb : b = Dl
    · subst hb; rw [hgn] at e; cases e
    · simp only [hb, if_false]; exact e
  refine ⟨fun b => if b = Dl then some (lstO vs n) else g b, .lst (n := n) (by simp) (hA.mono hsub), ⟨fun b o e => hsub b o (V.base b o e), fun b o e => ?_, fun a ds e => ?_⟩,
    hsub, fun b o _ _ e => hk b o e, fun b e => .inl e, fun b e => ?_⟩
  · by_cases hb : b = Dl
    · subst hb; simp at e; subst e; exact hat
    · simp only [hb, if_false] at e; exact hk b o (V.sub b o e)
  · obtain ⟨e1, ws, n, e2, e3⟩ := V.mu a ds e
    refine ⟨?_, ws, n, hk _ _ e2, e3.mono hsub⟩
    by_cases hb : a = Dl
    · subst hb; rw [hmn] at e; cases e
    · simp only [hb, if_false]; exact e1
  · by_cases hb : b = Dl
    · subst hb; exact .inr (.inr (.inl hf))
    · simp only [hb, if_false] at e; exact .inl e

/-- sorted(found) for ints -/
theorem Ev_sorted {e : Expr} {p pos : Pos} (hB : B.Ok) (hE : EnvOk env) (h : Ev B A env e ρ μ fun d μ₁ => ∃ ns : List Int, Sq μ₁ d (ns.map .int) ∧ ns.length < 64 ∧ ∀ ns' : List Int, ns'.Perm ns → ns'.Pairwise (· ≤ ·) → Φ (.lst (ns'.map .int)) μ₁) (hmg : B.mg (Str.ofString "sorted") = none)
    (hk : env.kindOf (Str.ofString "sorted") = some .globalImplicit := by rfl) (hs : starEach [e] env = (false, eval e env) :: starEach [] env := by rfl) :
    Ev B A env (.Call (.Name (Str.ofString "sorted") p) [e] [] pos) ρ μ Φ := by
  refine Ev_builtin (id := "sorted") hB hE ?_ hmg (hk := hk) (hs := hs)
  refine EvL_cons (h.mono fun d μ₁ hd => EvL_nil ?_) (hs := hs)
  obtain ⟨ns, hq, hlen, hp⟩ := hd
  intro s g vs V I Q E k
  cases I with
  | cons i1 r =>
    cases r
    obtain ⟨a, ws, n, rfl, ho, hA⟩ := hq.at V i1
    have hl : s.heap.IsList a ws.toArray := ⟨_, ho, rfl, n, rfl⟩
    have hI : IntsAre ws ns := All.toInts hA
    refine sorted_ints hl hI (by rw [hI.length]; exact hlen) fun out ns' hI' hperm hpw => ?_
    obtain ⟨e, he⟩ := sortedAll_at s.heap ws out
    have hf : s.heap.get? (s.heap.objs.size + 1) = none := by
      cases q : s.heap.get? (s.heap.objs.size + 1) with
      | none => rfl
      | some o => exact absurd (Heap.lt_size q) (by exact Nat.not_lt.mpr (Nat.le_succ _))
    obtain ⟨g', a1, a2, a3⟩ := V.freshLst (vs := out.toList) (n := e) (fun b o q => sortedAll_old q) hf (by rw [he]) (All.ints hI')
    exact k _ _ μ₁ g' _ s.toks a1 (hp ns' hperm hpw) a2 a3

/-- a type called with one argument -/
theorem Ev_tcall {n : String} {x : Str} {p pos : Pos} {e : Expr} (hB : B.Ok) (hE : EnvOk env)
    (h : Ev B A env e ρ μ fun d μ₁ => ∀ (s : Shared) (g : View) (v : Value), Vw B.h₀ s.heap g μ₁ → In g v d → ∀ (Q : Value → Shared → Prop) (E : Value → Shared → Prop),
      (∀ v d μ' g' h' tk', In g' v d → Φ d μ' → Vw B.h₀ h' g' μ' → Gr noOff μ₁ s.heap g h' g' μ' → Q v { s with heap := h', toks := tk' }) → wpAny B.M A (call (.type n) [v]) Q E s)
    (hmg : B.mg x = none) (hb : bootBuiltins x = some (.type n) := by decide +kernel) (hn : x ≠ "__name__" := by decide) (hk : env.kindOf x = some .globalImplicit := by rfl)
    (hs : starEach [e] env = [(false, eval e env)] := by rfl) (hd : (x == ("__debug__" : Str)) = false := by decide) :
    Ev B A env (.Call (.Name x p) [e] [] pos) ρ μ Φ := by
  constructor
  intro s g S Q E k
  have hbase : ∀ b o, B.h₀.get? b = some o → s.heap.get? b = some o := fun b o q => S.vw.sub b o (S.vw.base b o q)
  refine wpAny_Call_Name_kw (Calls.Name_function_global hE.kind hk (Calls.loadGlobal_builtin (by rw [hE.gl]; exact hB.g.keeps hbase) hmg (by rw [hE.bl]; exact hB.b.keeps hbase) ((hB.builtins x hn).trans hb) ?_) hd)
  rw [hs]
  refine PySem.callWith_type rfl ?_
  show wpAny _ A (evalArgs (.type n) true [(false, eval e env)] []) _ E s
  refine Calls.evalArgs_plain (Calls.spliced_cons (h.run s g S _ E fun v d μ₁ g₁ h₁ tk₁ i₁ p₁ V₁ G₁ => Calls.spliced_nil ?_))
  exact p₁ _ g₁ v V₁ i₁ Q E fun v d μ' g' h' tk' i' p' V' G' => k v d μ' g' h' tk' i' p' V' (G₁.trans G')

theorem Ev_range {p pos : Pos} {e : Expr} (hB : B.Ok) (hE : EnvOk env) (h : Ev B A env e ρ μ fun d μ₁ => ∃ i, d = .int i ∧ Φ (.rng i) μ₁) (hmg : B.mg (Str.ofString "range") = none)
    (hk : env.kindOf (Str.ofString "range") = some .globalImplicit := by rfl) (hs : starEach [e] env = [(false, eval e env)] := by rfl) :
    Ev B A env (.Call (.Name (Str.ofString "range") p) [e] [] pos) ρ μ Φ := by
  refine Ev_tcall (n := "range") hB hE (h.mono fun d μ₁ hd => ?_) hmg (hk := hk) (hs := hs)
  obtain ⟨i, rfl, hp⟩ := hd
  intro s g v V iv Q E k
  cases iv with
  | int _ t =>
    refine call_range_1 ?_
    have hf := fresh_none (h := s.heap)
    have hgn := V.gAlive hf
    have hmn := V.muAlive hf
    generalize ho : ({ cls := .type "range", data := .fields #[.int 0 s.toks, .int i t, .int 1 (s.toks + 1)] } : Obj) = o
    have hsub : Sub g (fun b => if b = s.heap.objs.size then some o else g b) := fun b o' e => by
      by_cases hb : b = s.heap.objs.size
      · subst hb; rw [hgn] at e; cases e
      · simp only [hb, if_false]; exact e
    refine k _ (.rng i) μ₁ (fun b => if b = s.heap.objs.size then some o else g b) _ _ (.rng (t := s.toks) (u := t) (v := s.toks + 1) (by simp [← ho])) hp ⟨fun b o e => hsub b o (V.base b o e), fun b o' e => ?_, fun a ds e => ?_⟩
      ⟨hsub, fun b o _ _ e => Heap.get?_push_of_some _ e, fun b e => .inl e, fun b e => ?_⟩
    · by_cases hb : b = s.heap.objs.size
      · subst hb; simp at e; subst e; exact Heap.get?_push_size _ (by rw [← ho]; rfl)
      · simp only [hb, if_false] at e; exact Heap.get?_push_of_some _ (V.sub b o' e)
    · obtain ⟨e1, ws, n, e2, e3⟩ := V.mu a ds e
      refine ⟨?_, ws, n, Heap.get?_push_of_some _ e2, e3.mono hsub⟩
      by_cases hb : a = s.heap.objs.size
      · subst hb; rw [hmn] at e; cases e
      · simp only [hb, if_false]; exact e1
    · by_cases hb : b = s.heap.objs.size
      · subst hb; exact .inr (.inr (.inl hf))
      · simp only [hb, if_false] at e; exact .inl e

theorem Ev_list {p pos : Pos} {e : Expr} (hB : B.Ok) (hE : EnvOk env) (h : Ev B A env e ρ μ fun d μ₁ => ∃ ds, Sq μ₁ d ds ∧ ds.length ≤ 1000 ∧ Φ (.lst ds) μ₁) (hmg : B.mg (Str.ofString "list") = none)
    (hk : env.kindOf (Str.ofString "list") = some .globalImplicit := by rfl) (hs : starEach [e] env = [(false, eval e env)] := by rfl) :
    Ev B A env (.Call (.Name (Str.ofString "list") p) [e] [] pos) ρ μ Φ := by
  refine Ev_tcall (n := "list") hB hE (h.mono fun d μ₁ hd => ?_) hmg (hk := hk) (hs := hs)
  obtain ⟨ds, hq, hlen, hp⟩ := hd
  intro s g v V iv Q E k
  obtain ⟨a, ws, n, rfl, ho, hA⟩ := hq.at V iv
  refine call_list_seq a (.inl rfl) ho rfl rfl (fun h' c' hk' hD => ?_) (by rw [List.size_toArray, sizeLine_eq]; have := hA.length; omega)
  obtain ⟨g', a1, a2, a3⟩ := V.freshLst hk' fresh_none hD hA
  exact k _ _ μ₁ g' _ s.toks a1 hp a2 a3

-- stores by an index
theorem wp_setCel {s : Shared} {g : View} {a : Addr} {ds : List D} {i : Int} {t : Tok} {v : Value} {d : D} {Q : Unit → Shared → Prop} {E : Value → Shared → Prop} (V : Vw B.h₀ s.heap g μ) (hm : μ a = some ds) (iv : In g v d) (h0 : 0 ≤ i) (hi : i.toNat < ds.length) (hl : ds.length ≤ 1000)
    (k : ∀ h' tk', Vw B.h₀ h' g (upd μ a (ds.set i.toNat d)) → Gr noOff μ s.heap g h' g (upd μ a (ds.set i.toNat d)) → Q () { s with heap := h', toks := tk' }) : wpAny B.M A (setItem (.ref a) (.int i t) v) Q E s := by
  obtain ⟨e1, vs, m, e2, e3⟩ := V.mu a _ hm
  have hlen := e3.length
  refine ki_setAt e2 h0 (by omega) (by rw [List.size_toArray]; omega) ?_
  have hs : Heap.SameBut a s.heap (s.heap.update a (Obj.mapSeq (·.setIfInBounds i.toNat v))) := Heap.SameBut.update ..
  have hat : (s.heap.update a (Obj.mapSeq (·.setIfInBounds i.toNat v))).get? a = some (lstO (vs.set i.toNat v) m) := by
    rw [Heap.get?_update_self _ e2 rfl]
    simp [Obj.mapSeq]
  obtain ⟨a1, a2⟩ := V.setCel hm hs hat (e3.set i.toNat iv)
  exact k _ s.toks a1 a2

theorem Ex1_setitem {o i value : Expr} {p pos : Pos} {Ψ : Fl → Rho → Mu → Prop}
    (h : Ev B A env value ρ μ fun d μ₁ => Ev B A env o ρ μ₁ fun e μ₂ => Ev B A env i ρ μ₂ fun f μ₃ => ∃ a ds j, e = .cel a ∧ f = .int j ∧ μ₃ a = some ds ∧ 0 ≤ j ∧ j.toNat < ds.length ∧ ds.length ≤ 1000 ∧ Ψ .next ρ (upd μ₃ a (ds.set j.toNat d)))
    (hs : swapsWith value (some (.Subscript o i p)) pos.line env = pure false := by rfl) : Ex1 B A env (.Assign [.Subscript o i p] value pos) ρ μ Ψ := by
  constructor
  intro s g S Q E k
  refine wpAny_Assign_Subscript (h.run s g S _ E fun v d μ₁ g₁ h₁ tk₁ i₁ p₁ V₁ G₁ => p₁.run _ g₁ (S.grow G₁ V₁) _ E fun u e μ₂ g₂ h₂ tk₂ i₂ p₂ V₂ G₂ => p₂.run _ g₂ ((S.grow G₁ V₁).grow G₂ V₂) _ E fun w f μ₃ g₃ h₃ tk₃ i₃ p₃ V₃ G₃ => ?_) hs
  obtain ⟨a, ds, j, rfl, rfl, hm, h0, hj, hl, hp⟩ := p₃
  cases i₂
  cases i₃ with
  | int _ t =>
    refine wp_setCel (B := B) V₃ hm ((i₁.mono G₂.sub).mono G₃.sub) h0 hj hl fun h' tk' V' G' => ?_
    have G := G₁.trans (G₂.trans (G₃.trans G'))
    exact k _ _ ρ _ g₃ h' tk' .next hp (S.grow G V') G.any

theorem Asg_sub {o i : Expr} {pos : Pos} {d : D} {Θ : Rho → Mu → Prop}
    (h : Ev B A env o ρ μ fun e μ₂ => Ev B A env i ρ μ₂ fun f μ₃ => ∃ a ds j, e = .cel a ∧ f = .int j ∧ μ₃ a = some ds ∧ 0 ≤ j ∧ j.toNat < ds.length ∧ ds.length ≤ 1000 ∧ Θ ρ (upd μ₃ a (ds.set j.toNat d))) : Asg B A env (.Subscript o i pos) d ρ μ Θ := by
  constructor
  intro s g v S i₁ Q E k
  rw [assign_Subscript]
  refine wpAny_bind (wpAny_holding (h.run s g S _ E fun u e μ₂ g₂ h₂ tk₂ i₂ p₂ V₂ G₂ => wpAny_bind (wpAny_holding (p₂.run _ g₂ (S.grow G₂ V₂) _ E fun w f μ₃ g₃ h₃ tk₃ i₃ p₃ V₃ G₃ => wpAny_bind (wpAny_standAt (wpAny_bind (wpAny_holding ?_)))))))
  obtain ⟨a, ds, j, rfl, rfl, hm, h0, hj, hl, hp⟩ := p₃
  cases i₂
  cases i₃ with
  | int _ t =>
    refine wp_setCel (B := B) V₃ hm ((i₁.mono G₂.sub).mono G₃.sub) h0 hj hl fun h' tk' V' G' => ?_
    have G := G₂.trans (G₃.trans G')
    have hq := k ρ _ g₃ h' tk' hp (S.grow G V') G.any
    exact fun Γ p hΓ => by rw [Sem.wp_release]; exact hq

-- while
theorem Ex1_while {test : Expr} {body : List Stmt} {pos : Pos} {Ψ : Fl → Rho → Mu → Prop} (J : Nat → Rho → Mu → Prop) (n : Nat) (hJ : J n ρ μ)
    (turn : ∀ n ρ μ, J n ρ μ → Ts B A env test ρ μ fun b μ₁ => if b then Ex B A env body ρ μ₁ fun fl ρ₂ μ₂ => match fl with | .next => ∃ m, m < n ∧ J m ρ₂ μ₂ | .ret d => Ψ (.ret d) ρ₂ μ₂ else Ψ .next ρ μ₁) :
    Ex1 B A env (.While test body [] pos) ρ μ Ψ := by
  constructor
  intro s g S Q E k
  refine wpAny_While (codeAny_whileLoop (fun n s' => ∃ ρ' μ' g' h' tk', s' = { s with heap := h', toks := tk' } ∧ J n ρ' μ' ∧ St B.h₀ env h' g' ρ' μ' ∧ Gr (Off env) μ s.heap g h' g' μ') ?_ n ⟨ρ, μ, g, s.heap, s.toks, rfl, hJ, S, Gr.refl ..⟩)
  rintro n s' ⟨ρ', μ', g', h', tk', rfl, hJ', S', G'⟩
  refine (turn n ρ' μ' hJ').run _ g' S' _ _ fun b μ₁ g₁ h₁ tk₁ p₁ V₁ G₁ => ?_
  cases b with
  | false => exact wpAny_execs_nil (k _ _ ρ' μ₁ g₁ h₁ tk₁ .next p₁ (S'.grow G₁ V₁) (G'.trans G₁.any))
  | true =>
    refine p₁.run _ g₁ (S'.grow G₁ V₁) _ _ fun f fl ρ₂ μ₂ g₂ h₂ tk₂ i₂ p₂ S₂ G₂ => ?_
    cases i₂ with
    | next =>
      obtain ⟨m, hm, hJ₂⟩ := p₂
      exact ⟨m, hm, ρ₂, μ₂, g₂, h₂, tk₂, rfl, hJ₂, S₂, G'.trans (G₁.any.trans G₂)⟩
    | ret i => exact k _ _ ρ₂ μ₂ g₂ h₂ tk₂ (.ret i) p₂ S₂ (G'.trans (G₁.any.trans G₂))
end


structure Base.Ready (B : Base) : Prop where
  ok : B.Ok
  fn : ∀ i, (1 ≤ i ∧ i ≤ 10) ∨ (12 ≤ i ∧ i ≤ 18) → ∃ a, B.FnAt (defNo i) a
  isinstance : B.mg (Str.ofString "isinstance") = none
  bool : B.mg (Str.ofString "bool") = none
  len : B.mg (Str.ofString "len") = none
  abs : B.mg (Str.ofString "abs") = none
  range : B.mg (Str.ofString "range") = none
  list : B.mg (Str.ofString "list") = none
  sorted : B.mg (Str.ofString "sorted") = none

abbrev pd (x : Int × D) : D := .tup [.int x.1, x.2]
abbrev plD (p : List (Int × D)) : D := .lst (p.map pd)
def findI (p : List (Int × D)) (n : Int) : Int := match p.findIdx? (fun x => x.1 == n) with | some i => (i : Int) | none => -1

theorem envC_ok {name : Str} {scope : Scope} {L a : Addr} {cd : Value} (h : scope.kind = .function) : EnvOk (envOfC name scope L a cd) := ⟨h, rfl, rfl⟩


theorem findI_none {p : List (Int × D)} {n : Int} (h : ∀ (i : Nat) (x : Int × D), p[i]? = some x → x.1 ≠ n) : findI p n = -1 := by
  have : p.findIdx? (fun x => x.1 == n) = none := by
    rw [List.findIdx?_eq_none_iff]
    intro x hx
    obtain ⟨i, hi⟩ := List.mem_iff_getElem?.mp hx
    simpa using h i x hi
  simp [findI, this]
theorem findI_some {p : List (Int × D)} {n : Int} {j : Nat} {x : Int × D} (hj : p[j]? = some x) (hx : x.1 = n) (h : ∀ (i : Nat) (x : Int × D), i < j → p[i]? = some x → x.1 ≠ n) : findI p n = (j : Int) := by
  have hjl := (List.getElem?_eq_some_iff.mp hj).1
  have hjx := (List.getElem?_eq_some_iff.mp hj).2
  have : p.findIdx? (fun x => x.1 == n) = some j := by
    rw [List.findIdx?_eq_some_iff_getElem]
    refine ⟨hjl, by rw [hjx]; simpa using hx, fun i hi => ?_⟩
    simpa using h i _ hi (List.getElem?_eq_getElem (Nat.lt_trans hi hjl))
  simp [findI, this]
theorem findI_lt (p : List (Int × D)) (n : Int) : findI p n = -1 ∨ ∃ (j : Nat) (x : Int × D), findI p n = (j : Int) ∧ p[j]? = some x ∧ x.1 = n := by
  unfold findI
  cases h : p.findIdx? (fun x => x.1 == n) with
  | none => exact .inl rfl
  | some j =>
    obtain ⟨h1, h2, _⟩ := List.findIdx?_eq_some_iff_getElem.mp h
    exact .inr ⟨j, p[j], rfl, List.getElem?_eq_getElem h1, by simpa using h2⟩

theorem eqv_int (i j : Int) : PyData.eqv (.int i) (.int j) = (i == j) := by
  unfold PyData.eqv; rfl

theorem rngD_len (n : Nat) : (rngD n).length = n := by simp [rngD]
theorem rngD_at {n i : Nat} {d : D} (h : (rngD n)[i]? = some d) : i < n ∧ d = .int (i : Int) := by
  unfold rngD at h
  rw [List.getElem?_map] at h
  cases q : (List.range n)[i]? with
  | none => rw [q] at h; cases h
  | some k =>
    rw [q] at h
    obtain ⟨h1, h2⟩ := List.getElem?_eq_some_iff.mp q
    simp at h1 h2
    subst h2
    exact ⟨h1, by simpa using h.symm⟩

theorem Cm_int {μ : Mu} (i : Int) : Cm μ (.int i) (.int i) := .pl (.int i) rfl rfl

theorem capR_eq {env : Env} {ρ : Rho} {scope : Scope} {x : Str} (h : ((clos scope env).lookup x).isSome = true) : capR scope env ρ x = ρ x := by
  unfold capR; rw [if_pos h]
theorem iteT {P Q : Prop} (h : P) : if true = true then P else Q := by rw [if_pos rfl]; exact h
theorem iteF {P Q : Prop} (h : Q) : if false = true then P else Q := by rw [if_neg (by decide)]; exact h
theorem iteD {c : Prop} [Decidable c] {P Q : Prop} (hc : c) (h : P) : if decide c = true then P else Q := by rw [if_pos (decide_eq_true hc)]; exact h
theorem iteDn {c : Prop} [Decidable c] {P Q : Prop} (hc : ¬ c) (h : Q) : if decide c = true then P else Q := by rw [if_neg (by simpa using hc)]; exact h
theorem Room.le {A : Around} {n m : Nat} (r : Room A n) (h : m ≤ n) : Room A m := ⟨r.hh, by have := r.dep; omega, by have := r.un; omega⟩

/-- the values that stand in a property list -/
def D.isV : D → Bool
  | .int _ => true
  | .bool _ => true
  | .str x => PyData.strOk x
  | _ => false
def eqD : D → D → Bool
  | .int i, .int j => i == j
  | .bool a, .bool b => a == b
  | .str x, .str y => x == y
  | _, _ => false
theorem eqD_iff {d e : D} (hd : d.isV = true) : eqD d e = true ↔ d = e := by
  cases d <;> cases e <;> simp_all [eqD, D.isV]
theorem Cm_V {μ : Mu} {d : D} (h : d.isV = true) : Cm μ d d.py := by
  refine .pl d ?_ ?_ <;> cases d <;> simp_all [D.isV, D.ok, D.py, SeqAt.shaped, PyData.canLay0, PyData.depth]
theorem isB_V {d : D} (h : d.isV = true) : ∃ b, d.isB = some b := by
  cases d <;> simp_all [D.isV, D.isB]
theorem eqv_V {d e : D} (hd : d.isV = true) (he : e.isV = true) {b c : Bool} (hb : d.isB = some b) (hc : e.isB = some c) (hbc : b = c) : PyData.eqv d.py e.py = eqD d e := by
  subst hbc
  cases d <;> cases e <;> simp_all [D.isV, D.isB, D.py, eqD, PyData.eqv] <;> (subst_vars; simp_all)
theorem eqD_of_isB {d e : D} {b c : Bool} (hb : d.isB = some b) (hc : e.isB = some c) (hbc : b ≠ c) : eqD d e = false := by
  cases d <;> cases e <;> simp_all [D.isB, eqD] <;> (subst_vars; simp_all)

local macro_rules | `(tactic| walk_at "look") => `(tactic| first | with_reducible assumption | exact up_same | (refine Eq.trans (up_ne (by decide)) ?_; walk_at "look") | (refine Eq.trans (capR_eq (by rfl)) ?_; walk_at "look"))

-- one step of the walk, by the make of the goal
local macro_rules | `(tactic| walk_at "st") => `(tactic| (first
  | refine Ex_cons ?_
  | refine Ex_nil ?_
  | refine Ex1_ret ?_
  | refine Ex1_if ?_
  | refine Ev_local (by assumption) (by walk_at "look") ?_
  | refine Ev_cell (by assumption) (by walk_at "look") ?_
  | refine Ev_int ?_
  | refine Ev_bool ?_
  | refine Ev_none ?_
  | refine Ev_str ?_
  | refine Ev_neg ?_
  | refine Ev_bin ?_
  | refine Ev_cmp ?_
  | refine Ev_bool1 ?_
  | refine Ev_and ?_
  | refine Ev_or ?_
  | refine Ev_if ?_
  | refine Ev_not ?_
  | refine Ts_not ?_
  | refine Ts_andN ?_
  | refine Ts_orN ?_
  | refine Ts_and ?_
  | refine Ts_or ?_
  | refine Ts_cmp ?_
  | refine Ts_plain ?_
  | refine EvL_nil ?_
  | refine EvL_cons ?_
  | refine Ev_tup ?_
  | refine Pt_none ?_
  | refine Pt_some ?_
  | refine iteT ?_
  | refine iteF ?_))

local macro_rules | `(tactic| walk_at "binds") => `(tactic| (intro vs pm cd doc hl; (rcases vs with _ | ⟨a, _ | ⟨b, _ | ⟨c, _ | ⟨d, vs⟩⟩⟩⟩) <;> first | (exfalso; simp only [List.length_cons, List.length_nil] at hl; omega) | rfl))
local macro_rules | `(tactic| walk_at "kinds") => `(tactic| (intro L; (repeat' (first | exact List.forall_mem_nil _ | refine List.forall_mem_cons.mpr ⟨(by first | exact Or.inl rfl | exact Or.inr ⟨rfl, rfl⟩), ?_⟩))))

set_option maxHeartbeats 1000000 in
theorem spec_find {B : Base} (R : B.Ready) {p : List (Int × D)} {n : Int} (hp : p.length ≤ 100) {μ : Mu} {Φ : D → Mu → Prop} (h : Φ (.int (findI p n)) μ) : FSpec B (defNo 2) 1 [plD p, .int n] μ Φ := by
  refine FSpec_of (xs := [Str.ofString "plist", Str.ofString "number"]) rfl R.ok rfl (fun vs pm cd doc hl => ?_) (fun L x hx => ?_) (fun A L a cd rm => ?_)
  · match vs, hl with
    | [a, b], _ => rfl
  · simp only [List.mem_cons, List.not_mem_nil, or_false] at hx
    rcases hx with rfl | rfl <;> exact .inl rfl
  · simp only [List.zip_cons_cons, List.zip_nil_right, bindR]
    have hE := envC_ok (name := Str.ofString "plist_find") (L := L) (a := a) (cd := cd) (scope := (defNo 2).scope) rfl
    refine Ex_cons (Ex1_for (fun ds i ρ μ' => μ' = μ ∧ ρ (Str.ofString "plist") = some (plD p) ∧ ρ (Str.ofString "number") = some (.int n) ∧ ∀ (k : Nat) (x : Int × D), k < i → p[k]? = some x → x.1 ≠ n) ?_)
    refine Ev_range R.ok hE ?_ R.range
    refine Ev_len R.ok hE ?_ R.len
    walk_at "st"
    refine ⟨_, .lst _, by simp; omega, _, rfl, _, Itr_rng rm.hh (by simp; omega), ⟨rfl, by walk_at "look", by walk_at "look", fun k x hk => absurd hk (Nat.not_lt_zero _)⟩, ?_, ?_⟩
    · rintro i d ρ μ' hd ⟨rfl, h1, h2, h3⟩
      obtain ⟨hi, rfl⟩ := rngD_at hd
      simp only [List.length_map] at hi
      refine Asg_name hE (.loc rfl) ?_
      walk_at "st"
      walk_at "st"
      walk_at "st"
      refine Ev_place (j := 0) (Ev_item ?_)
      walk_at "st"
      walk_at "st"
      obtain ⟨x, hx⟩ : ∃ x, p[i]? = some x := ⟨_, List.getElem?_eq_getElem hi⟩
      refine ⟨_, _, pd x, .lst _, rfl, by omega, by omega, by simp [hx], _, _, rfl, rfl, by decide, ?_⟩
      walk_at "st"
      refine A_eq rm (Cm_int _) (Cm_int _) ⟨_, rfl, ?_⟩
      rw [eqv_int]
      by_cases hxn : x.1 = n
      · simp only [hxn, beq_self_eq_true, if_true]
        walk_at "st"
        walk_at "st"
        walk_at "st"
        refine ⟨_, rfl, _, ?_, fun _ _ e => e⟩
        rw [findI_some hx hxn h3] at h
        exact h
      · simp only [beq_eq_false_iff_ne.mpr hxn, Bool.false_eq_true, if_false]
        walk_at "st"
        walk_at "st"
        refine ⟨rfl, by walk_at "look", by walk_at "look", fun k y hk hy => ?_⟩
        rcases Nat.lt_succ_iff_lt_or_eq.mp hk with q | rfl
        · exact h3 k y q hy
        · rw [hx] at hy; cases hy; exact hxn
    · rintro ρ μ' ⟨rfl, h1, h2, h3⟩
      walk_at "st"
      walk_at "st"
      walk_at "st"
      refine ⟨_, rfl, _, ?_, fun _ _ e => e⟩
      rw [findI_none fun k x hx => h3 k x (by simpa using (List.getElem?_eq_some_iff.mp hx).1) hx] at h
      exact h

set_option maxHeartbeats 2000000 in
theorem spec_eq {B : Base} (R : B.Ready) {d e : D} (hd : d.isV = true) (he : e.isV = true) {μ : Mu} {Φ : D → Mu → Prop} (h : Φ (.bool (eqD d e)) μ) : FSpec B (defNo 1) 1 [d, e] μ Φ := by
  refine FSpec_of (xs := [Str.ofString "one", Str.ofString "other"]) rfl R.ok rfl (by walk_at "binds") (by walk_at "kinds") (fun A L a cd rm => ?_)
  simp only [List.zip_cons_cons, List.zip_nil_right, bindR]
  have hE := envC_ok (name := Str.ofString "eq") (L := L) (a := a) (cd := cd) (scope := (defNo 1).scope) rfl
  obtain ⟨b, hb⟩ := isB_V hd
  obtain ⟨c, hc⟩ := isB_V he
  have he1 := fun q => eqv_V hd he hb hc q
  have he2 := fun q => eqD_of_isB hb hc q
  cases b <;> cases c
  · rw [← he1 rfl] at h
    (repeat (first | walk_at "st" | refine Ev_isb R.ok hE ?_ R.isinstance R.bool | refine ⟨_, hb, ?_⟩ | refine ⟨_, hc, ?_⟩ | refine A_eq rm (Cm_V hd) (Cm_V he) ?_ | refine ⟨_, rfl, ?_⟩))
    exact ⟨μ, h, fun _ _ e => e⟩
  · rw [he2 (by decide)] at h
    (repeat (first | walk_at "st" | refine Ev_isb R.ok hE ?_ R.isinstance R.bool | refine ⟨_, hb, ?_⟩ | refine ⟨_, hc, ?_⟩ | refine A_eq rm (Cm_V hd) (Cm_V he) ?_ | refine ⟨_, rfl, ?_⟩))
    exact ⟨μ, h, fun _ _ e => e⟩
  · rw [he2 (by decide)] at h
    (repeat (first | walk_at "st" | refine Ev_isb R.ok hE ?_ R.isinstance R.bool | refine ⟨_, hb, ?_⟩ | refine ⟨_, hc, ?_⟩ | refine A_eq rm (Cm_V hd) (Cm_V he) ?_ | refine ⟨_, rfl, ?_⟩))
    exact ⟨μ, h, fun _ _ e => e⟩
  · rw [← he1 rfl] at h
    (repeat (first | walk_at "st" | refine Ev_isb R.ok hE ?_ R.isinstance R.bool | refine ⟨_, hb, ?_⟩ | refine ⟨_, hc, ?_⟩ | refine A_eq rm (Cm_V hd) (Cm_V he) ?_ | refine ⟨_, rfl, ?_⟩))
    exact ⟨μ, h, fun _ _ e => e⟩

set_option maxHeartbeats 2000000 in
theorem spec_alike {B : Base} (R : B.Ready) {d e : D} (hd : d.isV = true) (he : e.isV = true) {μ : Mu} {Φ : D → Mu → Prop} (h : Φ (.bool (eqD d e)) μ) : FSpec B (defNo 14) 1 [d, e] μ Φ := by
  refine FSpec_of (xs := [Str.ofString "one", Str.ofString "other"]) rfl R.ok rfl (by walk_at "binds") (by walk_at "kinds") (fun A L a cd rm => ?_)
  simp only [List.zip_cons_cons, List.zip_nil_right, bindR]
  have hE := envC_ok (name := Str.ofString "_law_alike") (L := L) (a := a) (cd := cd) (scope := (defNo 14).scope) rfl
  obtain ⟨b, hb⟩ := isB_V hd
  obtain ⟨c, hc⟩ := isB_V he
  have he1 := fun q => eqv_V hd he hb hc q
  have he2 := fun q => eqD_of_isB hb hc q
  refine Ex_cons (Ex1_ret (Ev_and (Ev_cmp (Ev_isb R.ok hE ?_ R.isinstance R.bool))))
  walk_at "st"
  refine ⟨_, hb, Ev_isb R.ok hE ?_ R.isinstance R.bool⟩
  walk_at "st"
  refine ⟨_, hc, A_eq rm (Cm_V rfl) (Cm_V rfl) ?_⟩
  have hbc : PyData.eqv (D.bool b).py (D.bool c).py = (b == c) := by simp [D.py, PyData.eqv]
  refine ⟨_, rfl, ?_⟩
  rw [hbc]
  by_cases q : b = c
  · subst q
    rw [beq_self_eq_true]
    walk_at "st"
    walk_at "st"
    walk_at "st"
    walk_at "st"
    refine A_eq rm (Cm_V hd) (Cm_V he) ?_
    rw [he1 rfl]
    exact ⟨_, rfl, μ, h, fun _ _ e => e⟩
  · rw [beq_eq_false_iff_ne.mpr q]
    walk_at "st"
    rw [he2 q] at h
    exact ⟨_, rfl, μ, h, fun _ _ e => e⟩

def getV (p : List (Int × D)) (n : Int) : Option D := (p.find? fun x => x.1 == n).map (·.2)
def getD (p : List (Int × D)) (n : Int) : D := match getV p n with | some v => .tup [v] | none => .none
def withP (p : List (Int × D)) (n : Int) (v : D) : List (Int × D) := match p.findIdx? (fun x => x.1 == n) with | some j => p.take j ++ [(n, v)] ++ p.drop (j + 1) | none => p ++ [(n, v)]
def holdsB (p : List (Int × D)) (n : Int) (v : D) : Bool := match getV p n with | some u => eqD u v | none => false

theorem find_cases (p : List (Int × D)) (n : Int) : (findI p n = -1 ∧ p.findIdx? (fun x => x.1 == n) = none ∧ p.find? (fun x => x.1 == n) = none) ∨
    ∃ (j : Nat) (x : Int × D), findI p n = (j : Int) ∧ p[j]? = some x ∧ x.1 = n ∧ p.findIdx? (fun x => x.1 == n) = some j ∧ p.find? (fun x => x.1 == n) = some x := by
  unfold findI
  cases h : p.findIdx? (fun x => x.1 == n) with
  | none =>
    refine .inl ⟨rfl, rfl, ?_⟩
    rw [List.findIdx?_eq_none_iff] at h
    rw [List.find?_eq_none]
    intro x hx
    simp [h x hx]
  | some j =>
    obtain ⟨h1, h2, h3⟩ := List.findIdx?_eq_some_iff_getElem.mp h
    refine .inr ⟨j, p[j], rfl, List.getElem?_eq_getElem h1, by simpa using h2, rfl, ?_⟩
    rw [List.find?_eq_some_iff_getElem]
    refine ⟨h2, j, h1, rfl, fun k hk => ?_⟩
    have := h3 k hk
    simpa using this

section
variable {B : Base} {A : Around} {env : Env} {ρ : Rho} {μ : Mu} {Φ : D → Mu → Prop}
theorem pick_upto {g : View} {vs : List Value} {ds : List D} {j : Nat} (h : All g vs ds) (hj : j ≤ ds.length) : All g (slicePick vs.toArray none (some (j : Int)) none).toList (ds.take j) := by
  rw [slicePick_upto _ _ (by rw [List.size_toArray, h.length]; exact hj)]
  simpa using h.take j
theorem pick_from {g : View} {vs : List Value} {ds : List D} {j : Nat} (h : All g vs ds) (hj : j + 1 ≤ ds.length) : All g (slicePick vs.toArray (some ((j : Int) + 1)) none none).toList (ds.drop (j + 1)) := by
  have e : (j : Int) + 1 = ((j + 1 : Nat) : Int) := by omega
  rw [e, slicePick_from _ _ (by rw [List.size_toArray, h.length]; exact hj)]
  simpa using h.drop (j + 1)

set_option maxHeartbeats 2000000 in
theorem spec_get (R : B.Ready) {p : List (Int × D)} {n : Int} (hp : p.length ≤ 100) (h : Φ (getD p n) μ) : FSpec B (defNo 3) 2 [plD p, .int n] μ Φ := by
  refine FSpec_of (xs := [Str.ofString "plist", Str.ofString "number"]) rfl R.ok rfl (by walk_at "binds") (by walk_at "kinds") (fun A L a cd rm => ?_)
  simp only [List.zip_cons_cons, List.zip_nil_right, bindR]
  have hE := envC_ok (name := Str.ofString "plist_get") (L := L) (a := a) (cd := cd) (scope := (defNo 3).scope) rfl
  obtain ⟨f, F⟩ := R.fn 2 (by decide)
  refine Ex_cons (Ex1_assign hE (.loc rfl) (Ev_call R.ok hE F rm ?_))
  walk_at "st"
  walk_at "st"
  walk_at "st"
  walk_at "st"
  walk_at "st"
  refine spec_find R hp ?_
  refine Ex_cons (Ex1_ret (Ev_if (Ts_cmp ?_)))
  walk_at "st"
  walk_at "st"
  refine A_ge ⟨_, rfl, ?_⟩
  rcases find_cases p n with ⟨e, _, e2⟩ | ⟨j, x, e, hx, hxn, _, e2⟩
  · have hg : getD p n = .none := by simp [getD, getV, e2]
    rw [hg] at h
    rw [e]
    refine iteDn (by omega) (Ev_none ?_)
    exact ⟨_, rfl, _, h, fun _ _ e => e⟩
  · have hg : getD p n = .tup [x.2] := by simp [getD, getV, e2]
    rw [hg] at h
    rw [e]
    have hj := (List.getElem?_eq_some_iff.mp hx).1
    refine iteD (by omega) (Ev_tup (EvL_cons (Ev_place (j := 1) (Ev_item ?_))))
    walk_at "st"
    walk_at "st"
    refine ⟨_, _, pd x, .lst _, rfl, by omega, by omega, by simp [hx], _, _, rfl, rfl, by decide, ?_⟩
    walk_at "st"
    exact ⟨by simp, _, rfl, _, h, fun _ _ e => e⟩

set_option maxHeartbeats 2000000 in
theorem spec_with (R : B.Ready) {p : List (Int × D)} {n : Int} {v : D} (hp : p.length ≤ 100) (h : Φ (plD (withP p n v)) μ) : FSpec B (defNo 4) 2 [plD p, .int n, v] μ Φ := by
  refine FSpec_of (xs := [Str.ofString "plist", Str.ofString "number", Str.ofString "value"]) rfl R.ok rfl (by walk_at "binds") (by walk_at "kinds") (fun A L a cd rm => ?_)
  simp only [List.zip_cons_cons, List.zip_nil_right, bindR]
  have hE := envC_ok (name := Str.ofString "plist_with") (L := L) (a := a) (cd := cd) (scope := (defNo 4).scope) rfl
  obtain ⟨f, F⟩ := R.fn 2 (by decide)
  refine Ex_cons (Ex1_assign hE (.loc rfl) (Ev_call R.ok hE F rm ?_))
  walk_at "st"
  walk_at "st"
  walk_at "st"
  walk_at "st"
  walk_at "st"
  refine spec_find R hp ?_
  refine Ex_cons (Ex1_if (Ts_cmp ?_))
  walk_at "st"
  walk_at "st"
  refine A_lt ⟨_, rfl, ?_⟩
  rcases find_cases p n with ⟨e, e2, _⟩ | ⟨j, x, e, hx, hxn, e2, _⟩
  · have hg : withP p n v = p ++ [(n, v)] := by simp [withP, e2]
    rw [hg] at h
    rw [e]
    refine iteD (by omega) (Ex_cons (Ex1_ret (Ev_bin ?_)))
    walk_at "st"
    refine Ev_lst (EvL_cons (Ev_tup ?_))
    walk_at "st"
    walk_at "st"
    walk_at "st"
    walk_at "st"
    walk_at "st"
    refine ⟨by simp, ?_⟩
    walk_at "st"
    refine ⟨by simp, A_cat (.lst _) (.lst _) (by simp; omega) ?_⟩
    refine ⟨_, rfl, _, ?_, fun _ _ e => e⟩
    simpa [plD] using h
  · have hg : withP p n v = p.take j ++ [(n, v)] ++ p.drop (j + 1) := by simp [withP, e2]
    rw [hg] at h
    rw [e]
    have hj := (List.getElem?_eq_some_iff.mp hx).1
    refine iteDn (by omega) (Ex_nil (Ex_cons (Ex1_ret (Ev_bin (Ev_bin (Ev_slice ?_))))))
    walk_at "st"
    walk_at "st"
    walk_at "st"
    walk_at "st"
    refine ⟨_, rfl, ?_⟩
    walk_at "st"
    refine ⟨_, _, .inl (.lst _), by simp; omega, by simp, fun g vs hA => pick_upto hA (by simp; omega), ?_⟩
    refine Ev_lst (EvL_cons (Ev_tup ?_))
    walk_at "st"
    walk_at "st"
    walk_at "st"
    walk_at "st"
    walk_at "st"
    refine ⟨by simp, ?_⟩
    walk_at "st"
    refine ⟨by simp, A_cat (.lst _) (.lst _) (by simp; omega) ?_⟩
    refine Ev_slice ?_
    walk_at "st"
    walk_at "st"
    walk_at "st"
    walk_at "st"
    walk_at "st"
    refine A_add ⟨_, rfl, ?_⟩
    walk_at "st"
    walk_at "st"
    refine ⟨_, _, .inl (.lst _), by simp; omega, by simp, fun g vs hA => pick_from hA (by simp; omega), ?_⟩
    refine A_cat (.lst _) (.lst _) (by simp; omega) ?_
    refine ⟨_, rfl, _, ?_, fun _ _ e => e⟩
    simpa [plD] using h

set_option maxHeartbeats 2000000 in
theorem spec_holds (R : B.Ready) {p : List (Int × D)} {n : Int} {v : D} (hp : p.length ≤ 100) (hpv : ∀ x ∈ p, x.2.isV = true) (hv : v.isV = true) (h : Φ (.bool (holdsB p n v)) μ) : FSpec B (defNo 6) 2 [plD p, .int n, v] μ Φ := by
  refine FSpec_of (xs := [Str.ofString "plist", Str.ofString "number", Str.ofString "value"]) rfl R.ok rfl (by walk_at "binds") (by walk_at "kinds") (fun A L a cd rm => ?_)
  simp only [List.zip_cons_cons, List.zip_nil_right, bindR]
  have hE := envC_ok (name := Str.ofString "holds_pair") (L := L) (a := a) (cd := cd) (scope := (defNo 6).scope) rfl
  obtain ⟨f, F⟩ := R.fn 2 (by decide)
  obtain ⟨f1, F1⟩ := R.fn 1 (by decide)
  refine Ex_cons (Ex1_assign hE (.loc rfl) (Ev_call R.ok hE F rm ?_))
  walk_at "st"
  walk_at "st"
  walk_at "st"
  walk_at "st"
  walk_at "st"
  refine spec_find R hp ?_
  refine Ex_cons (Ex1_ret (Ev_and (Ev_cmp ?_)))
  walk_at "st"
  walk_at "st"
  refine A_ge ⟨_, rfl, ?_⟩
  rcases find_cases p n with ⟨e, _, e2⟩ | ⟨j, x, e, hx, hxn, _, e2⟩
  · have hg : holdsB p n v = false := by simp [holdsB, getV, e2]
    rw [hg] at h
    rw [e]
    exact iteDn (by omega) ⟨_, rfl, _, h, fun _ _ e => e⟩
  · have hg : holdsB p n v = eqD x.2 v := by simp [holdsB, getV, e2]
    rw [hg] at h
    rw [e]
    have hj := (List.getElem?_eq_some_iff.mp hx).1
    refine iteD (by omega) (Ev_bool1 (Ev_call R.ok hE F1 rm (EvL_cons (Ev_place (j := 1) (Ev_item ?_)))))
    walk_at "st"
    walk_at "st"
    refine ⟨_, _, pd x, .lst _, rfl, by omega, by omega, by simp [hx], _, _, rfl, rfl, by decide, ?_⟩
    walk_at "st"
    walk_at "st"
    walk_at "st"
    refine spec_eq R (hpv x (List.mem_of_getElem? hx)) hv ?_
    exact ⟨_, rfl, _, h, fun _ _ e => e⟩
end

theorem map_at {p : List (Int × D)} {i : Nat} {d : D} (h : (p.map pd)[i]? = some d) : ∃ x, p[i]? = some x ∧ d = pd x := by
  rw [List.getElem?_map] at h
  cases q : p[i]? with
  | none => rw [q] at h; cases h
  | some x => rw [q] at h; exact ⟨x, rfl, by simpa using h.symm⟩
theorem take_succ' {α : Type} {p : List α} {i : Nat} {x : α} (h : p[i]? = some x) : p.take (i + 1) = p.take i ++ [x] := by
  rw [List.take_add_one, h]; rfl

section
variable {B : Base} {A : Around} {env : Env} {ρ : Rho} {μ : Mu} {Φ : D → Mu → Prop}

set_option maxHeartbeats 2000000 in
theorem spec_without (R : B.Ready) {p : List (Int × D)} {n : Int} (hp : p.length ≤ 100) (h : Φ (plD (p.filter fun x => x.1 != n)) μ) : FSpec B (defNo 5) 1 [plD p, .int n] μ Φ := by
  refine FSpec_of (xs := [Str.ofString "plist", Str.ofString "number"]) rfl R.ok rfl (by walk_at "binds") (by walk_at "kinds") (fun A L a cd rm => ?_)
  simp only [List.zip_cons_cons, List.zip_nil_right, bindR]
  have hE := envC_ok (name := Str.ofString "plist_without") (L := L) (a := a) (cd := cd) (scope := (defNo 5).scope) rfl
  refine Ex_cons (Ex1_ret (Ev_comp hE ⟨rfl, rfl, rfl, rfl, rfl⟩ ?_))
  walk_at "st"
  refine ⟨_, Itr_lst rm.hh, by simp; omega, fun i acc μ' => μ' = μ ∧ acc = ((p.take i).filter fun x => x.1 != n).map pd, ⟨rfl, rfl⟩, ?_, ?_⟩
  · rintro C i d acc μ' hE' hd ⟨rfl, rfl⟩
    obtain ⟨x, hx, rfl⟩ := map_at hd
    refine AsgL_name hE' ⟨sub_up (capR_none), TsL_one (Ts_cmp (Ev_place (j := 0) ?_))⟩
    walk_at "st"
    refine ⟨_, _, rfl, rfl, by decide, ?_⟩
    walk_at "st"
    refine A_ne rm (Cm_int _) (Cm_int _) ⟨_, rfl, ?_⟩
    rw [eqv_int]
    by_cases hxn : x.1 = n
    · rw [beq_iff_eq.mpr hxn]
      refine iteF ⟨rfl, ?_⟩
      rw [take_succ' hx, List.filter_append]; simp [hxn]
    · rw [beq_eq_false_iff_ne.mpr hxn]
      refine iteT ?_
      walk_at "st"
      refine ⟨rfl, ?_⟩
      rw [take_succ' hx, List.filter_append]; simp [hxn]
  · rintro acc μ' ⟨rfl, rfl⟩
    rw [List.length_map, List.take_length]
    exact ⟨_, rfl, _, h, fun _ _ e => e⟩

theorem anyInt (ns : List Int) (i : Int) : ((D.pys (ns.map D.int)).any fun y => PyData.eqv y (D.int i).py) = ns.contains i := by
  induction ns with
  | nil => rfl
  | cons n ns ih =>
    rw [List.map_cons, D.pys, List.any_cons, ih, D.py, D.py, eqv_int, List.contains_cons]
    rw [show (n == i) = (i == n) from Bool.eq_iff_iff.mpr (by rw [beq_iff_eq, beq_iff_eq]; exact eq_comm)]
theorem oksInt (ns : List Int) : D.oks (ns.map D.int) = true := by
  induction ns with
  | nil => rfl
  | cons n ns ih => simp [D.oks, D.ok, ih]

set_option maxHeartbeats 2000000 in
theorem spec_removed (R : B.Ready) {p : List (Int × D)} {ns : List Int} (hp : p.length ≤ 100) (h : Φ (plD (p.filter fun x => !ns.contains x.1)) μ) : FSpec B (defNo 9) 1 [plD p, .lst (ns.map .int)] μ Φ := by
  refine FSpec_of (xs := [Str.ofString "plist", Str.ofString "numbers"]) rfl R.ok rfl (by walk_at "binds") (by walk_at "kinds") (fun A L a cd rm => ?_)
  simp only [List.zip_cons_cons, List.zip_nil_right, bindR]
  have hE := envC_ok (name := Str.ofString "plist_removed") (L := L) (a := a) (cd := cd) (scope := (defNo 9).scope) rfl
  refine Ex_cons (Ex1_ret (Ev_comp hE ⟨rfl, rfl, rfl, rfl, rfl⟩ ?_))
  walk_at "st"
  refine ⟨_, Itr_lst rm.hh, by simp; omega, fun i acc μ' => μ' = μ ∧ acc = ((p.take i).filter fun x => !ns.contains x.1).map pd, ⟨rfl, rfl⟩, ?_, ?_⟩
  · rintro C i d acc μ' hE' hd ⟨rfl, rfl⟩
    obtain ⟨x, hx, rfl⟩ := map_at hd
    refine AsgL_name hE' ⟨sub_up (capR_none), TsL_one (Ts_cmp (Ev_place (j := 0) ?_))⟩
    walk_at "st"
    refine ⟨_, _, rfl, rfl, by decide, ?_⟩
    walk_at "st"
    refine A_nin rm rfl rfl (.lst _) (oksInt _) ⟨_, rfl, ?_⟩
    rw [anyInt]
    cases hxn : ns.contains x.1 with
    | true =>
      refine iteF ⟨rfl, ?_⟩
      rw [take_succ' hx, List.filter_append, List.filter_cons_of_neg (by rw [hxn]; decide), List.filter_nil, List.append_nil]
    | false =>
      refine iteT ?_
      walk_at "st"
      refine ⟨rfl, ?_⟩
      rw [take_succ' hx, List.filter_append, List.filter_cons_of_pos (by rw [hxn]; rfl), List.filter_nil, List.map_append]; rfl
  · rintro acc μ' ⟨rfl, rfl⟩
    rw [List.length_map, List.take_length]
    exact ⟨_, rfl, _, h, fun _ _ e => e⟩
end

def addedP (p : List (Int × D)) (more : List (Int × D)) : List (Int × D) := more.foldl (fun q x => if holdsB q x.1 x.2 then q else withP q x.1 x.2) p
def sameB (one other : List (Int × D)) : Bool := (one.length == other.length) && one.all fun x => holdsB other x.1 x.2
def changedL (one other : List (Int × D)) : List Int := (one.filter fun x => !holdsB other x.1 x.2).map (·.1) ++ (other.filter fun x => decide (findI one x.1 < 0)).map (·.1)

theorem withP_len (p : List (Int × D)) (n : Int) (v : D) : (withP p n v).length ≤ p.length + 1 := by
  unfold withP
  split
  · rename_i j h
    obtain ⟨h1, _⟩ := List.findIdx?_eq_some_iff_getElem.mp h
    simp; omega
  · simp
theorem withP_V {p : List (Int × D)} {n : Int} {v : D} (hp : ∀ x ∈ p, x.2.isV = true) (hv : v.isV = true) : ∀ x ∈ withP p n v, x.2.isV = true := by
  intro x hx
  unfold withP at hx
  split at hx
  · simp only [List.mem_append, List.mem_singleton] at hx
    rcases hx with (hx | hx) | hx
    · exact hp x (List.mem_of_mem_take hx)
    · subst hx; exact hv
    · exact hp x (List.mem_of_mem_drop hx)
  · simp only [List.mem_append, List.mem_singleton] at hx
    rcases hx with hx | hx
    · exact hp x hx
    · subst hx; exact hv
theorem added_ok {p more : List (Int × D)} (hp : ∀ x ∈ p, x.2.isV = true) (hm : ∀ x ∈ more, x.2.isV = true) : (addedP p more).length ≤ p.length + more.length ∧ ∀ x ∈ addedP p more, x.2.isV = true := by
  unfold addedP
  induction more generalizing p with
  | nil => exact ⟨by simp, by simpa using hp⟩
  | cons y ys ih =>
    simp only [List.foldl_cons, List.length_cons]
    have h2 : ∀ x ∈ (if holdsB p y.1 y.2 = true then p else withP p y.1 y.2), x.2.isV = true := by
      split
      · exact hp
      · exact withP_V hp (hm y List.mem_cons_self)
    have h3 : (if holdsB p y.1 y.2 = true then p else withP p y.1 y.2).length ≤ p.length + 1 := by
      split
      · omega
      · exact withP_len _ _ _
    obtain ⟨a, b⟩ := ih h2 fun x hx => hm x (List.mem_cons_of_mem _ hx)
    exact ⟨by omega, b⟩
theorem added_snoc (p l : List (Int × D)) (x : Int × D) : addedP p (l ++ [x]) = if holdsB (addedP p l) x.1 x.2 then addedP p l else withP (addedP p l) x.1 x.2 := by
  unfold addedP; rw [List.foldl_append]; rfl

section
variable {B : Base} {A : Around} {env : Env} {ρ : Rho} {μ : Mu} {Φ : D → Mu → Prop}

set_option maxHeartbeats 2000000 in
theorem spec_added (R : B.Ready) {p more : List (Int × D)} (hp : p.length + more.length ≤ 100) (hpv : ∀ x ∈ p, x.2.isV = true) (hmv : ∀ x ∈ more, x.2.isV = true) (h : Φ (plD (addedP p more)) μ) : FSpec B (defNo 8) 3 [plD p, plD more] μ Φ := by
  refine FSpec_of (xs := [Str.ofString "plist", Str.ofString "more"]) rfl R.ok rfl (by walk_at "binds") (by walk_at "kinds") (fun A L a cd rm => ?_)
  simp only [List.zip_cons_cons, List.zip_nil_right, bindR]
  have hE := envC_ok (name := Str.ofString "plist_added") (L := L) (a := a) (cd := cd) (scope := (defNo 8).scope) rfl
  obtain ⟨f6, F6⟩ := R.fn 6 (by decide)
  obtain ⟨f4, F4⟩ := R.fn 4 (by decide)
  refine Ex_cons (Ex1_assign hE (.loc rfl) ?_)
  walk_at "st"
  refine Ex_cons (Ex1_for (fun ds i ρ μ' => μ' = μ ∧ ρ (Str.ofString "found") = some (plD (addedP p (more.take i)))) ?_)
  walk_at "st"
  refine ⟨_, Itr_lst rm.hh, ⟨rfl, by walk_at "look"⟩, ?_, ?_⟩
  · rintro i d ρ μ' hd ⟨rfl, h1⟩
    obtain ⟨x, hx, rfl⟩ := map_at hd
    have hi := (List.getElem?_eq_some_iff.mp hx).1
    obtain ⟨hl, hv⟩ := added_ok (p := p) (more := more.take i) hpv fun y hy => hmv y (List.mem_of_mem_take hy)
    have hl' : (addedP p (more.take i)).length ≤ 99 := by rw [List.length_take] at hl; omega
    have hxv := hmv x (List.mem_of_getElem? hx)
    refine Asg_tup2 rm.hh (Asg_name hE (.loc rfl) (Asg_name hE (.loc rfl) ?_))
    refine Ex_cons (Ex1_if (Ts_not (Ts_plain (Ev_call R.ok hE F6 rm ?_))))
    walk_at "st"
    walk_at "st"
    walk_at "st"
    walk_at "st"
    walk_at "st"
    walk_at "st"
    walk_at "st"
    refine spec_holds R (by omega) hv hxv ⟨_, rfl, ?_⟩
    cases hb : holdsB (addedP p (more.take i)) x.1 x.2 with
    | true =>
      refine Ex_nil (Ex_nil ⟨rfl, ?_⟩)
      rw [take_succ' hx, added_snoc, if_pos hb]
      walk_at "look"
    | false =>
      refine Ex_cons (Ex1_assign hE (.loc rfl) (Ev_call (lv := 2) R.ok hE F4 (rm.le (by decide)) ?_))
      walk_at "st"
      walk_at "st"
      walk_at "st"
      walk_at "st"
      walk_at "st"
      walk_at "st"
      walk_at "st"
      refine spec_with R (by omega) ?_
      refine Ex_nil (Ex_nil ⟨rfl, ?_⟩)
      rw [take_succ' hx, added_snoc, if_neg (by rw [hb]; decide)]
      walk_at "look"
  · rintro ρ μ' ⟨rfl, h1⟩
    rw [List.length_map, List.take_length] at h1
    walk_at "st"
    walk_at "st"
    walk_at "st"
    exact ⟨_, rfl, _, h, fun _ _ e => e⟩

set_option maxHeartbeats 2000000 in
theorem spec_same (R : B.Ready) {p q : List (Int × D)} (hp : p.length ≤ 100) (hq : q.length ≤ 100) (hpv : ∀ x ∈ p, x.2.isV = true) (hqv : ∀ x ∈ q, x.2.isV = true) (h : Φ (.bool (sameB p q)) μ) : FSpec B (defNo 7) 3 [plD p, plD q] μ Φ := by
  refine FSpec_of (xs := [Str.ofString "one", Str.ofString "other"]) rfl R.ok rfl (by walk_at "binds") (by walk_at "kinds") (fun A L a cd rm => ?_)
  simp only [List.zip_cons_cons, List.zip_nil_right, bindR]
  have hE := envC_ok (name := Str.ofString "same_plist") (L := L) (a := a) (cd := cd) (scope := (defNo 7).scope) rfl
  obtain ⟨f6, F6⟩ := R.fn 6 (by decide)
  refine Ex_cons (Ex1_if (Ts_cmp (Ev_len R.ok hE ?_ R.len)))
  walk_at "st"
  refine ⟨_, .lst _, by simp; omega, Ev_len R.ok hE ?_ R.len⟩
  walk_at "st"
  refine ⟨_, .lst _, by simp; omega, A_ne rm (Cm_int _) (Cm_int _) ⟨_, rfl, ?_⟩⟩
  rw [eqv_int, List.length_map, List.length_map]
  by_cases hl : p.length = q.length
  · rw [beq_iff_eq.mpr (show (p.length : Int) = (q.length : Int) by omega)]
    refine Ex_nil (Ex_cons (Ex1_for (fun ds i ρ μ' => μ' = μ ∧ ρ (Str.ofString "other") = some (plD q) ∧ ∀ x ∈ p.take i, holdsB q x.1 x.2 = true) ?_))
    walk_at "st"
    refine ⟨_, Itr_lst rm.hh, ⟨rfl, by walk_at "look", fun x hx => by simp at hx⟩, ?_, ?_⟩
    · rintro i d ρ μ' hd ⟨rfl, h1, h2⟩
      obtain ⟨x, hx, rfl⟩ := map_at hd
      have hxv := hpv x (List.mem_of_getElem? hx)
      refine Asg_tup2 rm.hh (Asg_name hE (.loc rfl) (Asg_name hE (.loc rfl) ?_))
      refine Ex_cons (Ex1_if (Ts_not (Ts_plain (Ev_call R.ok hE F6 rm ?_))))
      walk_at "st"
      walk_at "st"
      walk_at "st"
      walk_at "st"
      walk_at "st"
      walk_at "st"
      walk_at "st"
      refine spec_holds R hq hqv hxv ⟨_, rfl, ?_⟩
      cases hb : holdsB q x.1 x.2 with
      | true =>
        refine Ex_nil (Ex_nil ⟨rfl, by walk_at "look", fun y hy => ?_⟩)
        rw [take_succ' hx, List.mem_append, List.mem_singleton] at hy
        rcases hy with hy | rfl
        · exact h2 y hy
        · exact hb
      | false =>
        refine Ex_cons (Ex1_ret (Ev_bool ?_))
        refine ⟨_, rfl, _, ?_, fun _ _ e => e⟩
        have : sameB p q = false := by
          unfold sameB
          rw [Bool.and_eq_false_iff]
          refine .inr (List.all_eq_false.mpr ⟨x, List.mem_of_getElem? hx, by rw [hb]; decide⟩)
        rw [this] at h; exact h
    · rintro ρ μ' ⟨rfl, h1, h2⟩
      rw [List.length_map, List.take_length] at h2
      refine Ex_cons (Ex1_ret (Ev_bool ?_))
      refine ⟨_, rfl, _, ?_, fun _ _ e => e⟩
      have : sameB p q = true := by
        unfold sameB
        rw [beq_iff_eq.mpr hl, Bool.true_and]
        exact List.all_eq_true.mpr fun x hx => h2 x hx
      rw [this] at h; exact h
  · rw [beq_eq_false_iff_ne.mpr (show (p.length : Int) ≠ (q.length : Int) by omega)]
    refine Ex_cons (Ex1_ret (Ev_bool ?_))
    refine ⟨_, rfl, _, ?_, fun _ _ e => e⟩
    have : sameB p q = false := by
      unfold sameB
      rw [beq_eq_false_iff_ne.mpr hl, Bool.false_and]
    rw [this] at h; exact h

theorem filter_len (p : List (Int × D)) (f : Int × D → Bool) : ((p.filter f).map (·.1)).length ≤ p.length := by
  rw [List.length_map]; exact List.length_filter_le _ _

theorem upd_same {μ : Mu} {a : Addr} {ds : List D} : upd μ a ds a = some ds := by simp [upd]
theorem upd_upd {μ : Mu} {a : Addr} {ds es : List D} : upd (upd μ a ds) a es = upd μ a es := by
  funext b; by_cases h : b = a <;> simp [upd, h]

set_option maxHeartbeats 2000000 in
theorem spec_changed (R : B.Ready) {p q : List (Int × D)} (hp : p.length ≤ 30) (hq : q.length ≤ 30) (hpv : ∀ x ∈ p, x.2.isV = true) (hqv : ∀ x ∈ q, x.2.isV = true)
    (h : ∀ ns' : List Int, ns'.Perm (changedL p q) → ns'.Pairwise (· ≤ ·) → Φ (.lst (ns'.map .int)) μ) : FSpec B (defNo 10) 3 [plD p, plD q] μ Φ := by
  refine FSpec_of (xs := [Str.ofString "one", Str.ofString "other"]) rfl R.ok rfl (by walk_at "binds") (by walk_at "kinds") (fun A L a cd rm => ?_)
  simp only [List.zip_cons_cons, List.zip_nil_right, bindR]
  have hE := envC_ok (name := Str.ofString "changed_properties") (L := L) (a := a) (cd := cd) (scope := (defNo 10).scope) rfl
  obtain ⟨f6, F6⟩ := R.fn 6 (by decide)
  obtain ⟨f2, F2⟩ := R.fn 2 (by decide)
  refine Ex_cons (Ex1_assign hE (.loc rfl) (Ev_lstC (EvL_nil ⟨by simp, fun c hc => ?_⟩)))
  have hsub : ∀ es, ∀ b ds, μ b = some ds → upd μ c es b = some ds := fun es b ds e => by
    by_cases hb : b = c
    · subst hb; rw [hc] at e; cases e
    · simp [upd, hb, e]
  refine Ex_cons (Ex1_for (fun ds i ρ μ' => μ' = upd μ c ((((p.take i).filter fun x => !holdsB q x.1 x.2).map (·.1)).map .int) ∧ ρ (Str.ofString "found") = some (.cel c) ∧ ρ (Str.ofString "one") = some (plD p) ∧ ρ (Str.ofString "other") = some (plD q)) ?_)
  walk_at "st"
  refine ⟨_, Itr_lst rm.hh, ⟨rfl, by walk_at "look", by walk_at "look", by walk_at "look"⟩, ?_, ?_⟩
  · rintro i d ρ μ' hd ⟨rfl, h1, h2, h3⟩
    obtain ⟨x, hx, rfl⟩ := map_at hd
    have hxv := hpv x (List.mem_of_getElem? hx)
    refine Asg_tup2 rm.hh (Asg_name hE (.loc rfl) (Asg_name hE (.loc rfl) ?_))
    refine Ex_cons (Ex1_if (Ts_not (Ts_plain (Ev_call R.ok hE F6 rm ?_))))
    walk_at "st"
    walk_at "st"
    walk_at "st"
    walk_at "st"
    walk_at "st"
    walk_at "st"
    walk_at "st"
    refine spec_holds R (by omega) hqv hxv ⟨_, rfl, ?_⟩
    cases hb : holdsB q x.1 x.2 with
    | true =>
      refine Ex_nil (Ex_nil ⟨?_, by walk_at "look", by walk_at "look", by walk_at "look"⟩)
      rw [take_succ' hx, List.filter_append, List.filter_cons_of_neg (by rw [hb]; decide), List.filter_nil, List.append_nil]
    | false =>
      refine Ex_cons (Ex1_expr (Ev_append ?_))
      walk_at "st"
      refine ⟨_, _, rfl, upd_same, ?_⟩
      walk_at "st"
      refine ⟨_, upd_same, ?_, trivial, ?_⟩
      · have := filter_len (p.take i) fun x => !holdsB q x.1 x.2
        rw [List.length_take] at this
        rw [List.length_map]; omega
      · refine Ex_nil (Ex_nil ⟨?_, by walk_at "look", by walk_at "look", by walk_at "look"⟩)
        rw [upd_upd, take_succ' hx, List.filter_append, List.filter_cons_of_pos (by rw [hb]; rfl), List.filter_nil, List.map_append, List.map_append]
        rfl
  · rintro ρ μ' ⟨rfl, h1, h2, h3⟩
    rw [List.length_map, List.take_length]
    refine Ex_cons (Ex1_for (fun ds i ρ μ' => μ' = upd μ c (((((p.filter fun x => !holdsB q x.1 x.2).map (·.1)) ++ ((q.take i).filter fun x => decide (findI p x.1 < 0)).map (·.1))).map .int) ∧ ρ (Str.ofString "found") = some (.cel c) ∧ ρ (Str.ofString "one") = some (plD p)) ?_)
    walk_at "st"
    refine ⟨_, Itr_lst rm.hh, ⟨by simp, by walk_at "look", by walk_at "look"⟩, ?_, ?_⟩
    · rintro i d ρ μ' hd ⟨rfl, h1, h2⟩
      obtain ⟨x, hx, rfl⟩ := map_at hd
      refine Asg_tup2 rm.hh (Asg_name hE (.loc rfl) (Asg_name hE (.loc rfl) ?_))
      refine Ex_cons (Ex1_if (Ts_cmp (Ev_call (lv := 1) R.ok hE F2 (rm.le (by decide)) ?_)))
      walk_at "st"
      walk_at "st"
      walk_at "st"
      walk_at "st"
      walk_at "st"
      refine spec_find R (by omega) ?_
      walk_at "st"
      refine A_lt ⟨_, rfl, ?_⟩
      by_cases hb : findI p x.1 < 0
      · refine iteD hb ?_
        refine Ex_cons (Ex1_expr (Ev_append ?_))
        walk_at "st"
        refine ⟨_, _, rfl, upd_same, ?_⟩
        walk_at "st"
        refine ⟨_, upd_same, ?_, trivial, ?_⟩
        · have a1 := filter_len p fun x => !holdsB q x.1 x.2
          have a2 := filter_len (q.take i) fun x => decide (findI p x.1 < 0)
          rw [List.length_take] at a2
          rw [List.length_map, List.length_append]; omega
        · refine Ex_nil (Ex_nil ⟨?_, by walk_at "look", by walk_at "look"⟩)
          rw [upd_upd, take_succ' hx, List.filter_append, List.filter_cons_of_pos (by simpa using hb), List.filter_nil]
          simp only [List.map_append, List.append_assoc]
          rfl
      · refine iteDn hb ?_
        refine Ex_nil (Ex_nil ⟨?_, by walk_at "look", by walk_at "look"⟩)
        rw [take_succ' hx, List.filter_append, List.filter_cons_of_neg (by simpa using hb), List.filter_nil, List.append_nil]
    · rintro ρ μ' ⟨rfl, h1, h2⟩
      rw [List.length_map, List.take_length]
      refine Ex_cons (Ex1_ret (Ev_sorted R.ok hE ?_ R.sorted))
      walk_at "st"
      refine ⟨changedL p q, .cel upd_same, ?_, fun ns' a1 a2 => ⟨_, rfl, _, h ns' a1 a2, hsub _⟩⟩
      have a1 := filter_len p fun x => !holdsB q x.1 x.2
      have a2 := filter_len q fun x => decide (findI p x.1 < 0)
      unfold changedL
      rw [List.length_append]; omega
end

theorem upd_self {μ : Mu} {a : Addr} {ds : List D} (h : μ a = some ds) : upd μ a ds = μ := by
  funext b; by_cases hb : b = a
  · subst hb; simp [upd, h]
  · simp [upd, hb]
theorem eqv_nil (ds : List D) : PyData.eqv (.list (D.pys ds)) (.list []) = ds.isEmpty := by
  cases ds with
  | nil => simp [D.pys, PyData.eqv, PyData.eqvAll]
  | cons d ds => simp [D.pys, PyData.eqv, PyData.eqvAll]
theorem depInts (ns : List Int) : PyData.depthAll (D.pys (ns.map D.int)) = 0 := by
  induction ns with
  | nil => rfl
  | cons n ns ih => rw [List.map_cons, D.pys, PyData.depthAll, ih, D.py, PyData.depth]; rfl
theorem canInts (ns : List Int) : PyData.canLayAll0 (D.pys (ns.map D.int)) = true := by
  induction ns with
  | nil => rfl
  | cons n ns ih => rw [List.map_cons, D.pys, PyData.canLayAll0, ih, D.py, PyData.canLay0]; rfl
theorem shapedInts (ns : List Int) : SeqAt.shaped (.list (D.pys (ns.map D.int))) = true := by
  unfold SeqAt.shaped
  rw [PyData.canLay0, canInts, PyData.depth, depInts]; rfl
theorem Cm_intsC {μ : Mu} {a : Addr} {ns : List Int} (h : μ a = some (ns.map D.int)) : Cm μ (.cel a) (.list (D.pys (ns.map D.int))) := .cel h (oksInt ns) (shapedInts ns)
theorem Cm_ints {μ : Mu} {ns : List Int} : Cm μ (.lst (ns.map D.int)) (.list (D.pys (ns.map D.int))) := by
  have := Cm.pl (μ := μ) (.lst (ns.map D.int)) (by rw [D.ok]; exact oksInt ns) (by rw [D.py]; exact shapedInts ns)
  rwa [D.py] at this
theorem Cm_nil {μ : Mu} : Cm μ (.lst []) (.list []) := Cm_ints (ns := [])

theorem pick_16 {g : View} {vs : List Value} {ds : List D} (h : All g vs ds) : All g (slicePick vs.toArray none (some 16) none).toList (ds.take 16) := by
  rw [kms_pick_eq]
  unfold kms_pick
  have e1 : kms_lo none vs.toArray.toList.length = 0 := rfl
  have e2 : kms_hi (some 16) vs.toArray.toList.length = min 16 vs.length := rfl
  rw [e1, e2]
  have : (List.take (min 16 vs.length - 0) (List.drop 0 vs.toArray.toList)).toArray.toList = vs.take 16 := by
    simp only [Nat.sub_zero, List.drop_zero]
    rw [← List.take_eq_take_min]
  rw [this]; exact h.take 16

section
variable {B : Base} {A : Around} {env : Env} {ρ : Rho} {μ : Mu} {Φ : D → Mu → Prop}

set_option maxHeartbeats 2000000 in
theorem spec_deck (R : B.Ready) {ns : List Int} (hn : ns.length ≤ 63) (h : ∀ (c : Addr) (ms : List Int), μ c = none → ms.length ≤ 16 → Φ (.cel c) (upd μ c (ms.map .int))) : FSpec B (defNo 12) 1 [.scr ns] μ Φ := by
  refine FSpec_of (xs := [Str.ofString "script"]) rfl R.ok rfl (by walk_at "binds") (by walk_at "kinds") (fun A L a cd rm => ?_)
  simp only [List.zip_cons_cons, List.zip_nil_right, bindR]
  have hE := envC_ok (name := Str.ofString "_law_deck") (L := L) (a := a) (cd := cd) (scope := (defNo 12).scope) rfl
  refine Ex_cons (Ex1_ret (Ev_compC hE ⟨rfl, rfl, rfl, rfl, rfl⟩ ?_))
  refine Ev_slice ?_
  walk_at "st"
  walk_at "st"
  walk_at "st"
  walk_at "st"
  refine ⟨_, rfl, ?_⟩
  walk_at "st"
  refine ⟨ns.map .int, (ns.map .int).take 16, .inr ⟨ns, rfl, rfl⟩, by simp; omega, by simp, fun g vs hA => pick_16 hA, ?_⟩
  refine ⟨_, Itr_lst rm.hh, by simp; omega, fun i acc μ' => μ' = μ ∧ ∃ ms : List Int, ms.length = i ∧ acc = ms.map .int, ⟨rfl, [], rfl, rfl⟩, ?_, ?_⟩
  · rintro C i d acc μ' hE' hd ⟨rfl, ms, hm, rfl⟩
    have : ∃ k : Int, d = .int k := by
      rw [← List.map_take, List.getElem?_map] at hd
      cases q : (ns.take 16)[i]? with
      | none => rw [q] at hd; cases hd
      | some k => rw [q] at hd; exact ⟨k, by simpa using hd.symm⟩
    obtain ⟨k, rfl⟩ := this
    refine AsgL_name hE' ⟨sub_up (capR_none), TsL_nil (iteT ?_)⟩
    refine Ev_bin (Ev_abs R.ok hE' ?_ R.abs)
    walk_at "st"
    refine ⟨_, rfl, ?_⟩
    walk_at "st"
    walk_at "st"
    walk_at "st"
    refine A_pow (by decide) (by decide) (by decide) ?_
    refine A_mod (by decide) ⟨rfl, ms ++ [(if k < 0 then -k else k).fmod (10 ^ Int.toNat 30)], by simp [hm], ?_⟩
    rw [List.map_append]; rfl
  · rintro acc μ' ⟨rfl, ms, hm, rfl⟩ c hc
    refine ⟨_, rfl, _, h c ms hc ?_, fun _ _ e => e⟩
    rw [hm]; simp; omega

set_option maxHeartbeats 2000000 in
theorem spec_draw (R : B.Ready) {c : Addr} {ns : List Int} {m : Int} (hc : μ c = some (ns.map .int)) (hn : ns.length ≤ 16) (hm0 : 0 < m) (hm1 : m < 1000)
    (h : ∀ (r : Int) (ms : List Int), 0 ≤ r → r < m → ms.length ≤ 16 → Φ (.int r) (upd μ c (ms.map .int))) : FSpec B (defNo 13) 1 [.cel c, .int m] μ Φ := by
  refine FSpec_of (xs := [Str.ofString "deck", Str.ofString "many"]) rfl R.ok rfl (by walk_at "binds") (by walk_at "kinds") (fun A L a cd rm => ?_)
  simp only [List.zip_cons_cons, List.zip_nil_right, bindR]
  have hE := envC_ok (name := Str.ofString "_law_draw") (L := L) (a := a) (cd := cd) (scope := (defNo 13).scope) rfl
  refine Ex_cons (Ex1_while (fun k ρ μ' => ∃ ms : List Int, μ' = upd μ c (ms.map .int) ∧ ms.length = k ∧ k ≤ 16 ∧ ρ (Str.ofString "deck") = some (.cel c) ∧ ρ (Str.ofString "many") = some (.int m)) ns.length ⟨ns, (upd_self hc).symm, rfl, hn, by walk_at "look", by walk_at "look"⟩ ?_)
  rintro k ρ μ' ⟨ms, rfl, rfl, hk, h1, h2⟩
  refine Ts_and (Ts_cmp ?_)
  walk_at "st"
  refine Ev_lst (EvL_nil ⟨by decide, ?_⟩)
  refine A_ne rm (Cm_intsC upd_same) Cm_nil ⟨_, rfl, ?_⟩
  rw [eqv_nil]
  cases ms with
  | nil =>
    refine iteF (iteF ?_)
    refine Ex_cons (Ex1_if (Ts_cmp ?_))
    walk_at "st"
    refine Ev_lst (EvL_nil ⟨by decide, ?_⟩)
    refine A_eq rm (Cm_intsC upd_same) Cm_nil ⟨_, rfl, ?_⟩
    rw [eqv_nil]
    refine iteT (Ex_cons (Ex1_ret (Ev_int ⟨_, rfl, _, h 0 [] (by omega) hm0 (by simp), fun _ _ e => e⟩)))
  | cons x xs =>
    refine iteT (Ts_and (Ts_cmp (Ev_item ?_)))
    walk_at "st"
    walk_at "st"
    refine ⟨_, _, D.int x, .cel upd_same, rfl, by decide, by decide, rfl, ?_⟩
    walk_at "st"
    refine A_eq rm (Cm_int _) (Cm_int _) ⟨_, rfl, ?_⟩
    rw [eqv_int]
    simp only [List.length_cons] at hk
    by_cases hx : x = 0
    · rw [beq_iff_eq.mpr hx]
      refine iteT (Ts_andN (iteT ?_))
      refine Ex_cons (Ex1_expr (Ev_pop0 ?_))
      walk_at "st"
      refine ⟨_, _, _, rfl, upd_same, by rw [List.length_map]; omega, ?_⟩
      refine ⟨by subst hx; trivial, Ex_nil ⟨xs.length, by simp, xs, upd_upd, rfl, by omega, h1, h2⟩⟩
    · rw [beq_eq_false_iff_ne.mpr hx]
      refine iteF (iteF ?_)
      refine Ex_cons (Ex1_if (Ts_cmp ?_))
      walk_at "st"
      refine Ev_lst (EvL_nil ⟨by decide, ?_⟩)
      refine A_eq rm (Cm_intsC upd_same) Cm_nil ⟨_, rfl, ?_⟩
      rw [eqv_nil]
      refine iteF (Ex_nil (Ex_cons (Ex1_assign hE (.loc rfl) (Ev_bin (Ev_item ?_)))))
      walk_at "st"
      walk_at "st"
      refine ⟨_, _, D.int x, .cel upd_same, rfl, by decide, by decide, rfl, ?_⟩
      walk_at "st"
      refine A_mod (by omega) ?_
      refine Ex_cons (Ex1_setitem (Ev_bin (Ev_item ?_)))
      walk_at "st"
      walk_at "st"
      refine ⟨_, _, D.int x, .cel upd_same, rfl, by decide, by decide, rfl, ?_⟩
      walk_at "st"
      refine A_fdiv (by omega) (by omega) ?_
      walk_at "st"
      walk_at "st"
      refine ⟨c, _, 0, rfl, rfl, upd_same, by decide, by simp, by rw [List.length_map, List.length_cons]; omega, ?_⟩
      refine Ex_cons (Ex1_ret ?_)
      walk_at "st"
      refine ⟨_, rfl, _, ?_, fun _ _ e => e⟩
      rw [upd_upd]
      exact h (x.fmod m) (x.fdiv m :: xs) (Int.fmod_nonneg_of_pos _ hm0) (Int.fmod_lt_of_pos _ hm0) (by rw [List.length_cons]; omega)

abbrev vals : List D := [.int 0, .int 1, .int 2, .str (Str.ofString "a"), .bool true, .bool false]

set_option maxHeartbeats 2000000 in
theorem spec_value (R : B.Ready) {c : Addr} {ns : List Int} (hc : μ c = some (ns.map .int)) (hn : ns.length ≤ 16)
    (h : ∀ (v : D) (ms : List Int), v ∈ vals → ms.length ≤ 16 → Φ v (upd μ c (ms.map .int))) : FSpec B (defNo 15) 2 [.cel c] μ Φ := by
  refine FSpec_of (xs := [Str.ofString "deck"]) rfl R.ok rfl (by walk_at "binds") (by walk_at "kinds") (fun A L a cd rm => ?_)
  simp only [List.zip_cons_cons, List.zip_nil_right, bindR]
  have hE := envC_ok (name := Str.ofString "_law_value") (L := L) (a := a) (cd := cd) (scope := (defNo 15).scope) rfl
  obtain ⟨f, F⟩ := R.fn 13 (by decide)
  refine Ex_cons (Ex1_ret (Ev_item (Ev_lst ?_)))
  iterate 13 walk_at "st"
  refine ⟨by decide, Ev_call R.ok hE F rm ?_⟩
  iterate 5 walk_at "st"
  refine spec_draw R hc hn (by decide) (by decide) fun r ms h0 h6 hms => ?_
  have : r.toNat < vals.length := by show r.toNat < 6; omega
  refine ⟨_, r, vals[r.toNat], .lst vals, rfl, h0, by omega, List.getElem?_eq_getElem this, ?_⟩
  exact ⟨_, rfl, _, h _ ms (List.getElem_mem this) hms, fun _ _ e => e⟩
end

theorem sub_up2 {ρ : Rho} {x y : Str} {d e : D} (h1 : ρ x = none) (h2 : ρ y = none) : ∀ z k, ρ z = some k → up (up ρ x d) y e z = some k := fun z k q => by
  by_cases hy : z = y
  · subst hy; rw [h2] at q; cases q
  · by_cases hx : z = x
    · subst hx; rw [h1] at q; cases q
    · simp [up, hy, hx, q]
def putL (p : List (Int × D)) (n : Int) (v : D) : List (Int × D) := if (p.filter fun x => x.1 == n).isEmpty then p ++ [(n, v)] else p.map fun x => (x.1, if x.1 == n then v else x.2)

section
variable {B : Base} {A : Around} {env : Env} {ρ : Rho} {μ : Mu} {Φ : D → Mu → Prop}

set_option maxHeartbeats 2000000 in
theorem spec_put (R : B.Ready) {p : List (Int × D)} {n : Int} {v : D} (hp : p.length ≤ 100) (h : Φ (plD (putL p n v)) μ) : FSpec B (defNo 16) 1 [plD p, .int n, v] μ Φ := by
  refine FSpec_of (xs := [Str.ofString "rows", Str.ofString "number", Str.ofString "value"]) rfl R.ok rfl (by walk_at "binds") (by walk_at "kinds") (fun A L a cd rm => ?_)
  simp only [List.zip_cons_cons, List.zip_nil_right, bindR]
  have hE := envC_ok (name := Str.ofString "_law_put") (L := L) (a := a) (cd := cd) (scope := (defNo 16).scope) rfl
  refine Ex_cons (Ex1_if (Ts_cmp (Ev_comp hE ⟨rfl, rfl, rfl, rfl, rfl⟩ ?_)))
  walk_at "st"
  refine ⟨_, Itr_lst rm.hh, by simp; omega, fun i acc μ' => μ' = μ ∧ acc = (((p.take i).filter fun x => x.1 == n).map fun _ => (1 : Int)).map D.int, ⟨rfl, rfl⟩, ?_, ?_⟩
  · rintro C i d acc μ' hE' hd ⟨rfl, rfl⟩
    obtain ⟨x, hx, rfl⟩ := map_at hd
    refine AsgL_tup2 rm.hh (AsgL_name hE' (AsgL_name hE' ⟨sub_up2 (capR_none) (capR_none), TsL_one (Ts_cmp ?_)⟩))
    walk_at "st"
    walk_at "st"
    refine A_eq rm (Cm_int _) (Cm_int _) ⟨_, rfl, ?_⟩
    rw [eqv_int]
    cases hxn : x.1 == n with
    | true =>
      refine iteT ?_
      walk_at "st"
      refine ⟨rfl, ?_⟩
      rw [take_succ' hx, List.filter_append, List.filter_cons_of_pos (by rw [hxn]), List.filter_nil, List.map_append, List.map_append]; rfl
    | false =>
      refine iteF ⟨rfl, ?_⟩
      rw [take_succ' hx, List.filter_append, List.filter_cons_of_neg (by rw [hxn]; decide), List.filter_nil, List.append_nil]
  · rintro acc μ' ⟨rfl, rfl⟩
    rw [List.length_map, List.take_length]
    refine Ev_lst (EvL_nil ⟨by decide, ?_⟩)
    refine A_eq rm Cm_ints Cm_nil ⟨_, rfl, ?_⟩
    rw [eqv_nil, List.isEmpty_map, List.isEmpty_map]
    unfold putL at h
    cases he : (p.filter fun x => x.1 == n).isEmpty with
    | true =>
      rw [he, if_pos rfl] at h
      refine iteT (Ex_cons (Ex1_ret (Ev_bin ?_)))
      walk_at "st"
      refine Ev_lst (EvL_cons (Ev_tup ?_))
      iterate 5 walk_at "st"
      refine ⟨by simp, ?_⟩
      walk_at "st"
      refine ⟨by simp, A_cat (.lst _) (.lst _) (by simp; omega) ?_⟩
      refine ⟨_, rfl, _, ?_, fun _ _ e => e⟩
      simpa [plD] using h
    | false =>
      rw [he, if_neg (by decide)] at h
      refine iteF (Ex_nil (Ex_cons (Ex1_ret (Ev_comp hE ⟨rfl, rfl, rfl, rfl, rfl⟩ ?_))))
      walk_at "st"
      refine ⟨_, Itr_lst rm.hh, by simp; omega, fun i acc μ'' => μ'' = μ' ∧ acc = ((p.take i).map fun x => (x.1, if x.1 == n then v else x.2)).map pd, ⟨rfl, rfl⟩, ?_, ?_⟩
      · rintro C i d acc μ'' hE' hd ⟨rfl, rfl⟩
        obtain ⟨x, hx, rfl⟩ := map_at hd
        refine AsgL_tup2 rm.hh (AsgL_name hE' (AsgL_name hE' ⟨sub_up2 (capR_none) (capR_none), TsL_nil (iteT (Ev_tup (EvL_cons ?_)))⟩))
        walk_at "st"
        refine EvL_cons (Ev_if (Ts_cmp ?_))
        walk_at "st"
        walk_at "st"
        refine A_eq rm (Cm_int _) (Cm_int _) ⟨_, rfl, ?_⟩
        rw [eqv_int]
        have hs : ∀ w : D, w = (if (x.1 == n) = true then v else x.2) → (List.map (pd) (List.map (fun x => (x.1, if (x.1 == n) = true then v else x.2)) (p.take i)) ++ [D.tup [.int x.1, w]]) = List.map pd (List.map (fun x => (x.1, if (x.1 == n) = true then v else x.2)) (p.take (i + 1))) := by
          rintro w rfl
          rw [take_succ' hx, List.map_append, List.map_append]; rfl
        cases hxn : x.1 == n with
        | true =>
          refine iteT ?_
          walk_at "st"
          walk_at "st"
          exact ⟨by simp, rfl, hs _ (by rw [hxn, if_pos rfl])⟩
        | false =>
          refine iteF ?_
          walk_at "st"
          walk_at "st"
          exact ⟨by simp, rfl, hs _ (by rw [hxn, if_neg (by decide)])⟩
      · rintro acc μ'' ⟨rfl, rfl⟩
        rw [List.length_map, List.take_length]
        exact ⟨_, rfl, _, h, fun _ _ e => e⟩
end

abbrev keys (p : List (Int × D)) : List Int := p.map (·.1)
def Good (l : List (Int × D)) : Prop := ∀ x ∈ l, (0 ≤ x.1 ∧ x.1 < 5) ∧ x.2 ∈ vals
structure Inv (p : List (Int × D)) : Prop where
  nd : (keys p).Nodup
  good : Good p

theorem vals_V {v : D} (h : v ∈ vals) : v.isV = true := by
  simp only [vals, List.mem_cons, List.not_mem_nil, or_false] at h
  rcases h with rfl | rfl | rfl | rfl | rfl | rfl <;> decide +kernel
theorem Good.V {l : List (Int × D)} (h : Good l) : ∀ x ∈ l, x.2.isV = true := fun x hx => vals_V (h x hx).2
theorem Good.append {l m : List (Int × D)} (h : Good l) (k : Good m) : Good (l ++ m) := fun x hx => by
  rcases List.mem_append.mp hx with q | q
  · exact h x q
  · exact k x q
theorem Good.one {n : Int} {v : D} (h0 : 0 ≤ n) (h5 : n < 5) (hv : v ∈ vals) : Good [(n, v)] := fun x hx => by
  rw [List.mem_singleton.mp hx]; exact ⟨⟨h0, h5⟩, hv⟩
theorem Good.nil : Good [] := fun x hx => by cases hx
theorem Good.take {l : List (Int × D)} (h : Good l) (i : Nat) : Good (l.take i) := fun x hx => h x (List.mem_of_mem_take hx)

theorem nodup_le {l : List Int} : ∀ {m : List Int}, l.Nodup → (∀ x ∈ l, x ∈ m) → l.length ≤ m.length := by
  induction l with
  | nil => intro m _ _; simp
  | cons a l ih =>
    intro m hd hm
    obtain ⟨h1, h2⟩ := List.nodup_cons.mp hd
    have ha : a ∈ m := hm a List.mem_cons_self
    have := ih (m := m.erase a) h2 fun x hx => (List.mem_erase_of_ne (by rintro rfl; exact h1 hx)).mpr (hm x (List.mem_cons_of_mem _ hx))
    rw [List.length_erase_of_mem ha] at this
    have : 0 < m.length := List.length_pos_of_mem ha
    rw [List.length_cons]; omega

theorem Inv.len {p : List (Int × D)} (h : Inv p) : p.length ≤ 5 := by
  have := nodup_le (m := [0, 1, 2, 3, 4]) h.nd fun x hx => by
    obtain ⟨y, hy, rfl⟩ := List.mem_map.mp hx
    have := (h.good y hy).1
    simp only [List.mem_cons, List.not_mem_nil, or_false]; omega
  rw [List.length_map] at this; exact this
theorem Inv.V {p : List (Int × D)} (h : Inv p) : ∀ x ∈ p, x.2.isV = true := h.good.V
theorem Inv.nil : Inv [] := ⟨List.nodup_nil, Good.nil⟩
theorem Inv.filter {p : List (Int × D)} (h : Inv p) (f : Int × D → Bool) : Inv (p.filter f) :=
  ⟨List.Nodup.sublist (List.Sublist.map _ List.filter_sublist) h.nd, fun x hx => h.good x (List.mem_filter.mp hx).1⟩
theorem Inv.tail {x : Int × D} {p : List (Int × D)} (h : Inv (x :: p)) : Inv p := ⟨(List.nodup_cons.mp h.nd).2, fun y hy => h.good y (List.mem_cons_of_mem _ hy)⟩
theorem Inv.head {x : Int × D} {p : List (Int × D)} (h : Inv (x :: p)) : ∀ y ∈ p, y.1 ≠ x.1 := fun y hy e =>
  (List.nodup_cons.mp h.nd).1 (List.mem_map.mpr ⟨y, hy, e⟩)

theorem withP_cons {x : Int × D} {p : List (Int × D)} {n : Int} {v : D} (h : x.1 ≠ n) : withP (x :: p) n v = x :: withP p n v := by
  unfold withP
  rw [List.findIdx?_cons]
  rw [show (x.1 == n) = false from beq_eq_false_iff_ne.mpr h]
  cases q : List.findIdx? (fun x => x.1 == n) p with
  | none => simp
  | some j => simp
theorem withP_head {x : Int × D} {p : List (Int × D)} {n : Int} {v : D} (h : x.1 = n) : withP (x :: p) n v = (n, v) :: p := by
  unfold withP
  rw [List.findIdx?_cons]
  rw [show (x.1 == n) = true from beq_iff_eq.mpr h]
  simp
theorem putL_cons {x : Int × D} {p : List (Int × D)} {n : Int} {v : D} (h : x.1 ≠ n) : putL (x :: p) n v = x :: putL p n v := by
  unfold putL
  have e : (x.1 == n) = false := beq_eq_false_iff_ne.mpr h
  rw [List.filter_cons_of_neg (by rw [e]; decide)]
  split
  · rfl
  · rw [List.map_cons, e]; rfl
theorem putL_head {x : Int × D} {p : List (Int × D)} {n : Int} {v : D} (h : x.1 = n) (hp : ∀ y ∈ p, y.1 ≠ n) : putL (x :: p) n v = (n, v) :: p := by
  unfold putL
  have e : (x.1 == n) = true := beq_iff_eq.mpr h
  rw [List.filter_cons_of_pos (by rw [e]), if_neg (by simp), List.map_cons, e, if_pos rfl, h]
  congr 1
  refine (List.map_congr_left fun y hy => ?_).trans (List.map_id p)
  rw [show (y.1 == n) = false from beq_eq_false_iff_ne.mpr (hp y hy)]
  rfl
theorem withP_nil {n : Int} {v : D} : withP [] n v = [(n, v)] := rfl
theorem putL_nil {n : Int} {v : D} : putL [] n v = [(n, v)] := rfl

theorem with_put {p : List (Int × D)} {n : Int} {v : D} (h : Inv p) : withP p n v = putL p n v := by
  induction p with
  | nil => rfl
  | cons x p ih =>
    by_cases hx : x.1 = n
    · rw [withP_head hx, putL_head hx (fun y hy => hx ▸ h.head y hy)]
    · rw [withP_cons hx, putL_cons hx, ih h.tail]
theorem put_mem {p : List (Int × D)} {n : Int} {v : D} {y : Int × D} (hy : y ∈ putL p n v) : y ∈ p ∨ y.1 = n ∧ y.2 = v := by
  unfold putL at hy
  split at hy
  · rcases List.mem_append.mp hy with q | q
    · exact .inl q
    · rw [List.mem_singleton.mp q]; exact .inr ⟨rfl, rfl⟩
  · obtain ⟨x, hx, rfl⟩ := List.mem_map.mp hy
    by_cases e : (x.1 == n) = true
    · simp only [e, if_true]; exact .inr ⟨beq_iff_eq.mp e, trivial⟩
    · simp only [e]; exact .inl hx
theorem put_inv {p : List (Int × D)} {n : Int} {v : D} (h : Inv p) (h0 : 0 ≤ n) (h5 : n < 5) (hv : v ∈ vals) : Inv (putL p n v) := by
  refine ⟨?_, fun y hy => ?_⟩
  · induction p with
    | nil => simp [putL_nil, keys]
    | cons x p ih =>
      by_cases hx : x.1 = n
      · rw [putL_head hx (fun y hy => hx ▸ h.head y hy)]
        have := h.nd
        simp only [keys, List.map_cons, hx] at this ⊢
        exact this
      · rw [putL_cons hx]
        refine List.nodup_cons.mpr ⟨fun hm => ?_, ih h.tail⟩
        obtain ⟨y, hy, e⟩ := List.mem_map.mp hm
        rcases put_mem hy with q | ⟨q, _⟩
        · exact h.head y q e
        · exact hx (Eq.trans (Eq.symm e) q)
  · rcases put_mem hy with q | ⟨q1, q2⟩
    · exact h.good y q
    · rw [q1, q2]; exact ⟨⟨h0, h5⟩, hv⟩

theorem getV_cons {x : Int × D} {p : List (Int × D)} {n : Int} : getV (x :: p) n = if x.1 = n then some x.2 else getV p n := by
  unfold getV
  by_cases h : x.1 = n
  · rw [List.find?_cons_of_pos (by simpa using h), if_pos h]; rfl
  · rw [List.find?_cons_of_neg (by simpa using h), if_neg h]
theorem hold_put {p : List (Int × D)} {n : Int} {v : D} (h : Inv p) (hb : holdsB p n v = true) : putL p n v = p := by
  induction p with
  | nil => cases hb
  | cons x p ih =>
    unfold holdsB at hb
    rw [getV_cons] at hb
    by_cases hx : x.1 = n
    · rw [putL_head hx (fun y hy => hx ▸ h.head y hy)]
      rw [if_pos hx] at hb
      have := (eqD_iff (h.V x List.mem_cons_self)).mp hb
      subst this; subst hx; rfl
    · rw [if_neg hx] at hb
      rw [putL_cons hx, ih h.tail hb]

abbrev puts (p l : List (Int × D)) : List (Int × D) := l.foldl (fun q x => putL q x.1 x.2) p
theorem puts_inv {p l : List (Int × D)} (h : Inv p) (hl : Good l) : Inv (puts p l) := by
  induction l generalizing p with
  | nil => exact h
  | cons x l ih =>
    have hx := hl x List.mem_cons_self
    exact ih (put_inv h hx.1.1 hx.1.2 hx.2) fun y hy => hl y (List.mem_cons_of_mem _ hy)
theorem puts_snoc {p l : List (Int × D)} {x : Int × D} : puts p (l ++ [x]) = putL (puts p l) x.1 x.2 := by
  unfold puts; rw [List.foldl_append]; rfl
theorem added_puts {p l : List (Int × D)} (h : Inv p) (hl : Good l) : addedP p l = puts p l := by
  unfold addedP puts
  induction l generalizing p with
  | nil => rfl
  | cons x l ih =>
    have hx := hl x List.mem_cons_self
    have e : (if holdsB p x.1 x.2 = true then p else withP p x.1 x.2) = putL p x.1 x.2 := by
      split
      · rename_i q; exact (hold_put h q).symm
      · exact with_put h
    rw [List.foldl_cons, List.foldl_cons, e]
    exact ih (put_inv h hx.1.1 hx.1.2 hx.2) fun y hy => hl y (List.mem_cons_of_mem _ hy)

section
variable {B : Base} {A : Around} {env : Env} {ρ : Rho} {μ : Mu} {Φ : D → Mu → Prop}

set_option maxHeartbeats 4000000 in
theorem spec_deed (R : B.Ready) {c : Addr} {ns : List Int} {p : List (Int × D)} (hc : μ c = some (ns.map .int)) (hn : ns.length ≤ 16) (hp : Inv p)
    (h : ∀ (q : List (Int × D)) (ms : List Int), Inv q → ms.length ≤ 16 → Φ (.tup [plD q, plD q]) (upd μ c (ms.map .int))) : FSpec B (defNo 17) 4 [.cel c, plD p, plD p] μ Φ := by
  refine FSpec_of (xs := [Str.ofString "deck", Str.ofString "plist", Str.ofString "rows"]) rfl R.ok rfl (by walk_at "binds") (by walk_at "kinds") (fun A L a cd rm => ?_)
  simp only [List.zip_cons_cons, List.zip_nil_right, bindR]
  have hE := envC_ok (name := Str.ofString "_law_deed") (L := L) (a := a) (cd := cd) (scope := (defNo 17).scope) rfl
  have hlen := hp.len
  obtain ⟨f13, F13⟩ := R.fn 13 (by decide)
  obtain ⟨f15, F15⟩ := R.fn 15 (by decide)
  obtain ⟨f16, F16⟩ := R.fn 16 (by decide)
  obtain ⟨f4, F4⟩ := R.fn 4 (by decide)
  obtain ⟨f5, F5⟩ := R.fn 5 (by decide)
  obtain ⟨f8, F8⟩ := R.fn 8 (by decide)
  obtain ⟨f9, F9⟩ := R.fn 9 (by decide)
  refine Ex_cons (Ex1_assignT (Ev_tup (EvL_cons (Ev_call (lv := 1) R.ok hE F13 (rm.le (by decide)) ?_))))
  iterate 5 walk_at "st"
  refine spec_draw R hc hn (by decide) (by decide) fun way ms₁ hw0 hw4 hms₁ => ?_
  refine EvL_cons (Ev_call (lv := 1) R.ok hE F13 (rm.le (by decide)) ?_)
  iterate 5 walk_at "st"
  refine spec_draw R upd_same hms₁ (by decide) (by decide) fun n ms₂ hn0 hn5 hms₂ => ?_
  walk_at "st"
  refine ⟨by simp, Asg_tup2 rm.hh (Asg_name hE (.loc rfl) (Asg_name hE (.cel rfl rfl) ?_))⟩
  rw [upd_upd]
  refine Ex_cons (Ex1_if (Ts_cmp ?_))
  iterate 2 walk_at "st"
  refine A_eq rm (Cm_int _) (Cm_int _) ⟨_, rfl, ?_⟩
  rw [eqv_int]
  by_cases h0 : way = 0
  · rw [beq_iff_eq.mpr h0]
    refine iteT (Ex_cons (Ex1_assign hE (.loc rfl) (Ev_call (lv := 2) R.ok hE F15 (rm.le (by decide)) ?_)))
    iterate 3 walk_at "st"
    refine spec_value R upd_same hms₂ fun v ms₃ hv hms₃ => ?_
    refine Ex_cons (Ex1_ret (Ev_tup (EvL_cons (Ev_call (lv := 2) R.ok hE F4 (rm.le (by decide)) ?_))))
    iterate 7 walk_at "st"
    refine spec_with R (by omega) ?_
    refine EvL_cons (Ev_call (lv := 1) R.ok hE F16 (rm.le (by decide)) ?_)
    iterate 7 walk_at "st"
    refine spec_put R (by omega) ?_
    walk_at "st"
    refine ⟨by simp, _, rfl, _, ?_, fun _ _ e => e⟩
    rw [upd_upd, with_put hp]
    exact h _ _ (put_inv hp hn0 hn5 hv) hms₃
  rw [beq_eq_false_iff_ne.mpr h0]
  refine iteF (Ex_nil (Ex_cons (Ex1_if (Ts_cmp ?_))))
  iterate 2 walk_at "st"
  refine A_eq rm (Cm_int _) (Cm_int _) ⟨_, rfl, ?_⟩
  rw [eqv_int]
  by_cases h1 : way = 1
  · rw [beq_iff_eq.mpr h1]
    refine iteT (Ex_cons (Ex1_ret (Ev_tup (EvL_cons (Ev_call (lv := 1) R.ok hE F5 (rm.le (by decide)) ?_)))))
    iterate 5 walk_at "st"
    refine spec_without R (by omega) ?_
    refine EvL_cons (Ev_comp hE ⟨rfl, rfl, rfl, rfl, rfl⟩ ?_)
    walk_at "st"
    refine ⟨_, Itr_lst rm.hh, by simp; omega, fun i acc μ' => μ' = upd μ c (ms₂.map .int) ∧ acc = ((p.take i).filter fun x => x.1 != n).map pd, ⟨rfl, rfl⟩, ?_, ?_⟩
    · rintro C i d acc μ' hE' hd ⟨rfl, rfl⟩
      obtain ⟨x, hx, rfl⟩ := map_at hd
      refine AsgL_name hE' ⟨sub_up (capR_none), TsL_one (Ts_cmp (Ev_place (j := 0) ?_))⟩
      walk_at "st"
      refine ⟨_, _, rfl, rfl, by decide, ?_⟩
      walk_at "st"
      refine A_ne rm (Cm_int _) (Cm_int _) ⟨_, rfl, ?_⟩
      rw [eqv_int]
      by_cases hxn : x.1 = n
      · rw [beq_iff_eq.mpr hxn]
        refine iteF ⟨rfl, ?_⟩
        rw [take_succ' hx, List.filter_append]; simp [hxn]
      · rw [beq_eq_false_iff_ne.mpr hxn]
        refine iteT ?_
        walk_at "st"
        refine ⟨rfl, ?_⟩
        rw [take_succ' hx, List.filter_append]; simp [hxn]
    · rintro acc μ' ⟨rfl, rfl⟩
      rw [List.length_map, List.take_length]
      walk_at "st"
      exact ⟨by simp, _, rfl, _, h _ _ (hp.filter _) hms₂, fun _ _ e => e⟩
  rw [beq_eq_false_iff_ne.mpr h1]
  refine iteF (Ex_nil (Ex_cons (Ex1_assignComp hE ⟨rfl, rfl, rfl, rfl, rfl⟩ (Ev_range R.ok hE (Ev_call (lv := 1) R.ok hE F13 (rm.le (by decide)) ?_) R.range))))
  iterate 5 walk_at "st"
  refine spec_draw R upd_same hms₂ (by decide) (by decide) fun k ms₃ hk0 hk4 hms₃ => ?_
  obtain ⟨k, rfl⟩ := Int.eq_ofNat_of_zero_le hk0
  rw [upd_upd]
  refine ⟨_, rfl, _, Itr_rng rm.hh (by omega), by rw [rngD_len]; omega, fun i acc μ' => ∃ (l : List (Int × D)) (ms : List Int), l.length = i ∧ acc = l.map pd ∧ Good l ∧ μ' = upd μ c (ms.map .int) ∧ ms.length ≤ 16, ⟨[], ms₃, rfl, rfl, Good.nil, rfl, hms₃⟩, ?_, ?_⟩
  · rintro C i d acc μ' hE' hd ⟨l, ms, rfl, rfl, hl, rfl, hms⟩
    refine AsgL_name hE' ⟨sub_up (capR_none), TsL_nil (iteT (Ev_tup (EvL_cons (Ev_call (lv := 1) R.ok hE' F13 (rm.le (by decide)) ?_))))⟩
    iterate 5 walk_at "st"
    refine spec_draw R upd_same hms (by decide) (by decide) fun o ms₄ ho0 ho5 hms₄ => ?_
    refine EvL_cons (Ev_call (lv := 2) R.ok hE' F15 (rm.le (by decide)) ?_)
    iterate 3 walk_at "st"
    refine spec_value R upd_same hms₄ fun v ms₅ hv hms₅ => ?_
    walk_at "st"
    refine ⟨by simp, l ++ [(o, v)], ms₅, by simp, by rw [List.map_append]; rfl, hl.append (Good.one ho0 ho5 hv), by rw [upd_upd, upd_upd], hms₅⟩
  rintro acc μ' ⟨l, ms, hll, rfl, hl, rfl, hms⟩
  rw [rngD_len] at hll
  refine Ex_cons (Ex1_if (Ts_cmp ?_))
  iterate 2 walk_at "st"
  refine A_eq rm (Cm_int _) (Cm_int _) ⟨_, rfl, ?_⟩
  rw [eqv_int]
  by_cases h2 : way = 2
  · rw [beq_iff_eq.mpr h2]
    refine iteT (Ex_cons (Ex1_for (fun ds i ρ μ' => μ' = upd μ c (ms.map .int) ∧ ρ (Str.ofString "rows") = some (plD (puts p (l.take i))) ∧ ρ (Str.ofString "plist") = some (plD p) ∧ ρ (Str.ofString "some") = some (plD l)) ?_))
    walk_at "st"
    refine ⟨_, Itr_lst rm.hh, ⟨rfl, by walk_at "look", by walk_at "look", by walk_at "look"⟩, ?_, ?_⟩
    · rintro i d ρ μ' hd ⟨rfl, e1, e2, e3⟩
      obtain ⟨x, hx, rfl⟩ := map_at hd
      have hq := (puts_inv (l := l.take i) hp (hl.take i)).len
      refine Asg_tup2 rm.hh (Asg_name hE (.loc rfl) (Asg_name hE (.loc rfl) ?_))
      refine Ex_cons (Ex1_assign hE (.loc rfl) (Ev_call (lv := 1) R.ok hE F16 (rm.le (by decide)) ?_))
      iterate 7 walk_at "st"
      refine spec_put R (by omega) ?_
      refine Ex_nil ⟨rfl, ?_, by walk_at "look", by walk_at "look"⟩
      rw [take_succ' hx, puts_snoc]
      walk_at "look"
    · rintro ρ μ' ⟨rfl, e1, e2, e3⟩
      rw [List.length_map, List.take_length] at e1
      refine Ex_cons (Ex1_ret (Ev_tup (EvL_cons (Ev_call (lv := 3) R.ok hE F8 (rm.le (by decide)) ?_))))
      iterate 5 walk_at "st"
      refine spec_added R (by omega) hp.V hl.V ?_
      iterate 3 walk_at "st"
      refine ⟨by simp, _, rfl, _, ?_, fun _ _ e => e⟩
      rw [added_puts hp hl]
      exact h _ _ (puts_inv hp hl) hms
  rw [beq_eq_false_iff_ne.mpr h2]
  refine iteF (Ex_nil (Ex_cons (Ex1_assign hE (.cel rfl rfl) (Ev_comp hE ⟨rfl, rfl, rfl, rfl, rfl⟩ ?_))))
  walk_at "st"
  refine ⟨_, Itr_lst rm.hh, by simp; omega, fun i acc μ' => μ' = upd μ c (ms.map .int) ∧ acc = ((l.take i).map (·.1)).map .int, ⟨rfl, rfl⟩, ?_, ?_⟩
  · rintro C i d acc μ' hE' hd ⟨rfl, rfl⟩
    obtain ⟨x, hx, rfl⟩ := map_at hd
    refine AsgL_tup2 rm.hh (AsgL_name hE' (AsgL_name hE' ⟨sub_up2 (capR_none) (capR_none), TsL_nil (iteT ?_)⟩))
    walk_at "st"
    refine ⟨rfl, ?_⟩
    rw [take_succ' hx, List.map_append, List.map_append]; rfl
  rintro acc μ' ⟨rfl, rfl⟩
  rw [List.length_map, List.take_length]
  refine Ex_cons (Ex1_ret (Ev_tup (EvL_cons (Ev_call (lv := 1) R.ok hE F9 (rm.le (by decide)) ?_))))
  iterate 5 walk_at "st"
  refine spec_removed R (by omega) ?_
  refine EvL_cons (Ev_comp hE ⟨rfl, rfl, rfl, rfl, rfl⟩ ?_)
  walk_at "st"
  refine ⟨_, Itr_lst rm.hh, by simp; omega, fun i acc μ' => μ' = upd μ c (ms.map .int) ∧ acc = ((p.take i).filter fun x => !(l.map (·.1)).contains x.1).map pd, ⟨rfl, rfl⟩, ?_, ?_⟩
  · rintro C i d acc μ' hE' hd ⟨rfl, rfl⟩
    obtain ⟨x, hx, rfl⟩ := map_at hd
    refine AsgL_name hE' ⟨sub_up (capR_none), TsL_one (Ts_cmp (Ev_place (j := 0) ?_))⟩
    walk_at "st"
    refine ⟨_, _, rfl, rfl, by decide, ?_⟩
    walk_at "st"
    refine A_nin rm rfl rfl (.lst _) (oksInt _) ⟨_, rfl, ?_⟩
    rw [anyInt]
    cases hxn : (l.map (·.1)).contains x.1 with
    | true =>
      refine iteF ⟨rfl, ?_⟩
      rw [take_succ' hx, List.filter_append, List.filter_cons_of_neg (by rw [hxn]; decide), List.filter_nil, List.append_nil]
    | false =>
      refine iteT ?_
      walk_at "st"
      refine ⟨rfl, ?_⟩
      rw [take_succ' hx, List.filter_append, List.filter_cons_of_pos (by rw [hxn]; rfl), List.filter_nil, List.map_append]; rfl
  · rintro acc μ' ⟨rfl, rfl⟩
    rw [List.length_map, List.take_length]
    walk_at "st"
    exact ⟨by simp, _, rfl, _, h _ _ (hp.filter _) hms, fun _ _ e => e⟩
end

theorem contains_none {p : List (Int × D)} {n : Int} (h : p.findIdx? (fun x => x.1 == n) = none) : (keys p).contains n = false := by
  rw [List.findIdx?_eq_none_iff] at h
  cases q : (keys p).contains n with
  | false => rfl
  | true =>
    obtain ⟨x, hx, e⟩ := List.mem_map.mp (List.contains_iff_mem.mp q)
    have := h x hx
    rw [e] at this; simp at this
theorem contains_some {p : List (Int × D)} {n : Int} {j : Nat} {x : Int × D} (hj : p[j]? = some x) (hx : x.1 = n) : (keys p).contains n = true := by
  rw [List.contains_iff_mem]
  exact List.mem_map.mpr ⟨x, List.mem_of_getElem? hj, hx⟩
theorem keys_first {p : List (Int × D)} {n : Int} {j : Nat} (h : p.findIdx? (fun x => x.1 == n) = some j) : ∀ m : Nat, m < j → (keys p)[m]? ≠ some n := by
  obtain ⟨h1, h2, h3⟩ := List.findIdx?_eq_some_iff_getElem.mp h
  intro m hm e
  have h4 := h3 m hm
  rw [List.getElem?_map, List.getElem?_eq_getElem (Nat.lt_trans hm h1)] at e
  simp at e
  simp [e] at h4
theorem eqv_bool (a b : Bool) : PyData.eqv (.bool a) (.bool b) = (a == b) := by
  unfold PyData.eqv; rfl
theorem Cm_bool {μ : Mu} (b : Bool) : Cm μ (.bool b) (.bool b) := .pl (.bool b) rfl rfl
theorem eqvAll_ints (ns : List Int) : PyData.eqvAll (D.pys (ns.map D.int)) (D.pys (ns.map D.int)) = true := by
  induction ns with
  | nil => rfl
  | cons n ns ih => rw [List.map_cons, D.pys, PyData.eqvAll, ih, D.py, eqv_int, beq_self_eq_true]; rfl
theorem eqv_ints_self (ns : List Int) : PyData.eqv (.list (D.pys (ns.map D.int))) (.list (D.pys (ns.map D.int))) = true := by
  unfold PyData.eqv; exact eqvAll_ints ns

section
variable {B : Base} {A : Around} {env : Env} {ρ : Rho} {μ : Mu} {Φ : D → Mu → Prop}

theorem Ev_lenT {e : Expr} {p pos : Pos} (hB : B.Ok) (hE : EnvOk env) (h : Ev B A env e ρ μ fun d μ₁ => ∃ ds, d = .tup ds ∧ ds.length ≤ 1000 ∧ Φ (.int (ds.length : Int)) μ₁) (hmg : B.mg (Str.ofString "len") = none)
    (hk : env.kindOf (Str.ofString "len") = some .globalImplicit := by rfl) (hs : starEach [e] env = (false, eval e env) :: starEach [] env := by rfl) :
    Ev B A env (.Call (.Name (Str.ofString "len") p) [e] [] pos) ρ μ Φ := by
  refine Ev_builtin (id := "len") hB hE ?_ hmg (hk := hk) (hs := hs)
  refine EvL_cons (h.mono fun d μ₁ hd => EvL_nil ?_) (hs := hs)
  obtain ⟨ds, rfl, hlen, hp⟩ := hd
  intro s g vs V I Q E k
  cases I with
  | cons i1 r =>
    cases r
    obtain ⟨a, ws, rfl, ho, hA⟩ := In.isTup V i1
    have hz : (ws.toArray.size : Int) = (ds.length : Int) := by rw [List.size_toArray, hA.length]
    refine P.len_tuple (items := ws.toArray) (n := 0) ho (by rw [hz]; omega) ?_
    rw [hz]
    exact k _ _ μ₁ g s.heap _ (.int _ _) hp V (Gr.refl ..)

/-- the keys of a list of pairs, by a comprehension -/
theorem Ev_keys {p : List (Int × D)} {iter : Expr} {scope : Scope} {pos p1 p2 p3 p4 : Pos} {k : Nat} (hE : EnvOk env) (hc : CompOk scope env) (hh : A.handled = none) (hp : p.length ≤ 100)
    (h : Ev B A env iter ρ μ fun d μ₁ => d = plD p ∧ Φ (.lst ((keys p).map .int)) μ₁)
    (hs : ∀ x, foldedSetIterable iter env x = pure x := by intro _; rfl)
    (k1 : ∀ C, (compEnvC scope (clos scope env) C env).kindOf (Str.ofString "own") = some .local := by intro _; rfl)
    (k2 : ∀ C, (compEnvC scope (clos scope env) C env).kindOf (Str.ofString "value") = some .local := by intro _; rfl)
    (k3 : ((clos scope env).lookup (Str.ofString "own")).isSome = false := by rfl)
    (k4 : ((clos scope env).lookup (Str.ofString "value")).isSome = false := by rfl) :
    Ev B A env (.ListComp (.Name (Str.ofString "own") p1) [⟨.Tuple [.Name (Str.ofString "own") p2, .Name (Str.ofString "value") p3] k p4, iter, [], 0⟩] scope pos) ρ μ Φ := by
  refine Ev_comp hE hc ?_ hs
  refine h.mono fun d μ₁ hd => ?_
  obtain ⟨rfl, hΦ⟩ := hd
  refine ⟨_, Itr_lst hh, by simp; omega, fun i acc μ' => μ' = μ₁ ∧ acc = ((p.take i).map (·.1)).map .int, ⟨rfl, rfl⟩, ?_, ?_⟩
  · rintro C i d acc μ' hE' hd ⟨rfl, rfl⟩
    obtain ⟨x, hx, rfl⟩ := map_at hd
    refine AsgL_tup2 hh (AsgL_name hE' (AsgL_name hE' ⟨sub_up2 (capR_none k3) (capR_none k4), TsL_nil (iteT ?_)⟩ (k2 C)) (k1 C))
    refine Ev_local hE' (by walk_at "look") ⟨rfl, ?_⟩ (k1 C)
    rw [take_succ' hx, List.map_append, List.map_append]; rfl
  · rintro acc μ' ⟨rfl, rfl⟩
    rw [List.length_map, List.take_length]
    exact hΦ
end

section
variable {B : Base} {A : Around} {env : Env} {ρ : Rho} {μ : Mu} {Φ : D → Mu → Prop}

set_option maxHeartbeats 4000000 in
theorem spec_is_so (R : B.Ready) {p : List (Int × D)} (hp : Inv p) (h : Φ (.bool true) μ) : FSpec B (defNo 18) 3 [plD p, plD p] μ Φ := by
  refine FSpec_of (xs := [Str.ofString "plist", Str.ofString "rows"]) rfl R.ok rfl (by walk_at "binds") (by walk_at "kinds") (fun A L a cd rm => ?_)
  simp only [List.zip_cons_cons, List.zip_nil_right, bindR]
  have hE := envC_ok (name := Str.ofString "_law_is_so") (L := L) (a := a) (cd := cd) (scope := (defNo 18).scope) rfl
  have hlen := hp.len
  obtain ⟨f2, F2⟩ := R.fn 2 (by decide)
  obtain ⟨f3, F3⟩ := R.fn 3 (by decide)
  obtain ⟨f6, F6⟩ := R.fn 6 (by decide)
  obtain ⟨f14, F14⟩ := R.fn 14 (by decide)
  refine Ex_cons (Ex1_if (Ts_cmp (Ev_keys (p := p) hE ⟨rfl, rfl, rfl, rfl, rfl⟩ rm.hh (by omega) ?_)))
  walk_at "st"
  refine ⟨rfl, Ev_keys (p := p) hE ⟨rfl, rfl, rfl, rfl, rfl⟩ rm.hh (by omega) ?_⟩
  walk_at "st"
  refine ⟨rfl, A_ne rm Cm_ints Cm_ints ⟨_, rfl, ?_⟩⟩
  rw [eqv_ints_self]
  refine iteF (Ex_nil (Ex_cons (Ex1_for (fun ds i ρ μ' => μ' = μ ∧ ρ (Str.ofString "plist") = some (plD p) ∧ ρ (Str.ofString "rows") = some (plD p)) (Ev_range R.ok hE (Ev_int ⟨6, rfl, ?_⟩) R.range))))
  refine ⟨_, Itr_rng (n := 6) rm.hh (by decide), ⟨rfl, by walk_at "look", by walk_at "look"⟩, ?_, ?_⟩
  · rintro i d ρ μ' hd ⟨rfl, e1, e2⟩
    obtain ⟨hi, rfl⟩ := rngD_at hd
    generalize (i : Int) = n
    refine Asg_name hE (.loc rfl) ?_
    refine Ex_cons (Ex1_assign hE (.loc rfl) (Ev_if (Ts_cmp ?_)))
    walk_at "st"
    refine Ev_keys (p := p) hE ⟨rfl, rfl, rfl, rfl, rfl⟩ rm.hh (by omega) ?_
    walk_at "st"
    refine ⟨rfl, A_in rm rfl rfl (.lst _) (oksInt _) ⟨_, rfl, ?_⟩⟩
    rw [anyInt]
    rcases find_cases p n with ⟨e, e3, e4⟩ | ⟨j, x, e, hx, hxn, e3, e4⟩
    · have hg : getD p n = .none := by simp [getD, getV, e4]
      have hh : ∀ v, holdsB p n v = false := fun v => by simp [holdsB, getV, e4]
      rw [contains_none e3]
      refine iteF ?_
      walk_at "st"
      refine Ex_cons (Ex1_assign2 hE rm.hh (.loc rfl) (.loc rfl) (Ev_tup (EvL_cons (Ev_call (lv := 2) R.ok hE F3 rm ?_))))
      iterate 5 walk_at "st"
      refine spec_get R (by omega) ?_
      rw [hg]
      refine EvL_cons (Ev_if (Ts_cmp ?_))
      iterate 2 walk_at "st"
      refine A_ge ⟨_, rfl, iteDn (by omega) ?_⟩
      iterate 2 walk_at "st"
      refine ⟨by simp, _, _, rfl, ?_⟩
      refine Ex_cons (Ex1_if (Ts_or (Ts_cmp (Ev_call (lv := 1) R.ok hE F2 (rm.le (by decide)) ?_))))
      iterate 5 walk_at "st"
      refine spec_find R (by omega) ?_
      walk_at "st"
      refine A_ne rm (Cm_int _) (Cm_int _) ⟨_, rfl, ?_⟩
      rw [eqv_int, e, beq_self_eq_true]
      refine iteF (Ts_or (Ts_cmp (Ev_cmp ?_)))
      iterate 2 walk_at "st"
      refine A_is (Ev_cmp ?_)
      iterate 2 walk_at "st"
      refine A_lt (A_ne rm (Cm_bool _) (Cm_bool _) ⟨_, rfl, ?_⟩)
      rw [eqv_bool]
      refine iteF (Ts_orN (iteF (Ex_nil (Ex_cons (Ex1_if (Ts_and (Ts_cmp ?_)))))))
      iterate 2 walk_at "st"
      refine A_ge ⟨_, rfl, iteDn (by omega) (iteF (Ex_nil ?_))⟩
      refine Ex_cons (Ex1_for (fun ds i ρ μ'' => μ'' = μ' ∧ ρ (Str.ofString "plist") = some (plD p) ∧ ρ (Str.ofString "rows") = some (plD p) ∧ ρ (Str.ofString "number") = some (.int n) ∧ ρ (Str.ofString "at") = some (.int (-1))) (Ev_tup ?_))
      iterate 9 walk_at "st"
      refine ⟨by simp, _, Itr_tup rm.hh, ⟨rfl, by walk_at "look", by walk_at "look", by walk_at "look", by walk_at "look"⟩, ?_, ?_⟩
      · rintro i d ρ μ'' hd ⟨rfl, u1, u2, u3, u4⟩
        have hdV : d.isV = true := by
          have := List.mem_of_getElem? hd
          simp only [List.mem_cons, List.not_mem_nil, or_false] at this
          rcases this with rfl | rfl | rfl | rfl <;> decide +kernel
        refine Asg_name hE (.loc rfl) (Ex_cons (Ex1_if (Ts_cmp (Ev_call (lv := 2) R.ok hE F6 rm ?_))))
        iterate 7 walk_at "st"
        refine spec_holds R (by omega) hp.V hdV ?_
        rw [hh]
        refine Ev_and (Ev_cmp ?_)
        iterate 2 walk_at "st"
        refine A_ge ⟨_, rfl, iteDn (by omega) (A_ne rm (Cm_bool _) (Cm_bool _) ⟨_, rfl, ?_⟩)⟩
        rw [eqv_bool]
        refine iteF (Ex_nil (Ex_nil ⟨rfl, ?_, ?_, ?_, ?_⟩)) <;> walk_at "look"
      · rintro ρ μ'' ⟨rfl, u1, u2, u3, u4⟩
        exact Ex_nil ⟨rfl, u1, u2⟩
    · have hg : getD p n = .tup [x.2] := by simp [getD, getV, e4]
      have hh : ∀ v, holdsB p n v = eqD x.2 v := fun v => by simp [holdsB, getV, e4]
      have hxV := hp.V x (List.mem_of_getElem? hx)
      have hjl := (List.getElem?_eq_some_iff.mp hx).1
      rw [contains_some hx hxn]
      refine iteT (Ev_index (Ev_keys (p := p) hE ⟨rfl, rfl, rfl, rfl, rfl⟩ rm.hh (by omega) ?_))
      walk_at "st"
      refine ⟨rfl, _, rfl, ?_⟩
      walk_at "st"
      refine ⟨_, j, rfl, by rw [List.getElem?_map, hx]; simp [hxn], keys_first e3, by omega, ?_⟩
      refine Ex_cons (Ex1_assign2 hE rm.hh (.loc rfl) (.loc rfl) (Ev_tup (EvL_cons (Ev_call (lv := 2) R.ok hE F3 rm ?_))))
      iterate 5 walk_at "st"
      refine spec_get R (by omega) ?_
      rw [hg]
      refine EvL_cons (Ev_if (Ts_cmp ?_))
      iterate 2 walk_at "st"
      refine A_ge ⟨_, rfl, iteD (by omega) (Ev_place (j := 1) (Ev_item ?_))⟩
      iterate 2 walk_at "st"
      refine ⟨_, _, pd x, .lst _, rfl, by omega, by omega, by simp [hx], _, _, rfl, rfl, by decide, ?_⟩
      walk_at "st"
      refine ⟨by simp, _, _, rfl, ?_⟩
      refine Ex_cons (Ex1_if (Ts_or (Ts_cmp (Ev_call (lv := 1) R.ok hE F2 (rm.le (by decide)) ?_))))
      iterate 5 walk_at "st"
      refine spec_find R (by omega) ?_
      walk_at "st"
      refine A_ne rm (Cm_int _) (Cm_int _) ⟨_, rfl, ?_⟩
      rw [eqv_int, e, beq_self_eq_true]
      refine iteF (Ts_or (Ts_cmp (Ev_cmp ?_)))
      iterate 2 walk_at "st"
      refine A_is (Ev_cmp ?_)
      iterate 2 walk_at "st"
      refine A_lt (A_ne rm (Cm_bool _) (Cm_bool _) ⟨_, rfl, ?_⟩)
      rw [eqv_bool, decide_eq_false (show ¬ (j : Int) < 0 by omega)]
      refine iteF (Ts_orN (iteF (Ex_nil (Ex_cons (Ex1_if (Ts_and (Ts_cmp ?_)))))))
      iterate 2 walk_at "st"
      refine A_ge ⟨_, rfl, iteD (by omega) (Ts_and (Ts_or (Ts_cmp (Ev_lenT R.ok hE ?_ R.len))))⟩
      walk_at "st"
      refine ⟨_, rfl, by simp, ?_⟩
      walk_at "st"
      refine A_ne rm (Cm_int _) (Cm_int _) ⟨_, rfl, ?_⟩
      rw [eqv_int]
      refine iteF (Ts_or (Ts_not (Ts_plain (Ev_call (lv := 1) R.ok hE F14 (rm.le (by decide)) (EvL_cons (Ev_place (j := 0) ?_))))))
      walk_at "st"
      refine ⟨_, _, rfl, rfl, by decide, ?_⟩
      iterate 3 walk_at "st"
      refine spec_alike R hxV hxV ⟨_, rfl, ?_⟩
      rw [(eqD_iff hxV).mpr rfl]
      refine iteF (Ts_orN (iteF (iteF (Ex_nil ?_))))
      refine Ex_cons (Ex1_for (fun ds i ρ μ'' => μ'' = μ' ∧ ρ (Str.ofString "plist") = some (plD p) ∧ ρ (Str.ofString "rows") = some (plD p) ∧ ρ (Str.ofString "number") = some (.int n) ∧ ρ (Str.ofString "at") = some (.int (j : Int)) ∧ ρ (Str.ofString "value") = some x.2) (Ev_tup ?_))
      iterate 9 walk_at "st"
      refine ⟨by simp, _, Itr_tup rm.hh, ⟨rfl, by walk_at "look", by walk_at "look", by walk_at "look", by walk_at "look", by walk_at "look"⟩, ?_, ?_⟩
      · rintro i d ρ μ'' hd ⟨rfl, u1, u2, u3, u4, u5⟩
        have hdV : d.isV = true := by
          have := List.mem_of_getElem? hd
          simp only [List.mem_cons, List.not_mem_nil, or_false] at this
          rcases this with rfl | rfl | rfl | rfl <;> decide +kernel
        refine Asg_name hE (.loc rfl) (Ex_cons (Ex1_if (Ts_cmp (Ev_call (lv := 2) R.ok hE F6 rm ?_))))
        iterate 7 walk_at "st"
        refine spec_holds R (by omega) hp.V hdV ?_
        rw [hh]
        refine Ev_and (Ev_cmp ?_)
        iterate 2 walk_at "st"
        refine A_ge ⟨_, rfl, iteD (by omega) (Ev_bool1 (Ev_call (lv := 1) R.ok hE F14 (rm.le (by decide)) ?_))⟩
        iterate 5 walk_at "st"
        refine spec_alike R hxV hdV ?_
        refine A_ne rm (Cm_bool _) (Cm_bool _) ⟨_, rfl, ?_⟩
        rw [eqv_bool, beq_self_eq_true]
        refine iteF (Ex_nil (Ex_nil ⟨rfl, ?_, ?_, ?_, ?_, ?_⟩)) <;> walk_at "look"
      · rintro ρ μ'' ⟨rfl, u1, u2, u3, u4, u5⟩
        exact Ex_nil ⟨rfl, u1, u2⟩
  · rintro ρ μ' ⟨rfl, e1, e2⟩
    refine Ex_cons (Ex1_ret (Ev_bool ?_))
    exact ⟨_, rfl, _, h, fun _ _ e => e⟩
end

theorem getV_nil {n : Int} : getV [] n = none := rfl
theorem getV_mem {p : List (Int × D)} {n : Int} {v : D} (h : Inv p) : getV p n = some v ↔ (n, v) ∈ p := by
  induction p with
  | nil => simp [getV_nil]
  | cons x p ih =>
    rw [getV_cons, List.mem_cons]
    by_cases hx : x.1 = n
    · rw [if_pos hx]
      constructor
      · intro e; cases e; exact .inl (by rw [← hx])
      · rintro (e | e)
        · rw [← e]
        · exact absurd hx.symm (h.head _ e)
    · rw [if_neg hx, ih h.tail]
      constructor
      · exact .inr
      · rintro (e | e)
        · exact absurd (by rw [← e]) hx
        · exact e
theorem getV_none {p : List (Int × D)} {n : Int} : getV p n = none ↔ n ∉ keys p := by
  induction p with
  | nil => simp [getV_nil, keys]
  | cons x p ih =>
    rw [getV_cons]
    by_cases hx : x.1 = n
    · rw [if_pos hx]; simp [keys, hx]
    · rw [if_neg hx, ih]
      have : ¬ n = x.1 := fun e => hx e.symm
      simp [keys, this]
theorem getV_V {p : List (Int × D)} {n : Int} {v : D} (h : Inv p) (e : getV p n = some v) : v.isV = true := h.V _ ((getV_mem h).mp e)
theorem getV_range {p : List (Int × D)} {n : Int} {v : D} (h : Inv p) (e : getV p n = some v) : 0 ≤ n ∧ n < 5 := (h.good _ ((getV_mem h).mp e)).1
theorem holds_iff {p : List (Int × D)} {n : Int} {v : D} (h : Inv p) : holdsB p n v = true ↔ getV p n = some v := by
  unfold holdsB
  cases q : getV p n with
  | none => simp
  | some u => simp only [eqD_iff (getV_V h q), Option.some.injEq]
theorem findI_neg {p : List (Int × D)} {n : Int} : findI p n < 0 ↔ getV p n = none := by
  unfold getV
  rcases find_cases p n with ⟨e, _, e2⟩ | ⟨j, x, e, _, _, _, e2⟩
  · rw [e, e2]; exact ⟨fun _ => rfl, fun _ => by decide⟩
  · rw [e, e2]; simp

def diffB (p q : List (Int × D)) (n : Int) : Bool := match getV p n, getV q n with
  | none, none => false
  | some a, some b => !eqD a b
  | _, _ => true
theorem diff_iff {p q : List (Int × D)} {n : Int} (h : Inv p) : diffB p q n = true ↔ getV p n ≠ getV q n := by
  unfold diffB
  cases e : getV p n with
  | none => cases getV q n <;> simp
  | some a =>
    cases getV q n with
    | none => simp
    | some b =>
      have := eqD_iff (e := b) (getV_V h e)
      simp only [Bool.not_eq_true', ne_eq, Option.some.injEq]
      rw [← this]; simp
abbrev upTo (k : Nat) : List Int := (List.range k).map fun (i : Nat) => (i : Int)
abbrev foundL (p q : List (Int × D)) (k : Nat) : List Int := (upTo k).filter (diffB p q)

theorem strict_ext : ∀ {l m : List Int}, l.Pairwise (· < ·) → m.Pairwise (· < ·) → (∀ x, x ∈ l ↔ x ∈ m) → l = m
  | [], [], _, _, _ => rfl
  | [], b :: m, _, _, h => absurd ((h b).mpr List.mem_cons_self) (by simp)
  | a :: l, [], _, _, h => absurd ((h a).mp List.mem_cons_self) (by simp)
  | a :: l, b :: m, h1, h2, h => by
    obtain ⟨h1a, h1b⟩ := List.pairwise_cons.mp h1
    obtain ⟨h2a, h2b⟩ := List.pairwise_cons.mp h2
    have hab : a = b := by
      rcases List.mem_cons.mp ((h a).mp List.mem_cons_self) with e | e
      · exact e
      · rcases List.mem_cons.mp ((h b).mpr List.mem_cons_self) with e' | e'
        · exact e'.symm
        · have := h2a _ e; have := h1a _ e'; omega
    subst hab
    rw [strict_ext h1b h2b fun x => ?_]
    constructor
    · intro hx
      rcases List.mem_cons.mp ((h x).mp (List.mem_cons_of_mem _ hx)) with e | e
      · subst e; exact absurd (h1a _ hx) (Int.lt_irrefl _)
      · exact e
    · intro hx
      rcases List.mem_cons.mp ((h x).mpr (List.mem_cons_of_mem _ hx)) with e | e
      · subst e; exact absurd (h2a _ hx) (Int.lt_irrefl _)
      · exact e

theorem upTo_strict (k : Nat) : (upTo k).Pairwise (· < ·) := by
  rw [List.pairwise_map]
  exact List.pairwise_lt_range.imp fun h => by omega
theorem mem_upTo {k : Nat} {n : Int} : n ∈ upTo k ↔ 0 ≤ n ∧ n < k := by
  rw [List.mem_map]
  constructor
  · rintro ⟨i, hi, rfl⟩
    have := List.mem_range.mp hi; omega
  · rintro ⟨h1, h2⟩
    exact ⟨n.toNat, List.mem_range.mpr (by omega), by omega⟩
theorem mem_found {p q : List (Int × D)} {n : Int} (hp : Inv p) (hq : Inv q) : n ∈ foundL p q 6 ↔ getV p n ≠ getV q n := by
  rw [List.mem_filter, mem_upTo, diff_iff hp]
  constructor
  · exact fun h => h.2
  · intro h
    refine ⟨?_, h⟩
    cases e : getV p n with
    | some v => have := getV_range hp e; omega
    | none =>
      cases e' : getV q n with
      | some v => have := getV_range hq e'; omega
      | none => rw [e, e'] at h; exact absurd rfl h
theorem mem_changed {p q : List (Int × D)} {n : Int} (hp : Inv p) (hq : Inv q) : n ∈ changedL p q ↔ getV p n ≠ getV q n := by
  unfold changedL
  rw [List.mem_append, List.mem_map, List.mem_map]
  constructor
  · rintro (⟨x, hx, rfl⟩ | ⟨x, hx, rfl⟩)
    · obtain ⟨h1, h2⟩ := List.mem_filter.mp hx
      have e : getV p x.1 = some x.2 := (getV_mem hp).mpr h1
      rw [e]
      intro e'
      rw [(holds_iff hq).mpr e'.symm] at h2; cases h2
    · obtain ⟨h1, h2⟩ := List.mem_filter.mp hx
      have e : getV q x.1 = some x.2 := (getV_mem hq).mpr h1
      have e' : getV p x.1 = none := findI_neg.mp (of_decide_eq_true h2)
      rw [e, e']; simp
  · intro h
    cases e : getV p n with
    | some v =>
      refine .inl ⟨(n, v), List.mem_filter.mpr ⟨(getV_mem hp).mp e, ?_⟩, rfl⟩
      cases hb : holdsB q n v with
      | false => rfl
      | true => rw [(holds_iff hq).mp hb] at h; exact absurd e h
    | none =>
      cases e' : getV q n with
      | none => rw [e, e'] at h; exact absurd rfl h
      | some v => exact .inr ⟨(n, v), List.mem_filter.mpr ⟨(getV_mem hq).mp e', decide_eq_true (findI_neg.mpr e)⟩, rfl⟩
theorem nodup_changed {p q : List (Int × D)} (hp : Inv p) (hq : Inv q) : (changedL p q).Nodup := by
  unfold changedL
  refine List.nodup_append.mpr ⟨(hp.filter _).nd, (hq.filter _).nd, ?_⟩
  rintro a ha b hb rfl
  obtain ⟨x, hx, rfl⟩ := List.mem_map.mp ha
  obtain ⟨y, hy, e⟩ := List.mem_map.mp hb
  have h2 := findI_neg.mp (of_decide_eq_true (List.mem_filter.mp hy).2)
  rw [e] at h2
  exact getV_none.mp h2 (List.mem_map.mpr ⟨x, (List.mem_filter.mp hx).1, rfl⟩)
theorem changed_found {p q : List (Int × D)} {ns : List Int} (hp : Inv p) (hq : Inv q) (h : ns.Perm (changedL p q)) (hs : ns.Pairwise (· ≤ ·)) : ns = foundL p q 6 := by
  refine strict_ext ?_ ((upTo_strict 6).filter _) fun x => ?_
  · have h1 : ns.Nodup := h.nodup_iff.mpr (nodup_changed hp hq)
    exact (hs.and h1).imp fun h => by omega
  · rw [h.mem_iff, mem_changed hp hq, mem_found hp hq]
theorem found_comm {p q : List (Int × D)} (hp : Inv p) (hq : Inv q) : foundL q p 6 = foundL p q 6 := by
  refine strict_ext ((upTo_strict 6).filter _) ((upTo_strict 6).filter _) fun x => ?_
  rw [mem_found hp hq, mem_found hq hp]
  exact ⟨Ne.symm, Ne.symm⟩

theorem keys_len {p : List (Int × D)} : (keys p).length = p.length := List.length_map _
theorem same_found {p q : List (Int × D)} (hp : Inv p) (hq : Inv q) : sameB p q = (foundL p q 6).isEmpty := by
  rw [Bool.eq_iff_iff]
  unfold sameB
  rw [Bool.and_eq_true, beq_iff_eq, List.all_eq_true, List.isEmpty_iff]
  constructor
  · rintro ⟨hl, ha⟩
    have hk : ∀ n, n ∈ keys p → n ∈ keys q := fun n hn => by
      obtain ⟨x, hx, rfl⟩ := List.mem_map.mp hn
      exact List.mem_map.mpr ⟨(x.1, x.2), (getV_mem hq).mp ((holds_iff hq).mp (ha x hx)), rfl⟩
    refine List.eq_nil_iff_forall_not_mem.mpr fun n hn => ?_
    rw [mem_found hp hq] at hn
    cases e : getV p n with
    | some v =>
      have := (holds_iff hq).mp (ha (n, v) ((getV_mem hp).mp e))
      rw [e, this] at hn; exact hn rfl
    | none =>
      cases e' : getV q n with
      | none => rw [e, e'] at hn; exact hn rfl
      | some v =>
        have h1 := getV_none.mp e
        have h2 : n ∈ keys q := List.mem_map.mpr ⟨_, (getV_mem hq).mp e', rfl⟩
        have := nodup_le (l := n :: keys p) (m := keys q) (List.nodup_cons.mpr ⟨h1, hp.nd⟩) fun x hx => by
          rcases List.mem_cons.mp hx with rfl | hx
          · exact h2
          · exact hk x hx
        rw [List.length_cons, keys_len, keys_len] at this; omega
  · intro h
    have he : ∀ n, getV p n = getV q n := fun n => by
      by_cases hn : getV p n = getV q n
      · exact hn
      · have := (mem_found hp hq).mpr hn; rw [h] at this; cases this
    have sub : ∀ {a b : List (Int × D)}, (∀ n, getV a n = getV b n) → ∀ x ∈ keys a, x ∈ keys b := fun {a b} he x hx => by
      cases e : getV b x with
      | none => rw [← he, getV_none] at e; exact absurd hx e
      | some v =>
        by_cases hb : x ∈ keys b
        · exact hb
        · rw [getV_none.mpr hb] at e; cases e
    have l1 := nodup_le hp.nd (sub he)
    have l2 := nodup_le hq.nd (sub fun n => (he n).symm)
    rw [keys_len, keys_len] at l1 l2
    exact ⟨by omega, fun x hx => (holds_iff hq).mpr ((he x.1).symm.trans ((getV_mem hp).mpr hx))⟩
theorem Inv.reverse {p : List (Int × D)} (h : Inv p) : Inv p.reverse := by
  refine ⟨?_, fun x hx => h.good x (List.mem_reverse.mp hx)⟩
  unfold keys
  rw [List.map_reverse]
  exact (List.reverse_perm _).nodup_iff.mpr h.nd
theorem same_reverse {p : List (Int × D)} (h : Inv p) : sameB p p.reverse = true := by
  unfold sameB
  rw [List.length_reverse, beq_self_eq_true, Bool.true_and, List.all_eq_true]
  intro x hx
  exact (holds_iff h.reverse).mpr ((getV_mem h.reverse).mpr (List.mem_reverse.mpr hx))

-- the pairs as the library's data
theorem vals_flat {v : D} (h : v ∈ vals) : v.ok = true ∧ v.py.canLay0 = true ∧ v.py.depth = 0 ∧ PyData.eqv v.py v.py = true := by
  simp only [vals, List.mem_cons, List.not_mem_nil, or_false] at h
  rcases h with rfl | rfl | rfl | rfl | rfl | rfl <;> simp [D.ok, D.py, PyData.canLay0, PyData.depth, PyData.eqv] <;> decide +kernel
theorem pl_flat {p : List (Int × D)} (h : Good p) : D.oks (p.map pd) = true ∧ PyData.canLayAll0 (D.pys (p.map pd)) = true ∧ PyData.depthAll (D.pys (p.map pd)) ≤ 1 ∧ PyData.eqvAll (D.pys (p.map pd)) (D.pys (p.map pd)) = true := by
  induction p with
  | nil => simp [D.oks, D.pys, PyData.canLayAll0, PyData.depthAll, PyData.eqvAll]
  | cons x p ih =>
    obtain ⟨a1, a2, a3, a4⟩ := ih fun y hy => h y (List.mem_cons_of_mem _ hy)
    obtain ⟨b1, b2, b3, b4⟩ := vals_flat (h x List.mem_cons_self).2
    rw [List.map_cons, D.oks, D.pys, PyData.canLayAll0, PyData.depthAll, PyData.eqvAll]
    have e : (pd x).py = .tuple [.int x.1, x.2.py] := by simp [D.py, D.pys]
    rw [e]
    refine ⟨by simp [D.ok, D.oks, a1, b1], by simp [PyData.canLay0, PyData.canLayAll0, a2, b2], ?_, by simp [PyData.eqv, PyData.eqvAll, a4, b4]⟩
    rw [PyData.depth, PyData.depthAll, PyData.depthAll, PyData.depthAll, PyData.depth, b3]
    omega
theorem Cm_pl {μ : Mu} {p : List (Int × D)} (h : Good p) : Cm μ (plD p) (.list (D.pys (p.map pd))) := by
  obtain ⟨a1, a2, a3, a4⟩ := pl_flat h
  have := Cm.pl (μ := μ) (plD p) (by rw [D.ok]; exact a1) (by
    rw [D.py]; unfold SeqAt.shaped
    rw [PyData.canLay0, a2, PyData.depth, Bool.true_and]
    exact decide_eq_true (by omega))
  rwa [D.py] at this
theorem eqv_pl {p : List (Int × D)} (h : Good p) : PyData.eqv (.list (D.pys (p.map pd))) (.list (D.pys (p.map pd))) = true := by
  unfold PyData.eqv; exact (pl_flat h).2.2.2
theorem pick_rev {g : View} {vs : List Value} {ds : List D} (h : All g vs ds) : All g (slicePick vs.toArray none none (some (-1))).toList ds.reverse := by
  rw [krv_pick]
  simpa using h.reverse

theorem upd_ne {μ : Mu} {a b : Addr} {ds : List D} (h : b ≠ a) : upd μ a ds b = μ b := by simp [upd, h]
theorem upTo_succ (i : Nat) : upTo (i + 1) = upTo i ++ [(i : Int)] := by
  unfold upTo; rw [List.range_succ, List.map_append]; rfl
theorem found_succ {p q : List (Int × D)} {i : Nat} : foundL p q (i + 1) = foundL p q i ++ (if diffB p q i then [(i : Int)] else []) := by
  unfold foundL
  rw [upTo_succ, List.filter_append]
  cases h : diffB p q i with
  | true => rw [List.filter_cons_of_pos h, List.filter_nil, if_pos rfl]
  | false => rw [List.filter_cons_of_neg (by rw [h]; decide), List.filter_nil, if_neg (by decide)]
theorem found_len {p q : List (Int × D)} {i : Nat} : (foundL p q i).length ≤ i := by
  refine Nat.le_trans (List.length_filter_le _ _) ?_
  simp
theorem body_of {B : Base} {A : Around} {name : Str} {params : Arguments} {body : List Stmt} {scope : Scope} {pos : Pos} {f : DefRec} {L a : Addr} {cd : Value} {ρ : Rho} {μ : Mu} {Ψ : Fl → Rho → Mu → Prop}
    (hf : f = ⟨name, params, body, scope, pos⟩) (h : Ex B A (envOf name scope L a cd) body ρ μ Ψ) : Ex B A (envOf f.name f.scope L a cd) f.body ρ μ Ψ := by
  subst hf; exact h

section
variable {B : Base} {A : Around} {env : Env} {ρ : Rho} {μ : Mu} {Φ : D → Mu → Prop}

set_option maxHeartbeats 8000000 in
theorem law_body (R : B.Ready) (rm : Room A 4) {ns : List Int} (hn : ns.length ≤ 63) {L a : Addr} {cd : Value} (hs : ρ (Str.ofString "script") = some (.scr ns)) :
    Ex B A (envOf (defNo 19).name (defNo 19).scope L a cd) (defNo 19).body ρ μ fun fl _ _ => fl = .ret (.bool true) := by
  refine body_of rfl ?_
  have hE : EnvOk (envOf (Str.ofString "law") (defNo 19).scope L a cd) := ⟨rfl, rfl, rfl⟩
  obtain ⟨f3, F3⟩ := R.fn 3 (by decide)
  obtain ⟨f7, F7⟩ := R.fn 7 (by decide)
  obtain ⟨f10, F10⟩ := R.fn 10 (by decide)
  obtain ⟨f12, F12⟩ := R.fn 12 (by decide)
  obtain ⟨f13, F13⟩ := R.fn 13 (by decide)
  obtain ⟨f14, F14⟩ := R.fn 14 (by decide)
  obtain ⟨f17, F17⟩ := R.fn 17 (by decide)
  obtain ⟨f18, F18⟩ := R.fn 18 (by decide)
  refine Ex_cons (Ex1_assign hE (.loc rfl) (Ev_call (lv := 1) R.ok hE F12 (rm.le (by decide)) ?_))
  iterate 3 walk_at "st"
  refine spec_deck R hn fun c ms hc hms => ?_
  refine Ex_cons (Ex1_assign2 hE rm.hh (.loc rfl) (.loc rfl) (Ev_tup (EvL_cons (Ev_lstC (EvL_cons (Ev_lst (EvL_nil ⟨by decide, EvL_cons (Ev_lst (EvL_nil ⟨by decide, EvL_nil ⟨by simp, fun l hl => ?_⟩⟩))⟩)))))))
  refine EvL_cons (Ev_lstC (EvL_cons (Ev_lst (EvL_nil ⟨by decide, EvL_cons (Ev_lst (EvL_nil ⟨by decide, EvL_nil ⟨by simp, fun b hb => ?_⟩⟩))⟩))))
  walk_at "st"
  refine ⟨by simp, _, _, rfl, ?_⟩
  have hlc : l ≠ c := by rintro rfl; rw [upd_same] at hl; cases hl
  have hbl : b ≠ l := by rintro rfl; rw [upd_same] at hb; cases hb
  have hbc : b ≠ c := by rintro rfl; rw [upd_ne hlc.symm, upd_same] at hb; cases hb
  have v1 : upd (upd (upd μ c (ms.map .int)) l [.lst [], .lst []]) b [.lst [], .lst []] c = some (ms.map .int) := (upd_ne hbc.symm).trans ((upd_ne hlc.symm).trans upd_same)
  have v2 : upd (upd (upd μ c (ms.map .int)) l [.lst [], .lst []]) b [.lst [], .lst []] l = some ([([] : List (Int × D)), []].map plD) := (upd_ne hbl.symm).trans upd_same
  have v3 : upd (upd (upd μ c (ms.map .int)) l [.lst [], .lst []]) b [.lst [], .lst []] b = some ([([] : List (Int × D)), []].map plD) := upd_same
  generalize upd (upd (upd μ c (ms.map .int)) l [.lst [], .lst []]) b [.lst [], .lst []] = μ₁ at v1 v2 v3 ⊢
  refine Ex_cons (Ex1_for (fun ds i ρ μ' => ∃ (ps : List (List (Int × D))) (ms : List Int), ps.length = 2 ∧ (∀ x ∈ ps, Inv x) ∧ ms.length ≤ 16 ∧ μ' c = some (ms.map .int) ∧ μ' l = some (ps.map plD) ∧ μ' b = some (ps.map plD) ∧
    ρ (Str.ofString "deck") = some (.cel c) ∧ ρ (Str.ofString "lists") = some (.cel l) ∧ ρ (Str.ofString "both") = some (.cel b)) (Ev_range R.ok hE (Ev_bin ?_) R.range))
  walk_at "st"
  refine Ev_call (lv := 1) R.ok hE F13 (rm.le (by decide)) ?_
  iterate 5 walk_at "st"
  refine spec_draw R v1 hms (by decide) (by decide) fun r ms₁ hr0 hr9 hms₁ => ?_
  obtain ⟨r, rfl⟩ := Int.eq_ofNat_of_zero_le hr0
  refine A_add ⟨_, rfl, ?_⟩
  rw [show (2 : Int) + (r : Int) = ((2 + r : Nat) : Int) by omega]
  refine ⟨_, Itr_rng rm.hh (by omega), ⟨[[], []], ms₁, rfl, ?_, hms₁, upd_same, (upd_ne hlc).trans v2, (upd_ne hbc).trans v3, by walk_at "look", by walk_at "look", by walk_at "look"⟩, ?_, ?_⟩
  · intro x hx
    simp only [List.mem_cons, List.not_mem_nil, or_false, or_self] at hx
    rw [hx]; exact Inv.nil
  · clear v1 v2 v3 hms hms₁ hr0 hr9
    rintro i d ρ μ' hd ⟨ps, ms, hps, hinv, hms, v1, v2, v3, e1, e2, e3⟩
    refine Asg_name hE (.loc rfl) ?_
    refine Ex_cons (Ex1_assign hE (.loc rfl) (Ev_call (lv := 1) R.ok hE F13 (rm.le (by decide)) ?_))
    iterate 5 walk_at "st"
    refine spec_draw R v1 hms (by decide) (by decide) fun k ms₁ hk0 hk2 hms₁ => ?_
    obtain ⟨k, rfl⟩ := Int.eq_ofNat_of_zero_le hk0
    have w1 : upd μ' c (ms₁.map .int) c = some (ms₁.map .int) := upd_same
    have w2 : upd μ' c (ms₁.map .int) l = some (ps.map plD) := (upd_ne hlc).trans v2
    have w3 : upd μ' c (ms₁.map .int) b = some (ps.map plD) := (upd_ne hbc).trans v3
    generalize upd μ' c (ms₁.map .int) = μ₂ at w1 w2 w3 ⊢
    clear v1 v2 v3 hms
    have hkl : k < ps.length := by rw [hps]; omega
    obtain ⟨x, hx⟩ : ∃ x, ps[k]? = some x := ⟨_, List.getElem?_eq_getElem hkl⟩
    have hxi := hinv x (List.mem_of_getElem? hx)
    have hxl := hxi.len
    have hat : (ps.map plD)[(k : Int).toNat]? = some (plD x) := by
      rw [List.getElem?_map]; show Option.map plD ps[k]? = _; rw [hx]; rfl
    have hk62 : (k : Int) < 2 ^ 62 := by omega
    refine Ex_cons (Ex1_assign2 hE rm.hh (.loc rfl) (.loc rfl) (Ev_tup (EvL_cons (Ev_item ?_))))
    iterate 2 walk_at "st"
    refine ⟨_, _, _, .cel w2, rfl, hk0, hk62, hat, EvL_cons (Ev_list R.ok hE (Ev_item ?_) R.list)⟩
    iterate 2 walk_at "st"
    refine ⟨_, _, _, .cel w2, rfl, hk0, hk62, hat, x.map pd, .lst _, by rw [List.length_map]; omega, ?_⟩
    walk_at "st"
    refine ⟨by simp, _, _, rfl, ?_⟩
    refine Ex_cons (Ex1_assignT (Ev_call (lv := 4) R.ok hE F17 rm ?_))
    iterate 5 walk_at "st"
    refine Ev_item ?_
    iterate 2 walk_at "st"
    refine ⟨_, _, _, .cel w3, rfl, hk0, hk62, hat, ?_⟩
    walk_at "st"
    refine spec_deed R w1 hms₁ hxi fun y ms₂ hy hms₂ => ?_
    refine Asg_tup2 rm.hh (Asg_sub ?_)
    iterate 2 walk_at "st"
    refine ⟨l, ps.map plD, _, rfl, rfl, (upd_ne hlc).trans w2, hk0, by rw [List.length_map]; exact hkl, by rw [List.length_map]; omega, Asg_sub ?_⟩
    iterate 2 walk_at "st"
    refine ⟨b, ps.map plD, _, rfl, rfl, (upd_ne hbl).trans ((upd_ne hbc).trans w3), hk0, by rw [List.length_map]; exact hkl, by rw [List.length_map]; omega, ?_⟩
    have hset : (ps.map plD).set (k : Int).toNat (plD y) = (ps.set k y).map plD := by
      show (ps.map plD).set k (plD y) = _
      rw [List.map_set]
    rw [hset]
    have u1 : upd (upd (upd μ₂ c (ms₂.map .int)) l ((ps.set k y).map plD)) b ((ps.set k y).map plD) c = some (ms₂.map .int) := (upd_ne hbc.symm).trans ((upd_ne hlc.symm).trans upd_same)
    have u2 : upd (upd (upd μ₂ c (ms₂.map .int)) l ((ps.set k y).map plD)) b ((ps.set k y).map plD) l = some ((ps.set k y).map plD) := (upd_ne hbl.symm).trans upd_same
    have u3 : upd (upd (upd μ₂ c (ms₂.map .int)) l ((ps.set k y).map plD)) b ((ps.set k y).map plD) b = some ((ps.set k y).map plD) := upd_same
    generalize upd (upd (upd μ₂ c (ms₂.map .int)) l ((ps.set k y).map plD)) b ((ps.set k y).map plD) = μ₃ at u1 u2 u3 ⊢
    have hat' : ((ps.set k y).map plD)[(k : Int).toNat]? = some (plD y) := by
      rw [List.getElem?_map]; show Option.map plD (ps.set k y)[k]? = _; rw [List.getElem?_set_self hkl]; rfl
    refine Ex_cons (Ex1_if (Ts_or (Ts_cmp ?_)))
    iterate 2 walk_at "st"
    refine A_ne rm (Cm_pl hxi.good) (Cm_pl hxi.good) ⟨_, rfl, ?_⟩
    rw [eqv_pl hxi.good]
    refine iteF (Ts_or (Ts_not (Ts_plain (Ev_call (lv := 3) R.ok hE F18 (rm.le (by decide)) (EvL_cons (Ev_item ?_))))))
    iterate 2 walk_at "st"
    refine ⟨_, _, _, .cel u2, rfl, hk0, hk62, hat', EvL_cons (Ev_item ?_)⟩
    iterate 2 walk_at "st"
    refine ⟨_, _, _, .cel u3, rfl, hk0, hk62, hat', ?_⟩
    walk_at "st"
    refine spec_is_so R hy ⟨_, rfl, iteF (Ts_orN (iteF (Ex_nil (Ex_nil ?_))))⟩
    refine ⟨ps.set k y, ms₂, by rw [List.length_set]; exact hps, fun z hz => ?_, hms₂, u1, u2, u3, by walk_at "look", by walk_at "look", by walk_at "look"⟩
    rcases List.mem_or_eq_of_mem_set hz with q | q
    · exact hinv z q
    · rw [q]; exact hy
  · clear v1 v2 v3 hms hms₁
    rintro ρ μ' ⟨ps, ms, hps, hinv, hms, v1, v2, v3, e1, e2, e3⟩
    obtain ⟨p, q, rfl⟩ : ∃ p q, ps = [p, q] := by
      match ps, hps with
      | [p, q], _ => exact ⟨p, q, rfl⟩
    have hp := hinv p (by simp)
    have hq := hinv q (by simp)
    have hpl := hp.len
    have hql := hq.len
    refine Ex_cons (Ex1_assign hE (.loc rfl) (Ev_lstC (EvL_nil ⟨by simp, fun f hf => ?_⟩)))
    have hlf : l ≠ f := by rintro rfl; rw [v2] at hf; cases hf
    refine Ex_cons (Ex1_for (fun ds i ρ μ'' => μ'' f = some ((foundL p q i).map .int) ∧ μ'' l = some [plD p, plD q] ∧ ρ (Str.ofString "lists") = some (.cel l) ∧ ρ (Str.ofString "found") = some (.cel f)) (Ev_range R.ok hE (Ev_int ⟨6, rfl, ?_⟩) R.range))
    refine ⟨_, Itr_rng (n := 6) rm.hh (by decide), ⟨upd_same, (upd_ne hlf).trans v2, by walk_at "look", by walk_at "look"⟩, ?_, ?_⟩
    · clear v1 v2 v3 hms e1 e2 e3
      rintro i d ρ μ' hd ⟨v1, v2, e1, e2⟩
      obtain ⟨hi, rfl⟩ := rngD_at hd
      refine Asg_name hE (.loc rfl) ?_
      refine Ex_cons (Ex1_assign2 hE rm.hh (.loc rfl) (.loc rfl) (Ev_tup (EvL_cons (Ev_call (lv := 2) R.ok hE F3 (rm.le (by decide)) (EvL_cons (Ev_item ?_))))))
      iterate 2 walk_at "st"
      refine ⟨_, _, plD p, .cel v2, rfl, by decide, by decide, rfl, ?_⟩
      iterate 3 walk_at "st"
      refine spec_get R (by omega) ?_
      refine EvL_cons (Ev_call (lv := 2) R.ok hE F3 (rm.le (by decide)) (EvL_cons (Ev_item ?_)))
      iterate 2 walk_at "st"
      refine ⟨_, _, plD q, .cel v2, rfl, by decide, by decide, rfl, ?_⟩
      iterate 3 walk_at "st"
      refine spec_get R (by omega) ?_
      walk_at "st"
      refine ⟨by simp, _, _, rfl, ?_⟩
      have no : diffB p q i = false → μ' f = some ((foundL p q (i + 1)).map .int) := fun hb => by
        rw [found_succ, hb, if_neg (by decide), List.append_nil]; exact v1
      have yes : diffB p q i = true → upd μ' f ((foundL p q i).map .int ++ [.int (i : Int)]) f = some ((foundL p q (i + 1)).map .int) := fun hb => by
        rw [found_succ, hb, if_pos rfl, List.map_append]; exact upd_same
      have flen : ((foundL p q i).map D.int).length ≤ 1000 := by
        have := found_len (p := p) (q := q) (i := i); rw [List.length_map]; omega
      have v2' : upd μ' f ((foundL p q i).map .int ++ [.int (i : Int)]) l = some [plD p, plD q] := (upd_ne hlf).trans v2
      refine Ex_cons (Ex1_if (Ts_or (Ts_cmp (Ev_cmp ?_))))
      iterate 2 walk_at "st"
      refine A_is (Ev_cmp ?_)
      iterate 2 walk_at "st"
      refine A_is (A_ne rm (Cm_bool _) (Cm_bool _) ⟨_, rfl, ?_⟩)
      rw [eqv_bool]
      cases ep : getV p i with
      | none =>
        have gp : getD p i = .none := by simp [getD, ep]
        cases eq : getV q i with
        | none =>
          have gq : getD q i = .none := by simp [getD, eq]
          have hb : diffB p q i = false := by simp [diffB, ep, eq]
          rw [gp, gq]
          refine iteF (Ts_or (Ts_and (Ts_cmp ?_)))
          iterate 2 walk_at "st"
          refine A_isnt ⟨_, rfl, iteF (iteF (Ts_orN (iteF (Ex_nil (Ex_nil ?_)))))⟩
          exact ⟨no hb, v2, by walk_at "look", by walk_at "look"⟩
        | some w =>
          have gq : getD q i = .tup [w] := by simp [getD, eq]
          have hb : diffB p q i = true := by simp [diffB, ep, eq]
          rw [gp, gq]
          refine iteT (iteT (Ex_cons (Ex1_expr (Ev_append ?_))))
          walk_at "st"
          refine ⟨_, _, rfl, v1, ?_⟩
          walk_at "st"
          exact ⟨_, v1, flen, trivial, Ex_nil (Ex_nil ⟨yes hb, v2', by walk_at "look", by walk_at "look"⟩)⟩
      | some u =>
        have gp : getD p i = .tup [u] := by simp [getD, ep]
        cases eq : getV q i with
        | none =>
          have gq : getD q i = .none := by simp [getD, eq]
          have hb : diffB p q i = true := by simp [diffB, ep, eq]
          rw [gp, gq]
          refine iteT (iteT (Ex_cons (Ex1_expr (Ev_append ?_))))
          walk_at "st"
          refine ⟨_, _, rfl, v1, ?_⟩
          walk_at "st"
          exact ⟨_, v1, flen, trivial, Ex_nil (Ex_nil ⟨yes hb, v2', by walk_at "look", by walk_at "look"⟩)⟩
        | some w =>
          have gq : getD q i = .tup [w] := by simp [getD, eq]
          have hb' : diffB p q i = !eqD u w := by simp [diffB, ep, eq]
          rw [gp, gq]
          refine iteF (Ts_or (Ts_and (Ts_cmp ?_)))
          iterate 2 walk_at "st"
          refine A_isnt ⟨_, rfl, iteT (Ts_and (Ts_not (Ts_plain (Ev_call (lv := 1) R.ok hE F14 (rm.le (by decide)) (EvL_cons (Ev_place (j := 0) ?_))))))⟩
          walk_at "st"
          refine ⟨_, _, rfl, rfl, by decide, EvL_cons (Ev_place (j := 0) ?_)⟩
          walk_at "st"
          refine ⟨_, _, rfl, rfl, by decide, ?_⟩
          walk_at "st"
          refine spec_alike R (getV_V hp ep) (getV_V hq eq) ⟨_, rfl, ?_⟩
          cases hb : eqD u w with
          | true =>
            refine iteF (iteF (Ts_orN (iteF (Ex_nil (Ex_nil ?_)))))
            exact ⟨no (by rw [hb', hb]; rfl), v2, by walk_at "look", by walk_at "look"⟩
          | false =>
            refine iteT (Ts_andN (iteT (iteT (Ex_cons (Ex1_expr (Ev_append ?_))))))
            walk_at "st"
            refine ⟨_, _, rfl, v1, ?_⟩
            walk_at "st"
            exact ⟨_, v1, flen, trivial, Ex_nil (Ex_nil ⟨yes (by rw [hb', hb]; rfl), v2', by walk_at "look", by walk_at "look"⟩)⟩
    · clear v1 v2 v3 hms e1 e2 e3
      rintro ρ μ' ⟨v1, v2, e1, e2⟩
      replace v1 : μ' f = some ((foundL p q 6).map .int) := v1
      refine Ex_cons (Ex1_if (Ts_or (Ts_cmp (Ev_call (lv := 3) R.ok hE F10 (rm.le (by decide)) (EvL_cons (Ev_item ?_))))))
      iterate 2 walk_at "st"
      refine ⟨_, _, plD p, .cel v2, rfl, by decide, by decide, rfl, EvL_cons (Ev_item ?_)⟩
      iterate 2 walk_at "st"
      refine ⟨_, _, plD q, .cel v2, rfl, by decide, by decide, rfl, ?_⟩
      walk_at "st"
      refine spec_changed R (by omega) (by omega) hp.V hq.V fun ns' h1 h2 => ?_
      rw [changed_found hp hq h1 h2]
      walk_at "st"
      refine A_ne rm Cm_ints (Cm_intsC v1) ⟨_, rfl, ?_⟩
      rw [eqv_ints_self]
      refine iteF (Ts_or (Ts_cmp (Ev_call (lv := 3) R.ok hE F10 (rm.le (by decide)) (EvL_cons (Ev_item ?_)))))
      iterate 2 walk_at "st"
      refine ⟨_, _, plD q, .cel v2, rfl, by decide, by decide, rfl, EvL_cons (Ev_item ?_)⟩
      iterate 2 walk_at "st"
      refine ⟨_, _, plD p, .cel v2, rfl, by decide, by decide, rfl, ?_⟩
      walk_at "st"
      refine spec_changed R (by omega) (by omega) hq.V hp.V fun ns' h1 h2 => ?_
      rw [changed_found hq hp h1 h2, found_comm hp hq]
      walk_at "st"
      refine A_ne rm Cm_ints (Cm_intsC v1) ⟨_, rfl, ?_⟩
      rw [eqv_ints_self]
      refine iteF (Ts_orN (iteF (Ex_nil ?_)))
      refine Ex_cons (Ex1_ret (Ev_and (Ev_cmp (Ev_call (lv := 3) R.ok hE F7 (rm.le (by decide)) (EvL_cons (Ev_item ?_))))))
      iterate 2 walk_at "st"
      refine ⟨_, _, plD p, .cel v2, rfl, by decide, by decide, rfl, EvL_cons (Ev_item ?_)⟩
      iterate 2 walk_at "st"
      refine ⟨_, _, plD q, .cel v2, rfl, by decide, by decide, rfl, ?_⟩
      walk_at "st"
      refine spec_same R (by omega) (by omega) hp.V hq.V ?_
      rw [same_found hp hq]
      refine Ev_cmp ?_
      walk_at "st"
      refine Ev_lst (EvL_nil ⟨by decide, ?_⟩)
      refine A_eq rm (Cm_intsC v1) Cm_nil (A_eq rm (Cm_bool _) (Cm_bool _) ⟨_, rfl, ?_⟩)
      rw [eqv_nil, List.isEmpty_map, eqv_bool, beq_self_eq_true]
      refine iteT (Ev_bool1 (Ev_call (lv := 3) R.ok hE F7 (rm.le (by decide)) (EvL_cons (Ev_item ?_))))
      iterate 2 walk_at "st"
      refine ⟨_, _, plD p, .cel v2, rfl, by decide, by decide, rfl, EvL_cons (Ev_slice (Ev_item ?_))⟩
      iterate 2 walk_at "st"
      refine ⟨_, _, plD p, .cel v2, rfl, by decide, by decide, rfl, ?_⟩
      iterate 4 walk_at "st"
      refine ⟨_, rfl, p.map pd, (p.map pd).reverse, .inl (.lst _), by rw [List.length_map]; omega, by simp, fun g vs hA => pick_rev hA, ?_⟩
      walk_at "st"
      rw [show D.lst (p.map pd).reverse = plD p.reverse by rw [plD, List.map_reverse]]
      refine spec_same R (by omega) (by rw [List.length_reverse]; omega) hp.V hp.reverse.V ?_
      rw [same_reverse hp]
end

/-- the defs of the program that law calls, and law -/
abbrev recNos : List Nat := [1, 2, 3, 4, 5, 6, 7, 8, 9, 10, 12, 13, 14, 15, 16, 17, 18, 19]
abbrev freeNames : List Str := [Str.ofString "isinstance", Str.ofString "bool", Str.ofString "len", Str.ofString "abs", Str.ofString "range", Str.ofString "list", Str.ofString "sorted"]
structure IsP (p : Program) : Prop where
  recs : recsOf p = recNos.map defNo
  free : ∀ x ∈ freeNames, x ∉ startupNames ∧ x ∉ looseW p [] ∧ x ∉ (recsOf p).map (·.name) ∧ x ∉ (litsOf p).map (·.1) ∧ x ∉ (clssOf p (looseW p [])).map (·.name)

theorem join_ready {p : Program} {mean : ExcName → Option Value} {mg mb : Str → Option Value} {h : Heap} {prog : Program} {w : World} (I : IsP p) (T : Top p (looseW p []) mean mg mb h) : (Base.mk prog w h mg mb).Ready := by
  have hf : ∀ x ∈ freeNames, mg x = none := fun x hx => by
    obtain ⟨h1, h2, h3, h4, h5⟩ := I.free x hx
    exact T.free x h1 h2 h3 h4 h5
  refine ⟨⟨T.g, T.b, T.nolimit, T.builtins⟩, fun i hi => ?_, hf _ (by simp), hf _ (by simp), hf _ (by simp), hf _ (by simp), hf _ (by simp), hf _ (by simp), hf _ (by simp)⟩
  have hm : i ∈ recNos := by
    simp only [recNos, List.mem_cons, List.not_mem_nil, or_false]; omega
  obtain ⟨a, o, pm, cd, doc, h1, h2, h3, h4⟩ := T.fn (defNo i) (by rw [I.recs]; exact List.mem_map.mpr ⟨i, hm, rfl⟩)
  exact ⟨a, h1, o, pm, cd, doc, h2, h3, h4⟩

theorem law_runs {p : Program} {mean : ExcName → Option Value} {mg mb : Str → Option Value} {h₀ : Heap} {prog : Program} {w : World} (T : Top p (looseW p []) mean mg mb h₀) (I : IsP p) {av : Addr} {vs : List Value} {ns : List Int}
    (hL : h₀.IsList av vs.toArray) (hI : IntsAre vs ns) (hn : ns.length ≤ 63) {s : Shared} {L a : Addr} {cd : Value} {m : Str → Option Value} (F : Fr h₀ L s.heap m) (hm : m (Str.ofString "script") = some (.ref av))
    {A : Around} (rm : Room A 4) {Q : Flow → Shared → Prop} {E : Value → Shared → Prop} (k : ∀ h' tk' m', Fr h₀ L h' m' → Q (.ret (.bool true)) { s with heap := h', toks := tk' }) :
    wpAny (model prog w) A (execs (defNo 19).body (envOf (defNo 19).name (defNo 19).scope L a cd)) Q E s := by
  have R : (Base.mk prog w h₀ mg mb).Ready := join_ready I T
  have gL : h₀.get? L = none := by
    cases q : h₀.get? L with
    | none => rfl
    | some o => exact absurd (Heap.lt_size q) (Nat.not_lt.mpr F.above)
  obtain ⟨o, ho, hc, n, hd⟩ := hL
  have S : St h₀ (envOf (defNo 19).name (defNo 19).scope L a cd) s.heap (fun b => h₀.get? b) (up emp (Str.ofString "script") (.scr ns)) (fun _ => none) := by
    refine ⟨⟨fun b o e => e, fun b o e => F.keep b o e, fun a ds e => (by cases e)⟩, ⟨m, F.ns, fun x d hx hd' => ?_⟩, fun x c hc => (by cases hc), fun x c hc => (by cases hc), ⟨gL, rfl⟩, fun x y c h1 => (by cases h1)⟩
    unfold up at hd'
    split at hd'
    · rename_i hxe
      cases hd'
      subst hxe
      exact ⟨_, hm, .scr ho hc hd hI⟩
    · cases hd'
  refine (law_body (B := Base.mk prog w h₀ mg mb) R rm hn up_same).run s _ S Q E fun f fl ρ' μ' g' h' tk' i' p' S' G' => ?_
  subst p'
  cases i' with
  | ret i =>
    cases i
    obtain ⟨m', hn', _⟩ := S'.ns
    exact k h' tk' m' ⟨hn', fun b o e => S'.vw.sub _ _ (S'.vw.base b o e), F.above⟩
theorem room_law (env : Env) : Room (callerA.deeper env) 4 := ⟨rfl, by show 1 + claimMargin + 1 + 4 < recursionLimit; decide, by show 4 + 3 + 8 * 4 + 80 < cLine; decide⟩

end Mine

set_option maxHeartbeats 8000000 in
theorem PySem.Challenge.cw_pq0342_01_holds : PySem.Challenge.rw_pq0342_01.Holds := by
  exact Mine.hd (by
    k_go0
    refine Mine.law_runs (by assumption) ⟨(by rfl), (by decide +kernel)⟩ (by assumption) (by assumption) (by omega) (by assumption) rfl (Mine.room_law _) ?_
    intro h' tk' m' F'
    wrow_close)
