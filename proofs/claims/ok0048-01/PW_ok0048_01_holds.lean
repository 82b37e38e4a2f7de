import PyProof.Rows.All
import Wide.All
import OpenK.AllK
import Wide.FinOn
import PySem.Challenge.RW_ok0048_01
open PySem PySem.W PySem.Calls PyProof.Rows
set_option Elab.async false
set_option maxRecDepth 100000
set_option linter.unusedVariables false
set_option linter.unusedSimpArgs false
set_option pp.deepTerms false
set_option pp.deepTerms.threshold 4
namespace Mine
set_option maxHeartbeats 8000000 in
open_top hd for PySem.Challenge.rw_ok0048_01
section
open PySem.SeqAt
abbrev Pr : Program := PySem.Challenge.rw_ok0048_01.row.prog
abbrev TopOk (mean : ExcName → Option Value) (mg mb : Str → Option Value) (h : Heap) : Prop := Top hd.view_39 (looseW hd.view_39 []) mean mg mb h

theorem wpAny_le {α : Type} {M : Model} {A A' : Around} {t : Sem α} {Q : α → Shared → Prop} {E : Value → Shared → Prop} {s : Shared}
    (h : wpAny M A' t Q E s) (h1 : A'.handled = A.handled) (h2 : A.depth ≤ A'.depth) (h3 : A'.frames = A.frames) (h4 : A'.guards = none) (h5 : A.units ≤ A'.units) : wpAny M A t Q E s :=
  fun Γ p hΓ => h Γ p ⟨hΓ.1.trans h1.symm, Nat.le_trans hΓ.2.1 h2, (fun l hl => hΓ.2.2.1 l (h3 ▸ hl)), (fun g hg => by rw [h4] at hg; cases hg), Nat.le_trans hΓ.2.2.2.2 h5⟩

/-- what stands around a call of the text's own -/
abbrev arr (n : Nat) (env : Env) (outer : List Env) : Around := { handled := none, depth := n, frames := some (env :: outer), guards := none, units := n }

/-- a call's contract: from a ledger to a ledger -/
def Ctr (w : World) (n : Nat) (f : Addr) (vs : List Value) (led : List (Addr × Obj)) (post : Value → List (Addr × Obj) → Prop) : Prop :=
  ∀ (mean : ExcName → Option Value) (mg mb : Str → Option Value) (A : Around) (env : Env) (outer : List Env) (A₀ : Around) (base h₀ : Heap) (L : Addr) (m : Str → Option Value) (s : Shared) (Q E : Value → Shared → Prop),
    A.handled = none → A.depth ≤ n → A.units ≤ n → A.frames = some (env :: outer) → env.frame = some L → env.scope.kind = .function →
    Below A₀ base outer h₀ → Fr h₀ L s.heap m → (hd.heap_39 w.params).In h₀ → News h₀ L s.heap led → TopOk mean mg mb h₀ →
    (∀ v h' tk' led', post v led' → Fr h₀ L h' m → News h₀ L h' led' → Q v { s with heap := h', toks := tk' }) →
    wpAny (model Pr w) A (call (.ref f) vs) Q E s

theorem ctr_of {w : World} {n : Nat} {f : Addr} {vs : List Value} {led : List (Addr × Obj)} {post : Value → List (Addr × Obj) → Prop}
    (h : ∀ (mean : ExcName → Option Value) (mg mb : Str → Option Value) (env : Env) (outer : List Env) (A₀ : Around) (base h₀ : Heap) (L : Addr) (m : Str → Option Value) (s : Shared) (Q : Value → Shared → Prop),
      env.frame = some L → env.scope.kind = .function → Below A₀ base outer h₀ → Fr h₀ L s.heap m → (hd.heap_39 w.params).In h₀ → News h₀ L s.heap led → TopOk mean mg mb h₀ →
      (∀ v h' tk' led', post v led' → Fr h₀ L h' m → News h₀ L h' led' → Q v { s with heap := h', toks := tk' }) →
      codeAny (model Pr w) (arr n env outer) (.call (.ref f) ⟨vs, []⟩) (fun r s' => match r with | .ok (.ret v) => Q v s' | .ok _ => False | .error e => False) s) : Ctr w n f vs led post :=
  fun mean mg mb A env outer A₀ base h₀ L m s Q E hh hd hu hA hf hk B F X N T ret =>
    wpAny_noRaise (wpAny_le (A' := arr n env outer) (wpAny_call (h mean mg mb env outer A₀ base h₀ L m s Q hf hk B F X N T ret)) hh.symm hd hA.symm rfl hu)

theorem ctr_use {w : World} {n : Nat} {f : Addr} {vs : List Value} {led : List (Addr × Obj)} {post : Value → List (Addr × Obj) → Prop} (C : Ctr w n f vs led post)
    {mean : ExcName → Option Value} {mg mb : Str → Option Value} {A : Around} {env : Env} {outer : List Env} {A₀ : Around} {base h₀ : Heap} {L : Addr} {m : Str → Option Value} {s : Shared} {Q E : Value → Shared → Prop}
    (B : Below A₀ base outer h₀) (F : Fr h₀ L s.heap m) (X : (hd.heap_39 w.params).In h₀) (N : News h₀ L s.heap led) (T : TopOk mean mg mb h₀)
    (hh : A.handled = none) (hd : A.depth ≤ n) (hu : A.units ≤ n) (hA : A.frames = some (env :: outer)) (hf : env.frame = some L) (hk : env.scope.kind = .function)
    (ret : ∀ v h' tk' led', post v led' → Fr h₀ L h' m → News h₀ L h' led' → Q v { s with heap := h', toks := tk' }) :
    wpAny (model Pr w) A (call (.ref f) vs) Q E s := C mean mg mb A env outer A₀ base h₀ L m s Q E hh hd hu hA hf hk B F X N T ret

/-- a contract that keeps the ledger -/
theorem ctr_use1 {w : World} {n : Nat} {f : Addr} {vs : List Value} {led : List (Addr × Obj)} {R : Value → Prop} (C : Ctr w n f vs led (fun r led' => led' = led ∧ R r))
    {mean : ExcName → Option Value} {mg mb : Str → Option Value} {A : Around} {env : Env} {outer : List Env} {A₀ : Around} {base h₀ : Heap} {L : Addr} {m : Str → Option Value} {s : Shared} {Q E : Value → Shared → Prop}
    (B : Below A₀ base outer h₀) (F : Fr h₀ L s.heap m) (X : (hd.heap_39 w.params).In h₀) (N : News h₀ L s.heap led) (T : TopOk mean mg mb h₀)
    (hh : A.handled = none) (hd : A.depth ≤ n) (hu : A.units ≤ n) (hA : A.frames = some (env :: outer)) (hf : env.frame = some L) (hk : env.scope.kind = .function)
    (ret : ∀ v h' tk', R v → Fr h₀ L h' m → News h₀ L h' led → Q v { s with heap := h', toks := tk' }) :
    wpAny (model Pr w) A (call (.ref f) vs) Q E s := ctr_use C B F X N T hh hd hu hA hf hk fun v h' tk' led' p F' N' => ret v h' tk' p.2 F' (p.1 ▸ N')
theorem ctr_useT {w : World} {n : Nat} {f : Addr} {vs : List Value} {led : List (Addr × Obj)} {g : Tok → Value} (C : Ctr w n f vs led (fun r led' => led' = led ∧ ∃ t, r = g t))
    {mean : ExcName → Option Value} {mg mb : Str → Option Value} {A : Around} {env : Env} {outer : List Env} {A₀ : Around} {base h₀ : Heap} {L : Addr} {m : Str → Option Value} {s : Shared} {Q E : Value → Shared → Prop}
    (B : Below A₀ base outer h₀) (F : Fr h₀ L s.heap m) (X : (hd.heap_39 w.params).In h₀) (N : News h₀ L s.heap led) (T : TopOk mean mg mb h₀)
    (hh : A.handled = none) (hd : A.depth ≤ n) (hu : A.units ≤ n) (hA : A.frames = some (env :: outer)) (hf : env.frame = some L) (hk : env.scope.kind = .function)
    (ret : ∀ t h' tk', Fr h₀ L h' m → News h₀ L h' led → Q (g t) { s with heap := h', toks := tk' }) :
    wpAny (model Pr w) A (call (.ref f) vs) Q E s := ctr_use1 C B F X N T hh hd hu hA hf hk fun v h' tk' p F' N' => by
  obtain ⟨t, rfl⟩ := p
  exact ret t h' tk' F' N'
theorem ctr_useV {w : World} {n : Nat} {f : Addr} {vs : List Value} {led : List (Addr × Obj)} {v : Value} (C : Ctr w n f vs led (fun r led' => led' = led ∧ r = v))
    {mean : ExcName → Option Value} {mg mb : Str → Option Value} {A : Around} {env : Env} {outer : List Env} {A₀ : Around} {base h₀ : Heap} {L : Addr} {m : Str → Option Value} {s : Shared} {Q E : Value → Shared → Prop}
    (B : Below A₀ base outer h₀) (F : Fr h₀ L s.heap m) (X : (hd.heap_39 w.params).In h₀) (N : News h₀ L s.heap led) (T : TopOk mean mg mb h₀)
    (hh : A.handled = none) (hd : A.depth ≤ n) (hu : A.units ≤ n) (hA : A.frames = some (env :: outer)) (hf : env.frame = some L) (hk : env.scope.kind = .function)
    (ret : ∀ h' tk', Fr h₀ L h' m → News h₀ L h' led → Q v { s with heap := h', toks := tk' }) :
    wpAny (model Pr w) A (call (.ref f) vs) Q E s := ctr_use1 C B F X N T hh hd hu hA hf hk fun v h' tk' p F' N' => by
  subst p
  exact ret h' tk' F' N'
theorem ctr_weak {w : World} {n : Nat} {f : Addr} {vs : List Value} {led : List (Addr × Obj)} {post post' : Value → List (Addr × Obj) → Prop} (C : Ctr w n f vs led post) (h : ∀ v l, post v l → post' v l) : Ctr w n f vs led post' :=
  fun mean mg mb A env outer A₀ base h₀ L m s Q E a1 a2 a3 a4 a5 a6 B F X N T ret => C mean mg mb A env outer A₀ base h₀ L m s Q E a1 a2 a3 a4 a5 a6 B F X N T fun v h' tk' led' hp => ret v h' tk' led' (h v led' hp)

abbrev tupO (vs : List Value) (n : Nat) : Obj := { cls := .type "tuple", data := .seq vs.toArray n }

/-- the data of the law's Lisp -/
def symD (k : Int) : Dat := .tuple [.str "symbol", .int k]
def tailD (b : Bool) : List Dat := if b then [.int 7] else []
def lstD (ks : List Int) (b : Bool) : Dat := .tuple (.str "list" :: (ks.map symD ++ tailD b))
def prD : Dat := .tuple [.str "pair", .int 3, .none]
def KeyOk (k : Int) : Prop := 100 ≤ k ∧ k < 110
/-- a list's items: symbols, a 7 at the end or none -/
inductive SymsIn (led : List (Addr × Obj)) : List Value → List Int → Bool → Prop
  | nil0 : SymsIn led [] [] false
  | nil1 (t : Tok) : SymsIn led [.int 7 t] [] true
  | cons {a : Addr} {n : Nat} {t1 t2 : Tok} {k : Int} {vs : List Value} {ks : List Int} {b : Bool} : (a, tupO [.str "symbol" t1, .int k t2] n) ∈ led → KeyOk k → SymsIn led vs ks b → SymsIn led (.ref a :: vs) (k :: ks) b
/-- a value as the ledger bears it, opened -/
inductive LV (led : List (Addr × Obj)) : Value → Dat → Prop
  | nil : LV led .none .none
  | sym {a : Addr} {n : Nat} {t1 t2 : Tok} {k : Int} : (a, tupO [.str "symbol" t1, .int k t2] n) ∈ led → KeyOk k → LV led (.ref a) (symD k)
  | lst {a : Addr} {n : Nat} {t1 : Tok} {vs : List Value} {ks : List Int} {b : Bool} : (a, tupO (.str "list" t1 :: vs) n) ∈ led → SymsIn led vs ks b → ks.length ≤ 3 → LV led (.ref a) (lstD ks b)
  | tru : LV led (.bool true) (.bool true)
  | int (i : Int) (t : Tok) : LV led (.int i t) (.int i)
  | pr {a : Addr} {n : Nat} {t1 t2 : Tok} : (a, tupO [.str "pair" t1, .int 3 t2, .none] n) ∈ led → LV led (.ref a) prD
theorem SymsIn.mono {led led' : List (Addr × Obj)} (s : ∀ p ∈ led, p ∈ led') {vs : List Value} {ks : List Int} {b : Bool} (h : SymsIn led vs ks b) : SymsIn led' vs ks b := by
  induction h with
  | nil0 => exact .nil0
  | nil1 t => exact .nil1 t
  | cons h1 h2 _ ih => exact .cons (s _ h1) h2 ih
theorem SymsIn.datAll {led : List (Addr × Obj)} {vs : List Value} {ks : List Int} {b : Bool} (h : SymsIn led vs ks b) : DatAll led vs (ks.map symD ++ tailD b) := by
  induction h with
  | nil0 => exact .nil
  | nil1 t => exact .cons (.int _ _) .nil
  | cons h1 h2 _ ih => exact .cons (.tuple h1 (.cons (.str _ _) (.cons (.int _ _) .nil))) ih
theorem SymsIn.get {led : List (Addr × Obj)} {vs : List Value} {ks : List Int} {b : Bool} (h : SymsIn led vs ks b) : ∀ (i : Nat) (v : Value), vs[i]? = some v → ∃ d, LV led v d ∧ (ks.map symD ++ tailD b)[i]? = some d := by
  induction h with
  | nil0 => intro i v e; cases e
  | nil1 t =>
    intro i v e
    cases i with
    | zero => have e' := Option.some.inj e; subst e'; exact ⟨_, .int 7 t, rfl⟩
    | succ i => cases e
  | cons h1 h2 h3 ih =>
    intro i v e
    cases i with
    | zero => have e' := Option.some.inj e; subst e'; exact ⟨_, .sym h1 h2, rfl⟩
    | succ i => exact ih i v e

theorem LV.mono {led led' : List (Addr × Obj)} {v : Value} {d : Dat} (h : LV led v d) (s : ∀ p ∈ led, p ∈ led') : LV led' v d := by
  cases h with
  | nil => exact .nil
  | sym h1 h2 => exact .sym (s _ h1) h2
  | lst h1 h2 h4 => exact .lst (s _ h1) (h2.mono s) h4
  | tru => exact .tru
  | int i t => exact .int i t
  | pr h1 => exact .pr (s _ h1)
theorem LV.datIn {led : List (Addr × Obj)} {v : Value} {d : Dat} (h : LV led v d) : DatIn led v d := by
  cases h with
  | nil => exact .none
  | sym h1 h2 => exact .tuple h1 (.cons (.str _ _) (.cons (.int _ _) .nil))
  | lst h1 h2 h4 => exact .tuple h1 (.cons (.str _ _) h2.datAll)
  | tru => exact .bool _
  | int i t => exact .int _ _
  | pr h1 => exact .tuple h1 (.cons (.str _ _) (.cons (.int _ _) (.cons .none .nil)))

def numD : Dat → Int
  | .tuple [.str x, .int k] => if x = "symbol" then k else -1
  | _ => -1
theorem numD_sym (k : Int) : numD (symD k) = k := by
  have h : numD (symD k) = k := rfl
  exact h
theorem symD_ne_lstD {k : Int} {ks : List Int} {b : Bool} : symD k ≠ lstD ks b := fun e => by
  simp [lstD, symD] at e; exact absurd e.1 (by decide)
theorem prD_ne_lstD {ks : List Int} {b : Bool} : prD ≠ lstD ks b := fun e => by
  simp [lstD, prD] at e; exact absurd e.1 (by decide)
theorem symD_ne_prD {k : Int} : symD k ≠ prD := fun e => by simp [symD, prD] at e
theorem lstD_ne_prD {ks : List Int} {b : Bool} : lstD ks b ≠ prD := fun e => prD_ne_lstD e.symm
theorem numD_lst (ks : List Int) (b : Bool) : numD (lstD ks b) = -1 := by
  cases ks with
  | nil => cases b <;> rfl
  | cons k r => cases r <;> cases b <;> rfl

abbrev ent (w : World) (x : Str) (t : Tok) (v : Value) : DictEntry := ⟨PyData.keyHash w.params x, .str x t, v⟩
abbrev lispEs (w : World) (t1 t2 t3 t4 : Tok) (fi : Int) (tf : Tok) (pd : Addr) : List DictEntry :=
  [ent w "first" t1 (.int fi tf), ent w "nil" t2 .none, ent w "true" t3 (.bool true), ent w "plists" t4 (.ref pd)]
/-- the lisp object, its first number, its plists' dict -/
inductive LispAt (w : World) (led : List (Addr × Obj)) (li : Addr) (fi : Int) (pd : Addr) : Prop where
  | mk (dl : Addr) (t1 t2 t3 t4 tf : Tok) : ((li, instObj 81 dl) ∈ led) →
    ((dl, dictOf (lispEs w t1 t2 t3 t4 fi tf pd) 4) ∈ led) → LispAt w led li fi pd
abbrev rulesEs (w : World) (t : Nat → Tok) (li : Addr) (fi : Int) (dd : Addr) : List DictEntry :=
  [ent w "lisp" (t 0) (.ref li), ent w "nil" (t 1) .none, ent w "true" (t 2) (.bool true), ent w "category" (t 3) (.int fi (t 4)), ent w "front_sticky" (t 5) (.int (fi + 1) (t 6)),
   ent w "rear_nonsticky" (t 7) (.int (fi + 2) (t 8)), ent w "evaporate" (t 9) (.int (fi + 3) (t 10)), ent w "priority" (t 11) (.int (fi + 4) (t 12)), ent w "defaults" (t 13) (.ref dd)]
/-- the rules object, its defaults' dict -/
inductive RulesAt (w : World) (led : List (Addr × Obj)) (ru li : Addr) (fi : Int) (dd : Addr) : Prop where
  | mk (dr : Addr) (t : Nat → Tok) : ((ru, instObj 130 dr) ∈ led) →
    ((dr, dictOf (rulesEs w t li fi dd) 9) ∈ led) → RulesAt w led ru li fi dd
theorem LispAt.mono {w : World} {led led' : List (Addr × Obj)} {li pd : Addr} {fi : Int} (h : LispAt w led li fi pd) (s : ∀ p ∈ led, p ∈ led') : LispAt w led' li fi pd :=
  let ⟨a, b, c, d, e, f, h1, h2⟩ := h; ⟨a, b, c, d, e, f, s _ h1, s _ h2⟩
theorem RulesAt.mono {w : World} {led led' : List (Addr × Obj)} {ru li dd : Addr} {fi : Int} (h : RulesAt w led ru li fi dd) (s : ∀ p ∈ led, p ∈ led') : RulesAt w led' ru li fi dd :=
  let ⟨a, b, h1, h2⟩ := h; ⟨a, b, s _ h1, s _ h2⟩

theorem lst_len {led : List (Addr × Obj)} {vs : List Value} {ks : List Int} {b : Bool} (h : SymsIn led vs ks b) (hk : ks.length ≤ 3) : vs.length ≤ 4 := by
  have e := h.datAll.length
  rw [List.length_append, List.length_map] at e
  have : (tailD b).length ≤ 1 := by cases b <;> simp [tailD]
  omega

section
variable {prog : Program} {w : World} {A : Around} {E : Value → Shared → Prop} {s : Shared} {h₀ : Heap} {L : Addr} {news : List (Addr × Obj)} {m : Str → Option Value}
theorem tup_head {value slice : PySem.Expr} {l : Addr} {x : Value} {vs : List Value} {n : Nat} {u : Tok} {Q : Value → Shared → Prop} (N : News h₀ L s.heap news) (hm : (l, tupO (x :: vs) n) ∈ news) (h : Q x s)
    (hs : subscripted slice false (.ref l) (.int 0 u) = operate [.ref l, .int 0 u] (getItem (.ref l) (.int 0 u)) := by with_unfolding_all rfl) :
    wpAny (model prog w) A (subscriptTail value slice (.ref l) (.int 0 u)) Q E s :=
  item_tupleT (j := 0) (N.isTup hm) (by decide) (by decide) (by simp [seqIndex?]) rfl h hs
theorem tuple_ofM {l : Addr} {vs : List Value} {n : Nat} {Q : Value → Shared → Prop} (F : Fr h₀ L s.heap m) (N : News h₀ L s.heap news) (hm : (l, listOf vs.toArray n) ∈ news) (hz : vs.length ≤ 1000)
    (h : ∀ D h', Fr h₀ L h' m → News h₀ L h' ((D, tupO vs 0) :: news) → (∀ p ∈ news, p.1 < D) → Q (.ref D) { s with heap := h' }) : wpAny (model prog w) A (call (.type "tuple") [.ref l]) Q E s := by
  refine call_tuple_list (N.isList hm) (fun h' hk => ?_) (by rw [List.size_toArray, sizeLine_eq]; omega)
  have F' : Fr h₀ L h' m := F.keeps hk
  have N' : News h₀ L h' news := fun p hp => ⟨hk _ _ (N p hp).1, (N p hp).2⟩
  exact h _ _ (F'.push _) (N'.push F' _) fun p hp => Heap.lt_size (N' p hp).1
theorem slice_tupM {value slice : PySem.Expr} {t : Addr} {x : Value} {vs : List Value} {n : Nat} {u : Tok} {Q : Value → Shared → Prop}
    (F : Fr h₀ L s.heap m) (N : News h₀ L s.heap news) (hm : (t, tupO (x :: vs) n) ∈ news) (hz : vs.length ≤ 1000)
    (h : ∀ D h', Fr h₀ L h' m → News h₀ L h' ((D, tupO vs 0) :: news) → (∀ p ∈ news, p.1 < D) → Q (.ref D) { s with heap := h' })
    (hs : subscripted slice false (.ref t) (.ref s.heap.objs.size) = operate [.ref s.heap.objs.size, .ref t] (getItem (.ref t) (.ref s.heap.objs.size)))
    (hg : ∀ r, letTemporaryGo value (.ref t) r = pure ()) :
    wpAny (model prog w) A (subscriptTail value slice (.ref t) (.ref s.heap.objs.size)) Q E { s with heap := s.heap.push { cls := .type "slice", data := .fields #[.int 1 u, .none, .none] } } := by
  refine slice_tuple_from (a := 1) F N (N.isTup hm) (Nat.le_refl _) (by simp) (fun h' F' N' => ?_) hs hg (by simp [sizeLine_eq]; omega)
  exact h _ h' F' (by simpa using N') fun p hp => Nat.lt_succ_of_lt (Heap.lt_size (N p hp).1)
theorem add_tupM {t b : Addr} {x : Value} {vs ws : List Value} {n k : Nat} {Q : Value → Shared → Prop} (F : Fr h₀ L s.heap m) (N : News h₀ L s.heap news) (ht : (t, tupO (x :: vs) n) ∈ news) (hb : (b, tupO ws k) ∈ news) (hz : vs.length + ws.length ≤ 1000)
    (h1 : ws = [] → Q (.ref t) s)
    (h2 : ws ≠ [] → ∀ D h', Fr h₀ L h' m → News h₀ L h' ((D, tupO (x :: vs ++ ws) 0) :: news) → (∀ p ∈ news, p.1 < D) → Q (.ref D) { s with heap := h' }) :
    wpAny (model prog w) A (binaryOp .Add (.ref t) (.ref b)) Q E s :=
  add_tuples F N (N.isTup ht) (N.isTup hb) (fun e => nomatch e) (fun _ e => h1 e) (fun _ hw h' F' N' => h2 hw _ h' F' N' fun p hp => Heap.lt_size (N p hp).1) (by simp [sizeLine_eq]; omega)
theorem list_ofTupM {t : Addr} {vs : List Value} {n : Nat} {Q : Value → Shared → Prop} (F : Fr h₀ L s.heap m) (N : News h₀ L s.heap news) (hm : (t, tupO vs n) ∈ news) (hz : vs.length ≤ 1000)
    (h : ∀ D k h', Fr h₀ L h' m → News h₀ L h' ((D, listOf vs.toArray k) :: news) → (∀ p ∈ news, p.1 < D) → Q (.ref D) { s with heap := h' }) : wpAny (model prog w) A (call (.type "list") [.ref t]) Q E s := by
  have hx := N _ hm
  refine call_list_seq t (.inr rfl) hx.1 rfl rfl (fun h' c' hk hD => ?_) (by rw [List.size_toArray, sizeLine_eq]; omega)
  refine h _ c' h' (F.keeps hk) (fun p hp => ?_) fun p hp => Heap.lt_size (N p hp).1
  rcases List.mem_cons.mp hp with rfl | hp
  · exact ⟨hD, Nat.ne_of_gt F.ns.lt, none_at_size F⟩
  · exact ⟨hk _ _ (N p hp).1, (N p hp).2⟩
theorem eq_tup_none {l : Addr} {vs : List Value} {n : Nat} {Q : Value → Shared → Prop} (N : News h₀ L s.heap news) (hm : (l, tupO vs n) ∈ news) (hu : A.units < cLine) (h : Q (.bool false) s) :
    wpAny (model prog w) A (compareOp .Eq (.ref l) .none) Q E s := cmp_ofEq ((RcAt.tuple_none ⟨_, (N _ hm).1, rfl, _, rfl⟩ hu) prog w E Q h)
end
/-- a dict of ints, whatever its values -/
def IntDict (w : World) (led : List (Addr × Obj)) (d : Addr) (kvs : List (Int × Value)) : Prop :=
  ∃ o : Obj, (d, o) ∈ led ∧ o.IsDictOf (PySem.intKind Pr w) kvs ∧ (d == sysModules) = false
theorem IntDict.mono {w : World} {led led' : List (Addr × Obj)} {d : Addr} {kvs : List (Int × Value)} (h : IntDict w led d kvs) (s : ∀ p ∈ led, p ∈ led') : IntDict w led' d kvs :=
  let ⟨o, h1, h2⟩ := h; ⟨o, s _ h1, h2⟩

section
variable {prog : Program} {w : World} {A : Around} {E : Value → Shared → Prop} {s : Shared} {env : Env} {h₀ : Heap} {x : Str} {body : List Stmt} {Q : Flow → Shared → Prop}
/-- a loop over a range by an invariant of its turn -/
theorem range_ind {I : Addr} {a : Int} {n : Nat} (P : Nat → (Str → Option Value) → List (Addr × Obj) → Prop) {m₀ : Str → Option Value} {news₀ : List (Addr × Obj)} (h0 : P 0 m₀ news₀)
    (step : ∀ i m news, i < n → P i m news → ∀ t h tk, Fr h₀ env.locals h (fun y => if y = x then some (.int (a + (i : Int)) t) else m y) →
      News h₀ env.locals h ((I, itR (a + ((i + 1 : Nat) : Int)) ((n : Int) - ((i + 1 : Nat) : Int))) :: news) →
      wpAny (model prog w) A (execs body env) (UnrPost h₀ env.locals { s with heap := h, toks := tk } I (itR (a + ((i + 1 : Nat) : Int)) ((n : Int) - ((i + 1 : Nat) : Int))) (P (i + 1)) Q) E { s with heap := h, toks := tk })
    (done : ∀ m news, P n m news → ∀ h tk, Fr h₀ env.locals h m → News h₀ env.locals h news → Q .next { s with heap := h, toks := tk }) :
    RangeRest prog w A E h₀ env x body Q s I a n n 0 m₀ news₀ := by
  have key : ∀ k i m news, i + k = n → P i m news → RangeRest prog w A E h₀ env x body Q s I a n k i m news := by
    intro k
    induction k with
    | zero => intro i m news e p; rw [Nat.add_zero] at e; subst e; exact RangeRest.zero fun h tk => done m news p h tk
    | succ k ih =>
      intro i m news e p
      refine RangeRest.succ fun t h tk F N => wpAny_mono (step i m news (by omega) p t h tk F N) (fun f s₂ q => ?_) fun _ _ e => e
      have up : UnrEnd h₀ env.locals { s with heap := h, toks := tk } I (itR (a + ((i + 1 : Nat) : Int)) ((n : Int) - ((i + 1 : Nat) : Int))) (P (i + 1)) s₂ →
          UnrEnd h₀ env.locals { s with heap := h, toks := tk } I (itR (a + ((i + 1 : Nat) : Int)) ((n : Int) - ((i + 1 : Nat) : Int))) (RangeRest prog w A E h₀ env x body Q s I a n k (i + 1)) s₂ := by
        rintro ⟨h', tk', m', news', e', F', N', ho, r⟩
        exact ⟨h', tk', m', news', e', F', N', ho, ih _ _ _ (by omega) r⟩
      cases f with
      | ret v => exact q
      | brk => exact q
      | next => exact up q
      | cont => exact up q
  exact key n 0 m₀ news₀ (Nat.zero_add n) h0
end
section
variable {prog : Program} {w : World} {A : Around} {E : Value → Shared → Prop} {s : Shared} {h₀ : Heap} {L : Addr} {news : List (Addr × Obj)} {m : Str → Option Value}
theorem list_itemM {value slice : PySem.Expr} {l : Addr} {vs : List Value} {n j : Nat} {k : Int} {u : Tok} {v : Value} {Q : Value → Shared → Prop} (N : News h₀ L s.heap news) (hm : (l, listOf vs.toArray n) ∈ news)
    (hx : vs[j]? = some v) (hk : k = (j : Int)) (hz : vs.length ≤ 1000) (h : Q v s)
    (hs : subscripted slice false (.ref l) (.int k u) = operate [.ref l, .int k u] (getItem (.ref l) (.int k u)) := by with_unfolding_all rfl) :
    wpAny (model prog w) A (subscriptTail value slice (.ref l) (.int k u)) Q E s := by
  subst hk
  have hj : j < vs.length := (List.getElem?_eq_some_iff.mp hx).1
  have hl := N.isList hm
  exact tail_any hl.typeIs slot_list_getitem.lookup (wpAny_getItem_list hl (by omega) (by omega) (by simpa using hx) h) hs
end
section
variable {prog : Program} {w : World} {A : Around} {E : Value → Shared → Prop} {s : Shared} {h₀ : Heap} {L : Addr} {news : List (Addr × Obj)} {m : Str → Option Value}
theorem len_listM {l : Addr} {vs : List Value} {n : Nat} {Q : Value → Shared → Prop} (N : News h₀ L s.heap news) (hm : (l, listOf vs.toArray n) ∈ news) (hz : vs.length ≤ 1000)
    (h : Q (.int (vs.length : Int) (s.toks + 1)) { s with toks := s.toks + 1 + 1 }) : wpAny (model prog w) A (call (.builtin "len") [.ref l]) Q E s :=
  len_list (N.isList hm) (by rw [List.size_toArray]; omega) (by rw [List.size_toArray]; exact h)
end
/-- rows of a property list: pairs of a number and a value -/
inductive RowsIn (led : List (Addr × Obj)) : List Value → List (Int × Dat) → Prop
  | nil : RowsIn led [] []
  | cons {b : Addr} {n : Nat} {t : Tok} {k : Int} {v : Value} {d : Dat} {vs : List Value} {rows : List (Int × Dat)} : (b, tupO [.int k t, v] n) ∈ led → LV led v d → RowsIn led vs rows → RowsIn led (.ref b :: vs) ((k, d) :: rows)
theorem RowsIn.mono {led led' : List (Addr × Obj)} (s : ∀ p ∈ led, p ∈ led') {vs : List Value} {rows : List (Int × Dat)} (h : RowsIn led vs rows) : RowsIn led' vs rows := by
  induction h with
  | nil => exact .nil
  | cons h1 h2 _ ih => exact .cons (s _ h1) (h2.mono s) ih
theorem RowsIn.length {led : List (Addr × Obj)} {vs : List Value} {rows : List (Int × Dat)} (h : RowsIn led vs rows) : vs.length = rows.length := by
  induction h with
  | nil => rfl
  | cons _ _ _ ih => exact congrArg (· + 1) ih
theorem RowsIn.append {led : List (Addr × Obj)} {vs ws : List Value} {rows more : List (Int × Dat)} (h : RowsIn led vs rows) (g : RowsIn led ws more) : RowsIn led (vs ++ ws) (rows ++ more) := by
  induction h with
  | nil => exact g
  | cons h1 h2 _ ih => exact .cons h1 h2 ih
theorem RowsIn.get {led : List (Addr × Obj)} {vs : List Value} {rows : List (Int × Dat)} (h : RowsIn led vs rows) : ∀ i, i < rows.length → ∃ b n t k v d, vs[i]? = some (.ref b) ∧ (b, tupO [.int k t, v] n) ∈ led ∧ LV led v d ∧ rows[i]? = some (k, d) := by
  induction h with
  | nil => intro i h; exact absurd h (Nat.not_lt_zero _)
  | cons h1 h2 h3 ih =>
    intro i h
    cases i with
    | zero => exact ⟨_, _, _, _, _, _, rfl, h1, h2, rfl⟩
    | succ i => exact ih i (Nat.lt_of_succ_lt_succ h)
def getD (rows : List (Int × Dat)) (k : Int) : Option Dat := (rows.find? (fun p => decide (p.1 = k))).map (·.2)
theorem getD_at : ∀ {rows : List (Int × Dat)} {k : Int} {d : Dat} (i : Nat), rows[i]? = some (k, d) → (∀ p ∈ rows.take i, p.1 ≠ k) → getD rows k = some d
  | [], _, _, i, h, _ => by simp at h
  | p :: rows, k, d, 0, h, _ => by
    have e : p = (k, d) := by simpa using h
    subst e; simp [getD]
  | p :: rows, k, d, i + 1, h, hp => by
    have h1 : p.1 ≠ k := hp p (by simp)
    have ih := getD_at (rows := rows) i (by simpa using h) fun q hq => hp q (by simp [hq])
    simp only [getD, List.find?_cons, decide_eq_false h1] at ih ⊢
    exact ih
theorem getD_none {rows : List (Int × Dat)} {k : Int} (h : ∀ p ∈ rows, p.1 ≠ k) : getD rows k = none := by
  simp only [getD, Option.map_eq_none_iff, List.find?_eq_none, decide_eq_true_eq]
  exact h

section
variable {prog : Program} {w : World} {A : Around} {E : Value → Shared → Prop} {s : Shared} {env : Env} {h₀ : Heap} {x : Str} {body : List Stmt} {Q : Flow → Shared → Prop}
theorem upd_twice {x : Str} {u v : Option Value} {m₀ : Str → Option Value} : (fun y => if y = x then u else (fun y => if y = x then v else m₀ y) y) = fun y => if y = x then u else m₀ y := by
  funext y; by_cases h : y = x <;> simp [h]
theorem upd_self {x : Str} {m₀ : Str → Option Value} : m₀ = fun y => if y = x then m₀ x else m₀ y := by
  funext y; by_cases h : y = x <;> simp [h]
/-- the same, where a turn stores nothing and keeps the ledger -/
theorem range_indK {I : Addr} {a : Int} {n : Nat} (P : Nat → Prop) {m₀ : Str → Option Value} {news₀ : List (Addr × Obj)} (h0 : P 0)
    (step : ∀ i, i < n → P i → ∀ t h tk, Fr h₀ env.locals h (fun y => if y = x then some (.int (a + (i : Int)) t) else m₀ y) →
      News h₀ env.locals h ((I, itR (a + ((i + 1 : Nat) : Int)) ((n : Int) - ((i + 1 : Nat) : Int))) :: news₀) →
      wpAny (model prog w) A (execs body env) (UnrPost h₀ env.locals { s with heap := h, toks := tk } I (itR (a + ((i + 1 : Nat) : Int)) ((n : Int) - ((i + 1 : Nat) : Int))) (fun m' n' => n' = news₀ ∧ (∃ u, m' = fun y => if y = x then u else m₀ y) ∧ P (i + 1)) Q) E { s with heap := h, toks := tk })
    (done : P n → ∀ u h tk, Fr h₀ env.locals h (fun y => if y = x then u else m₀ y) → News h₀ env.locals h news₀ → Q .next { s with heap := h, toks := tk }) :
    RangeRest prog w A E h₀ env x body Q s I a n n 0 m₀ news₀ := by
  refine range_ind (fun i m' n' => n' = news₀ ∧ (∃ u, m' = fun y => if y = x then u else m₀ y) ∧ P i) ⟨rfl, ⟨_, upd_self⟩, h0⟩ ?_ ?_
  · rintro i m news hi ⟨rfl, ⟨u, rfl⟩, hP⟩ t h tk F N
    rw [upd_twice] at F
    exact step i hi hP t h tk F N
  · rintro m news ⟨rfl, ⟨u, rfl⟩, hP⟩ h tk F N
    exact done hP u h tk F N
end
section
variable {prog : Program} {w : World} {A : Around} {E : Value → Shared → Prop} {s : Shared} {env : Env} {h₀ : Heap} {target : PySem.Expr} {body : List Stmt} {Q : Flow → Shared → Prop}
theorem upd2_twice {x y : Str} {u v u' v' : Option Value} {m₀ : Str → Option Value} : (fun z => if z = y then u else if z = x then v else if z = y then u' else if z = x then v' else m₀ z) = fun z => if z = y then u else if z = x then v else m₀ z := by
  funext z; by_cases h : z = y <;> by_cases h' : z = x <;> simp_all
theorem upd2_self {x y : Str} {m₀ : Str → Option Value} : m₀ = fun z => if z = y then m₀ y else if z = x then m₀ x else m₀ z := by
  funext z; by_cases h : z = y <;> by_cases h' : z = x <;> simp_all
/-- a loop over a list by an invariant of its turn -/
theorem items_ind {I : Addr} {keep : List (Addr × Obj)} {vs : List Value} (P : Nat → (Str → Option Value) → List (Addr × Obj) → Prop) {m₀ : Str → Option Value} {news₀ : List (Addr × Obj)} (h0 : P 0 m₀ news₀)
    (step : ∀ i v m news, vs[i]? = some v → P i m news → ∀ h tk (o : Obj), o.cls = .type "list_iterator" → Fr h₀ env.locals h m → News h₀ env.locals h ((I, o) :: news) →
      wpAny (model prog w) A (assign target env v) (fun _ s₂ => wpAny (model prog w) A (execs body env) (UnrPostW h₀ env.locals { s with heap := h, toks := tk } [(I, o)] (fun m' n' => SubL keep n' ∧ P (i + 1) m' n') Q) E s₂) E { s with heap := h, toks := tk })
    (done : ∀ m news, P vs.length m news → ∀ h tk, Fr h₀ env.locals h m → News h₀ env.locals h news → Q .next { s with heap := h, toks := tk }) :
    ItemsRest prog w A E h₀ env target body Q s [(I, "list_iterator")] keep (vs.map .val) m₀ news₀ := by
  have key : ∀ (r : List Value) i m news, vs.drop i = r → i + r.length = vs.length → P i m news → ItemsRest prog w A E h₀ env target body Q s [(I, "list_iterator")] keep (r.map .val) m news := by
    intro r
    induction r with
    | nil => intro i m news e1 e p; rw [List.length_nil, Nat.add_zero] at e; subst e; exact ItemsRest.zero fun h tk => done m news p h tk
    | cons v r ih =>
      intro i m news e1 e p
      have hv : vs[i]? = some v := by rw [← List.head?_drop, e1]; rfl
      have e2 : vs.drop (i + 1) = r := by rw [← List.tail_drop, e1]; rfl
      refine ItemsRest.val fun h tk F => AllObj.cons fun o ho => AllObj.nil ?_
      intro N
      refine wpAny_mono (step i v m news hv p h tk o ho F N) (fun _ s₂ q => wpAny_mono q (fun f s₃ q' => ?_) fun _ _ e => e) fun _ _ e => e
      have up : UnrEndW h₀ env.locals { s with heap := h, toks := tk } [(I, o)] (fun m' n' => SubL keep n' ∧ P (i + 1) m' n') s₃ →
          UnrEndW h₀ env.locals { s with heap := h, toks := tk } [(I, o)] (fun m' n' => SubL keep n' ∧ ItemsRest prog w A E h₀ env target body Q s [(I, "list_iterator")] keep (r.map .val) m' n') s₃ := by
        rintro ⟨h', tk', m', news', e', F', N', ho', r1, r2⟩
        exact ⟨h', tk', m', news', e', F', N', ho', r1, ih _ _ _ e2 (by rw [List.length_cons] at e; omega) r2⟩
      cases f with
      | ret v => exact q'
      | brk => exact q'
      | next => exact up q'
      | cont => exact up q'
  exact key vs 0 m₀ news₀ rfl (Nat.zero_add _) h0
/-- the same, where a turn stores the target's two names alone and keeps the ledger -/
theorem items_indK {I : Addr} {keep : List (Addr × Obj)} {vs : List Value} (x y : Str) (P : Nat → Prop) {m₀ : Str → Option Value} {news₀ : List (Addr × Obj)} (h0 : P 0)
    (step : ∀ i v u u', vs[i]? = some v → P i → ∀ h tk (o : Obj), o.cls = .type "list_iterator" → Fr h₀ env.locals h (fun z => if z = y then u else if z = x then u' else m₀ z) → News h₀ env.locals h ((I, o) :: news₀) →
      wpAny (model prog w) A (assign target env v) (fun _ s₂ => wpAny (model prog w) A (execs body env) (UnrPostW h₀ env.locals { s with heap := h, toks := tk } [(I, o)] (fun m' n' => SubL keep n' ∧ n' = news₀ ∧ (∃ u u', m' = fun z => if z = y then u else if z = x then u' else m₀ z) ∧ P (i + 1)) Q) E s₂) E { s with heap := h, toks := tk })
    (done : P vs.length → ∀ u u' h tk, Fr h₀ env.locals h (fun z => if z = y then u else if z = x then u' else m₀ z) → News h₀ env.locals h news₀ → Q .next { s with heap := h, toks := tk }) :
    ItemsRest prog w A E h₀ env target body Q s [(I, "list_iterator")] keep (vs.map .val) m₀ news₀ := by
  refine items_ind (fun i m' n' => n' = news₀ ∧ (∃ u u', m' = fun z => if z = y then u else if z = x then u' else m₀ z) ∧ P i) ⟨rfl, ⟨_, _, upd2_self⟩, h0⟩ ?_ ?_
  · rintro i v m news hv ⟨rfl, ⟨u, u', rfl⟩, hP⟩ h tk o ho F N
    exact step i v u u' hv hP h tk o ho F N
  · rintro m news ⟨rfl, ⟨u, u', rfl⟩, hP⟩ h tk F N
    exact done hP u u' h tk F N
end

theorem off_one {i a : Addr} {o o' : Obj} {led : List (Addr × Obj)} (h : @LT.lt Nat _ a i ∧ AllLt i led) : ∀ p ∈ (a, o') :: led, ∀ q ∈ [(i, o)], p.1 ≠ q.1 := fun p hp q hq => by
  rw [List.mem_singleton.mp hq]
  rcases List.mem_cons.mp hp with rfl | hp
  · exact Nat.ne_of_lt h.1
  · exact Nat.ne_of_lt (tb_ltOf h.2 p hp)
theorem off_led {i : Addr} {o : Obj} {led : List (Addr × Obj)} (h : ∀ p ∈ led, p.1 < i) : ∀ p ∈ led, ∀ q ∈ [(i, o)], p.1 ≠ q.1 := fun p hp q hq => by
  rw [List.mem_singleton.mp hq]
  exact Nat.ne_of_lt (h p hp)
theorem take_succ_ne {rows : List (Int × Dat)} {i : Nat} {k k' : Int} {d : Dat} (h : ∀ p ∈ rows.take i, p.1 ≠ k) (e : rows[i]? = some (k', d)) (hk : k' ≠ k) : ∀ p ∈ rows.take (i + 1), p.1 ≠ k := fun p hp => by
  rw [List.take_add_one, e] at hp
  rcases List.mem_append.mp hp with hp | hp
  · exact h p hp
  · simp at hp; subst hp; exact hk
/-- what the plists' dict holds -/
def PlistsIn (led : List (Addr × Obj)) (kvs : List (Int × Value)) (pl : Int → List (Int × Dat)) : Prop :=
  ∀ k, (valueAt kvs k = none ∧ pl k = []) ∨ ∃ a vs n, valueAt kvs k = some (.ref a) ∧ (a, listOf vs.toArray n) ∈ led ∧ RowsIn led vs (pl k) ∧ (pl k).length ≤ 100
theorem PlistsIn.mono {led led' : List (Addr × Obj)} {kvs : List (Int × Value)} {pl : Int → List (Int × Dat)} (h : PlistsIn led kvs pl) (s : ∀ p ∈ led, p ∈ led') : PlistsIn led' kvs pl := fun k => by
  rcases h k with h | ⟨a, vs, n, h1, h2, h3, h4⟩
  · exact .inl h
  · exact .inr ⟨a, vs, n, h1, s _ h2, h3.mono s, h4⟩
theorem numD_key {k : Int} (ks : List Int) (b : Bool) (hk : KeyOk k) : (∃ d ∈ ks.map symD ++ tailD b, numD d = k) ↔ k ∈ ks := by
  constructor
  · rintro ⟨d, hd, e⟩
    rcases List.mem_append.mp hd with hd | hd
    · obtain ⟨j, hj, rfl⟩ := List.mem_map.mp hd
      rw [numD_sym] at e; exact e ▸ hj
    · cases b with
      | false => simp [tailD] at hd
      | true =>
        simp [tailD] at hd; subst hd
        have h1 : numD (.int 7) = -1 := rfl
        rw [h1] at e; unfold KeyOk at hk; omega
  · intro h
    exact ⟨symD k, List.mem_append.mpr (.inl (List.mem_map.mpr ⟨k, h, rfl⟩)), numD_sym k⟩

section
variable {prog : Program} {w : World} {A : Around} {E : Value → Shared → Prop} {s : Shared} {h₀ : Heap} {L : Addr} {news : List (Addr × Obj)} {m : Str → Option Value}
theorem list_ne_nil {l e : Addr} {vs : List Value} {n k : Nat} {Q : Value → Shared → Prop} (N : News h₀ L s.heap news) (hl : (l, listOf vs.toArray n) ∈ news) (he : (e, listOf #[] k) ∈ news) (hu : A.units < cLine)
    (h : Q (.bool (decide (vs ≠ []))) s) : wpAny (model prog w) A (compareOp .NotEq (.ref l) (.ref e)) Q E s := by
  refine cmp_ofNotEq ?_
  by_cases hv : vs = []
  · subst hv
    exact RcNeAt.lists (e := fun _ => false) (N.isList hl) (N.isList he) rfl hu (fun j h1 _ => absurd h1 (by simp)) prog w E Q (by simpa using h)
  · refine RcNeAt.lists_lengths (N.isList hl) (N.isList he) (by simpa using hv) hu prog w E Q ?_
    rw [decide_eq_true hv] at h; exact h
theorem list_eq_nil {l e : Addr} {vs : List Value} {n k : Nat} {Q : Value → Shared → Prop} (N : News h₀ L s.heap news) (hl : (l, listOf vs.toArray n) ∈ news) (he : (e, listOf #[] k) ∈ news) (hu : A.units < cLine)
    (h : Q (.bool (decide (vs = []))) s) : wpAny (model prog w) A (compareOp .Eq (.ref l) (.ref e)) Q E s := by
  refine cmp_ofEq ?_
  by_cases hv : vs = []
  · subst hv
    exact RcAt.lists (e := fun _ => false) (N.isList hl) (N.isList he) rfl hu (fun j h1 _ => absurd h1 (by simp)) prog w E Q (by simpa using h)
  · refine RcAt.lists_lengths (N.isList hl) (N.isList he) (by simpa using hv) hu prog w E Q ?_
    rw [decide_eq_false hv] at h; exact h
end

section
open PyProof.Rows.LCg PyProof.Rows.LCt
variable {prog : Program} {w : World} {A : Around} {s : Shared} {h₀ : Heap} {L : Addr} {m : Str → Option Value} {env : Env}
theorem compEnd_mono {s₁ : Shared} {I C D : Addr} {oI oC oD : Obj} {S : List (Addr × Obj) → Prop} {r r' : Value → List (Addr × Obj) → Prop} {y : Value} {s₂ : Shared} (h : CompEnd h₀ L m s₁ I oI C oC D oD S r y s₂) (hr : ∀ n, r y n → r' y n) :
    CompEnd h₀ L m s₁ I oI C oC D oD S r' y s₂ := by
  obtain ⟨h', tk, news', e, F, N, o, hS, q⟩ := h
  exact ⟨h', tk, news', e, F, N, o, hS, hr _ q⟩
/-- a comprehension with a test, by an invariant of its turn -/
theorem compT_ind {ct elt : PySem.Expr} {x : Str} {scope : Scope} {cl : List (Str × Addr)} {S : List (Addr × Obj) → Prop} {P : Nat → Value → Prop} {Fin : List Value → List (Addr × Obj) → Prop} {n : Nat} {news₀ : List (Addr × Obj)}
    (Inv : Nat → List Value → List (Addr × Obj) → Prop) (h0 : Inv 0 [] news₀)
    (step : ∀ i ys news v I oI C oC D m₂ h tk (E' : Value → Shared → Prop), i < n → Inv i ys news → P i v → NsObj oC m₂ → m₂ x = some v → Fr h₀ L h m → News h₀ L h ((I, oI) :: (C, oC) :: (D, lst ys) :: news) → Off3 I C D news → ((@Ne Nat I C) ∧ (@Ne Nat I D) ∧ (@Ne Nat C D)) →
      wpAny (model prog w) A (isTrue ct (compEnvC scope cl C env) (eval ct (compEnvC scope cl C env))) (fun ok s' => if ok = true then
        wpAny (model prog w) A (eval elt (compEnvC scope cl C env)) (CompEnd h₀ L m { s with heap := h, toks := tk } I oI C oC D (lst ys) S (fun y news' => Inv (i + 1) (ys ++ [y]) news')) E' s'
        else CompEnd h₀ L m { s with heap := h, toks := tk } I oI C oC D (lst ys) S (fun _ news' => Inv (i + 1) ys news') Value.none s') E' { s with heap := h, toks := tk })
    (fin : ∀ ys news, Inv n ys news → Fin ys news) : CompRestT prog w A h₀ L m env ct elt x scope cl s S P Fin n 0 [] news₀ := by
  have key : ∀ k i ys news, i + k = n → Inv i ys news → CompRestT prog w A h₀ L m env ct elt x scope cl s S P Fin k i ys news := by
    intro k
    induction k with
    | zero => intro i ys news e p; rw [Nat.add_zero] at e; subst e; exact CompRestT.zero (fin ys news p)
    | succ k ih =>
      intro i ys news e p
      refine CompRestT.succ fun v I oI C oC D m₂ h tk E' hv a b F N off ne => wpAny_mono (step i ys news v I oI C oC D m₂ h tk E' (by omega) p hv a b F N off ne) (fun ok s' q => ?_) fun _ _ e => e
      cases ok with
      | true =>
        simp only [if_true] at q ⊢
        exact wpAny_mono q (fun y s'' q' => compEnd_mono q' fun n' r => ih _ _ _ (by omega) r) fun _ _ e => e
      | false =>
        simp only [Bool.false_eq_true, if_false] at q ⊢
        exact compEnd_mono q fun n' r => ih _ _ _ (by omega) r
  exact key n 0 [] news₀ (Nat.zero_add n) h0
/-- the same, where a turn keeps the ledger -/
theorem compT_indK {ct elt : PySem.Expr} {x : Str} {scope : Scope} {cl : List (Str × Addr)} {S : List (Addr × Obj) → Prop} {P : Nat → Value → Prop} {Fin : List Value → List (Addr × Obj) → Prop} {n : Nat} {news₀ : List (Addr × Obj)}
    (Inv : Nat → List Value → Prop) (h0 : Inv 0 [])
    (step : ∀ i ys v I oI C oC D m₂ h tk (E' : Value → Shared → Prop), i < n → Inv i ys → P i v → NsObj oC m₂ → m₂ x = some v → Fr h₀ L h m → News h₀ L h ((I, oI) :: (C, oC) :: (D, lst ys) :: news₀) → Off3 I C D news₀ → ((@Ne Nat I C) ∧ (@Ne Nat I D) ∧ (@Ne Nat C D)) →
      wpAny (model prog w) A (isTrue ct (compEnvC scope cl C env) (eval ct (compEnvC scope cl C env))) (fun ok s' => if ok = true then
        wpAny (model prog w) A (eval elt (compEnvC scope cl C env)) (CompEnd h₀ L m { s with heap := h, toks := tk } I oI C oC D (lst ys) S (fun y news' => news' = news₀ ∧ Inv (i + 1) (ys ++ [y]))) E' s'
        else CompEnd h₀ L m { s with heap := h, toks := tk } I oI C oC D (lst ys) S (fun _ news' => news' = news₀ ∧ Inv (i + 1) ys) Value.none s') E' { s with heap := h, toks := tk })
    (fin : ∀ ys, Inv n ys → Fin ys news₀) : CompRestT prog w A h₀ L m env ct elt x scope cl s S P Fin n 0 [] news₀ := by
  refine compT_ind (fun i ys news => news = news₀ ∧ Inv i ys) ⟨rfl, h0⟩ ?_ ?_
  · rintro i ys news v I oI C oC D m₂ h tk E' hi ⟨rfl, hI⟩ hP hC hx F N off ne
    exact step i ys v I oI C oC D m₂ h tk E' hi hI hP hC hx F N off ne
  · rintro ys news ⟨rfl, hI⟩
    exact fin ys hI
theorem compEnd_same {s₁ : Shared} {I C D : Addr} {oI oC oD : Obj} {S : List (Addr × Obj) → Prop} {news : List (Addr × Obj)} {R : Value → Prop} {y : Value} {h' : Heap} {tk : Nat} {all : List (Addr × Obj)}
    (F : Fr h₀ L h' m) (N : News h₀ L h' all) (hs : ∀ p ∈ (I, oI) :: (C, oC) :: (D, oD) :: news, p ∈ all) (off : Off3 I C D news) (hS : S news) (r : R y) :
    CompEnd h₀ L m s₁ I oI C oC D oD S (fun y n' => n' = news ∧ R y) y { s₁ with heap := h', toks := tk } := .intro F N news hs off hS ⟨rfl, r⟩
/-- a comprehension without a test, by an invariant of its turn -/
theorem compU_ind {elt : PySem.Expr} {x : Str} {scope : Scope} {cl : List (Str × Addr)} {S : List (Addr × Obj) → Prop} {P : Nat → Value → Prop} {Fin : List Value → List (Addr × Obj) → Prop} {n : Nat} {news₀ : List (Addr × Obj)}
    (Inv : Nat → List Value → List (Addr × Obj) → Prop) (h0 : Inv 0 [] news₀)
    (step : ∀ i ys news v I oI C oC D m₂ h tk (E' : Value → Shared → Prop), i < n → Inv i ys news → P i v → NsObj oC m₂ → m₂ x = some v → Fr h₀ L h m → News h₀ L h ((I, oI) :: (C, oC) :: (D, lst ys) :: news) → Off3 I C D news → ((@Ne Nat I C) ∧ (@Ne Nat I D) ∧ (@Ne Nat C D)) →
      wpAny (model prog w) A (eval elt (compEnvC scope cl C env)) (CompEnd h₀ L m { s with heap := h, toks := tk } I oI C oC D (lst ys) S (fun y news' => Inv (i + 1) (ys ++ [y]) news')) E' { s with heap := h, toks := tk })
    (fin : ∀ ys news, Inv n ys news → Fin ys news) : CompRest prog w A h₀ L m env elt x scope cl s S P Fin n 0 [] news₀ := by
  have key : ∀ k i ys news, i + k = n → Inv i ys news → CompRest prog w A h₀ L m env elt x scope cl s S P Fin k i ys news := by
    intro k
    induction k with
    | zero => intro i ys news e p; rw [Nat.add_zero] at e; subst e; exact CompRest.zero (fin ys news p)
    | succ k ih =>
      intro i ys news e p
      refine CompRest.succ fun v I oI C oC D m₂ h tk E' hv a b F N off ne => wpAny_mono (step i ys news v I oI C oC D m₂ h tk E' (by omega) p hv a b F N off ne) (fun y s'' q' => compEnd_mono q' fun n' r => ih _ _ _ (by omega) r) fun _ _ e => e
  exact key n 0 [] news₀ (Nat.zero_add n) h0
end
theorem memb_yes {ys : List Value} {y : Value} {items : List Dat} {i : Nat} {k : Int} {d : Dat} (h : items[i]? = some d) (e : numD d = k) : (ys ++ [y] = [] ↔ ∀ j d, j < i + 1 → items[j]? = some d → numD d ≠ k) :=
  ⟨fun h => absurd h (by simp), fun h' => absurd e (h' i d (Nat.lt_succ_self _) h)⟩
theorem memb_no {ys : List Value} {items : List Dat} {i : Nat} {k : Int} {d : Dat} (hi : ys = [] ↔ ∀ j d, j < i → items[j]? = some d → numD d ≠ k) (h : items[i]? = some d) (e : numD d ≠ k) : (ys = [] ↔ ∀ j d, j < i + 1 → items[j]? = some d → numD d ≠ k) := by
  rw [hi]
  constructor
  · intro h1 j d' hj e'
    rcases Nat.lt_or_eq_of_le (Nat.le_of_lt_succ hj) with hj | rfl
    · exact h1 j d' hj e'
    · rw [h] at e'; cases e'; exact e
  · intro h1 j d' hj e'
    exact h1 j d' (Nat.lt_succ_of_lt hj) e'
theorem memb_end {led : List (Addr × Obj)} {vs ys : List Value} {ks : List Int} {c : Bool} {k : Int} (h : SymsIn led vs ks c) (hk : KeyOk k) (hi : ys = [] ↔ ∀ j d, j < vs.toArray.size → (ks.map symD ++ tailD c)[j]? = some d → numD d ≠ k) :
    decide (ys ≠ []) = decide (k ∈ ks) := by
  have e := h.datAll.length
  rw [decide_eq_decide, Ne, hi, ← numD_key ks c hk]
  constructor
  · intro h1
    by_cases h2 : ∃ d ∈ ks.map symD ++ tailD c, numD d = k
    · exact h2
    · exact absurd (fun j d _ hd e' => h2 ⟨d, List.mem_of_getElem? hd, e'⟩) h1
  · rintro ⟨d, hd, e1⟩ h1
    obtain ⟨j, hj⟩ := List.mem_iff_getElem?.mp hd
    refine h1 j d ?_ hj e1
    rw [List.size_toArray, e]
    exact (List.getElem?_eq_some_iff.mp hj).1
section
variable {prog : Program} {w : World} {A : Around} {E : Value → Shared → Prop} {s : Shared} {env : Env} {test : PySem.Expr} {body orelse : List Stmt} {Q : Flow → Shared → Prop}
def WhlMine (prog : Program) (w : World) (A : Around) (E : Value → Shared → Prop) (env : Env) (test : PySem.Expr) (body orelse : List Stmt) (Q : Flow → Shared → Prop) (s : Shared) : Prop := WhlRest prog w A E env test body orelse Q 0 s
theorem whl_mine {pos : Pos} (h : WhlMine prog w A E env test body orelse Q s) : wpAny (model prog w) A (exec (.While test body orelse pos) env) Q E s := whl_start 0 h
def WhlTurn (I : Nat → Shared → Prop) (n : Nat) (Q : Flow → Shared → Prop) (f : Flow) (s : Shared) : Prop := match f with
  | .ret v => Q (.ret v) s
  | .brk => Q .next s
  | _ => ∃ k, k < n ∧ I k s
theorem while_ind (I : Nat → Shared → Prop) (hE : PassesOwn (model prog w) A env E)
    (turn : ∀ n s, I n s → wpAny (model prog w) A (isTrue test env (eval test env)) (fun b s₂ => WhlIf b (wpAny (model prog w) A (execs body env) (WhlTurn I n Q) E s₂) (wpAny (model prog w) A (execs orelse env) Q E s₂)) E s)
    (n : Nat) (h : I n s) : WhlMine prog w A E env test body orelse Q s := by
  unfold WhlMine
  induction n using Nat.strongRecOn generalizing s with
  | ind n ih =>
    refine whl_turn (k := 0) hE (wpAny_mono (turn n s h) (fun b s₂ q => ?_) fun _ _ e => e)
    cases b with
    | false => exact WhlIf.no rfl (by simpa [WhlIf] using q)
    | true =>
      have q' : wpAny (model prog w) A (execs body env) (WhlTurn I n Q) E s₂ := by simpa [WhlIf] using q
      refine WhlIf.yes rfl (wpAny_mono q' (fun f s₃ r => ?_) fun _ _ e => e)
      cases f with
      | ret v => exact r
      | brk => exact r
      | next => obtain ⟨k, hk, hI⟩ := r; exact ih k hk hI
      | cont => obtain ⟨k, hk, hI⟩ := r; exact ih k hk hI
end

section
variable {prog : Program} {w : World} {A : Around} {E : Value → Shared → Prop} {s : Shared} {h₀ : Heap} {L D : Addr} {m : Str → Option Value} {news news' : List (Addr × Obj)} {vs : List Value} {x v : Value} {n : Nat} {u : Tok}
theorem list_headM {value slice : PySem.Expr} {Q : Value → Shared → Prop} (N : News h₀ L s.heap news) (hm : (D, listOf (x :: vs).toArray n) ∈ news) (h : Q x s)
    (hs : subscripted slice false (.ref D) (.int 0 u) = operate [.ref D, .int 0 u] (getItem (.ref D) (.int 0 u)) := by with_unfolding_all rfl) :
    wpAny (model prog w) A (subscriptTail value slice (.ref D) (.int 0 u)) Q E s := by
  have hl := N.isList hm
  exact tail_any hl.typeIs slot_list_getitem.lookup (wpAny_getItem_list hl (by omega) (by omega) (by simp) h) hs
theorem pop0M {Q : Value → Shared → Prop} (F : Fr h₀ L s.heap m) (N : News h₀ L s.heap news) (U : Upd D (listOf (x :: vs).toArray n) (listOf vs.toArray (n + 1)) news news') (hz : vs.length ≤ 1000)
    (h : ∀ h', Fr h₀ L h' m → News h₀ L h' news' → Q x { s with heap := h' }) : wpAny (model prog w) A (call (.builtin "list.pop") [.ref D, .int 0 u]) Q E s :=
  kl_popAt (p := []) (k := 0) F N rfl (by simp [seqIndex?]) rfl U (by simp [sizeLine_eq]; omega) h
theorem set0M {Q : Unit → Shared → Prop} (F : Fr h₀ L s.heap m) (N : News h₀ L s.heap news) (U : Upd D (listOf (x :: vs).toArray n) (listOf (v :: vs).toArray n) news news')
    (h : ∀ h', Fr h₀ L h' m → News h₀ L h' news' → Q () { s with heap := h' }) : wpAny (model prog w) A (setItem (.ref D) (.int 0 u) v) Q E s := by
  obtain ⟨pre, post, rfl, rfl, a, b⟩ := U.split
  have z := N (D, listOf (x :: vs).toArray n) (List.mem_append.mpr (.inr (.head _)))
  refine ki_setAt z.1 (by omega) (by omega) (by simp) (h _ (F.change (Heap.SameBut.update ..) z.2.1 z.2.2) (ki_turn _ N a b ?_ ?_))
  · apply Array.toList_inj.mp
    simp
  · simp
end
/-- the deck: ints, none below nought, sixteen at most -/
def DeckOk (vs : List Value) : Prop := ∃ ns, IntsAre vs ns ∧ (∀ n ∈ ns, 0 ≤ n) ∧ ns.length ≤ 16
theorem DeckOk.len {vs : List Value} (h : DeckOk vs) : vs.length ≤ 16 := by
  obtain ⟨ns, h1, _, h3⟩ := h
  rw [h1.length]; exact h3
theorem DeckOk.tail {v : Value} {vs : List Value} (h : DeckOk (v :: vs)) : ∃ i t, v = .int i t ∧ 0 ≤ i ∧ DeckOk vs := by
  obtain ⟨ns, h1, h2, h3⟩ := h
  cases h1 with
  | cons i t r => exact ⟨i, t, rfl, h2 i (.head _), _, r, fun n hn => h2 n (.tail _ hn), by rw [List.length_cons] at h3; omega⟩
theorem DeckOk.put {v : Value} {vs : List Value} {i : Int} {t : Tok} (h : DeckOk (v :: vs)) (hi : 0 ≤ i) : DeckOk (.int i t :: vs) := by
  obtain ⟨ns, h1, h2, h3⟩ := h
  cases h1 with
  | cons i' t' r =>
    refine ⟨_, .cons i t r, fun n hn => ?_, h3⟩
    rcases List.mem_cons.mp hn with rfl | hn
    · exact hi
    · exact h2 n (.tail _ hn)
end
local macro_rules | `(tactic| k_enter) => `(tactic| k_extra "k_enter")
local macro_rules | `(tactic| k_mem) => `(tactic| k_extra "k_mem")
local macro_rules | `(tactic| kqd_sub) => `(tactic| k_extra "kqd_sub")
local macro_rules | `(tactic| ktr_rel) => `(tactic| k_extra "ktr_rel")
local macro_rules | `(tactic| tb_rel) => `(tactic| k_extra "tb_rel")
local macro_rules | `(tactic| k_ne) => `(tactic| k_extra "k_ne")
local macro_rules | `(tactic| walk_at $s:str) => `(tactic| k_extra $s)
section
/-- objects that are neither the deck nor of the base -/
def Fresh (dk : Addr) (base more : List (Addr × Obj)) : Prop := ∀ p ∈ more, p.1 ≠ dk ∧ ∀ q ∈ base, p.1 ≠ q.1
theorem Fresh.nil (dk : Addr) (base : List (Addr × Obj)) : Fresh dk base [] := fun _ h => nomatch h
theorem Fresh.append {dk : Addr} {base a b : List (Addr × Obj)} (h : Fresh dk base a) (g : Fresh dk base b) : Fresh dk base (a ++ b) := fun p hp => by
  rcases List.mem_append.mp hp with hp | hp
  · exact h p hp
  · exact g p hp
theorem Fresh.cons {dk : Addr} {base a : List (Addr × Obj)} {D : Addr} {o : Obj} (h1 : D ≠ dk) (h2 : ∀ q ∈ base, q.1 ≠ D) (h : Fresh dk base a) : Fresh dk base ((D, o) :: a) := fun p hp => by
  rcases List.mem_cons.mp hp with rfl | hp
  · exact ⟨h1, fun q hq => Ne.symm (h2 q hq)⟩
  · exact h p hp
theorem Fresh.sub {dk : Addr} {base base' a : List (Addr × Obj)} (h : Fresh dk base a) (s : ∀ p ∈ base', p ∈ base) : Fresh dk base' a := fun p hp => ⟨(h p hp).1, fun q hq => (h p hp).2 q (s q hq)⟩
theorem fresh_all {dk : Addr} {base a : List (Addr × Obj)} (h : Fresh dk base a) (hb : ∀ p ∈ base, p.1 ≠ dk) : ∀ p ∈ a ++ base, p.1 ≠ dk := fun p hp => by
  rcases List.mem_append.mp hp with hp | hp
  · exact (h p hp).1
  · exact hb p hp
theorem allLt_ne {L d : Nat} {l : List (Addr × Obj)} (h : AllLt L l) (hd : L ≤ d) : ∀ p ∈ l, p.1 ≠ d := fun p hp => Nat.ne_of_lt (Nat.lt_of_lt_of_le (tb_ltOf h p hp) hd)
theorem lt_ne {D : Addr} {l : List (Addr × Obj)} (h : ∀ p ∈ l, p.1 < D) : ∀ p ∈ l, p.1 ≠ D := fun p hp => Nat.ne_of_lt (h p hp)
theorem lt_of_app {D : Addr} {a b : List (Addr × Obj)} (h : ∀ p ∈ a ++ b, p.1 < D) : (∀ p ∈ a, p.1 < D) ∧ ∀ p ∈ b, p.1 < D := ⟨fun p hp => h p (List.mem_append_left _ hp), fun p hp => h p (List.mem_append_right _ hp)⟩
theorem SymsIn.snoc {led : List (Addr × Obj)} {a : Addr} {n : Nat} {t1 t2 : Tok} {k : Int} (h1 : (a, tupO [.str "symbol" t1, .int k t2] n) ∈ led) (h2 : KeyOk k) : ∀ {vs : List Value} {ks : List Int}, SymsIn led vs ks false → SymsIn led (vs ++ [.ref a]) (ks ++ [k]) false
  | _, _, .nil0 => .cons h1 h2 .nil0
  | _, _, .cons a b r => .cons a b (SymsIn.snoc h1 h2 r)
theorem SymsIn.seven {led : List (Addr × Obj)} (t : Tok) : ∀ {vs : List Value} {ks : List Int}, SymsIn led vs ks false → SymsIn led (vs ++ [.int 7 t]) ks true
  | _, _, .nil0 => .nil1 t
  | _, _, .cons a b r => .cons a b (SymsIn.seven t r)
theorem off3_sub {I C D : Addr} {a b : List (Addr × Obj)} (h : LCg.Off3 I C D b) (s : ∀ p ∈ a, p ∈ b) : LCg.Off3 I C D a := by
  induction a with
  | nil => trivial
  | cons p a ih => exact ⟨LCg.Off3.mem h p (s p (.head _)), ih fun q hq => s q (.tail _ hq)⟩
theorem off1_sub {D : Addr} {a b : List (Addr × Obj)} (h : LCg.Off1 D b) (s : ∀ p ∈ a, p ∈ b) : LCg.Off1 D a := by
  have key : ∀ b : List (Addr × Obj), LCg.Off1 D b → ∀ p ∈ b, p.1 ≠ D := by
    intro b
    induction b with
    | nil => intro _ p hp; cases hp
    | cons q led ih =>
      intro h p hp
      rcases List.mem_cons.mp hp with rfl | hp
      · exact h.1
      · exact ih h.2 p hp
  induction a with
  | nil => trivial
  | cons p a ih => exact ⟨key b h p (s p (.head _)), ih fun q hq => s q (.tail _ hq)⟩
theorem off1_all {D : Addr} {led : List (Addr × Obj)} (h : LCg.Off1 D led) : ∀ p ∈ led, p.1 ≠ D := by
  induction led with
  | nil => intro p hp; cases hp
  | cons q led ih =>
    intro p hp
    rcases List.mem_cons.mp hp with rfl | hp
    · exact h.1
    · exact ih h.2 p hp
theorem syms_tail {led : List (Addr × Obj)} {t : Tok} {vs : List Value} {ks : List Int} {x : Int} (h : SymsIn led vs ks false) (h0 : 0 ≤ x) (h1 : x < 2) : ∃ b, SymsIn led (vs ++ [Value.int 7 t].take x.toNat) ks b := by
  have h3 : x = 0 ∨ x = 1 := by omega
  rcases h3 with rfl | rfl
  · exact ⟨false, by simpa using h⟩
  · exact ⟨true, h.seven t⟩
section
open PyProof.Rows.LCg PyProof.Rows.LCt
variable {prog : Program} {w : World} {A : Around} {s : Shared} {h₀ : Heap} {L : Addr} {m : Str → Option Value} {env : Env}
/-- a comprehension that draws from the deck -/
theorem compU_deck {elt : PySem.Expr} {x : Str} {scope : Scope} {cl : List (Str × Addr)} {S : List (Addr × Obj) → Prop} {P : Nat → Value → Prop} {N : Nat} {news₀ : List (Addr × Obj)} {s₂ : Shared} {Q' : Value → Shared → Prop}
    (base : List (Addr × Obj)) {dk : Addr} {vs : List Value} {n0 : Nat} (hs : ∀ p ∈ (dk, listOf vs.toArray n0) :: base, p ∈ news₀) (hb : ∀ p ∈ base, p.1 ≠ dk) (hd : DeckOk vs)
    (G : Nat → List Value → List (Addr × Obj) → Prop) (h0 : G 0 [] [])
    (step : ∀ i ys more vs n v I oI C oC D m₂ h tk (E' : Value → Shared → Prop), i < N → G i ys more → Fresh dk base more → (∀ p ∈ more ++ base, p.1 ≠ dk) → DeckOk vs → P i v → NsObj oC m₂ → m₂ x = some v → Fr h₀ L h m →
      News h₀ L h ((I, oI) :: (C, oC) :: (D, lst ys) :: (dk, listOf vs.toArray n) :: (more ++ base)) → Off3 I C D ((dk, listOf vs.toArray n) :: (more ++ base)) → ((@Ne Nat I C) ∧ (@Ne Nat I D) ∧ (@Ne Nat C D)) →
      wpAny (model prog w) A (eval elt (compEnvC scope cl C env)) (CompEnd h₀ L m { s with heap := h, toks := tk } I oI C oC D (lst ys) S
        (fun y news' => ∃ vs' n' new, news' = (dk, listOf vs'.toArray n') :: (new ++ (more ++ base)) ∧ DeckOk vs' ∧ Fresh dk base new ∧ G (i + 1) (ys ++ [y]) (new ++ more))) E' { s with heap := h, toks := tk })
    (fin : ∀ ys more vs n, G N ys more → Fresh dk base more → (∀ p ∈ more ++ base, p.1 ≠ dk) → DeckOk vs → FinE h₀ L m s₂ Q' ys ((dk, listOf vs.toArray n) :: (more ++ base))) :
    CompRest prog w A h₀ L m env elt x scope cl s S P (FinE h₀ L m s₂ Q') N 0 [] news₀ := by
  refine compU_ind (fun i ys news => ∃ more vs n, (∀ p ∈ (dk, listOf vs.toArray n) :: (more ++ base), p ∈ news) ∧ G i ys more ∧ Fresh dk base more ∧ DeckOk vs) ⟨[], vs, n0, hs, h0, .nil _ _, hd⟩ ?_ ?_
  · rintro i ys news v I oI C oC D m₂ h tk E' hi ⟨more, vs, n, h1, h2, h3, h5⟩ hv hC hx F N off ne
    refine wpAny_mono (step i ys more vs n v I oI C oC D m₂ h tk E' hi h2 h3 (fresh_all h3 hb) h5 hv hC hx F (cb_drop N fun p hp => ?_) (off3_sub off h1) ne) (fun y s' q => compEnd_mono q ?_) fun _ _ e => e
    · rcases List.mem_cons.mp hp with rfl | hp
      · simp
      · rcases List.mem_cons.mp hp with rfl | hp
        · simp
        · rcases List.mem_cons.mp hp with rfl | hp
          · simp
          · have := h1 p hp; simp [this]
    · rintro news' ⟨vs', n', new, rfl, a, b, d⟩
      exact ⟨new ++ more, vs', n', fun p h => by rw [List.append_assoc] at h; exact h, d, b.append h3, a⟩
  · rintro ys news ⟨more, vs, n, h1, h2, h3, h5⟩
    intro D h tk F N off
    refine fin ys more vs n h2 h3 (fresh_all h3 hb) h5 D h tk F (cb_drop N fun p hp => ?_) (off1_sub off h1)
    rcases List.mem_cons.mp hp with rfl | hp
    · simp
    · have := h1 p hp; simp [this]
theorem compU_deck2 {elt : PySem.Expr} {x : Str} {scope : Scope} {cl : List (Str × Addr)} {S : List (Addr × Obj) → Prop} {P : Nat → Value → Prop} {N : Nat} {s₂ : Shared} {Q' : Value → Shared → Prop}
    {p1 p2 : Addr × Obj} {rest : List (Addr × Obj)} {dk : Addr} {vs : List Value} {n0 : Nat} (hb : ∀ p ∈ (p1 :: p2 :: rest), p.1 ≠ dk) (hd : DeckOk vs)
    (G : Nat → List Value → List (Addr × Obj) → Prop) (h0 : G 0 [] [])
    (step : ∀ i ys more vs n v I oI C oC D m₂ h tk (E' : Value → Shared → Prop), i < N → G i ys more → Fresh dk (p1 :: p2 :: rest) more → (∀ p ∈ more ++ (p1 :: p2 :: rest), p.1 ≠ dk) → DeckOk vs → P i v → NsObj oC m₂ → m₂ x = some v → Fr h₀ L h m →
      News h₀ L h ((I, oI) :: (C, oC) :: (D, lst ys) :: (dk, listOf vs.toArray n) :: (more ++ (p1 :: p2 :: rest))) → Off3 I C D ((dk, listOf vs.toArray n) :: (more ++ (p1 :: p2 :: rest))) → ((@Ne Nat I C) ∧ (@Ne Nat I D) ∧ (@Ne Nat C D)) →
      wpAny (model prog w) A (eval elt (compEnvC scope cl C env)) (CompEnd h₀ L m { s with heap := h, toks := tk } I oI C oC D (lst ys) S
        (fun y news' => ∃ vs' n' new, news' = (dk, listOf vs'.toArray n') :: (new ++ (more ++ (p1 :: p2 :: rest))) ∧ DeckOk vs' ∧ Fresh dk (p1 :: p2 :: rest) new ∧ G (i + 1) (ys ++ [y]) (new ++ more))) E' { s with heap := h, toks := tk })
    (fin : ∀ ys more vs n, G N ys more → Fresh dk (p1 :: p2 :: rest) more → (∀ p ∈ more ++ (p1 :: p2 :: rest), p.1 ≠ dk) → DeckOk vs → FinE h₀ L m s₂ Q' ys ((dk, listOf vs.toArray n) :: (more ++ (p1 :: p2 :: rest)))) :
    CompRest prog w A h₀ L m env elt x scope cl s S P (FinE h₀ L m s₂ Q') N 0 [] (p1 :: p2 :: (dk, listOf vs.toArray n0) :: rest) :=
  compU_deck (n0 := n0) (p1 :: p2 :: rest) (fun p hp => by simp only [List.mem_cons] at hp ⊢; rcases hp with hp | hp | hp | hp <;> simp [*]) hb hd G h0 step fin
/-- the same, where the ledger keeps its shape -/
theorem compU_lit3 {elt : PySem.Expr} {x : Str} {scope : Scope} {cl : List (Str × Addr)} {S : List (Addr × Obj) → Prop} {P : Nat → Value → Prop} {N : Nat} {s₂ : Shared} {Q' : Value → Shared → Prop}
    {p1 p2 p3 : Addr × Obj} {rest : List (Addr × Obj)} {dk : Addr} {vs : List Value} {n0 : Nat} (hd : DeckOk vs) (G : Nat → List Value → Prop) (h0 : G 0 [])
    (step : ∀ i ys vs n v I oI C oC D m₂ h tk (E' : Value → Shared → Prop), i < N → G i ys → DeckOk vs → P i v → NsObj oC m₂ → m₂ x = some v → Fr h₀ L h m →
      News h₀ L h ((I, oI) :: (C, oC) :: (D, lst ys) :: p1 :: p2 :: p3 :: (dk, listOf vs.toArray n) :: rest) → Off3 I C D (p1 :: p2 :: p3 :: (dk, listOf vs.toArray n) :: rest) → ((@Ne Nat I C) ∧ (@Ne Nat I D) ∧ (@Ne Nat C D)) →
      wpAny (model prog w) A (eval elt (compEnvC scope cl C env)) (CompEnd h₀ L m { s with heap := h, toks := tk } I oI C oC D (lst ys) S
        (fun y news' => ∃ vs' n', news' = p1 :: p2 :: p3 :: (dk, listOf vs'.toArray n') :: rest ∧ DeckOk vs' ∧ G (i + 1) (ys ++ [y]))) E' { s with heap := h, toks := tk })
    (fin : ∀ ys vs n, G N ys → DeckOk vs → FinE h₀ L m s₂ Q' ys (p1 :: p2 :: p3 :: (dk, listOf vs.toArray n) :: rest)) :
    CompRest prog w A h₀ L m env elt x scope cl s S P (FinE h₀ L m s₂ Q') N 0 [] (p1 :: p2 :: p3 :: (dk, listOf vs.toArray n0) :: rest) := by
  refine compU_ind (fun i ys news => ∃ vs n, news = p1 :: p2 :: p3 :: (dk, listOf vs.toArray n) :: rest ∧ DeckOk vs ∧ G i ys) ⟨vs, n0, rfl, hd, h0⟩ ?_ ?_
  · rintro i ys news v I oI C oC D m₂ h tk E' hi ⟨vs, n, rfl, h1, h2⟩ hv hC hx F N off ne
    exact step i ys vs n v I oI C oC D m₂ h tk E' hi h2 h1 hv hC hx F N off ne
  · rintro ys news ⟨vs, n, rfl, h1, h2⟩
    exact fin ys vs n h2 h1
end
section
variable {prog : Program} {w : World} {A : Around} {E : Value → Shared → Prop} {s : Shared} {h₀ : Heap} {L : Addr} {news : List (Addr × Obj)} {m : Str → Option Value}
theorem list_uptoM {value slice : PySem.Expr} {l : Addr} {vs : List Value} {n : Nat} {x : Int} {u : Tok} {Q : Value → Shared → Prop} (F : Fr h₀ L s.heap m) (N : News h₀ L s.heap news) (hm : (l, listOf vs.toArray n) ∈ news) (hx : 0 ≤ x) (hz : vs.length ≤ 1000)
    (h : ∀ D h', Fr h₀ L h' m → News h₀ L h' ((D, listOf (vs.take x.toNat).toArray 0) :: news) → (∀ p ∈ news, p.1 < D) → Q (.ref D) { s with heap := h' })
    (hs : subscripted slice false (.ref l) (.ref s.heap.objs.size) = operate [.ref s.heap.objs.size, .ref l] (getItem (.ref l) (.ref s.heap.objs.size))) (ht : ∀ r, letTemporaryGo value (.ref l) r = pure ()) :
    wpAny (model prog w) A (subscriptTail value slice (.ref l) (.ref s.heap.objs.size)) Q E { s with heap := s.heap.push { cls := .type "slice", data := .fields #[.none, .int x u, .none] } } := by
  obtain ⟨b, rfl⟩ := Int.eq_ofNat_of_zero_le hx
  refine kmk_slice F N (N.isList hm) .none (.int _ u) (fun D h' F' N' l1 => h D h' F' ?_ l1) hs ht (by simp only [List.size_toArray, sizeLine_eq]; omega)
  have e : slicePick vs.toArray none (some (b : Int)) none = (vs.take b).toArray := by rw [slicePick_upto']
  rw [e] at N'
  exact N'
theorem list_addM {l b : Addr} {vs ws : List Value} {n k : Nat} {Q : Value → Shared → Prop} (F : Fr h₀ L s.heap m) (N : News h₀ L s.heap news) (hl : (l, listOf vs.toArray n) ∈ news) (hb : (b, listOf ws.toArray k) ∈ news) (hz : vs.length + ws.length ≤ 1000)
    (h : ∀ D h', Fr h₀ L h' m → News h₀ L h' ((D, listOf (vs ++ ws).toArray 0) :: news) → (∀ p ∈ news, p.1 < D) → Q (.ref D) { s with heap := h' }) : wpAny (model prog w) A (binaryOp .Add (.ref l) (.ref b)) Q E s :=
  add_lists F N (N.isList hl) (N.isList hb) (fun h' F' N' => h _ h' F' N' fun p hp => Heap.lt_size (N p hp).1) (by rw [sizeLine_eq]; omega)
theorem pick3 {value slice : PySem.Expr} {l : Addr} {a b c : Value} {n : Nat} {k : Int} {u : Tok} {Q : Value → Shared → Prop} (N : News h₀ L s.heap news) (hm : (l, listOf [a, b, c].toArray n) ∈ news)
    (hk : 0 ≤ k) (hk2 : k < 3) (ha : k = 0 → Q a s) (hb : k = 1 → Q b s) (hc : k = 2 → Q c s)
    (hs : subscripted slice false (.ref l) (.int k u) = operate [.ref l, .int k u] (getItem (.ref l) (.int k u)) := by with_unfolding_all rfl) :
    wpAny (model prog w) A (subscriptTail value slice (.ref l) (.int k u)) Q E s := by
  have h3 : k = 0 ∨ k = 1 ∨ k = 2 := by omega
  rcases h3 with rfl | rfl | rfl
  · exact list_itemM (j := 0) N hm rfl rfl (by simp) (ha rfl) hs
  · exact list_itemM (j := 1) N hm rfl rfl (by simp) (hb rfl) hs
  · exact list_itemM (j := 2) N hm rfl rfl (by simp) (hc rfl) hs
end
/-- a ledger whose one entry changes and whose tail grows -/
inductive UpdE (d : Addr) (o : Obj) : List (Addr × Obj) → (Obj → List (Addr × Obj) → List (Addr × Obj)) → Prop
  | head {r : List (Addr × Obj)} : (∀ p ∈ r, p.1 ≠ d) → UpdE d o ((d, o) :: r) (fun o' more => (d, o') :: (more ++ r))
  | tail {p : Addr × Obj} {r : List (Addr × Obj)} {g : Obj → List (Addr × Obj) → List (Addr × Obj)} : p.1 ≠ d → UpdE d o r g → UpdE d o (p :: r) (fun o' more => p :: g o' more)
theorem UpdE.split {d : Addr} {o : Obj} {l : List (Addr × Obj)} {g : Obj → List (Addr × Obj) → List (Addr × Obj)} (h : UpdE d o l g) :
    ∃ rest, (∀ p ∈ (d, o) :: rest, p ∈ l) ∧ (∀ p ∈ l, p = (d, o) ∨ p ∈ rest) ∧ (∀ o' more, ∀ p ∈ g o' more, p ∈ (d, o') :: (more ++ rest)) ∧ (∀ p ∈ rest, p.1 ≠ d) := by
  induction h with
  | head h => exact ⟨_, fun _ h => h, fun p hp => by simpa using hp, fun _ _ _ h => h, h⟩
  | @tail p r g h1 _ ih =>
    obtain ⟨rest, a, b, c, e⟩ := ih
    refine ⟨p :: rest, fun q hq => ?_, fun q hq => ?_, fun o' more q hq => ?_, fun q hq => ?_⟩
    · rcases List.mem_cons.mp hq with rfl | hq
      · exact .tail _ (a _ (.head _))
      · rcases List.mem_cons.mp hq with rfl | hq
        · exact .head _
        · exact .tail _ (a _ (.tail _ hq))
    · rcases List.mem_cons.mp hq with rfl | hq
      · exact .inr (.head _)
      · rcases b q hq with h | h
        · exact .inl h
        · exact .inr (.tail _ h)
    · rcases List.mem_cons.mp hq with rfl | hq
      · simp
      · have := c o' more q hq
        simp only [List.mem_cons, List.mem_append] at this ⊢
        rcases this with h | h | h <;> simp [h]
    · rcases List.mem_cons.mp hq with rfl | hq
      · exact h1
      · exact e q hq
theorem LispAt.off {w : World} {led rest : List (Addr × Obj)} {dk li pd : Addr} {fi : Int} {vs : List Value} {n : Nat} (h : LispAt w led li fi pd) (b : ∀ p ∈ led, p = (dk, listOf vs.toArray n) ∨ p ∈ rest) : LispAt w rest li fi pd := by
  obtain ⟨dl, t1, t2, t3, t4, tf, h1, h2⟩ := h
  refine ⟨dl, t1, t2, t3, t4, tf, ?_, ?_⟩
  · rcases b _ h1 with e | e
    · exact absurd (congrArg (fun p => p.2.cls) e) (fun e => nomatch e)
    · exact e
  · rcases b _ h2 with e | e
    · exact absurd (congrArg (fun p => p.2.data) e) (fun e => nomatch e)
    · exact e
theorem ints_datAll {led : List (Addr × Obj)} : ∀ {vs : List Value} {ns : List Int}, IntsAre vs ns → DatAll led vs (ns.map Dat.int)
  | _, _, .nil => .nil
  | _, _, .cons k t r => .cons (.int k t) (ints_datAll r)
theorem notin_intsM {prog : Program} {w : World} {A : Around} {E : Value → Shared → Prop} {s : Shared} {h₀ : Heap} {L : Addr} {news : List (Addr × Obj)} {l : Addr} {us : List Value} {ks : List Int} {n : Nat} {k : Int} {u : Tok} {Q : Value → Shared → Prop}
    (N : News h₀ L s.heap news) (hm : (l, listOf us.toArray n) ∈ news) (hI : IntsAre us ks) (hu : A.units + 64 < cLine) (h : ∀ b, Q (.bool b) s) : wpAny (model prog w) A (compareOp .NotIn (.int k u) (.ref l)) Q E s := by
  refine kqd_notIn N hm rfl rfl (ints_datAll hI) (fun _ h => h) (.int k u) (fun _ h => h) (fun d hd => ?_) rfl hu (h _)
  obtain ⟨i, _, rfl⟩ := List.mem_map.mp hd
  rfl
theorem off_pairs {e it C D : Addr} {oe oit : Obj} {l : List (Addr × Obj)} (h : ∀ p ∈ l, (@Ne Nat p.1 e) ∧ (@Ne Nat p.1 it) ∧ (@Ne Nat p.1 C) ∧ (@Ne Nat p.1 D)) : ∀ p ∈ l, (∀ q ∈ [(e, oe), (it, oit)], p.1 ≠ q.1) ∧ p.1 ≠ C ∧ p.1 ≠ D := fun p hp => by
  obtain ⟨h1, h2, h3, h4⟩ := h p hp
  refine ⟨fun q hq => ?_, h3, h4⟩
  rcases List.mem_cons.mp hq with rfl | hq
  · exact h1
  · rw [List.mem_singleton.mp hq]; exact h2
theorem ints_key {vs : List Value} {ns : List Int} (h : IntsAre vs ns) : ∀ (i : Nat) (v : Value), vs[i]? = some v → ∃ k t, v = .int k t ∧ k ∈ ns := by
  induction h with
  | nil => intro i v e; simp at e
  | cons k t r ih =>
    intro i v e
    cases i with
    | zero => exact ⟨k, t, by simpa using e.symm, .head _⟩
    | succ i =>
      obtain ⟨k', t', e', hk⟩ := ih i v (by simpa using e)
      exact ⟨k', t', e', .tail _ hk⟩
theorem frq {more led : List (Addr × Obj)} {d : Addr} {o : Obj} (fr : ∀ p ∈ more, ∀ q ∈ led, p.1 ≠ q.1) (hq : (d, o) ∈ led) : ∀ p ∈ more, p.1 ≠ d := fun p hp => fr p hp _ hq
theorem stored_len1 {K : Type} [DecidableEq K] {kvs : List (K × Value)} {k : K} {v : Value} : (stored kvs k v).length ≤ kvs.length + 1 := by
  unfold stored
  split <;> simp
theorem off_all1 {i : Addr} {o : Obj} {l : List (Addr × Obj)} (h : ∀ p ∈ l, p.1 ≠ i) : ∀ p ∈ l, ∀ q ∈ [(i, o)], p.1 ≠ q.1 := fun p hp q hq => by
  rw [List.mem_singleton.mp hq]; exact h p hp
end
section
section
open PyProof.Rows.LCg PySem.W
variable {prog : Program} {w : World} {A : Around} {E : Value → Shared → Prop} {s : Shared} {h₀ : Heap} {L : Addr} {m : Str → Option Value} {env : Env}
/-- how a turn of a comprehension over pairs ends -/
inductive PairEnd (h₀ : Heap) (L : Addr) (m : Str → Option Value) (s₁ : Shared) (own : List (Addr × Obj)) (C : Addr) (oC : Obj) (D : Addr) (ys : List Value) (S : List (Addr × Obj) → Prop) (R : Value → List (Addr × Obj) → Prop) (y : Value) (s₂ : Shared) : Prop where
  | mk (h' : Heap) (tk : Nat) (news' : List (Addr × Obj)) : (s₂ = { s₁ with heap := h', toks := tk }) →
    (Fr h₀ L h' m) →
    (News h₀ L h' (own ++ (C, oC) :: (D, lst ys) :: news')) →
    (∀ p ∈ news', (∀ q ∈ own, p.1 ≠ q.1) ∧ p.1 ≠ C ∧ p.1 ≠ D) →
    (S news') →
    (R y news') → PairEnd h₀ L m s₁ own C oC D ys S R y s₂
theorem PairEnd.intro {h₀ : Heap} {L : Addr} {m : Str → Option Value} {s₁ : Shared} {own : List (Addr × Obj)} {C : Addr} {oC : Obj} {D : Addr} {ys : List Value} {S : List (Addr × Obj) → Prop} {R : Value → List (Addr × Obj) → Prop} {y : Value} {h' : Heap} {tk : Nat} {all : List (Addr × Obj)}
    (F : Fr h₀ L h' m) (N : News h₀ L h' all) (news' : List (Addr × Obj)) (sub : ∀ p ∈ own ++ (C, oC) :: (D, lst ys) :: news', p ∈ all) (off : ∀ p ∈ news', (∀ q ∈ own, p.1 ≠ q.1) ∧ p.1 ≠ C ∧ p.1 ≠ D) (hS : S news') (r : R y news') :
    PairEnd h₀ L m s₁ own C oC D ys S R y { s₁ with heap := h', toks := tk } := ⟨h', tk, news', rfl, F, fun p hp => N p (sub p hp), off, hS, r⟩

/-- between the turns of a comprehension over pairs -/
inductive PairInv (h₀ : Heap) (L : Addr) (m : Str → Option Value) (s₂ : Shared) (n : Nat) (wr : List Addr) (Cc Dd : Addr) (St : Nat → Heap → Prop) (S : List (Addr × Obj) → Prop) (Inv : Nat → List Value → List (Addr × Obj) → Prop) (k : Nat) (s' : Shared) : Prop where
  | mk (h' : Heap) (tk i : Nat) (ys : List Value) (m' : Str → Option Value) (nw : List (Addr × Obj)) : s' = { s₂ with heap := h', toks := tk } → i ≤ n → k = n + 1 - i → ys.length ≤ i → St i h' → Fr h₀ L h' m → h'.Ns Cc m' → News h₀ L h' ((Dd, lst ys) :: nw) →
    (∀ p ∈ nw, p.1 ∉ wr ∧ p.1 ≠ Cc ∧ p.1 ≠ Dd) → S nw → Inv i ys nw → PairInv h₀ L m s₂ n wr Cc Dd St S Inv k s'

theorem pair_block {ct elt iter : PySem.Expr} {a b : Str} {pa pb tp : Pos} {kk : Nat} {scope : Scope} {cl : List (Str × Addr)} {pos : Pos} {s₂ : Shared} {I : Addr} {fp wr : List Addr} {n : Nat}
    {P Md : Nat → Value → Heap → Prop} {St : Nat → Heap → Prop} {Pt : Nat → List (Addr × Obj) → Value → Value → Prop} {S : List (Addr × Obj) → Prop} {Inv : Nat → List Value → List (Addr × Obj) → Prop} {news : List (Addr × Obj)} {RR : Value → Addr → Result → Shared → Prop}
    (W : KTurns prog w A (.Tuple [.Name a pa, .Name b pb] kk tp) I fp wr n P Md St)
    (hself : ∀ (s : Shared) (Q : Value → Shared → Prop) (E : Value → Shared → Prop), St 0 s.heap → Q (.ref I) s → wpAny (model prog w) A (pyIter (.ref I)) Q E s)
    (hsz : n ≤ sizeLine) (hh : A.handled = none)
    (hP : ∀ i v h nw ys, P i v h → News h₀ L h nw → S nw → Inv i ys nw → ∃ T x y, v = .ref T ∧ h.IsTuple T #[x, y] ∧ Pt i nw x y)
    (hIo : ∀ i h, St i h → ∀ b ∈ wr, ∃ o, h.get? b = some o)
    (hSt : ∀ i h h' nw, St i h → (∀ b ∈ wr, ∀ o, h.get? b = some o → h'.get? b = some o) → (∀ b o, h₀.get? b = some o → h'.get? b = some o) → News h₀ L h' nw → S nw → St i h')
    (hcell : ∀ y ∈ scope.names, y.2 ≠ .cell) (hkind : scope.kind = .function) (hxa : scope.names.lookup a = some .local) (hxb : scope.names.lookup b = some .local) (hab : ¬ a = b)
    (hst : St 0 s₂.heap) (hfp : ∀ b ∈ fp, b < s₂.heap.objs.size) (F : Fr h₀ L s₂.heap m) (N : News h₀ L s₂.heap news) (hLw : L ∉ wr) (hw0 : ∀ b ∈ wr, h₀.get? b = none) (off : ∀ p ∈ news, p.1 ∉ wr) (hS : S news) (h0 : Inv 0 [] news)
    (step : ∀ i ys nw x y own C oC D m₂ h tk (E' : Value → Shared → Prop), i < n → Inv i ys nw → S nw → Pt i nw x y → NsObj oC m₂ → m₂ a = some x → m₂ b = some y → own.map (·.1) = wr → Fr h₀ L h m → News h₀ L h (own ++ (C, oC) :: (D, lst ys) :: nw) →
      (∀ p ∈ nw, p.1 ∉ wr ∧ p.1 ≠ C ∧ p.1 ≠ D) → C ∉ wr → D ∉ wr → C ≠ D →
      wpAny (model prog w) A (isTrue ct (compEnvC scope cl C env) (eval ct (compEnvC scope cl C env))) (fun ok s' => if ok = true then
        wpAny (model prog w) A (eval elt (compEnvC scope cl C env)) (PairEnd h₀ L m { s₂ with heap := h, toks := tk } own C oC D ys S (fun y nw' => Inv (i + 1) (ys ++ [y]) nw')) E' s'
        else PairEnd h₀ L m { s₂ with heap := h, toks := tk } own C oC D ys S (fun _ nw' => Inv (i + 1) ys nw') Value.none s') E' { s₂ with heap := h, toks := tk })
    (hRR : ∀ D C h tk m' ys nw, Fr h₀ L h m → News h₀ L h ((D, lst ys) :: nw) → (∀ p ∈ nw, p.1 ≠ D) → h.Ns C m' → h₀.get? C = none → C ≠ L → C ≠ D → (∀ p ∈ nw, p.1 ≠ C) → Inv n ys nw → RR (.ref D) C (.ok .next) { s₂ with heap := h, toks := tk }) :
    wpAny (model prog w) A (newList []) (fun acc s₃ => wpAny (model prog w) A (newFunctionEnv scope env.globals cl [] env.qual none .none (some env)) (fun cenv s₄ =>
      codeAny (model prog w) A (.compStart (.ListComp elt [⟨.Tuple [.Name a pa, .Name b pb] kk tp, iter, [ct], 0⟩] scope pos) 0 (.ref I) acc { cenv with scope := relabel scope env }) (RR acc cenv.locals) s₄) E s₃) E s₂ := by
  refine wpAny_newObj_type (wpAny_newFunctionEnv hcell (by intro y hy; simp at hy) (fun h₁ hns₁ hsb₁ => ?_) hkind)
  dsimp only at hns₁ hsb₁ ⊢
  generalize hH2 : s₂.heap.push { cls := .type "list", dict := none, data := .seq ([] : List Value).toArray } = H2 at hns₁ hsb₁ ⊢
  generalize hDd : s₂.heap.objs.size = Dd at hns₁ hsb₁ ⊢
  have hCs : H2.objs.size = Dd + 1 := by rw [← hH2, Heap.size_push, hDd]
  generalize hCc : H2.objs.size = Cc at hns₁ hsb₁ hCs ⊢
  -- what lay below stays
  have lt0 : ∀ {b o}, s₂.heap.get? b = some o → b < Dd := fun e => hDd ▸ Heap.lt_size e
  have neC : ∀ {b}, b < Dd → b ≠ Cc := fun h => by rw [hCs]; exact Nat.ne_of_lt (Nat.lt_succ_of_lt h)
  have neD : ∀ {b}, b < Dd → b ≠ Dd := fun h => Nat.ne_of_lt h
  have hDC : Dd ≠ Cc := by rw [hCs]; exact Nat.ne_of_lt (Nat.lt_succ_self _)
  have old : ∀ b o, s₂.heap.get? b = some o → h₁.get? b = some o := fun b o e => hsb₁.extBut b o (neC (lt0 e)) (Heap.get?_push_of_some _ (hH2 ▸ Heap.get?_push_of_some _ e))
  have hacc : h₁.get? Dd = some (lst []) := by
    subst hDd
    exact hsb₁.extBut _ _ hDC (Heap.get?_push_of_some _ (hH2 ▸ Heap.get?_push_size _ rfl))
  have none0 : ∀ c, Dd ≤ c → h₀.get? c = none := fun c hc => by
    cases e : h₀.get? c with
    | none => rfl
    | some o => exact absurd (lt0 (F.keep c o e)) (Nat.not_lt.mpr hc)
  have hD₀ : h₀.get? Dd = none := none0 _ (Nat.le_refl _)
  have hC₀ : h₀.get? Cc = none := none0 _ (by rw [hCs]; exact Nat.le_succ _)
  have hLlt : L < Dd := hDd ▸ F.ns.lt
  have hDL : Dd ≠ L := Ne.symm (neD hLlt)
  have hCL : Cc ≠ L := Ne.symm (neC hLlt)
  have fplt : ∀ b ∈ fp, b < Dd := fun b hb => hDd ▸ hfp b hb
  have hDf : Dd ∉ fp := fun hm => Nat.lt_irrefl _ (fplt _ hm)
  have hCf : Cc ∉ fp := fun hm => neC (fplt _ hm) rfl
  have hDw : Dd ∉ wr := fun hm => hDf (W.sub _ hm)
  have hCw : Cc ∉ wr := fun hm => hCf (W.sub _ hm)
  have hst₁ : St 0 h₁ := W.frame _ _ _ hst fun b _ o e => old b o e
  have off₀ : ∀ p ∈ news, p.1 ∉ wr ∧ p.1 ≠ Cc ∧ p.1 ≠ Dd := fun p hp => ⟨off p hp, neC (lt0 (N p hp).1), neD (lt0 (N p hp).1)⟩
  have loop : ∀ s₃ : Shared, s₃ = { s₂ with heap := h₁, toks := s₂.toks + ([] : List (Str × Value)).length } →
      codeAny (model prog w) A (.compLoop (.ListComp elt [⟨.Tuple [.Name a pa, .Name b pb] kk tp, iter, [ct], 0⟩] scope pos) 0 (.ref I) (.ref Dd) (compEnvC scope cl Cc env)) (RR (.ref Dd) Cc) s₃ := by
    rintro s₃ rfl
    refine kct_loop
      (PairInv h₀ L m s₂ n wr Cc Dd St S Inv) ?_ (n + 1)
      ⟨h₁, _, 0, [], _, news, rfl, Nat.zero_le _, rfl, Nat.le_refl _, hst₁, F.keeps old, hns₁, fun p hp => ?_, off₀, hS, h0⟩
    · rintro k s' ⟨h', tk, i, ys, m', nw, rfl, hi, rfl, hyl, hst', F', hn', N', off', hS', hI'⟩
      have keepF : ∀ h₂ : Heap, (∀ b o, b ∉ wr → h'.get? b = some o → h₂.get? b = some o) → Fr h₀ L h₂ m ∧ News h₀ L h₂ ((Dd, lst ys) :: nw) ∧ h₂.Ns Cc m' := fun h₂ hk => by
        refine ⟨⟨F'.ns.at' fun o e => hk _ o hLw e, fun b o e => hk b o (fun hb => by rw [hw0 b hb] at e; cases e) (F'.keep b o e), F'.above⟩, fun p hp => ⟨hk _ _ ?_ (N' p hp).1, (N' p hp).2⟩, hn'.at' fun o e => hk _ o hCw e⟩
        rcases List.mem_cons.mp hp with rfl | hp
        · exact hDw
        · exact (off' p hp).1
      by_cases hlt : i < n
      · refine W.item i _ _ _ hlt hst' fun v h₂ tk₂ hMd hk₂ => ?_
        refine W.go i v _ _ _ hMd fun h₃ hP₃ hst₃ hk₃ => ?_
        have hk : ∀ b o, b ∉ wr → h'.get? b = some o → h₃.get? b = some o := fun b o hb e => hk₃ b o hb (hk₂ b o hb e)
        obtain ⟨F₃, N₃, hn₃⟩ := keepF h₃ hk
        obtain ⟨T, x, y, rfl, hT, hPt⟩ := hP i v h₃ nw ys hP₃ (fun p hp => N₃ p (.tail _ hp)) hS' hI'
        refine kcp_assign (env := compEnvC scope cl Cc env) hh hT (lookup_relabel_local hxa) (lookup_relabel_local hxb) (by simp [compEnvC, relabel, hkind]) hn₃ fun h₄ tk₄ hn₄ hs₄ => ?_
        have hst₄ : St (i + 1) h₄ := W.frame _ _ _ hst₃ fun b hb o e => hs₄ b o (fun q => hCf (by have q' : b = Cc := q; rw [← q']; exact hb)) e
        obtain ⟨oC, heC, hoC⟩ := ns_obj hn₄
        have F₄ : Fr h₀ L h₄ m := ⟨F₃.ns.at' fun o e => hs₄ _ o (Ne.symm hCL) e, fun b o e => hs₄ b o (fun q => by have q' : b = Cc := q; rw [q', hC₀] at e; cases e) (F₃.keep b o e), F₃.above⟩
        -- the objects that the walk writes
        have hown : ∀ l : List Addr, (∀ b ∈ l, b ∈ wr) → ∃ own : List (Addr × Obj), own.map (·.1) = l ∧ ∀ p ∈ own, h₄.get? p.1 = some p.2 := by
          intro l
          induction l with
          | nil => exact fun _ => ⟨[], rfl, fun _ h => nomatch h⟩
          | cons b l ih =>
            intro hl
            obtain ⟨o, ho⟩ := hIo _ _ hst₄ b (hl b (.head _))
            obtain ⟨own, e1, e2⟩ := ih fun c hc => hl c (.tail _ hc)
            refine ⟨(b, o) :: own, by rw [List.map_cons, e1], fun p hp => ?_⟩
            rcases List.mem_cons.mp hp with rfl | hp
            · exact ho
            · exact e2 p hp
        obtain ⟨own, ho1, ho2⟩ := hown wr fun _ h => h
        have own_wr : ∀ p ∈ own, p.1 ∈ wr := fun p hp => ho1 ▸ List.mem_map.mpr ⟨p, hp, rfl⟩
        have N₄ : News h₀ L h₄ (own ++ (Cc, oC) :: (Dd, lst ys) :: nw) := fun p hp => by
          rcases List.mem_append.mp hp with hp | hp
          · exact ⟨ho2 p hp, fun e => hLw (e ▸ own_wr p hp), hw0 _ (own_wr p hp)⟩
          · rcases List.mem_cons.mp hp with rfl | hp
            · exact ⟨heC, hCL, hC₀⟩
            · have z := N₃ p hp
              refine ⟨hs₄ _ _ ?_ z.1, z.2⟩
              rcases List.mem_cons.mp hp with rfl | hp
              · exact hDC
              · exact (off' p hp).2.1
        -- a turn's end
        have fin : ∀ (ys' : List Value) (h₅ : Heap) (tk₅ : Nat) (nw₅ : List (Addr × Obj)), ys'.length ≤ i + 1 → Fr h₀ L h₅ m → News h₀ L h₅ (own ++ (Cc, oC) :: (Dd, lst ys') :: nw₅) → (∀ p ∈ nw₅, (∀ q ∈ own, p.1 ≠ q.1) ∧ p.1 ≠ Cc ∧ p.1 ≠ Dd) → S nw₅ → Inv (i + 1) ys' nw₅ →
            ∃ q', q' < n + 1 - i ∧ PairInv h₀ L m s₂ n wr Cc Dd St S Inv q' ({ s₂ with heap := h₅, toks := tk₅ } : Shared) := by
          intro ys' h₅ tk₅ nw₅ hl F₅ N₅ off₅ hS₅ hI₅
          refine ⟨n + 1 - (i + 1), by omega, ⟨h₅, tk₅, i + 1, ys', _, nw₅, rfl, hlt, rfl, hl, ?_, F₅, hoC.ns (N₅ (Cc, oC) (List.mem_append_right _ (.head _))).1, fun p hp => N₅ p (List.mem_append_right _ (.tail _ hp)), fun p hp => ⟨fun hw => ?_, (off₅ p hp).2⟩, hS₅, hI₅⟩⟩
          · refine hSt _ _ _ nw₅ hst₄ (fun b hb o e => ?_) F₅.keep (fun p hp => N₅ p (List.mem_append_right _ (.tail _ (.tail _ hp)))) hS₅
            rw [← ho1] at hb
            obtain ⟨p, hp, rfl⟩ := List.mem_map.mp hb
            have e2 := ho2 p hp
            rw [e] at e2
            rw [Option.some.inj e2]
            exact (N₅ p (List.mem_append_left _ hp)).1
          · rw [← ho1] at hw
            obtain ⟨q, hq, e⟩ := List.mem_map.mp hw
            exact (off₅ p hp).1 q hq e.symm
        refine wpAny_mono (step i ys nw x y own Cc oC Dd _ h₄ _ _ hlt hI' hS' hPt hoC (by simp [hab]) (by simp) ho1 F₄ N₄ off' hCw hDw (Ne.symm hDC)) (fun ok s₅ h₅ => ?_) fun _ _ e => e
        cases ok with
        | false =>
          simp only [Bool.false_eq_true, if_false] at h₅ ⊢
          obtain ⟨h₅, tk₅, nw₅, rfl, F₅, N₅, off₅, hS₅, hI₅⟩ := h₅
          exact fin ys h₅ tk₅ nw₅ (Nat.le_succ_of_le hyl) F₅ N₅ off₅ hS₅ hI₅
        | true =>
          simp only [if_true] at h₅ ⊢
          refine wpAny_mono h₅ (fun y s₆ h₆ => ?_) fun _ _ e => e
          obtain ⟨h₅, tk₅, nw₅, rfl, F₅, N₅, off₅, hS₅, hI₅⟩ := h₆
          have zD := (N₅ (Dd, lst ys) (List.mem_append_right _ (.tail _ (.head _)))).1
          refine append_at (hsz := by show ys.toArray.size ≤ sizeLine; rw [List.size_toArray]; exact Nat.le_trans hyl (Nat.le_trans hi hsz)) zD fun h₆ hs₆ hD₆ => ?_
          refine fin (ys ++ [y]) h₆ _ nw₅ (by rw [List.length_append, List.length_singleton]; exact Nat.succ_le_succ hyl) (F₅.change hs₆ hDL hD₀) (fun q hq => ?_) off₅ hS₅ hI₅
          rcases List.mem_append.mp hq with hq | hq
          · have z := N₅ q (List.mem_append_left _ hq)
            exact ⟨hs₆.extBut _ _ (fun e => hDw (e ▸ own_wr q hq)) z.1, z.2⟩
          · rcases List.mem_cons.mp hq with rfl | hq
            · have z := N₅ (Cc, oC) (List.mem_append_right _ (.head _))
              exact ⟨hs₆.extBut _ _ (Ne.symm hDC) z.1, z.2⟩
            · rcases List.mem_cons.mp hq with rfl | hq
              · exact ⟨hD₆.trans (congrArg some (lst_snoc ys y)), hDL, hD₀⟩
              · have z := N₅ q (List.mem_append_right _ (.tail _ (.tail _ hq)))
                exact ⟨hs₆.extBut _ _ (off₅ q hq).2.2 z.1, z.2⟩
      · have hin : i = n := Nat.le_antisymm hi (Nat.not_lt.mp hlt)
        subst hin
        refine W.done _ _ _ hst' fun h₂ tk₂ hk₂ => ?_
        obtain ⟨F₂, N₂, hn₂⟩ := keepF h₂ hk₂
        exact hRR _ _ h₂ tk₂ _ ys nw F₂ N₂ (fun p hp => (off' p hp).2.2) hn₂ hC₀ hCL (Ne.symm hDC) (fun p hp => (off' p hp).2.1) hI'
    · rcases List.mem_cons.mp hp with rfl | hp
      · exact ⟨hacc, hDL, hD₀⟩
      · exact ⟨old _ _ (N p hp).1, (N p hp).2⟩
  exact codeAny_compStart_list (loop _ rfl) (hself _ _ _ hst₁ (loop _ rfl))

/-- the pairs of a list, walked by a comprehension with a test -/
inductive PairsL (prog : Program) (w : World) (A : Around) (h₀ : Heap) (L : Addr) (m : Str → Option Value) (env : Env) (ct elt : PySem.Expr) (a b : Str) (scope : Scope) (cl : List (Str × Addr)) (Q : Value → Shared → Prop) (xv : Value) (s₁ : Shared) : Prop where
  | mk (ax : Addr) (vs : List Value) (k : Nat) (news : List (Addr × Obj)) (Pt : Nat → Value → Value → Prop) (Inv : Nat → List Value → List (Addr × Obj) → Prop) : (xv = .ref ax) →
    (A.handled = none) →
    (Fr h₀ L s₁.heap m) →
    (News h₀ L s₁.heap news) →
    ((ax, listOf vs.toArray k) ∈ news) →
    (vs.length ≤ 1000) →
    (Inv 0 [] news) →
    (∀ (i : Nat) v nw ys, vs[i]? = some v → Inv i ys nw → ∃ T x y nt, v = .ref T ∧ (T, tupO [x, y] nt) ∈ nw ∧ Pt i x y) →
    (∀ (i : Nat) v, vs[i]? = some v → ∃ T, v = .ref T) →
    (∀ i ys nw x y I oI C oC D m₂ h tk (E' : Value → Shared → Prop), Inv i ys nw → (ax, listOf vs.toArray k) ∈ nw → Pt i x y → NsObj oC m₂ → m₂ a = some x → m₂ b = some y → Fr h₀ L h m → News h₀ L h ((I, oI) :: (C, oC) :: (D, lst ys) :: nw) → Off3 I C D nw → ((@Ne Nat I C) ∧ (@Ne Nat I D) ∧ (@Ne Nat C D)) → wpAny (model prog w) A (isTrue ct (compEnvC scope cl C env) (eval ct (compEnvC scope cl C env))) (fun ok s' => if ok = true then wpAny (model prog w) A (eval elt (compEnvC scope cl C env)) (CompEnd h₀ L m { s₁ with heap := h, toks := tk } I oI C oC D (lst ys) (fun nw => (ax, listOf vs.toArray k) ∈ nw) (fun y nw' => Inv (i + 1) (ys ++ [y]) nw')) E' s' else CompEnd h₀ L m { s₁ with heap := h, toks := tk } I oI C oC D (lst ys) (fun nw => (ax, listOf vs.toArray k) ∈ nw) (fun _ nw' => Inv (i + 1) ys nw') Value.none s') E' { s₁ with heap := h, toks := tk }) →
    (∀ (g : Heap) ys nw, Inv vs.length ys nw → FinE h₀ L m { s₁ with heap := g } Q ys nw) → PairsL prog w A h₀ L m env ct elt a b scope cl Q xv s₁
theorem off1_of {D : Addr} {l : List (Addr × Obj)} (h : ∀ p ∈ l, p.1 ≠ D) : Off1 D l := by
  induction l with
  | nil => trivial
  | cons p l ih => exact ⟨h p (.head _), ih fun q hq => h q (.tail _ hq)⟩
theorem pairEnd_of1 {s₁ : Shared} {I C D : Addr} {oI oC : Obj} {ys : List Value} {S : List (Addr × Obj) → Prop} {R : Value → List (Addr × Obj) → Prop} {y : Value} {s₂ : Shared} (h : CompEnd h₀ L m s₁ I oI C oC D (lst ys) S R y s₂) : PairEnd h₀ L m s₁ [(I, oI)] C oC D ys S R y s₂ := by
  obtain ⟨h', tk, nw, e, F, N, off, hS, r⟩ := h
  refine ⟨h', tk, nw, e, F, N, fun p hp => ⟨fun q hq => ?_, (off.mem p hp).2⟩, hS, r⟩
  rw [List.mem_singleton.mp hq]
  exact (off.mem p hp).1

theorem ListComp_pairs {ct elt iter : PySem.Expr} {a b : Str} {pa pb tp : Pos} {kk : Nat} {scope : Scope} {cl : List (Str × Addr)} {pos : Pos} {Q : Value → Shared → Prop} (_F₀ : Fr h₀ L s.heap m)
    (hclos : closureFor scope env = pure cl) (hcell : ∀ y ∈ scope.names, y.2 ≠ .cell) (hkind : scope.kind = .function)
    (hnames : ∀ y ∈ scope.names, y.2 = .local → scope.names.lookup y.1 = some .local) (hxa : scope.names.lookup a = some .local) (hxb : scope.names.lookup b = some .local) (hab : ¬ a = b)
    (h : wpAny (model prog w) A (eval iter env) (PairsL prog w A h₀ L m env ct elt a b scope cl Q) E s)
    (hs : ∀ x, foldedSetIterable iter env x = pure x := by intro _; rfl) :
    wpAny (model prog w) A (eval (.ListComp elt [⟨.Tuple [.Name a pa, .Name b pb] kk tp, iter, [ct], 0⟩] scope pos) env) Q E s := by
  rw [eval_ListComp]
  refine wpAny_comprehension_free (use := none) rfl hs hclos hkind hnames (wpAny_mono h (fun xv s₁ h₁ => ?_) fun _ _ e => e)
  obtain ⟨ax, vs, k, news, Pt, Inv, rfl, hh, F, N, hm, hz, h0, hT, hR, step, fin⟩ := h₁
  have hax := N _ hm
  have hl := N.isList hm
  have hlt : ax < s₁.heap.objs.size := Heap.lt_size hax.1
  have new0 : h₀.get? s₁.heap.objs.size = none := by
    cases e : h₀.get? s₁.heap.objs.size with
    | none => rfl
    | some o => exact absurd (Heap.lt_size (F.keep _ o e)) (Nat.lt_irrefl _)
  refine wpAny_pyIter_list hl ?_
  have W := Walks.list (prog := prog) (w := w) hh s₁.heap.objs.size ax (Nat.ne_of_lt hlt) vs.toArray
  have W' : KTurns prog w A (.Tuple [.Name a pa, .Name b pb] kk tp) s₁.heap.objs.size [s₁.heap.objs.size, ax] [s₁.heap.objs.size] vs.toArray.size (fun i v _ => vs[i]? = some v) (fun i v h => vs[i]? = some v ∧ (h.IsListIter s₁.heap.objs.size ax (i + 1) ∧ h.IsList ax vs.toArray)) (fun i h => h.IsListIter s₁.heap.objs.size ax i ∧ h.IsList ax vs.toArray) :=
    { sub := W.sub
      frame := W.frame
      item := fun i s Q E hi st hQ => W.item i s Q E hi st fun v h' tk hv st' hk => hQ v h' tk ⟨by simpa using hv, st'⟩ hk
      go := fun i v s Q E hmd hQ => by
        obtain ⟨T, rfl⟩ := hR i v hmd.1
        exact wpAny_letOwnedTupleGo_listiter hmd.2.1 (hQ s.heap hmd.1 hmd.2 fun _ _ _ e => e)
      done := W.done }
  refine pair_block (h₀ := h₀) (L := L) (m := m) (Pt := fun i _ x y => Pt i x y) (S := fun nw => (ax, listOf vs.toArray k) ∈ nw) (Inv := Inv) W' (fun s Q E st h => W.self 0 s Q E st h) (by rw [List.size_toArray, sizeLine_eq]; omega) hh ?_ ?_ ?_ hcell hkind hxa hxb hab ?_ ?_ ?_ ?_ ?_ ?_ ?_ hm h0 ?_ ?_
  · rintro i v h nw ys hv Nw hS hI
    obtain ⟨T, x, y, nt, rfl, hmt, hp⟩ := hT i v nw ys hv hI
    exact ⟨T, x, y, rfl, Nw.isTup hmt, hp⟩
  · rintro i h ⟨⟨o, e, _⟩, _⟩ b hb
    rw [List.mem_singleton.mp hb]; exact ⟨o, e⟩
  · rintro i h h' nw ⟨hit, _⟩ hk k0 Nw hS
    exact ⟨hit.at fun o e => hk _ (.head _) o e, Nw.isList hS⟩
  · exact ⟨⟨_, Heap.get?_push_size _ rfl, rfl, rfl⟩, hl.push _⟩
  · intro b hb
    show b < (s₁.heap.push _).objs.size
    rw [Heap.size_push]
    rcases List.mem_cons.mp hb with rfl | hb
    · exact Nat.lt_succ_self _
    · rw [List.mem_singleton.mp hb]; exact Nat.lt_succ_of_lt hlt
  · exact F.push _
  · exact fun p hp => ⟨Heap.get?_push_of_some _ (N p hp).1, (N p hp).2⟩
  · intro hb; exact Nat.ne_of_lt F.ns.lt (List.mem_singleton.mp hb)
  · intro b hb; rw [List.mem_singleton.mp hb]; exact new0
  · intro p hp hb; exact Nat.ne_of_lt (Heap.lt_size (N p hp).1) (List.mem_singleton.mp hb)
  · rintro i ys nw x y own C oC D m₂ h tk E' hi hI hS hpt hC hx hy hown F' N' off hCw hDw hCD
    obtain ⟨⟨I', oI⟩, rfl⟩ : ∃ p, own = [p] := by
      cases own with
      | nil => cases hown
      | cons p own =>
        cases own with
        | nil => exact ⟨p, rfl⟩
        | cons q own => simp at hown
    have hI' : I' = s₁.heap.objs.size := by simpa using hown
    subst hI'
    refine wpAny_mono (step i ys nw x y _ oI C oC D m₂ h tk E' hI hS hpt hC hx hy F' N' (Off3.of fun p hp => ⟨fun e => (off p hp).1 (by rw [e]; exact .head _), (off p hp).2⟩) ⟨fun e => hCw (by rw [← e]; exact .head _), fun e => hDw (by rw [← e]; exact .head _), hCD⟩) (fun ok s' q => ?_) fun _ _ e => e
    cases ok with
    | true =>
      simp only [if_true] at q ⊢
      exact wpAny_mono q (fun y s'' q' => pairEnd_of1 q') fun _ _ e => e
    | false =>
      simp only [Bool.false_eq_true, if_false] at q ⊢
      exact pairEnd_of1 q
  · intro D C h' tk m' ys nw F' N' o1 hn hC₀ hCL hCD offC hI
    rw [List.size_toArray] at hI
    refine ⟨m', hn, fun h'' hs'' => fin s₁.heap ys nw hI D h'' tk (F'.change hs'' hCL hC₀) (fun p hp => ?_) (off1_of o1)⟩
    refine ⟨hs''.extBut _ _ ?_ (N' p hp).1, (N' p hp).2⟩
    rcases List.mem_cons.mp hp with rfl | hp
    · exact Ne.symm hCD
    · exact offC p hp

theorem pairsL_introK {ct elt : PySem.Expr} {a b : Str} {scope : Scope} {cl : List (Str × Addr)} {Q : Value → Shared → Prop} {s₁ : Shared} {ax : Addr} {vs : List Value} {k : Nat} {news : List (Addr × Obj)}
    (hh : A.handled = none) (F : Fr h₀ L s₁.heap m) (N : News h₀ L s₁.heap news) (hm : (ax, listOf vs.toArray k) ∈ news) (hz : vs.length ≤ 1000) (Inv : Nat → List Value → Prop) (h0 : Inv 0 []) (Pt : Nat → Value → Value → Prop)
    (hT : ∀ (i : Nat) v, vs[i]? = some v → ∃ T x y nt, v = .ref T ∧ (T, tupO [x, y] nt) ∈ news ∧ Pt i x y)
    (step : ∀ i ys x y I oI C oC D m₂ h tk (E' : Value → Shared → Prop), Inv i ys → Pt i x y → NsObj oC m₂ → m₂ a = some x → m₂ b = some y → Fr h₀ L h m →
      News h₀ L h ((I, oI) :: (C, oC) :: (D, lst ys) :: news) → Off3 I C D news → ((@Ne Nat I C) ∧ (@Ne Nat I D) ∧ (@Ne Nat C D)) →
      wpAny (model prog w) A (isTrue ct (compEnvC scope cl C env) (eval ct (compEnvC scope cl C env))) (fun ok s' => if ok = true then
        wpAny (model prog w) A (eval elt (compEnvC scope cl C env)) (CompEnd h₀ L m { s₁ with heap := h, toks := tk } I oI C oC D (lst ys) (fun nw => (ax, listOf vs.toArray k) ∈ nw) (fun y nw' => nw' = news ∧ Inv (i + 1) (ys ++ [y]))) E' s'
        else CompEnd h₀ L m { s₁ with heap := h, toks := tk } I oI C oC D (lst ys) (fun nw => (ax, listOf vs.toArray k) ∈ nw) (fun _ nw' => nw' = news ∧ Inv (i + 1) ys) Value.none s') E' { s₁ with heap := h, toks := tk })
    (fin : ∀ ys, Inv vs.length ys → FinE h₀ L m s₁ Q ys news) : PairsL prog w A h₀ L m env ct elt a b scope cl Q (.ref ax) s₁ := by
  refine ⟨ax, vs, k, news, Pt, fun i ys nw => nw = news ∧ Inv i ys, rfl, hh, F, N, hm, hz, ⟨rfl, h0⟩, ?_, fun i v hv => ?_, ?_, ?_⟩
  · rintro i v nw ys hv ⟨rfl, hI⟩
    exact hT i v hv
  · obtain ⟨T, _, _, _, e, _⟩ := hT i v hv
    exact ⟨T, e⟩
  · rintro i ys nw x y I oI C oC D m₂ h tk E' ⟨rfl, hI⟩ _ hP hC hx hy F' N' off ne
    exact step i ys x y I oI C oC D m₂ h tk E' hI hP hC hx hy F' N' off ne
  · rintro g ys nw ⟨rfl, hI⟩
    exact fin ys hI

/-- an enumerated list, walked by a comprehension with a test -/
inductive PairsE (prog : Program) (w : World) (A : Around) (h₀ : Heap) (L : Addr) (m : Str → Option Value) (env : Env) (ct elt : PySem.Expr) (a b : Str) (scope : Scope) (cl : List (Str × Addr)) (Q : Value → Shared → Prop) (xv : Value) (s₁ : Shared) : Prop where
  | mk (e it ax : Addr) (vs : List Value) (k : Nat) (news : List (Addr × Obj)) (Inv : Nat → List Value → List (Addr × Obj) → Prop) : (xv = .ref e) →
    (A.handled = none) →
    (Fr h₀ L s₁.heap m) →
    (News h₀ L s₁.heap news) →
    ((ax, listOf vs.toArray k) ∈ news) →
    (vs.length ≤ 1000) →
    (Inv 0 [] news) →
    (((∃ old, IsEnum s₁.heap e it 0 old) ∧ s₁.heap.IsListIter it ax 0)) →
    (((@Ne Nat e it) ∧ h₀.get? e = none ∧ h₀.get? it = none ∧ (@Ne Nat L e) ∧ (@Ne Nat L it) ∧ (∀ p ∈ news, (@Ne Nat p.1 e) ∧ (@Ne Nat p.1 it)))) →
    (∀ i ys nw (t : Tok) y e oe it oit C oC D m₂ h tk (E' : Value → Shared → Prop), Inv i ys nw → (ax, listOf vs.toArray k) ∈ nw → vs[i]? = some y → NsObj oC m₂ → m₂ a = some (.int i t) → m₂ b = some y → Fr h₀ L h m → News h₀ L h ((e, oe) :: (it, oit) :: (C, oC) :: (D, lst ys) :: nw) → Off3 it C D nw → (∀ p ∈ nw, @Ne Nat p.1 e) → ((@Ne Nat e it) ∧ (@Ne Nat e C) ∧ (@Ne Nat e D) ∧ (@Ne Nat it C) ∧ (@Ne Nat it D) ∧ (@Ne Nat C D)) → wpAny (model prog w) A (isTrue ct (compEnvC scope cl C env) (eval ct (compEnvC scope cl C env))) (fun ok s' => if ok = true then wpAny (model prog w) A (eval elt (compEnvC scope cl C env)) (PairEnd h₀ L m { s₁ with heap := h, toks := tk } [(e, oe), (it, oit)] C oC D ys (fun nw => (ax, listOf vs.toArray k) ∈ nw) (fun y nw' => Inv (i + 1) (ys ++ [y]) nw')) E' s' else PairEnd h₀ L m { s₁ with heap := h, toks := tk } [(e, oe), (it, oit)] C oC D ys (fun nw => (ax, listOf vs.toArray k) ∈ nw) (fun _ nw' => Inv (i + 1) ys nw') Value.none s') E' { s₁ with heap := h, toks := tk }) →
    (∀ ys nw, Inv vs.length ys nw → FinE h₀ L m s₁ Q ys nw) → PairsE prog w A h₀ L m env ct elt a b scope cl Q xv s₁
theorem ListComp_enum {ct elt iter : PySem.Expr} {a b : Str} {pa pb tp : Pos} {kk : Nat} {scope : Scope} {cl : List (Str × Addr)} {pos : Pos} {Q : Value → Shared → Prop} (_F₀ : Fr h₀ L s.heap m)
    (hclos : closureFor scope env = pure cl) (hcell : ∀ y ∈ scope.names, y.2 ≠ .cell) (hkind : scope.kind = .function)
    (hnames : ∀ y ∈ scope.names, y.2 = .local → scope.names.lookup y.1 = some .local) (hxa : scope.names.lookup a = some .local) (hxb : scope.names.lookup b = some .local) (hab : ¬ a = b)
    (h : wpAny (model prog w) A (eval iter env) (PairsE prog w A h₀ L m env ct elt a b scope cl Q) E s)
    (hs : ∀ x, foldedSetIterable iter env x = pure x := by intro _; rfl) :
    wpAny (model prog w) A (eval (.ListComp elt [⟨.Tuple [.Name a pa, .Name b pb] kk tp, iter, [ct], 0⟩] scope pos) env) Q E s := by
  rw [eval_ListComp]
  refine wpAny_comprehension_free (use := none) rfl hs hclos hkind hnames (wpAny_mono h (fun xv s₁ h₁ => ?_) fun _ _ e => e)
  obtain ⟨e, it, ax, vs, k, news, Inv, rfl, hh, F, N, hm, hz, h0, ⟨⟨old, hE⟩, hI⟩, ⟨hei, he0, hi0, hLe, hLi, hoff⟩, step, fin⟩ := h₁
  have hax := N _ hm
  have hl := N.isList hm
  have hofx := hoff _ hm
  refine wpAny_pyIter_enum hE ?_
  have W' := KTurns.ofWalksU (elts := [.Name a pa, .Name b pb]) (k := kk) (pos := tp) (WalksT.enumerate (prog := prog) (w := w) hh e it ax hei hofx.1 hofx.2 vs.toArray).toU
  refine pair_block (h₀ := h₀) (L := L) (m := m) (Pt := fun i nw x y => ∃ t, x = .int i t ∧ vs[i]? = some y) (S := fun nw => (ax, listOf vs.toArray k) ∈ nw) (Inv := Inv) W' (fun s Q E st h => ?_) (by rw [List.size_toArray, sizeLine_eq]; omega) hh ?_ ?_ ?_ hcell hkind hxa hxb hab ?_ ?_ ?_ ?_ ?_ ?_ ?_ hm h0 ?_ ?_
  · obtain ⟨⟨old, hE'⟩, _⟩ := st
    exact wpAny_pyIter_enum hE' h
  · rintro i v h nw ys ⟨T, vals, rfl, ⟨t, x, hx, rfl⟩, hT⟩ Nw hS hI
    exact ⟨T, _, x, rfl, hT, t, rfl, by simpa using hx⟩
  · rintro i h ⟨⟨old, hE'⟩, ⟨o, e', _⟩, _⟩ b hb
    rcases List.mem_cons.mp hb with rfl | hb
    · exact ⟨_, hE'⟩
    · rw [List.mem_singleton.mp hb]; exact ⟨o, e'⟩
  · rintro i h h' nw ⟨⟨old, hE'⟩, hit, _⟩ hk k0 Nw hS
    exact ⟨⟨old, hk _ (.head _) _ hE'⟩, hit.at fun o e => hk _ (.tail _ (.head _)) o e, Nw.isList hS⟩
  · exact ⟨⟨old, hE⟩, hI, hl⟩
  · intro b hb
    rcases List.mem_cons.mp hb with rfl | hb
    · exact Heap.lt_size hE
    · rcases List.mem_cons.mp hb with rfl | hb
      · obtain ⟨_, e', _⟩ := hI; exact Heap.lt_size e'
      · rw [List.mem_singleton.mp hb]; exact Heap.lt_size hax.1
  · exact F
  · exact N
  · intro hb
    rcases List.mem_cons.mp hb with e' | hb
    · exact hLe e'
    · exact hLi (List.mem_singleton.mp hb)
  · intro b hb
    rcases List.mem_cons.mp hb with rfl | hb
    · exact he0
    · rw [List.mem_singleton.mp hb]; exact hi0
  · intro p hp hb
    rcases List.mem_cons.mp hb with e' | hb
    · exact (hoff p hp).1 e'
    · exact (hoff p hp).2 (List.mem_singleton.mp hb)
  · rintro i ys nw x y own C oC D m₂ h tk E' hi hI' hS ⟨t, rfl, hv⟩ hC hx hy hown F' N' off hCw hDw hCD
    obtain ⟨oe, oit, rfl⟩ : ∃ oe oit, own = [(e, oe), (it, oit)] := by
      cases own with
      | nil => cases hown
      | cons p own =>
        cases own with
        | nil => simp at hown
        | cons q own =>
          cases own with
          | cons r own => simp at hown
          | nil =>
            obtain ⟨p1, p2⟩ := p
            obtain ⟨q1, q2⟩ := q
            simp at hown
            obtain ⟨rfl, rfl⟩ := hown
            exact ⟨_, _, rfl⟩
    have mem1 : ∀ {x : Addr}, x ∉ [e, it] → (@Ne Nat e x) ∧ (@Ne Nat it x) := fun hx => ⟨fun q => hx (q ▸ .head _), fun q => hx (q ▸ .tail _ (.head _))⟩
    exact step i ys nw t y e oe it oit C oC D m₂ h tk E' hI' hS hv hC hx hy F' N' (Off3.of fun p hp => ⟨Ne.symm (mem1 (off p hp).1).2, (off p hp).2⟩) (fun p hp => Ne.symm (mem1 (off p hp).1).1) ⟨hei, (mem1 hCw).1, (mem1 hDw).1, (mem1 hCw).2, (mem1 hDw).2, hCD⟩
  · intro D C h' tk m' ys nw F' N' o1 hn hC₀ hCL hCD offC hI'
    rw [List.size_toArray] at hI'
    refine ⟨m', hn, fun h'' hs'' => fin ys nw hI' D h'' tk (F'.change hs'' hCL hC₀) (fun p hp => ?_) (off1_of o1)⟩
    refine ⟨hs''.extBut _ _ ?_ (N' p hp).1, (N' p hp).2⟩
    rcases List.mem_cons.mp hp with rfl | hp
    · exact Ne.symm hCD
    · exact offC p hp
/-- the call of enumerate before such a comprehension -/
theorem enum_pairs {ct elt : PySem.Expr} {a b : Str} {scope : Scope} {cl : List (Str × Addr)} {Q : Value → Shared → Prop} {ax : Addr} {vs : List Value} {k : Nat} {news : List (Addr × Obj)} (Inv : Nat → List Value → List (Addr × Obj) → Prop)
    (hh : A.handled = none) (F : Fr h₀ L s.heap m) (N : News h₀ L s.heap news) (hm : (ax, listOf vs.toArray k) ∈ news) (hz : vs.length ≤ 1000) (h0 : Inv 0 [] news)
    (step : ∀ i ys nw (t : Tok) y e oe it oit C oC D m₂ h tk (E' : Value → Shared → Prop), Inv i ys nw → (ax, listOf vs.toArray k) ∈ nw → vs[i]? = some y → NsObj oC m₂ → m₂ a = some (.int i t) → m₂ b = some y → Fr h₀ L h m →
      News h₀ L h ((e, oe) :: (it, oit) :: (C, oC) :: (D, lst ys) :: nw) → Off3 it C D nw → (∀ p ∈ nw, @Ne Nat p.1 e) → ((@Ne Nat e it) ∧ (@Ne Nat e C) ∧ (@Ne Nat e D) ∧ (@Ne Nat it C) ∧ (@Ne Nat it D) ∧ (@Ne Nat C D)) →
      wpAny (model prog w) A (isTrue ct (compEnvC scope cl C env) (eval ct (compEnvC scope cl C env))) (fun ok s' => if ok = true then
        wpAny (model prog w) A (eval elt (compEnvC scope cl C env)) (PairEnd h₀ L m { s with heap := h, toks := tk } [(e, oe), (it, oit)] C oC D ys (fun nw => (ax, listOf vs.toArray k) ∈ nw) (fun y nw' => Inv (i + 1) (ys ++ [y]) nw')) E' s'
        else PairEnd h₀ L m { s with heap := h, toks := tk } [(e, oe), (it, oit)] C oC D ys (fun nw => (ax, listOf vs.toArray k) ∈ nw) (fun _ nw' => Inv (i + 1) ys nw') Value.none s') E' { s with heap := h, toks := tk })
    (fin : ∀ (g : Heap) ys nw, Inv vs.length ys nw → FinE h₀ L m { s with heap := g } Q ys nw) :
    wpAny (model prog w) A (call (.type "enumerate") [.ref ax]) (PairsE prog w A h₀ L m env ct elt a b scope cl Q) E s := by
  refine call_enumerate_list (N.isList hm) fun h' hE hI hsz hk => ?_
  have new0 : ∀ c, s.heap.objs.size ≤ c → h₀.get? c = none := fun c hc => by
    cases e : h₀.get? c with
    | none => rfl
    | some o => exact absurd (Heap.lt_size (F.keep _ o e)) (Nat.not_lt.mpr hc)
  refine ⟨_, _, ax, vs, k, news, Inv, rfl, hh, F.keeps hk, N.grown hk, hm, hz, h0, ⟨⟨_, hE⟩, hI⟩, ⟨Nat.succ_ne_self _, new0 _ (Nat.le_succ _), new0 _ (Nat.le_refl _), Nat.ne_of_lt (Nat.lt_succ_of_lt F.ns.lt), Nat.ne_of_lt F.ns.lt, fun p hp => ?_⟩, step, fin h'⟩
  have := Heap.lt_size (N p hp).1
  exact ⟨Nat.ne_of_lt (Nat.lt_succ_of_lt this), Nat.ne_of_lt this⟩
theorem pairEnd_mono {s₁ : Shared} {own : List (Addr × Obj)} {C D : Addr} {oC : Obj} {ys : List Value} {S : List (Addr × Obj) → Prop} {R R' : Value → List (Addr × Obj) → Prop} {y : Value} {s₂ : Shared} (h : PairEnd h₀ L m s₁ own C oC D ys S R y s₂) (hr : ∀ n, R y n → R' y n) : PairEnd h₀ L m s₁ own C oC D ys S R' y s₂ := by
  obtain ⟨h', tk, nw, e, F, N, off, hS, r⟩ := h
  exact ⟨h', tk, nw, e, F, N, off, hS, hr _ r⟩
/-- a comprehension over an enumerated list that draws from the deck -/
theorem enum_deck4 {ct elt : PySem.Expr} {a b : Str} {scope : Scope} {cl : List (Str × Addr)} {Q : Value → Shared → Prop} {ax dk : Addr} {vs vs0 : List Value} {k n0 : Nat} {p1 p2 p3 : Addr × Obj} {rest : List (Addr × Obj)}
    (hh : A.handled = none) (F : Fr h₀ L s.heap m) (N : News h₀ L s.heap ((ax, listOf vs.toArray k) :: p1 :: p2 :: p3 :: (dk, listOf vs0.toArray n0) :: rest)) (hz : vs.length ≤ 1000) (hb : ∀ p ∈ (ax, listOf vs.toArray k) :: p1 :: p2 :: p3 :: rest, p.1 ≠ dk) (hd : DeckOk vs0)
    (G : Nat → List Value → List (Addr × Obj) → Prop) (h0 : G 0 [] [])
    (step : ∀ i ws more vs1 n1 (t : Tok) y e oe it oit C oC D m₂ h tk (E' : Value → Shared → Prop), G i ws more → Fresh dk ((ax, listOf vs.toArray k) :: p1 :: p2 :: p3 :: rest) more → (∀ p ∈ more ++ ((ax, listOf vs.toArray k) :: p1 :: p2 :: p3 :: rest), p.1 ≠ dk) → DeckOk vs1 → vs[i]? = some y →
      NsObj oC m₂ → m₂ a = some (.int i t) → m₂ b = some y → Fr h₀ L h m →
      News h₀ L h ((e, oe) :: (it, oit) :: (C, oC) :: (D, lst ws) :: (dk, listOf vs1.toArray n1) :: (more ++ ((ax, listOf vs.toArray k) :: p1 :: p2 :: p3 :: rest))) → Off3 it C D ((dk, listOf vs1.toArray n1) :: (more ++ ((ax, listOf vs.toArray k) :: p1 :: p2 :: p3 :: rest))) →
      (∀ p ∈ (dk, listOf vs1.toArray n1) :: (more ++ ((ax, listOf vs.toArray k) :: p1 :: p2 :: p3 :: rest)), @Ne Nat p.1 e) → ((@Ne Nat e it) ∧ (@Ne Nat e C) ∧ (@Ne Nat e D) ∧ (@Ne Nat it C) ∧ (@Ne Nat it D) ∧ (@Ne Nat C D)) →
      wpAny (model prog w) A (isTrue ct (compEnvC scope cl C env) (eval ct (compEnvC scope cl C env))) (fun ok s' => if ok = true then
        wpAny (model prog w) A (eval elt (compEnvC scope cl C env)) (PairEnd h₀ L m { s with heap := h, toks := tk } [(e, oe), (it, oit)] C oC D ws (fun nw => (ax, listOf vs.toArray k) ∈ nw)
          (fun y nw' => ∃ vs' n' new, nw' = (dk, listOf vs'.toArray n') :: (new ++ (more ++ ((ax, listOf vs.toArray k) :: p1 :: p2 :: p3 :: rest))) ∧ DeckOk vs' ∧ Fresh dk ((ax, listOf vs.toArray k) :: p1 :: p2 :: p3 :: rest) new ∧ G (i + 1) (ws ++ [y]) (new ++ more))) E' s'
        else PairEnd h₀ L m { s with heap := h, toks := tk } [(e, oe), (it, oit)] C oC D ws (fun nw => (ax, listOf vs.toArray k) ∈ nw) (fun _ nw' => nw' = (dk, listOf vs1.toArray n1) :: (more ++ ((ax, listOf vs.toArray k) :: p1 :: p2 :: p3 :: rest)) ∧ G (i + 1) ws more) Value.none s') E' { s with heap := h, toks := tk })
    (fin : ∀ (g : Heap) ws more vs1 n1, G vs.length ws more → Fresh dk ((ax, listOf vs.toArray k) :: p1 :: p2 :: p3 :: rest) more → (∀ p ∈ more ++ ((ax, listOf vs.toArray k) :: p1 :: p2 :: p3 :: rest), p.1 ≠ dk) → DeckOk vs1 →
      FinE h₀ L m { s with heap := g } Q ws ((dk, listOf vs1.toArray n1) :: (more ++ ((ax, listOf vs.toArray k) :: p1 :: p2 :: p3 :: rest)))) :
    wpAny (model prog w) A (call (.type "enumerate") [.ref ax]) (PairsE prog w A h₀ L m env ct elt a b scope cl Q) E s := by
  generalize hB : (ax, listOf vs.toArray k) :: p1 :: p2 :: p3 :: rest = base at *
  have hmb : (ax, listOf vs.toArray k) ∈ base := by rw [← hB]; exact .head _
  have hN : ∀ p ∈ (dk, listOf vs0.toArray n0) :: base, p ∈ (ax, listOf vs.toArray k) :: p1 :: p2 :: p3 :: (dk, listOf vs0.toArray n0) :: rest := fun p hp => by
    rw [← hB] at hp
    simp only [List.mem_cons] at hp ⊢
    rcases hp with hp | hp | hp | hp | hp | hp <;> simp [hp]
  refine enum_pairs (news := (dk, listOf vs0.toArray n0) :: base) (fun i ws nw => ∃ more vs1 n1, nw = (dk, listOf vs1.toArray n1) :: (more ++ base) ∧ G i ws more ∧ Fresh dk base more ∧ DeckOk vs1) hh F (cb_drop N hN) (.tail _ hmb) hz ⟨[], vs0, n0, rfl, h0, .nil _ _, hd⟩ ?_ ?_
  · rintro i ws nw t y e oe it oit C oC D m₂ h tk E' ⟨more, vs1, n1, rfl, h1, h2, h3⟩ hm hv hC hx hy F' N' off offe ne
    refine wpAny_mono (step i ws more vs1 n1 t y e oe it oit C oC D m₂ h tk E' h1 h2 (fresh_all h2 hb) h3 hv hC hx hy F' N' off offe ne) (fun ok s' q => ?_) fun _ _ e => e
    cases ok with
    | true =>
      simp only [if_true] at q ⊢
      refine wpAny_mono q (fun y s'' q' => pairEnd_mono q' ?_) fun _ _ e => e
      rintro nw' ⟨vs', n', new, rfl, a1, a2, a3⟩
      exact ⟨new ++ more, vs', n', by rw [List.append_assoc], a3, a2.append h2, a1⟩
    | false =>
      simp only [Bool.false_eq_true, if_false] at q ⊢
      refine pairEnd_mono q ?_
      rintro nw' ⟨rfl, a1⟩
      exact ⟨more, vs1, n1, rfl, a1, h2, h3⟩
  · rintro g ws nw ⟨more, vs1, n1, rfl, h1, h2, h3⟩
    exact fin g ws more vs1 n1 h1 h2 (fresh_all h2 hb) h3
end
end
section
open PySem.SeqAt
theorem sok1 : PyData.strOk (Str.ofString "symbol") = true := by decide +kernel
theorem sok2 : PyData.strOk (Str.ofString "pair") = true := by decide +kernel
theorem sok3 : PyData.strOk (Str.ofString "list") = true := by decide +kernel
theorem ok_sym' (n : Nat) (k : Int) : kqdOk (n + 1) (symD k) = true := by
  show ([Dat.str "symbol", Dat.int k].all (kqdOk n)) = true
  simp only [List.all_cons, List.all_nil, kqdOk, Bool.and_true]
  exact sok1
theorem ok_sym (k : Int) : kqdOk 8 (symD k) = true := ok_sym' 7 k
theorem ok_pr : kqdOk 8 prD = true := by
  show ([Dat.str "pair", Dat.int 3, Dat.none].all (kqdOk 7)) = true
  simp only [List.all_cons, List.all_nil, kqdOk, Bool.and_true]
  exact sok2
theorem ok_items (ks : List Int) (c : Bool) : ∀ d ∈ ks.map symD ++ tailD c, kqdOk 7 d = true := by
  intro d hd
  rcases List.mem_append.mp hd with hd | hd
  · obtain ⟨k, _, rfl⟩ := List.mem_map.mp hd
    exact ok_sym' 6 k
  · cases c with
    | false => simp [tailD] at hd
    | true => simp [tailD] at hd; subst hd; rfl
theorem ok_items8 (ks : List Int) (c : Bool) : ∀ d ∈ ks.map symD ++ tailD c, kqdOk 8 d = true := by
  intro d hd
  rcases List.mem_append.mp hd with hd | hd
  · obtain ⟨k, _, rfl⟩ := List.mem_map.mp hd
    exact ok_sym k
  · cases c with
    | false => simp [tailD] at hd
    | true => simp [tailD] at hd; subst hd; rfl
theorem ok_lst (ks : List Int) (c : Bool) : kqdOk 8 (lstD ks c) = true := by
  show ((Dat.str "list" :: (ks.map symD ++ tailD c)).all (kqdOk 7)) = true
  rw [List.all_cons, Bool.and_eq_true]
  exact ⟨by simp only [kqdOk]; exact sok3, List.all_eq_true.mpr (ok_items ks c)⟩
theorem ok_p3 : kqdOk 8 (.tuple [.int 3, .none]) = true := by
  show ([Dat.int 3, Dat.none].all (kqdOk 7)) = true
  simp [kqdOk]
section
variable {prog : Program} {w : World} {A : Around} {E : Value → Shared → Prop} {s : Shared} {h₀ : Heap} {L : Addr} {news led : List (Addr × Obj)} {x y : Value} {d e : Dat}
theorem sh_ok (h : kqdOk 8 d = true) : shaped (kqdP d) = true := by
  have l := kqd_lay 8 d h
  unfold shaped
  rw [l.1, Bool.true_and]
  exact decide_eq_true (Nat.le_trans l.2 (by decide))
theorem LV.ok (h : LV led x d) : d = .bool true ∨ kqdOk 8 d = true := by
  cases h with
  | nil => exact .inr rfl
  | sym _ _ => exact .inr (ok_sym _)
  | lst _ _ _ => exact .inr (ok_lst _ _)
  | tru => exact .inl rfl
  | int i t => exact .inr rfl
  | pr _ => exact .inr ok_pr
theorem LV.reads' {h : Heap} (N : News h₀ L h news) (hx : LV news x d) : ∃ as, Reads h x (kqdP d) as := by
  rcases hx.ok with rfl | hk
  · have : x = .bool true := by
      generalize he : Dat.bool true = d at hx
      cases hx <;> first | rfl | (simp [symD, lstD, prD] at he)
    subst this
    exact ⟨_, Reads.bool true⟩
  · exact kqd_in N 8 hx.datIn hk
theorem LV.sh (hx : LV led x d) : shaped (kqdP d) = true := by
  rcases hx.ok with rfl | hk
  · rfl
  · exact sh_ok hk
theorem LV.eqv (hx : LV led x d) : PyData.eqv (kqdP d) (kqdP d) = true := by
  rcases hx.ok with rfl | hk
  · rfl
  · exact (kqd_eqv 8 d d 8 hk hk).mpr rfl
theorem ne_lv {Q : Value → Shared → Prop} (N : News h₀ L s.heap news) (hx : LV news x d) (hy : LV news y d) (hu : A.units + 64 < cLine) (h : Q (.bool false) s) : wpAny (model prog w) A (compareOp .NotEq x y) Q E s := by
  obtain ⟨as, ra⟩ := hx.reads' N
  obtain ⟨bs, rb⟩ := hy.reads' N
  exact ne_dataH ra rb hx.sh hy.sh hu (by rw [hx.eqv]; exact h)
theorem ne_lv2 {Q : Value → Shared → Prop} (N : News h₀ L s.heap news) (hx : LV news x e) (hy : LV news y d) (he : e = d) (hu : A.units + 64 < cLine) (h : Q (.bool false) s) : wpAny (model prog w) A (compareOp .NotEq x y) Q E s := by
  subst he
  exact ne_lv N hx hy hu h
theorem eq_p3 {Q : Value → Shared → Prop} {a b : Addr} {n k : Nat} {t u : Tok} (N : News h₀ L s.heap news) (hx : (a, tupO [.int 3 t, .none] n) ∈ news) (hy : (b, tupO [.int 3 u, .none] k) ∈ news) (hu : A.units + 64 < cLine) (h : Q (.bool true) s) : wpAny (model prog w) A (compareOp .Eq (.ref a) (.ref b)) Q E s := by
  obtain ⟨as, ra⟩ := kqd_in N 8 (v := .ref a) (d := .tuple [.int 3, .none]) (.tuple hx (.cons (.int _ _) (.cons .none .nil))) ok_p3
  obtain ⟨bs, rb⟩ := kqd_in N 8 (v := .ref b) (d := .tuple [.int 3, .none]) (.tuple hy (.cons (.int _ _) (.cons .none .nil))) ok_p3
  exact eq_dataH ra rb (sh_ok ok_p3) (sh_ok ok_p3) hu (by rw [(kqd_eqv 8 _ _ 8 ok_p3 ok_p3).mpr rfl]; exact h)
theorem ne_dat {Q : Value → Shared → Prop} (N : News h₀ L s.heap news) (hx : DatIn news x d) (hy : DatIn news y e) (hd : kqdOk 8 d = true) (he : kqdOk 8 e = true) (hu : A.units + 64 < cLine) (h1 : d = e → Q (.bool false) s) (h2 : d ≠ e → Q (.bool true) s) : wpAny (model prog w) A (compareOp .NotEq x y) Q E s := by
  obtain ⟨as, ra⟩ := kqd_in N 8 hx hd
  obtain ⟨bs, rb⟩ := kqd_in N 8 hy he
  refine ne_dataH ra rb (sh_ok hd) (sh_ok he) hu ?_
  have q := kqd_eqv 8 d e 8 hd he
  by_cases hq : d = e
  · rw [q.mpr hq]; exact h1 hq
  · rw [Bool.eq_false_iff.mpr fun z => hq (q.mp z)]; exact h2 hq
theorem symD_inj {j k : Int} (h : symD j = symD k) : j = k := by simpa [symD] using h
/-- a symbol in a tuple of symbols -/
theorem in_symsM {Q : Value → Shared → Prop} {l t : Addr} {us : List Value} {n nt : Nat} {ks : List Int} {c : Bool} {k : Int} {t1 t2 : Tok} (N : News h₀ L s.heap news) (hm : (l, tupO us n) ∈ news) (hS : SymsIn news us ks c) (ht : (t, tupO [.str "symbol" t1, .int k t2] nt) ∈ news) (hu : A.units + 64 < cLine)
    (h : Q (.bool (decide (k ∈ ks))) s) : wpAny (model prog w) A (compareOp .In (.ref t) (.ref l)) Q E s := by
  obtain ⟨as, ra⟩ := kqd_all N 8 hS.datAll (ok_items8 ks c)
  obtain ⟨bs, rx⟩ := kqd_in N 8 (v := .ref t) (d := symD k) (.tuple ht (.cons (.str _ _) (.cons (.int _ _) .nil))) (ok_sym k)
  have l := kqd_layL (ok_items8 ks c)
  have ld := kqd_lay 8 _ (ok_sym k)
  have e : ((kqdPs (ks.map symD ++ tailD c)).any fun y => PyData.eqv y (kqdP (symD k))) = decide (k ∈ ks) := by
    have q := kqd_any _ (symD k) (ok_items8 ks c) (ok_sym k)
    have q2 : symD k ∈ ks.map symD ++ tailD c ↔ k ∈ ks := by
      constructor
      · intro hh
        rcases List.mem_append.mp hh with hh | hh
        · obtain ⟨j, hj, e⟩ := List.mem_map.mp hh
          rw [← symD_inj e]; exact hj
        · cases c with
          | false => simp [tailD] at hh
          | true => simp [tailD, symD] at hh
      · intro hh
        exact List.mem_append_left _ (List.mem_map.mpr ⟨k, hh, rfl⟩)
    by_cases hq : k ∈ ks
    · rw [decide_eq_true hq]; exact q.mpr (q2.mpr hq)
    · rw [decide_eq_false hq]; exact Bool.eq_false_iff.mpr fun z => hq (q2.mp (q.mp z))
  have l2 := ld.2
  refine SeqAt.in_tuple_reads (reads_tuple_at (N.get hm) rfl rfl (by simpa using ra)) rx l.1 ld.1 ?_ (by rw [e]; exact h)
  have := Nat.min_le_right (PyData.depthAll (kqdPs (ks.map symD ++ tailD c))) (kqdP (symD k)).depth
  omega
end
theorem none_ne_lstD {ks : List Int} {b : Bool} : Dat.none ≠ lstD ks b := fun e => by simp [lstD] at e
theorem tru_ne_lstD {x : Bool} {ks : List Int} {b : Bool} : Dat.bool x ≠ lstD ks b := fun e => by simp [lstD] at e
theorem int_ne_lstD {i : Int} {ks : List Int} {b : Bool} : Dat.int i ≠ lstD ks b := fun e => by simp [lstD] at e
theorem none_ne_prD : Dat.none ≠ prD := fun e => by simp [prD] at e
theorem tru_ne_prD {x : Bool} : Dat.bool x ≠ prD := fun e => by simp [prD] at e
theorem int_ne_prD {i : Int} : Dat.int i ≠ prD := fun e => by simp [prD] at e
end
section
open PySem.AutoSeq1 PySem.MeetsSeq PySem.SeqAt
theorem tuple_indexAt (l : Addr) (items : Array Value) (n : Nat) (dd : Option Addr) (sl : Array (Option Value)) (x : Value) (e : Value → Bool) (j : Nat) (hj : j < items.size)
    (hit : e items[j] = true) (hno : ∀ m (hm : m < items.size), m < j → e items[m] = false) :
    Meets (Builtin.«tuple.index» ⟨[.ref l, x], []⟩)
      (fun A R s => s.heap.get? l = some { cls := .type "tuple", dict := dd, data := .seq items n, slots := sl } ∧ (∀ y, y ∈ items → EqAt A.in1 s y x (e y)) ∧ R (.ok (.ret (.int j s.toks))) { s with toks := s.toks + 1 }) :=
  .of_wp fun prog w A R s h => by
    obtain ⟨hp, g, d, tk, os⟩ := s; obtain ⟨hl, he, h⟩ := h
    unfold Builtin.«tuple.index»
    simp only [Std.Legacy.Range.forIn_eq_forIn_range']
    wp_walk using wpAny_loadPart' hl, wpAny_forIn_list _ (fun rest b s' => b.1 = none ∧ s' = ⟨hp, g, d, tk, os⟩ ∧ ∃ i, rest = List.range' i (items.size - i) ∧ i ≤ j) _
    case turn =>
      rintro i rest b s' ⟨hb, rfl, k, he1, hk⟩
      have hks : items.size - k = (items.size - (k + 1)) + 1 := by omega
      rw [hks, List.range'_succ] at he1
      obtain ⟨rfl, rfl⟩ := List.cons.inj he1
      have hx : items[i]? = some items[i] := Array.getElem?_eq_getElem (by omega)
      rw [hx]
      dsimp only
      refine wpAny_bind (he items[i] (Array.getElem_mem (by omega)) prog w _ _ ?_)
      rcases Nat.lt_or_eq_of_le hk with hlt | rfl
      · rw [hno i (by omega) hlt]
        wp_walk
        exact ⟨rfl, rfl, i + 1, rfl, hlt⟩
      · rw [hit]
        wp_walk
        exact ⟨_, rfl, h⟩
    case fin =>
      rintro ⟨b1, b2⟩ s' ⟨hb, rfl, k, he1, hk⟩
      have : items.size - k = (items.size - (k + 1)) + 1 := by omega
      rw [this, List.range'_succ] at he1
      cases he1
    case h =>
      refine ⟨rfl, rfl, 0, ?_, Nat.zero_le _⟩
      simp
section
variable {prog : Program} {w : World} {A : Around} {E : Value → Shared → Prop} {s : Shared} {h₀ : Heap} {L : Addr} {m : Str → Option Value} {K : Frag}
theorem tupIdx_method {a : Addr} {n : Nat} {l : Array Value} {sl : Array (Option Value)} {pl : Sem Bool} {Q : Value × List Value → Shared → Prop} (F : Fr h₀ L s.heap m) (X₀ : K.In h₀) (hl : K.lookup a = some ⟨.type "tuple", none, .seq l n, sl⟩) (h : Q (.builtin "tuple.index", [.ref a]) s) :
    wpAny (model prog w) A (getMethod (.ref a) (Str.ofString "index") pl) Q E s := by
  have ho : s.heap.get? a = some ⟨.type "tuple", none, .seq l n, sl⟩ := X₀.keeps F.keep _ _ hl
  exact getMethod_builtin (T := "tuple") ⟨_, ho, rfl⟩ PySem.F.plainAttrs_tuple PySem.F.slot_tuple_index PySem.F.type_tuple_index (fun b hb => by cases hb; exact ⟨_, ho, rfl⟩) h
theorem tupIdx_call {a : Addr} {n j : Nat} {l : List Value} {xs : List Str} {sl : Array (Option Value)} {x : Str} {u : Tok} {Q : Value → Shared → Prop} (F : Fr h₀ L s.heap m) (X₀ : K.In h₀) (hl : K.lookup a = some ⟨.type "tuple", none, .seq l.toArray n, sl⟩)
    (hs : StrsAre l xs) (hj : xs[j]? = some x) (hno : ∀ k y, k < j → xs[k]? = some y → y ≠ x) (h : Q (.int j s.toks) { s with toks := s.toks + 1 }) :
    wpAny (model prog w) A (call (.builtin "tuple.index") [.ref a, .str x u]) Q E s := by
  have ho : s.heap.get? a = some ⟨.type "tuple", none, .seq l.toArray n, sl⟩ := X₀.keeps F.keep _ _ hl
  have at' : ∀ {l : List Value} {xs : List Str}, StrsAre l xs → ∀ (k : Nat) (v : Value), l[k]? = some v → ∃ y t, v = .str y t ∧ xs[k]? = some y := by
    intro l xs hs
    induction hs with
    | nil => intro k v e; simp at e
    | cons y t r ih =>
      intro k v e
      cases k with
      | zero => exact ⟨y, t, by simpa using e.symm, rfl⟩
      | succ k => simpa using ih k v (by simpa using e)
  have hjl : j < l.length := by rw [hs.length]; exact (List.getElem?_eq_some_iff.mp hj).1
  let e : Value → Bool := fun v => match v with | .str y _ => y == x | _ => false
  refine call_meets PySem.F.slot_tuple_index ⟨_, ho, rfl⟩ PySem.F.entry_tuple_index (PySem.F.args_tuple_index_2 _ _) (tuple_indexAt a l.toArray n none sl (.str x u) e j (by simpa using hjl) ?_ ?_) ⟨ho, fun y hy => ?_, h⟩
  · obtain ⟨y, t, e1, e2⟩ := at' hs j l[j] (List.getElem?_eq_getElem hjl)
    rw [hj] at e2
    cases e2
    show e l.toArray[j] = true
    rw [List.getElem_toArray, e1]
    show (x == x) = true
    simp
  · intro k hk hlt
    have hk' : k < l.length := by simpa using hk
    obtain ⟨y, t, e1, e2⟩ := at' hs k l[k] (List.getElem?_eq_getElem hk')
    show e l.toArray[k] = false
    rw [List.getElem_toArray, e1]
    show (y == x) = false
    have := hno k y hlt e2
    simpa using this
  · obtain ⟨k, hk, rfl⟩ := List.getElem_of_mem (by simpa using hy : y ∈ l)
    obtain ⟨y', t, e1, e2⟩ := at' hs k l[k] (List.getElem?_eq_getElem hk)
    rw [e1]
    exact (eqGives_str y' x t u).at _ _
end
abbrev namesL : List Str := [Str.ofString "category", Str.ofString "front-sticky", Str.ofString "rear-nonsticky", Str.ofString "evaporate", Str.ofString "priority"]
theorem names_no {j : Nat} {x : Str} (hj : namesL[j]? = some x) : ∀ k y, k < j → namesL[k]? = some y → y ≠ x := by
  have d : namesL.Nodup := by decide +kernel
  intro k y hk e he
  subst he
  have h1 := List.getElem?_eq_some_iff.mp hj
  have h2 := List.getElem?_eq_some_iff.mp e
  obtain ⟨a1, b1⟩ := h1
  obtain ⟨a2, b2⟩ := h2
  exact List.pairwise_iff_getElem.mp d k j a2 a1 hk (b2.trans b1.symm)
end
section
section
open PyProof.Rows.LCg
variable {prog : Program} {w : World} {A : Around} {E : Value → Shared → Prop} {s : Shared} {h₀ : Heap} {L : Addr} {m : Str → Option Value} {env : Env}
/-- a tuple of the ground, walked by a comprehension -/
def TupSrc (prog : Program) (w : World) (A : Around) (h₀ : Heap) (L : Addr) (m : Str → Option Value) (env : Env) (elt : PySem.Expr) (x : Str) (scope : Scope) (cl : List (Str × Addr)) (Q : Value → Shared → Prop) (xv : Value) (s₁ : Shared) : Prop :=
  ∃ (tx : Addr) (vs : List Value) (news : List (Addr × Obj)), xv = .ref tx ∧ A.handled = none ∧ Fr h₀ L s₁.heap m ∧ News h₀ L s₁.heap news ∧ h₀.IsTuple tx vs.toArray ∧ vs.length ≤ 1000 ∧
    ∀ g : Heap, CompRest prog w A h₀ L m env elt x scope cl { s₁ with heap := g } (fun _ => True) (fun i v => vs[i]? = some v) (FinE h₀ L m { s₁ with heap := g } Q) vs.length 0 [] news
theorem TupSrc.intro {elt : PySem.Expr} {x : Str} {scope : Scope} {cl : List (Str × Addr)} {Q : Value → Shared → Prop} {s₁ : Shared} {tx : Addr} {vs : List Value} {news : List (Addr × Obj)} (hh : A.handled = none) (F : Fr h₀ L s₁.heap m) (N : News h₀ L s₁.heap news) (ht : h₀.IsTuple tx vs.toArray) (hz : vs.length ≤ 1000)
    (R : ∀ g : Heap, CompRest prog w A h₀ L m env elt x scope cl { s₁ with heap := g } (fun _ => True) (fun i v => vs[i]? = some v) (FinE h₀ L m { s₁ with heap := g } Q) vs.length 0 [] news) : TupSrc prog w A h₀ L m env elt x scope cl Q (.ref tx) s₁ :=
  ⟨tx, vs, news, rfl, hh, F, N, ht, hz, R⟩
theorem ListComp_tup {elt iter : PySem.Expr} {x : Str} {px : Pos} {scope : Scope} {cl : List (Str × Addr)} {pos : Pos} {Q : Value → Shared → Prop} (_F₀ : Fr h₀ L s.heap m)
    (hclos : closureFor scope env = pure cl) (hcell : ∀ y ∈ scope.names, y.2 ≠ .cell) (hkind : scope.kind = .function)
    (hnames : ∀ y ∈ scope.names, y.2 = .local → scope.names.lookup y.1 = some .local) (hx : scope.names.lookup x = some .local)
    (h : wpAny (model prog w) A (eval iter env) (TupSrc prog w A h₀ L m env elt x scope cl Q) E s)
    (hs : ∀ x, foldedSetIterable iter env x = pure x := by intro _; rfl) :
    wpAny (model prog w) A (eval (.ListComp elt [⟨.Name x px, iter, [], 0⟩] scope pos) env) Q E s := by
  rw [eval_ListComp]
  refine wpAny_comprehension_free (use := none) rfl hs hclos hkind hnames (wpAny_mono h (fun xv s₁ h₁ => ?_) fun _ _ e => e)
  obtain ⟨tx, vs, news, rfl, hh, F, N, ht0, hz, R⟩ := h₁
  have ht : s₁.heap.IsTuple tx vs.toArray := ht0.at fun o e => F.keep _ o e
  have hlt : tx < s₁.heap.objs.size := by obtain ⟨_, e, _⟩ := ht; exact Heap.lt_size e
  refine wpAny_pyIter_tuple ht ?_
  have up : ∀ b o, s₁.heap.get? b = some o → (s₁.heap.push { cls := .type "tuple_iterator", data := .fields #[.ref tx, .int 0 0] }).get? b = some o := fun b o e => Heap.get?_push_of_some _ e
  have W := Walks.tuple (prog := prog) (w := w) hh s₁.heap.objs.size tx (Nat.ne_of_lt hlt) vs.toArray
  have new0 : h₀.get? s₁.heap.objs.size = none := by
    cases e : h₀.get? s₁.heap.objs.size with
    | none => rfl
    | some o => exact absurd (Heap.lt_size (F.keep _ o e)) (Nat.lt_irrefl _)
  have R' := R (s₁.heap.push { cls := .type "tuple_iterator", data := .fields #[.ref tx, .int 0 0] })
  refine block_U (h₀ := h₀) (L := L) (m := m) (n := vs.length) (P := fun i v => vs[i]? = some v) (S := fun _ => True) (by simpa using W) (by rw [sizeLine_eq]; omega) (fun i h st => by obtain ⟨o, e, _⟩ := st.1; exact ⟨o, e⟩) ?_ hcell hkind hx ?_ (fun b hb => ?_)
    (F.keeps up) (fun p hp => ⟨up _ _ (N p hp).1, (N p hp).2⟩) (Nat.ne_of_lt F.ns.lt) new0 (fun p hp => Nat.ne_of_lt (Heap.lt_size (N p hp).1)) trivial R' ?_
  · intro i h h' o nw st e e' k Nw _
    obtain ⟨⟨o', q, r⟩, _⟩ := st
    rw [e] at q
    cases q
    exact ⟨⟨o, e', r⟩, ht0.at fun o e => k _ o e⟩
  · exact ⟨⟨_, Heap.get?_push_size _ rfl, rfl, rfl⟩, ht.at fun o e => up _ o e⟩
  · show b < (s₁.heap.push _).objs.size
    rw [Heap.size_push]
    rcases List.mem_cons.mp hb with rfl | hb
    · exact Nat.lt_succ_self _
    · rw [List.mem_singleton.mp hb]; exact Nat.lt_succ_of_lt hlt
  · intro D C h tk m' ys news' F' N' o1 hn hC₀ hD₀ hCL hDL hCD offC fin
    refine ⟨m', hn, fun h'' hs'' => fin D h'' tk (F'.change hs'' hCL hC₀) (fun p hp => ?_) o1⟩
    refine ⟨hs''.extBut _ _ ?_ (N' p hp).1, (N' p hp).2⟩
    rcases List.mem_cons.mp hp with rfl | hp
    · exact Ne.symm hCD
    · exact offC p hp
/-- the same invariant, where a turn keeps the ledger -/
theorem compU_indK {elt : PySem.Expr} {x : Str} {scope : Scope} {cl : List (Str × Addr)} {S : List (Addr × Obj) → Prop} {P : Nat → Value → Prop} {Fin : List Value → List (Addr × Obj) → Prop} {n : Nat} {news₀ : List (Addr × Obj)}
    (Inv : Nat → List Value → Prop) (h0 : Inv 0 [])
    (step : ∀ i ys v I oI C oC D m₂ h tk (E' : Value → Shared → Prop), i < n → Inv i ys → P i v → NsObj oC m₂ → m₂ x = some v → Fr h₀ L h m → News h₀ L h ((I, oI) :: (C, oC) :: (D, lst ys) :: news₀) → Off3 I C D news₀ → ((@Ne Nat I C) ∧ (@Ne Nat I D) ∧ (@Ne Nat C D)) →
      wpAny (model prog w) A (eval elt (compEnvC scope cl C env)) (CompEnd h₀ L m { s with heap := h, toks := tk } I oI C oC D (lst ys) S (fun y news' => news' = news₀ ∧ Inv (i + 1) (ys ++ [y]))) E' { s with heap := h, toks := tk })
    (fin : ∀ ys, Inv n ys → Fin ys news₀) : CompRest prog w A h₀ L m env elt x scope cl s S P Fin n 0 [] news₀ := by
  refine compU_ind (fun i ys news => news = news₀ ∧ Inv i ys) ⟨rfl, h0⟩ ?_ ?_
  · rintro i ys news v I oI C oC D m₂ h tk E' hi ⟨rfl, hI⟩ hP hC hx F N off ne
    exact step i ys v I oI C oC D m₂ h tk E' hi hI hP hC hx F N off ne
  · rintro ys news ⟨rfl, hI⟩
    exact fin ys hI
theorem ints_same {Q : Value → Shared → Prop} {news : List (Addr × Obj)} {a b : Addr} {xs ys : List Value} {n k : Nat} {ks : List Int} (N : News h₀ L s.heap news) (ha : (a, listOf xs.toArray n) ∈ news) (hb : (b, listOf ys.toArray k) ∈ news) (hx : IntsAre xs ks) (hy : IntsAre ys ks) (hu : A.units + 64 < cLine) (h : Q (.bool false) s) :
    wpAny (model prog w) A (compareOp .NotEq (.ref a) (.ref b)) Q E s := by
  have ok : ∀ d ∈ ks.map Dat.int, kqdOk 8 d = true := fun d hd => by
    obtain ⟨i, _, rfl⟩ := List.mem_map.mp hd
    rfl
  refine kqd_ne N ha rfl rfl (ints_datAll hx) (fun _ h => h) hb rfl rfl (ints_datAll hy) (fun _ h => h) ok ok hu ?_
  simpa using h
end
theorem strs_at {l : List Value} {xs : List Str} (hs : StrsAre l xs) : ∀ (k : Nat) (v : Value), l[k]? = some v → ∃ y t, v = .str y t ∧ xs[k]? = some y := by
  induction hs with
  | nil => intro k v e; simp at e
  | cons y t r ih =>
    intro k v e
    cases k with
    | zero => exact ⟨y, t, by simpa using e.symm, rfl⟩
    | succ k => simpa using ih k v (by simpa using e)
/-- first, first + 1, ... -/
def upFrom (fi : Int) (i : Nat) : List Int := (List.range i).map fun (k : Nat) => fi + (k : Int)
theorem upFrom_succ (fi : Int) (i : Nat) : upFrom fi (i + 1) = upFrom fi i ++ [fi + (i : Int)] := by
  simp [upFrom, List.range_succ]
/-- a goal where the walk stands -/
def Stop (P : Prop) : Prop := P
theorem stop_of {P : Prop} (h : Stop P) : P := h
end
section
/-- names that a turn may store -/
def Upto (ts : List Str) (m₀ m : Str → Option Value) : Prop := ∀ y, y ∉ ts → m y = m₀ y
theorem Upto.refl (ts : List Str) (m₀ : Str → Option Value) : Upto ts m₀ m₀ := fun _ _ => rfl
theorem Upto.set {ts : List Str} {m₀ m : Str → Option Value} {x : Str} {v : Option Value} (hx : x ∈ ts) (h : Upto ts m₀ m) : Upto ts m₀ (fun y => if y = x then v else m y) := fun y hy => by
  have : y ≠ x := fun e => hy (e ▸ hx)
  simp only [if_neg this]
  exact h y hy
abbrev lapN : List Str := [(Str.ofString "lap"), (Str.ofString "own"), (Str.ofString "category"), (Str.ofString "plist"), (Str.ofString "number"), (Str.ofString "further"), (Str.ofString "value"), (Str.ofString "due")]
abbrev numN : List Str := [(Str.ofString "number"), (Str.ofString "further")]
/-- the defaults: ints under keys below 106 -/
def DfltOk (kvs : List (Int × Value)) : Prop := ∀ k v, valueAt kvs k = some v → k < 106 ∧ ∃ x t, v = .int x t
theorem valueAt_cons' {p : Int × Value} {l : List (Int × Value)} {j : Int} : valueAt (p :: l) j = if p.1 = j then some p.2 else valueAt l j := by
  unfold valueAt
  rw [List.find?_cons]
  by_cases h : p.1 = j <;> simp [h]
theorem valueAt_map1 {k j : Int} {v : Value} (hj : ¬ j = k) : ∀ l : List (Int × Value), valueAt (l.map fun kv => if kv.1 = k then (kv.1, v) else kv) j = valueAt l j
  | [] => rfl
  | p :: l => by
    rw [List.map_cons, valueAt_cons', valueAt_cons', valueAt_map1 hj l]
    by_cases hp : p.1 = k
    · rw [if_pos hp]
      have : ¬ p.1 = j := fun e => hj (e.symm.trans hp)
      rw [if_neg this, if_neg this]
    · rw [if_neg hp]
theorem valueAt_map2 {k : Int} {v : Value} : ∀ l : List (Int × Value), (∃ p ∈ l, p.1 = k) → valueAt (l.map fun kv => if kv.1 = k then (kv.1, v) else kv) k = some v
  | [], h => by obtain ⟨p, hp, _⟩ := h; cases hp
  | p :: l, h => by
    rw [List.map_cons, valueAt_cons']
    by_cases hp : p.1 = k
    · rw [if_pos hp, if_pos hp]
    · rw [if_neg hp, if_neg hp]
      refine valueAt_map2 l ?_
      obtain ⟨q, hq, e⟩ := h
      rcases List.mem_cons.mp hq with rfl | hq
      · exact absurd e hp
      · exact ⟨q, hq, e⟩
theorem valueAt_app {k j : Int} {v : Value} : ∀ l : List (Int × Value), (∀ p ∈ l, ¬ p.1 = k) → valueAt (l ++ [(k, v)]) j = if j = k then some v else valueAt l j
  | [], _ => by
    rw [List.nil_append, valueAt_cons']
    by_cases h : j = k
    · rw [if_pos h, if_pos h.symm]
    · rw [if_neg h, if_neg (fun e => h e.symm)]
  | p :: l, h => by
    rw [List.cons_append, valueAt_cons', valueAt_cons', valueAt_app l fun q hq => h q (.tail _ hq)]
    by_cases hj : j = k
    · rw [if_pos hj, if_neg (fun e => h p (.head _) (e.trans hj)), if_pos hj]
    · rw [if_neg hj, if_neg hj]
theorem valueAt_stored {kvs : List (Int × Value)} {k j : Int} {v : Value} : valueAt (stored kvs k v) j = if j = k then some v else valueAt kvs j := by
  unfold stored
  by_cases h : kvs.any (fun kv => kv.1 = k) = true
  · rw [if_pos h]
    have h' : ∃ p ∈ kvs, p.1 = k := by simpa using h
    by_cases hj : j = k
    · rw [if_pos hj, hj]; exact valueAt_map2 kvs h'
    · rw [if_neg hj]; exact valueAt_map1 hj kvs
  · rw [if_neg h]
    have h' : ∀ p ∈ kvs, ¬ p.1 = k := by
      intro p hp e
      exact h (List.any_eq_true.mpr ⟨p, hp, by simpa using e⟩)
    exact valueAt_app kvs h'
theorem DfltOk.set {kvs : List (Int × Value)} {k x : Int} {t : Tok} (h : DfltOk kvs) (hk : k < 106) : DfltOk (stored kvs k (.int x t)) := fun j v e => by
  rw [valueAt_stored] at e
  by_cases hj : j = k
  · rw [if_pos hj] at e; cases e; exact ⟨hj ▸ hk, x, t, rfl⟩
  · rw [if_neg hj] at e; exact h j v e
/-- what a lap of the law finds -/
inductive LapLed (w : World) (li ru pd dd dk lc : Addr) (fi : Int) (pl : Int → List (Int × Dat)) (i : Nat) (news : List (Addr × Obj)) : Prop where
  | mk (bag : List (Addr × Obj)) (o1 o2 oc : Obj) (kvs1 kvs2 : List (Int × Value)) (vs : List Value) (n : Nat) : (∀ p ∈ (pd, o1) :: (dd, o2) :: (dk, listOf vs.toArray n) :: bag, p ∈ news) →
    (o1.IsDictOf (PySem.intKind Pr w) kvs1) →
    (PlistsIn bag kvs1 pl) →
    (o2.IsDictOf (PySem.intKind Pr w) kvs2) →
    (DfltOk kvs2) →
    (kvs2.length ≤ i) →
    (DeckOk vs) →
    (LispAt w bag li fi pd) →
    (RulesAt w bag ru li fi dd) →
    ((lc, oc) ∈ bag) →
    (oc.data = .cell (some (.ref li))) →
    (∀ p ∈ bag, p.1 ≠ pd) →
    (∀ p ∈ bag, p.1 ≠ dd) →
    (∀ p ∈ bag, p.1 ≠ dk) → LapLed w li ru pd dd dk lc fi pl i news
/-- the three categories' rows -/
def rows3 (a b c : List (Int × Dat)) (k : Int) : List (Int × Dat) := if k = 102 then c else if k = 101 then b else if k = 100 then a else []
theorem plists3 {m1 m2 m3 : List (Addr × Obj)} {D1 D2 D3 : Addr} {w1 w2 w3 : List Value} {k1 k2 k3 : Nat} {r1 r2 r3 : List (Int × Dat)} {bag : List (Addr × Obj)}
    (h1 : (D1, listOf w1.toArray k1) ∈ m1) (h2 : (D2, listOf w2.toArray k2) ∈ m2) (h3 : (D3, listOf w3.toArray k3) ∈ m3) (g1 : RowsIn m1 w1 r1) (g2 : RowsIn m2 w2 r2) (g3 : RowsIn m3 w3 r3)
    (l1 : r1.length ≤ 4) (l2 : r2.length ≤ 4) (l3 : r3.length ≤ 4) (s1 : ∀ p ∈ m1, p ∈ bag) (s2 : ∀ p ∈ m2, p ∈ bag) (s3 : ∀ p ∈ m3, p ∈ bag) :
    PlistsIn bag (stored [(100, .ref D1), (101, .ref D2)] 102 (.ref D3)) (rows3 r1 r2 r3) := by
  intro k
  rw [valueAt_stored]
  unfold rows3
  by_cases e3 : k = 102
  · rw [if_pos e3, if_pos e3]
    exact .inr ⟨D3, w3, k3, rfl, s3 _ h3, g3.mono s3, by omega⟩
  · rw [if_neg e3, if_neg e3, valueAt_cons', valueAt_cons']
    by_cases e2 : k = 101
    · have : ¬ (100 : Int) = k := by omega
      rw [if_neg this, if_pos e2.symm, if_pos e2]
      exact .inr ⟨D2, w2, k2, rfl, s2 _ h2, g2.mono s2, by omega⟩
    · have n2 : ¬ (101 : Int) = k := fun e => e2 e.symm
      rw [if_neg n2, if_neg e2]
      by_cases e1 : k = 100
      · rw [if_pos e1.symm, if_pos e1]
        exact .inr ⟨D1, w1, k1, rfl, s1 _ h1, g1.mono s1, by omega⟩
      · rw [if_neg (fun e => e1 e.symm), if_neg e1]
        exact .inl ⟨rfl, rfl⟩
section
variable {prog : Program} {w : World} {A : Around} {E : Value → Shared → Prop} {s : Shared} {env : Env} {h₀ : Heap} {x : Str} {body : List Stmt} {Q : Flow → Shared → Prop}
end
end
section
/-- a run of statements, cut in two -/
def CutPost (P : Shared → Prop) (Q : Flow → Shared → Prop) (f : Flow) (s : Shared) : Prop := match f with
  | .next => P s
  | .ret v => Q (.ret v) s
  | .brk => Q .brk s
  | .cont => Q .cont s
theorem cut_next {P : Shared → Prop} {Q : Flow → Shared → Prop} {s : Shared} (h : P s) : CutPost P Q .next s := h
theorem cut_wp {M : Model} {Γ : Ctx} {E : Value → Pos → Shared → Prop} {env : Env} {Q : Flow → Pos → Shared → Prop} : ∀ (k : Nat) (l : List Stmt) (p : Pos) (s : Shared),
    Sem.wp M Γ (execs (l.take k) env) (fun f p' s' => match f with | .next => Sem.wp M Γ (execs (l.drop k) env) Q E p' s' | f => Q f p' s') E p s → Sem.wp M Γ (execs l env) Q E p s
  | 0, l, p, s, h => h
  | k + 1, [], p, s, h => h
  | k + 1, a :: l, p, s, h => by
    rw [List.take_succ_cons, execs_cons, Sem.wp_bind'] at h
    rw [execs_cons, Sem.wp_bind']
    refine Sem.wp_mono M Γ _ (fun f p' s' h' => ?_) (fun _ _ _ h' => h') _ _ h
    cases f with
    | next => exact cut_wp k l p' s' h'
    | ret v => exact h'
    | brk => exact h'
    | cont => exact h'
theorem cut_at {M : Model} {A : Around} {E : Value → Shared → Prop} {s : Shared} {env : Env} {Q : Flow → Shared → Prop} (k : Nat) {l : List Stmt} (P : Shared → Prop) (h1 : wpAny M A (execs (l.take k) env) (CutPost P Q) E s)
    (h2 : ∀ s', P s' → wpAny M A (execs (l.drop k) env) Q E s') : wpAny M A (execs l env) Q E s := fun Γ p hΓ =>
  cut_wp k l p s (Sem.wp_mono M Γ _ (fun f p' s' h' => by
    cases f with
    | next => exact h2 s' h' Γ p' hΓ
    | ret v => exact h'
    | brk => exact h'
    | cont => exact h') (fun _ _ _ h' => h') _ _ (h1 Γ p hΓ))
section
variable {prog : Program} {w : World} {A : Around} {E : Value → Shared → Prop} {s : Shared} {env : Env} {h₀ : Heap} {x : Str} {body : List Stmt} {Q : Flow → Shared → Prop}
/-- the laps, where a turn knows the iterator apart from the ledger -/
theorem range_lapI {I : Addr} {a : Int} {n : Nat} {m₀ : Str → Option Value} {news₀ : List (Addr × Obj)} (ts : List Str) (P : Nat → List (Addr × Obj) → Prop) (h0 : P 0 news₀) (hI : ∀ p ∈ news₀, p.1 ≠ I)
    (step : ∀ i m news, i < n → P i news → (∀ p ∈ news, p.1 ≠ I) → Upto ts m₀ m → ∀ t h tk, Fr h₀ env.locals h (fun y => if y = x then some (.int (a + (i : Int)) t) else m y) →
      News h₀ env.locals h ((I, itR (a + ((i + 1 : Nat) : Int)) ((n : Int) - ((i + 1 : Nat) : Int))) :: news) →
      wpAny (model prog w) A (execs body env) (UnrPost h₀ env.locals { s with heap := h, toks := tk } I (itR (a + ((i + 1 : Nat) : Int)) ((n : Int) - ((i + 1 : Nat) : Int))) (fun m' news' => P (i + 1) news' ∧ Upto ts m₀ m') Q) E { s with heap := h, toks := tk })
    (done : ∀ m news, P n news → Upto ts m₀ m → ∀ h tk, Fr h₀ env.locals h m → News h₀ env.locals h news → Q .next { s with heap := h, toks := tk }) :
    RangeRest prog w A E h₀ env x body Q s I a n n 0 m₀ news₀ := by
  refine range_ind (fun i m news => (P i news ∧ Upto ts m₀ m) ∧ ∀ p ∈ news, p.1 ≠ I) ⟨⟨h0, Upto.refl _ _⟩, hI⟩ (fun i m news hi hP t h tk F N => wpAny_mono (step i m news hi hP.1.1 hP.2 hP.1.2 t h tk F N) (fun f s₂ q => ?_) fun _ _ e => e)
    fun m news hP h tk F N => done m news hP.1.1 hP.1.2 h tk F N
  have up : UnrEnd h₀ env.locals { s with heap := h, toks := tk } I (itR (a + ((i + 1 : Nat) : Int)) ((n : Int) - ((i + 1 : Nat) : Int))) (fun m' news' => P (i + 1) news' ∧ Upto ts m₀ m') s₂ →
      UnrEnd h₀ env.locals { s with heap := h, toks := tk } I (itR (a + ((i + 1 : Nat) : Int)) ((n : Int) - ((i + 1 : Nat) : Int))) (fun m' news' => (P (i + 1) news' ∧ Upto ts m₀ m') ∧ ∀ p ∈ news', p.1 ≠ I) s₂ := by
    rintro ⟨h', tk', m', news', e, F', N', ho, r⟩
    exact ⟨h', tk', m', news', e, F', N', ho, r, ho⟩
  cases f with
  | ret v => exact q
  | brk => exact q
  | next => exact up q
  | cont => exact up q
end
noncomputable def fnAt (p : Params) (a : Nat) : Option FuncData := match (hd.heap_39 p).lookup a with
  | some o => match o.data with
    | .func fd => some fd
    | _ => none
  | none => none
noncomputable def bodyAt (p : Params) (a : Nat) : List Stmt := match fnAt p a with
  | some fd => match fd.body with
    | .stmts b => b
    | _ => []
  | none => []
noncomputable def scopeOf (p : Params) (a : Nat) (d : Scope) : Scope := match fnAt p a with
  | some fd => fd.scope
  | none => d
/-- the body of the last loop -/
def lapOf : List Stmt → List Stmt
  | [] => []
  | .For _ _ b _ _ :: r => match lapOf r with
    | [] => b
    | l => l
  | _ :: r => lapOf r
/-- the law's laps -/
noncomputable def lapBody (p : Params) : List Stmt := lapOf (bodyAt p 197)
noncomputable def lawEnv (p : Params) (d : Scope) (L fa : Addr) (cdv : Value) : Env := envOfC (Str.ofString "law") (scopeOf p 197 d) L fa cdv
/-- a category's rows: none, a symbol, five -/
def CatOk (fi : Int) (rc : List (Int × Dat)) : Prop := rc = [] ∨ (∃ j, 100 ≤ j ∧ j < 105 ∧ rc = [(fi, symD j)]) ∨ rc = [(fi, .int 5)]
/-- a lap's ledger: the iterator, the two dicts, the deck, and the rest -/
structure Bag (w : World) (I pd dd dk li ru lc : Addr) (fi : Int) (oc : Obj) (kvs1 : List (Int × Value)) (pl : Int → List (Int × Dat)) (bag : List (Addr × Obj)) : Prop where
  plists : PlistsIn bag kvs1 pl
  lisp : LispAt w bag li fi pd
  rules : RulesAt w bag ru li fi dd
  cell : (lc, oc) ∈ bag
  offI : ∀ p ∈ bag, p.1 ≠ I
  offp : ∀ p ∈ bag, p.1 ≠ pd
  offd : ∀ p ∈ bag, p.1 ≠ dd
  offk : ∀ p ∈ bag, p.1 ≠ dk
theorem Bag.grow {w : World} {I pd dd dk li ru lc : Addr} {fi : Int} {oc : Obj} {kvs1 : List (Int × Value)} {pl : Int → List (Int × Dat)} {bag bag' : List (Addr × Obj)} (B : Bag w I pd dd dk li ru lc fi oc kvs1 pl bag) (s : ∀ p ∈ bag, p ∈ bag')
    (h1 : ∀ p ∈ bag', p.1 ≠ I) (h2 : ∀ p ∈ bag', p.1 ≠ pd) (h3 : ∀ p ∈ bag', p.1 ≠ dd) (h4 : ∀ p ∈ bag', p.1 ≠ dk) : Bag w I pd dd dk li ru lc fi oc kvs1 pl bag' where
  plists := B.plists.mono s
  lisp := B.lisp.mono s
  rules := B.rules.mono s
  cell := s _ B.cell
  offI := h1
  offp := h2
  offd := h3
  offk := h4
/-- four places apart -/
structure Apart (I pd dd dk : Addr) : Prop where
  a1 : @Ne Nat I pd
  a2 : @Ne Nat I dd
  a3 : @Ne Nat I dk
  a4 : @Ne Nat pd dd
  a5 : @Ne Nat pd dk
  a6 : @Ne Nat dd dk
abbrev topM (dk ru : Addr) (m : Str → Option Value) : Str → Option Value := fun y => if y = (Str.ofString "deck") then some (.ref dk) else if y = (Str.ofString "rules") then some (.ref ru) else m y
theorem rows_len {led : List (Addr × Obj)} {vs : List Value} {rows : List (Int × Dat)} (h : RowsIn led vs rows) (hl : rows.length ≤ 4) : vs.length ≤ 4 := by rw [h.length]; exact hl
theorem cat_len {fi : Int} {rc : List (Int × Dat)} (h : CatOk fi rc) : rc.length ≤ 1 := by
  rcases h with rfl | ⟨j, _, _, rfl⟩ | rfl <;> simp
theorem pull {h₀ h : Heap} {L : Addr} {front back : List (Addr × Obj)} {a b c d : Addr × Obj} (N : News h₀ L h (front ++ (a :: b :: c :: d :: back))) : News h₀ L h (a :: b :: c :: d :: (front ++ back)) := cb_drop N fun p hp => by
  simp only [List.mem_cons, List.mem_append] at hp ⊢
  rcases hp with hp | hp | hp | hp | hp | hp <;> simp [hp]
/-- behind the lap's first two statements -/
inductive MidC (w : World) (h₀ : Heap) (L : Addr) (s₁ : Shared) (I pd dd dk li ru lc : Addr) (it o1 o2 oc : Obj) (fi : Int) (kvs1 : List (Int × Value)) (pl : Int → List (Int × Dat)) (m : Str → Option Value) (s : Shared) : Prop where
  | mk (h : Heap) (tk : Nat) (bag : List (Addr × Obj)) (vs : List Value) (n : Nat) (o c : Addr) (wo wc : List Value) (ko kc : Nat) (ro rc : List (Int × Dat)) : (s = { s₁ with heap := h, toks := tk }) →
    (Fr h₀ L h (fun y => if y = (Str.ofString "category") then some (.ref c) else if y = (Str.ofString "own") then some (.ref o) else if y = (Str.ofString "deck") then some (.ref dk) else if y = (Str.ofString "rules") then some (.ref ru) else m y)) →
    (News h₀ L h ((I, it) :: (pd, o1) :: (dd, o2) :: (dk, listOf vs.toArray n) :: bag)) →
    (Bag w I pd dd dk li ru lc fi oc kvs1 pl bag) →
    (DeckOk vs) →
    ((o, listOf wo.toArray ko) ∈ bag) →
    (RowsIn bag wo ro) →
    (ro.length ≤ 4) →
    (∀ q ∈ ro, KeyOk q.1) →
    ((c, listOf wc.toArray kc) ∈ bag) →
    (RowsIn bag wc rc) →
    (CatOk fi rc) → MidC w h₀ L s₁ I pd dd dk li ru lc it o1 o2 oc fi kvs1 pl m s
/-- behind the lap's first three statements -/
inductive MidA (w : World) (h₀ : Heap) (L : Addr) (s₁ : Shared) (I pd dd dk li ru lc : Addr) (it o1 o2 oc : Obj) (fi : Int) (kvs1 : List (Int × Value)) (pl : Int → List (Int × Dat)) (m : Str → Option Value) (s : Shared) : Prop where
  | mk (h : Heap) (tk : Nat) (bag : List (Addr × Obj)) (vs : List Value) (n : Nat) (o c p : Addr) (wo wc wp : List Value) (ko kc kp : Nat) (ro rc rp : List (Int × Dat)) : (s = { s₁ with heap := h, toks := tk }) →
    (Fr h₀ L h (fun y => if y = (Str.ofString "plist") then some (.ref p) else if y = (Str.ofString "category") then some (.ref c) else if y = (Str.ofString "own") then some (.ref o) else if y = (Str.ofString "deck") then some (.ref dk) else if y = (Str.ofString "rules") then some (.ref ru) else m y)) →
    (News h₀ L h ((I, it) :: (pd, o1) :: (dd, o2) :: (dk, listOf vs.toArray n) :: bag)) →
    (Bag w I pd dd dk li ru lc fi oc kvs1 pl bag) →
    (DeckOk vs) →
    ((o, listOf wo.toArray ko) ∈ bag) →
    (RowsIn bag wo ro) →
    (ro.length ≤ 4) →
    (∀ q ∈ ro, KeyOk q.1) →
    ((c, listOf wc.toArray kc) ∈ bag) →
    (RowsIn bag wc rc) →
    (CatOk fi rc) →
    ((p, listOf wp.toArray kp) ∈ bag) →
    (RowsIn bag wp rp) →
    ((rp = ro ++ rc ∨ rp = rc ++ ro)) → MidA w h₀ L s₁ I pd dd dk li ru lc it o1 o2 oc fi kvs1 pl m s
theorem tup_at1 {prog : Program} {w : World} {A : Around} {E : Value → Shared → Prop} {s : Shared} {h₀ : Heap} {L : Addr} {news : List (Addr × Obj)} {value slice : PySem.Expr} {l : Addr} {x y : Value} {vs : List Value} {n : Nat} {u : Tok} {Q : Value → Shared → Prop} (N : News h₀ L s.heap news) (hm : (l, tupO (x :: y :: vs) n) ∈ news) (h : Q y s)
    (hs : subscripted slice false (.ref l) (.int 1 u) = operate [.ref l, .int 1 u] (getItem (.ref l) (.int 1 u)) := by with_unfolding_all rfl) :
    wpAny (model prog w) A (subscriptTail value slice (.ref l) (.int 1 u)) Q E s :=
  item_tupleT (j := 1) (N.isTup hm) (by decide) (by decide) (by simp [seqIndex?]; omega) rfl h hs
theorem cut_mono {M : Model} {A : Around} {E : Value → Shared → Prop} {s : Shared} {tr : Sem Flow} {P : Shared → Prop} {Q : Flow → Shared → Prop} (h : wpAny M A tr (CutPost P Q) E s) (hn : ∀ s', P s' → Q .next s') : wpAny M A tr Q E s :=
  wpAny_mono h (fun f s' q => by
    cases f with
    | next => exact hn s' q
    | ret v => exact q
    | brk => exact q
    | cont => exact q) fun _ _ e => e
end
section
theorem words_D1_1 : True := by
  k_with_none
  k_with "k_enter" => (first | (refine' code_def ?k1z16 ?k2z16 ?k3z16 ?k4z16 ?k5z16 ?kAz16 ?kFz16 ?kKz16 ?k6z16 ?k7z16 ?k8z16 ?k9z16 ?kBz16 ?_ ?c2z16 ?c3z16 ?c4z16 ?c5z16; (case kAz16 => exact rfl); (case kFz16 => first | exact rfl | assumption); (case kKz16 => first | exact rfl | assumption); (case k1z16 => k_asm); (case k2z16 => k_asm); (case k3z16 => k_asm); (case k4z16 => k_asm); (case k5z16 => k_asm); (case k6z16 => k_is); (case k7z16 => k_is); (case k8z16 => k_room); (case k9z16 => first | exact BindsTo.of_eq rfl | exact binds_K (by k_in) rfl (by k_is) rfl rfl rfl | fail "k_enter: no rule for these arguments"); (case c5z16 => decide); (case kBz16 => exact locs rfl); (case c2z16 => exact rfl); (case c3z16 => exact rfl); (case c4z16 => exact rfl); k_whole; intro gw Lw hw FGw Fw Nw Bw Xw Tw; (try dsimp only); (try k_lift Bw); (try k_fold)) | (refine' code_defC ?k1z16 ?k2z16 ?k3z16 ?k4z16 ?k5z16 ?kAz16 ?kFz16 ?kKz16 ?k6z16 ?k7z16 ?k8z16 ?k9z16 ?kBz16 ?kDz16 ?_ ?c2z16 ?c3z16 ?c4z16; (case kAz16 => exact rfl); (case kFz16 => first | exact rfl | assumption); (case kKz16 => first | exact rfl | assumption); (case k1z16 => k_asm); (case k2z16 => k_asm); (case k3z16 => k_asm); (case k4z16 => k_asm); (case k5z16 => k_asm); (case k6z16 => k_is); (case k7z16 => k_is); (case k8z16 => k_room); (case k9z16 => first | exact BindsTo.of_eq rfl | exact binds_K (by k_in) rfl (by k_is) rfl rfl rfl | fail "k_enter: no rule for these arguments"); (case kBz16 => exact rfl); (case kDz16 => decide +kernel); (case c2z16 => exact rfl); (case c3z16 => exact rfl); (case c4z16 => exact rfl); k_whole; intro gw Lw hw tkw cellsw FGw Fw Nw Yw Bw Xw Tw l1w; (try k_lt l1w); k_cells Yw; (try simp only [List.cons_append, List.nil_append] at Nw); (try dsimp only); (try k_lift Bw); (try k_fold)))
  k_with "k_ne" => (refine neN ?_; (try dsimp only); first | with_reducible assumption | with_reducible exact Ne.symm (by assumption) | exact (by k_extra "nes") | exact Ne.symm (by k_extra "nes") | exact Nat.ne_of_lt (by k_extra "lt") | exact Nat.ne_of_gt (by k_extra "lt") | omega)
  k_with "lt" => (first | with_reducible assumption | with_reducible exact And.left (by assumption) | with_reducible exact And.left (And.right (by assumption)) | with_reducible exact And.left (And.right (And.right (by assumption))) | with_reducible exact And.left (And.right (And.right (And.right (by assumption)))) | with_reducible exact And.left (And.right (And.right (And.right (And.right (by assumption))))) | with_reducible exact And.left (And.right (And.right (And.right (And.right (And.right (by assumption)))))) | with_reducible exact And.left (And.right (And.right (And.right (And.right (And.right (And.right (by assumption))))))) | with_reducible exact And.left (And.right (And.right (And.right (And.right (And.right (And.right (And.right (by assumption)))))))) | with_reducible exact And.left (And.right (And.right (And.right (And.right (And.right (And.right (And.right (And.right (by assumption))))))))) | with_reducible exact And.left (And.right (And.right (And.right (And.right (And.right (And.right (And.right (And.right (And.right (by assumption)))))))))) | with_reducible exact And.left (And.right (And.right (And.right (And.right (And.right (And.right (And.right (And.right (And.right (And.right (by assumption))))))))))) | with_reducible exact And.left (And.right (And.right (And.right (And.right (And.right (And.right (And.right (And.right (And.right (And.right (And.right (by assumption)))))))))))) | with_reducible exact And.left (And.right (And.right (And.right (And.right (And.right (And.right (And.right (And.right (And.right (And.right (And.right (And.right (by assumption))))))))))))) | with_reducible exact And.left (And.right (And.right (And.right (And.right (And.right (And.right (And.right (And.right (And.right (And.right (And.right (And.right (And.right (by assumption)))))))))))))) | with_reducible exact And.left (And.right (And.right (And.right (And.right (And.right (And.right (And.right (And.right (And.right (And.right (And.right (And.right (And.right (And.right (by assumption))))))))))))))) | with_reducible exact And.left (And.right (And.right (And.right (And.right (And.right (And.right (And.right (And.right (And.right (And.right (And.right (And.right (And.right (And.right (And.right (by assumption)))))))))))))))) | with_reducible exact And.right (by assumption) | with_reducible exact And.right (And.right (by assumption)) | with_reducible exact And.right (And.right (And.right (by assumption))) | with_reducible exact And.right (And.right (And.right (And.right (by assumption)))) | with_reducible exact And.right (And.right (And.right (And.right (And.right (by assumption))))) | with_reducible exact And.right (And.right (And.right (And.right (And.right (And.right (by assumption)))))) | with_reducible exact And.right (And.right (And.right (And.right (And.right (And.right (And.right (by assumption))))))) | with_reducible exact And.right (And.right (And.right (And.right (And.right (And.right (And.right (And.right (by assumption)))))))) | with_reducible exact And.right (And.right (And.right (And.right (And.right (And.right (And.right (And.right (And.right (by assumption))))))))))
  k_with "nes" => (first | with_reducible exact And.left (by assumption) | with_reducible exact And.left (And.right (by assumption)) | with_reducible exact And.left (And.right (And.right (by assumption))) | with_reducible exact And.left (And.right (And.right (And.right (by assumption)))) | with_reducible exact And.left (And.right (And.right (And.right (And.right (by assumption))))) | with_reducible exact And.left (And.right (And.right (And.right (And.right (And.right (by assumption)))))) | with_reducible exact And.right (by assumption) | with_reducible exact And.right (And.right (by assumption)) | with_reducible exact And.right (And.right (And.right (by assumption))) | with_reducible exact And.right (And.right (And.right (And.right (by assumption)))) | with_reducible exact And.right (And.right (And.right (And.right (And.right (by assumption))))))
  k_with "subscriptTail" => ((k_here; (with_reducible show wpAny _ _ (subscriptTail _ _ (Value.ref _) (Value.int 0 _)) _ _ _); k_dflt (refine' tup_head ?Nz1 ?mz1 ?_; (case Nz1 => k_asm); (case mz1 => k_mem); k_whole)))
  k_with "call type:tuple" => ((k_here; (with_reducible show wpAny _ _ (call (Value.type "tuple") [Value.ref _]) _ _ _); k_dflt (refine' tuple_ofM ?Fz2 ?Nz2 ?mz2 ?zz2 ?_; (case Fz2 => k_asm); (case Nz2 => k_asm); (case mz2 => k_mem); (case zz2 => first | assumption | (simp only [List.length_cons, List.length_nil]; omega)); k_whole); intro Dw hw Fw Nw l1w; (try k_lt l1w); (try k_sweep)))
  k_with "call type:list" => ((k_here; (with_reducible show wpAny _ _ (call (Value.type "list") [Value.ref _]) _ _ _); k_dflt (refine' list_ofTupM ?Fz3 ?Nz3 ?mz3 ?zz3 ?_; (case Fz3 => k_asm); (case Nz3 => k_asm); (case mz3 => k_mem); (case zz3 => first | assumption | (simp only [List.length_cons, List.length_nil]; omega)); k_whole); intro Dw kw hw Fw Nw l1w; (try k_lt l1w); (try k_sweep)))
  k_with "subscriptTail Name Slice ref ref" => ((k_here; (with_reducible show wpAny _ _ (subscriptTail _ (PySem.Expr.Slice (some _) none none _) (Value.ref _) (Value.ref _)) _ _ _); k_dflt (refine' slice_tupM ?Fz4 ?Nz4 ?mz4 ?zz4 ?_ ?sz4 ?tz4; (case Fz4 => k_asm); (case Nz4 => k_asm); (case mz4 => k_mem); (case zz4 => first | assumption | (simp only [List.length_cons, List.length_nil]; omega)); (case sz4 => with_unfolding_all rfl); (case tz4 => kmk_pure)); intro Dw hw Fw Nw l1w; (try k_lt l1w); (try k_sweep)))
  k_with "compareOp Eq ref none" => ((k_here; (with_reducible show wpAny _ _ (compareOp CmpOp.Eq (Value.ref _) Value.none) _ _ _); k_dflt (refine' eq_tup_none ?Nz5 ?mz5 ?uz5 ?_; (case Nz5 => k_asm); (case mz5 => k_mem); (case uz5 => k_units); k_whole)))
  k_with "compareOp Eq ref" => ((k_here; (with_reducible show wpAny _ _ (compareOp CmpOp.Eq (Value.ref _) Value.none) _ _ _); k_dflt (refine' eq_tup_none ?Nz6 ?mz6 ?uz6 ?_; (case Nz6 => k_asm); (case mz6 => k_mem); (case uz6 => k_units); k_whole)))
  k_with "k_mem" => (((repeat (first | exact List.Mem.head _ | assumption | refine' List.Mem.tail _ ?_ | exact List.mem_append_left _ (by assumption) | exact List.mem_append_left _ (List.Mem.head _) | refine' List.mem_append_right _ ?_)); done))
  k_with "binaryOp Add ref ref" => ((k_here; (with_reducible show wpAny _ _ (binaryOp Operator.Add (Value.ref _) (Value.ref _)) _ _ _); k_dflt (refine' add_tupM ?Fz8 ?Nz8 ?mz8 ?nz8 ?zz8 ?az8 ?bz8; (case Fz8 => k_asm); (case Nz8 => k_asm); (case mz8 => k_mem); (case nz8 => k_mem); (case zz8 => first | assumption | (simp only [List.length_cons, List.length_nil]; omega)); (case' az8 => intro e1w); (case' bz8 => (intro e1w Dw hw Fw Nw l1w; (try k_lt l1w); (try k_sweep))))))
  k_with "kqd_sub" => (((repeat (refine List.forall_mem_cons.mpr ⟨by k_mem, ?_⟩)); first | exact List.forall_mem_nil _ | (intro p9 h9; k_mem)))
  k_with "ktr_rel" => (first | assumption | exact tb_ltOf (by first | assumption | exact (And.right (by assumption)) | exact (And.right (And.right (by assumption))) | exact (And.right (And.right (And.right (by assumption)))) | exact (And.right (And.right (And.right (And.right (by assumption))))) | exact (And.right (And.right (And.right (And.right (And.right (by assumption)))))) | exact (And.right (And.right (And.right (And.right (And.right (And.right (by assumption))))))) | exact (And.right (And.right (And.right (And.right (And.right (And.right (And.right (by assumption)))))))) | exact (And.right (And.right (And.right (And.right (And.right (And.right (And.right (And.right (by assumption))))))))) | exact (And.right (And.right (And.right (And.right (And.right (And.right (And.right (And.right (And.right (by assumption)))))))))) | exact (And.right (And.right (And.right (And.right (And.right (And.right (And.right (And.right (And.right (And.right (by assumption)))))))))))))
  k_with "getMethod ref" => ((k_here; (with_reducible show wpAny _ _ (getMethod (Value.ref _) (Str.ofString "get") _) _ _ _); k_dflt (refine kdg_method (knd := PySem.intKind Pr _) (by k_asm) (by k_mem) (by k_asm) ?_)))
  k_with "call builtin:dict.get" => ((k_here; (try dsimp only [List.nil_append, List.cons_append]); (with_reducible show wpAny _ _ (call (Value.builtin _) [Value.ref _, Value.int _ _, _]) _ _ _); k_dflt (refine kdg_get2 (knd := PySem.intKind Pr _) (by k_asm) (by k_mem) (by k_asm) (by k_asm) (intKind_is _ _ _ _) _ (by assumption) ?_); (try dsimp only [Option.getD])))
  k_with "subscriptTail" => ((k_here; (with_reducible show wpAny _ _ (subscriptTail _ _ (Value.ref _) (Value.int _ _)) _ _ _); k_dflt (refine' list_itemM ?Nz13 ?mz13 ?xz13 ?kz13 ?zz13 ?_; (case Nz13 => k_asm); (case mz13 => k_mem); (case xz13 => assumption); (case kz13 => omega); (case zz13 => first | assumption | omega); k_whole)))
  k_with "call builtin:len" => ((k_here; (with_reducible show wpAny _ _ (call (Value.builtin "len") [Value.ref _]) _ _ _); k_dflt (refine' len_listM ?Nz14 ?mz14 ?zz14 ?_; (case Nz14 => k_asm); (case mz14 => k_mem); (case zz14 => first | assumption | omega); k_whole)))
  k_with "tb_rel" => (first | assumption | (refine' LV.mono ?hz15 ?sz15; (case hz15 => assumption); (case sz15 => kqd_sub)) | (refine' RowsIn.mono ?sz15 ?hz15; (case hz15 => assumption); (case sz15 => kqd_sub)) | (refine' LispAt.mono ?hz15 ?sz15; (case hz15 => assumption); (case sz15 => kqd_sub)) | (refine' RulesAt.mono ?hz15 ?sz15; (case hz15 => assumption); (case sz15 => kqd_sub)) | (refine' IntDict.mono ?hz15 ?sz15; (case hz15 => assumption); (case sz15 => kqd_sub)) | (refine' PlistsIn.mono ?hz15 ?sz15; (case hz15 => assumption); (case sz15 => kqd_sub)) | (refine' DatAll.mono ?sz15 ?hz15; (case hz15 => assumption); (case sz15 => kqd_sub)))
  trivial
set_option maxHeartbeats 4000000 in
theorem number_of_ok {w : World} {led : List (Addr × Obj)} {self v : Value} {d : Dat} (hv : LV led v d) : Ctr w 900 50 [self, v] led (fun r led' => led' = led ∧ ∃ t, r = .int (numD d) t) := by
  cases hv
  all_goals
    refine ctr_of fun mean mg mb env outer A₀ base h₀ L m s Q hf hk B F X N T ret => ?_
    k_dflt k_enter
    k_steps
  · exact ret _ _ _ _ ⟨rfl, _, rfl⟩ (by k_asm) (by k_asm)
  · exact ret _ _ _ _ ⟨rfl, _, by rw [numD_sym]⟩ (by k_asm) (by k_asm)
  · exact ret _ _ _ _ ⟨rfl, _, by rw [numD_lst]⟩ (by k_asm) (by k_asm)
  · exact ret _ _ _ _ ⟨rfl, _, rfl⟩ (by k_asm) (by k_asm)
  · exact ret _ _ _ _ ⟨rfl, _, rfl⟩ (by k_asm) (by k_asm)
  · exact ret _ _ _ _ ⟨rfl, _, rfl⟩ (by k_asm) (by k_asm)
end
section
theorem words_D2_1 : True := by
  k_with_none
  k_with "k_enter" => (first | (refine' code_def ?k1z32 ?k2z32 ?k3z32 ?k4z32 ?k5z32 ?kAz32 ?kFz32 ?kKz32 ?k6z32 ?k7z32 ?k8z32 ?k9z32 ?kBz32 ?_ ?c2z32 ?c3z32 ?c4z32 ?c5z32; (case kAz32 => exact rfl); (case kFz32 => first | exact rfl | assumption); (case kKz32 => first | exact rfl | assumption); (case k1z32 => k_asm); (case k2z32 => k_asm); (case k3z32 => k_asm); (case k4z32 => k_asm); (case k5z32 => k_asm); (case k6z32 => k_is); (case k7z32 => k_is); (case k8z32 => k_room); (case k9z32 => first | exact BindsTo.of_eq rfl | exact binds_K (by k_in) rfl (by k_is) rfl rfl rfl | fail "k_enter: no rule for these arguments"); (case c5z32 => decide); (case kBz32 => exact locs rfl); (case c2z32 => exact rfl); (case c3z32 => exact rfl); (case c4z32 => exact rfl); k_whole; intro gw Lw hw FGw Fw Nw Bw Xw Tw; (try dsimp only); (try k_lift Bw); (try k_fold)) | (refine' code_defC ?k1z32 ?k2z32 ?k3z32 ?k4z32 ?k5z32 ?kAz32 ?kFz32 ?kKz32 ?k6z32 ?k7z32 ?k8z32 ?k9z32 ?kBz32 ?kDz32 ?_ ?c2z32 ?c3z32 ?c4z32; (case kAz32 => exact rfl); (case kFz32 => first | exact rfl | assumption); (case kKz32 => first | exact rfl | assumption); (case k1z32 => k_asm); (case k2z32 => k_asm); (case k3z32 => k_asm); (case k4z32 => k_asm); (case k5z32 => k_asm); (case k6z32 => k_is); (case k7z32 => k_is); (case k8z32 => k_room); (case k9z32 => first | exact BindsTo.of_eq rfl | exact binds_K (by k_in) rfl (by k_is) rfl rfl rfl | fail "k_enter: no rule for these arguments"); (case kBz32 => exact rfl); (case kDz32 => decide +kernel); (case c2z32 => exact rfl); (case c3z32 => exact rfl); (case c4z32 => exact rfl); k_whole; intro gw Lw hw tkw cellsw FGw Fw Nw Yw Bw Xw Tw l1w; (try k_lt l1w); k_cells Yw; (try simp only [List.cons_append, List.nil_append] at Nw); (try dsimp only); (try k_lift Bw); (try k_fold)))
  k_with "k_ne" => (refine neN ?_; (try dsimp only); first | with_reducible assumption | with_reducible exact Ne.symm (by assumption) | exact (by k_extra "nes") | exact Ne.symm (by k_extra "nes") | exact Nat.ne_of_lt (by k_extra "lt") | exact Nat.ne_of_gt (by k_extra "lt") | omega)
  k_with "lt" => (first | with_reducible assumption | with_reducible exact And.left (by assumption) | with_reducible exact And.left (And.right (by assumption)) | with_reducible exact And.left (And.right (And.right (by assumption))) | with_reducible exact And.left (And.right (And.right (And.right (by assumption)))) | with_reducible exact And.left (And.right (And.right (And.right (And.right (by assumption))))) | with_reducible exact And.left (And.right (And.right (And.right (And.right (And.right (by assumption)))))) | with_reducible exact And.left (And.right (And.right (And.right (And.right (And.right (And.right (by assumption))))))) | with_reducible exact And.left (And.right (And.right (And.right (And.right (And.right (And.right (And.right (by assumption)))))))) | with_reducible exact And.left (And.right (And.right (And.right (And.right (And.right (And.right (And.right (And.right (by assumption))))))))) | with_reducible exact And.left (And.right (And.right (And.right (And.right (And.right (And.right (And.right (And.right (And.right (by assumption)))))))))) | with_reducible exact And.left (And.right (And.right (And.right (And.right (And.right (And.right (And.right (And.right (And.right (And.right (by assumption))))))))))) | with_reducible exact And.left (And.right (And.right (And.right (And.right (And.right (And.right (And.right (And.right (And.right (And.right (And.right (by assumption)))))))))))) | with_reducible exact And.left (And.right (And.right (And.right (And.right (And.right (And.right (And.right (And.right (And.right (And.right (And.right (And.right (by assumption))))))))))))) | with_reducible exact And.left (And.right (And.right (And.right (And.right (And.right (And.right (And.right (And.right (And.right (And.right (And.right (And.right (And.right (by assumption)))))))))))))) | with_reducible exact And.left (And.right (And.right (And.right (And.right (And.right (And.right (And.right (And.right (And.right (And.right (And.right (And.right (And.right (And.right (by assumption))))))))))))))) | with_reducible exact And.left (And.right (And.right (And.right (And.right (And.right (And.right (And.right (And.right (And.right (And.right (And.right (And.right (And.right (And.right (And.right (by assumption)))))))))))))))) | with_reducible exact And.right (by assumption) | with_reducible exact And.right (And.right (by assumption)) | with_reducible exact And.right (And.right (And.right (by assumption))) | with_reducible exact And.right (And.right (And.right (And.right (by assumption)))) | with_reducible exact And.right (And.right (And.right (And.right (And.right (by assumption))))) | with_reducible exact And.right (And.right (And.right (And.right (And.right (And.right (by assumption)))))) | with_reducible exact And.right (And.right (And.right (And.right (And.right (And.right (And.right (by assumption))))))) | with_reducible exact And.right (And.right (And.right (And.right (And.right (And.right (And.right (And.right (by assumption)))))))) | with_reducible exact And.right (And.right (And.right (And.right (And.right (And.right (And.right (And.right (And.right (by assumption))))))))))
  k_with "nes" => (first | with_reducible exact And.left (by assumption) | with_reducible exact And.left (And.right (by assumption)) | with_reducible exact And.left (And.right (And.right (by assumption))) | with_reducible exact And.left (And.right (And.right (And.right (by assumption)))) | with_reducible exact And.left (And.right (And.right (And.right (And.right (by assumption))))) | with_reducible exact And.left (And.right (And.right (And.right (And.right (And.right (by assumption)))))) | with_reducible exact And.right (by assumption) | with_reducible exact And.right (And.right (by assumption)) | with_reducible exact And.right (And.right (And.right (by assumption))) | with_reducible exact And.right (And.right (And.right (And.right (by assumption)))) | with_reducible exact And.right (And.right (And.right (And.right (And.right (by assumption))))))
  k_with "subscriptTail" => ((k_here; (with_reducible show wpAny _ _ (subscriptTail _ _ (Value.ref _) (Value.int 0 _)) _ _ _); k_dflt (refine' tup_head ?Nz17 ?mz17 ?_; (case Nz17 => k_asm); (case mz17 => k_mem); k_whole)))
  k_with "call type:tuple" => ((k_here; (with_reducible show wpAny _ _ (call (Value.type "tuple") [Value.ref _]) _ _ _); k_dflt (refine' tuple_ofM ?Fz18 ?Nz18 ?mz18 ?zz18 ?_; (case Fz18 => k_asm); (case Nz18 => k_asm); (case mz18 => k_mem); (case zz18 => first | assumption | (simp only [List.length_cons, List.length_nil]; omega)); k_whole); intro Dw hw Fw Nw l1w; (try k_lt l1w); (try k_sweep)))
  k_with "call type:list" => ((k_here; (with_reducible show wpAny _ _ (call (Value.type "list") [Value.ref _]) _ _ _); k_dflt (refine' list_ofTupM ?Fz19 ?Nz19 ?mz19 ?zz19 ?_; (case Fz19 => k_asm); (case Nz19 => k_asm); (case mz19 => k_mem); (case zz19 => first | assumption | (simp only [List.length_cons, List.length_nil]; omega)); k_whole); intro Dw kw hw Fw Nw l1w; (try k_lt l1w); (try k_sweep)))
  k_with "subscriptTail Name Slice ref ref" => ((k_here; (with_reducible show wpAny _ _ (subscriptTail _ (PySem.Expr.Slice (some _) none none _) (Value.ref _) (Value.ref _)) _ _ _); k_dflt (refine' slice_tupM ?Fz20 ?Nz20 ?mz20 ?zz20 ?_ ?sz20 ?tz20; (case Fz20 => k_asm); (case Nz20 => k_asm); (case mz20 => k_mem); (case zz20 => first | assumption | (simp only [List.length_cons, List.length_nil]; omega)); (case sz20 => with_unfolding_all rfl); (case tz20 => kmk_pure)); intro Dw hw Fw Nw l1w; (try k_lt l1w); (try k_sweep)))
  k_with "compareOp Eq ref none" => ((k_here; (with_reducible show wpAny _ _ (compareOp CmpOp.Eq (Value.ref _) Value.none) _ _ _); k_dflt (refine' eq_tup_none ?Nz21 ?mz21 ?uz21 ?_; (case Nz21 => k_asm); (case mz21 => k_mem); (case uz21 => k_units); k_whole)))
  k_with "compareOp Eq ref" => ((k_here; (with_reducible show wpAny _ _ (compareOp CmpOp.Eq (Value.ref _) Value.none) _ _ _); k_dflt (refine' eq_tup_none ?Nz22 ?mz22 ?uz22 ?_; (case Nz22 => k_asm); (case mz22 => k_mem); (case uz22 => k_units); k_whole)))
  k_with "k_mem" => (((repeat (first | exact List.Mem.head _ | assumption | refine' List.Mem.tail _ ?_ | exact List.mem_append_left _ (by assumption) | exact List.mem_append_left _ (List.Mem.head _) | refine' List.mem_append_right _ ?_)); done))
  k_with "binaryOp Add ref ref" => ((k_here; (with_reducible show wpAny _ _ (binaryOp Operator.Add (Value.ref _) (Value.ref _)) _ _ _); k_dflt (refine' add_tupM ?Fz24 ?Nz24 ?mz24 ?nz24 ?zz24 ?az24 ?bz24; (case Fz24 => k_asm); (case Nz24 => k_asm); (case mz24 => k_mem); (case nz24 => k_mem); (case zz24 => first | assumption | (simp only [List.length_cons, List.length_nil]; omega)); (case' az24 => intro e1w); (case' bz24 => (intro e1w Dw hw Fw Nw l1w; (try k_lt l1w); (try k_sweep))))))
  k_with "kqd_sub" => (((repeat (refine List.forall_mem_cons.mpr ⟨by k_mem, ?_⟩)); first | exact List.forall_mem_nil _ | (intro p9 h9; k_mem)))
  k_with "ktr_rel" => (first | assumption | exact tb_ltOf (by first | assumption | exact (And.right (by assumption)) | exact (And.right (And.right (by assumption))) | exact (And.right (And.right (And.right (by assumption)))) | exact (And.right (And.right (And.right (And.right (by assumption))))) | exact (And.right (And.right (And.right (And.right (And.right (by assumption)))))) | exact (And.right (And.right (And.right (And.right (And.right (And.right (by assumption))))))) | exact (And.right (And.right (And.right (And.right (And.right (And.right (And.right (by assumption)))))))) | exact (And.right (And.right (And.right (And.right (And.right (And.right (And.right (And.right (by assumption))))))))) | exact (And.right (And.right (And.right (And.right (And.right (And.right (And.right (And.right (And.right (by assumption)))))))))) | exact (And.right (And.right (And.right (And.right (And.right (And.right (And.right (And.right (And.right (And.right (by assumption)))))))))))))
  k_with "getMethod ref" => ((k_here; (with_reducible show wpAny _ _ (getMethod (Value.ref _) (Str.ofString "get") _) _ _ _); k_dflt (refine kdg_method (knd := PySem.intKind Pr _) (by k_asm) (by k_mem) (by k_asm) ?_)))
  k_with "call builtin:dict.get" => ((k_here; (try dsimp only [List.nil_append, List.cons_append]); (with_reducible show wpAny _ _ (call (Value.builtin _) [Value.ref _, Value.int _ _, _]) _ _ _); k_dflt (refine kdg_get2 (knd := PySem.intKind Pr _) (by k_asm) (by k_mem) (by k_asm) (by k_asm) (intKind_is _ _ _ _) _ (by assumption) ?_); (try dsimp only [Option.getD])))
  k_with "subscriptTail" => ((k_here; (with_reducible show wpAny _ _ (subscriptTail _ _ (Value.ref _) (Value.int _ _)) _ _ _); k_dflt (refine' list_itemM ?Nz29 ?mz29 ?xz29 ?kz29 ?zz29 ?_; (case Nz29 => k_asm); (case mz29 => k_mem); (case xz29 => assumption); (case kz29 => omega); (case zz29 => first | assumption | omega); k_whole)))
  k_with "call builtin:len" => ((k_here; (with_reducible show wpAny _ _ (call (Value.builtin "len") [Value.ref _]) _ _ _); k_dflt (refine' len_listM ?Nz30 ?mz30 ?zz30 ?_; (case Nz30 => k_asm); (case mz30 => k_mem); (case zz30 => first | assumption | omega); k_whole)))
  k_with "tb_rel" => (first | assumption | (refine' LV.mono ?hz31 ?sz31; (case hz31 => assumption); (case sz31 => kqd_sub)) | (refine' RowsIn.mono ?sz31 ?hz31; (case hz31 => assumption); (case sz31 => kqd_sub)) | (refine' LispAt.mono ?hz31 ?sz31; (case hz31 => assumption); (case sz31 => kqd_sub)) | (refine' RulesAt.mono ?hz31 ?sz31; (case hz31 => assumption); (case sz31 => kqd_sub)) | (refine' IntDict.mono ?hz31 ?sz31; (case hz31 => assumption); (case sz31 => kqd_sub)) | (refine' PlistsIn.mono ?hz31 ?sz31; (case hz31 => assumption); (case sz31 => kqd_sub)) | (refine' DatAll.mono ?sz31 ?hz31; (case hz31 => assumption); (case sz31 => kqd_sub)))
  trivial
set_option maxHeartbeats 4000000 in
theorem list_of_ok {w : World} {led : List (Addr × Obj)} {self : Value} {a : Addr} {vs : List Value} {n : Nat} (hm : (a, listOf vs.toArray n) ∈ led) (hz : vs.length ≤ 900) :
    Ctr w 900 57 [self, .ref a] led (fun r led' => ∃ b t k, r = .ref b ∧ led' = (b, tupO (.str "list" t :: vs) k) :: led ∧ ∀ p ∈ led, p.1 < b) := by
  refine ctr_of fun mean mg mb env outer A₀ base h₀ L m s Q hf hk B F X N T ret => ?_
  have hz' : vs.length ≤ 1000 := by omega
  k_dflt k_enter
  k_steps
  · exact ret _ _ _ _ ⟨_, _, _, rfl, rfl, by ktr_rel⟩ (by k_asm) (cb_drop (by assumption) (by kqd_sub))
  · subst e1w
    exact ret _ _ _ _ ⟨_, _, _, rfl, rfl, by ktr_rel⟩ (by k_asm) (cb_drop (by assumption) (by kqd_sub))
theorem list_of_use {w : World} {led : List (Addr × Obj)} {self : Value} {a : Addr} {vs : List Value} {n : Nat} (hm : (a, listOf vs.toArray n) ∈ led) (hz : vs.length ≤ 900)
    {mean : ExcName → Option Value} {mg mb : Str → Option Value} {A : Around} {env : Env} {outer : List Env} {A₀ : Around} {base h₀ : Heap} {L : Addr} {m : Str → Option Value} {s : Shared} {Q E : Value → Shared → Prop}
    (B : Below A₀ base outer h₀) (F : Fr h₀ L s.heap m) (X : (Mine.hd.heap_39 w.params).In h₀) (N : News h₀ L s.heap led) (T : TopOk mean mg mb h₀)
    (u1 : A.handled = none) (u2 : A.depth ≤ 900) (u3 : A.units ≤ 900) (u4 : A.frames = some (env :: outer)) (u5 : env.frame = some L) (u6 : env.scope.kind = .function)
    (ret : ∀ b t k h' tk', (∀ p ∈ led, p.1 < b) → Fr h₀ L h' m → News h₀ L h' ((b, tupO (.str "list" t :: vs) k) :: led) → Q (.ref b) { s with heap := h', toks := tk' }) :
    wpAny (model Pr w) A (call (.ref 57) [self, .ref a]) Q E s := ctr_use (list_of_ok hm hz) B F X N T u1 u2 u3 u4 u5 u6 fun r h' tk' led' p F' N' => by
  obtain ⟨b, t, k, rfl, rfl, c⟩ := p
  exact ret b t k h' tk' c F' N'
end
section
theorem words_D3_1 : True := by
  k_with_none
  k_with "k_enter" => (first | (refine' code_def ?k1z48 ?k2z48 ?k3z48 ?k4z48 ?k5z48 ?kAz48 ?kFz48 ?kKz48 ?k6z48 ?k7z48 ?k8z48 ?k9z48 ?kBz48 ?_ ?c2z48 ?c3z48 ?c4z48 ?c5z48; (case kAz48 => exact rfl); (case kFz48 => first | exact rfl | assumption); (case kKz48 => first | exact rfl | assumption); (case k1z48 => k_asm); (case k2z48 => k_asm); (case k3z48 => k_asm); (case k4z48 => k_asm); (case k5z48 => k_asm); (case k6z48 => k_is); (case k7z48 => k_is); (case k8z48 => k_room); (case k9z48 => first | exact BindsTo.of_eq rfl | exact binds_K (by k_in) rfl (by k_is) rfl rfl rfl | fail "k_enter: no rule for these arguments"); (case c5z48 => decide); (case kBz48 => exact locs rfl); (case c2z48 => exact rfl); (case c3z48 => exact rfl); (case c4z48 => exact rfl); k_whole; intro gw Lw hw FGw Fw Nw Bw Xw Tw; (try dsimp only); (try k_lift Bw); (try k_fold)) | (refine' code_defC ?k1z48 ?k2z48 ?k3z48 ?k4z48 ?k5z48 ?kAz48 ?kFz48 ?kKz48 ?k6z48 ?k7z48 ?k8z48 ?k9z48 ?kBz48 ?kDz48 ?_ ?c2z48 ?c3z48 ?c4z48; (case kAz48 => exact rfl); (case kFz48 => first | exact rfl | assumption); (case kKz48 => first | exact rfl | assumption); (case k1z48 => k_asm); (case k2z48 => k_asm); (case k3z48 => k_asm); (case k4z48 => k_asm); (case k5z48 => k_asm); (case k6z48 => k_is); (case k7z48 => k_is); (case k8z48 => k_room); (case k9z48 => first | exact BindsTo.of_eq rfl | exact binds_K (by k_in) rfl (by k_is) rfl rfl rfl | fail "k_enter: no rule for these arguments"); (case kBz48 => exact rfl); (case kDz48 => decide +kernel); (case c2z48 => exact rfl); (case c3z48 => exact rfl); (case c4z48 => exact rfl); k_whole; intro gw Lw hw tkw cellsw FGw Fw Nw Yw Bw Xw Tw l1w; (try k_lt l1w); k_cells Yw; (try simp only [List.cons_append, List.nil_append] at Nw); (try dsimp only); (try k_lift Bw); (try k_fold)))
  k_with "k_ne" => (refine neN ?_; (try dsimp only); first | with_reducible assumption | with_reducible exact Ne.symm (by assumption) | exact (by k_extra "nes") | exact Ne.symm (by k_extra "nes") | exact Nat.ne_of_lt (by k_extra "lt") | exact Nat.ne_of_gt (by k_extra "lt") | omega)
  k_with "lt" => (first | with_reducible assumption | with_reducible exact And.left (by assumption) | with_reducible exact And.left (And.right (by assumption)) | with_reducible exact And.left (And.right (And.right (by assumption))) | with_reducible exact And.left (And.right (And.right (And.right (by assumption)))) | with_reducible exact And.left (And.right (And.right (And.right (And.right (by assumption))))) | with_reducible exact And.left (And.right (And.right (And.right (And.right (And.right (by assumption)))))) | with_reducible exact And.left (And.right (And.right (And.right (And.right (And.right (And.right (by assumption))))))) | with_reducible exact And.left (And.right (And.right (And.right (And.right (And.right (And.right (And.right (by assumption)))))))) | with_reducible exact And.left (And.right (And.right (And.right (And.right (And.right (And.right (And.right (And.right (by assumption))))))))) | with_reducible exact And.left (And.right (And.right (And.right (And.right (And.right (And.right (And.right (And.right (And.right (by assumption)))))))))) | with_reducible exact And.left (And.right (And.right (And.right (And.right (And.right (And.right (And.right (And.right (And.right (And.right (by assumption))))))))))) | with_reducible exact And.left (And.right (And.right (And.right (And.right (And.right (And.right (And.right (And.right (And.right (And.right (And.right (by assumption)))))))))))) | with_reducible exact And.left (And.right (And.right (And.right (And.right (And.right (And.right (And.right (And.right (And.right (And.right (And.right (And.right (by assumption))))))))))))) | with_reducible exact And.left (And.right (And.right (And.right (And.right (And.right (And.right (And.right (And.right (And.right (And.right (And.right (And.right (And.right (by assumption)))))))))))))) | with_reducible exact And.left (And.right (And.right (And.right (And.right (And.right (And.right (And.right (And.right (And.right (And.right (And.right (And.right (And.right (And.right (by assumption))))))))))))))) | with_reducible exact And.left (And.right (And.right (And.right (And.right (And.right (And.right (And.right (And.right (And.right (And.right (And.right (And.right (And.right (And.right (And.right (by assumption)))))))))))))))) | with_reducible exact And.right (by assumption) | with_reducible exact And.right (And.right (by assumption)) | with_reducible exact And.right (And.right (And.right (by assumption))) | with_reducible exact And.right (And.right (And.right (And.right (by assumption)))) | with_reducible exact And.right (And.right (And.right (And.right (And.right (by assumption))))) | with_reducible exact And.right (And.right (And.right (And.right (And.right (And.right (by assumption)))))) | with_reducible exact And.right (And.right (And.right (And.right (And.right (And.right (And.right (by assumption))))))) | with_reducible exact And.right (And.right (And.right (And.right (And.right (And.right (And.right (And.right (by assumption)))))))) | with_reducible exact And.right (And.right (And.right (And.right (And.right (And.right (And.right (And.right (And.right (by assumption))))))))))
  k_with "nes" => (first | with_reducible exact And.left (by assumption) | with_reducible exact And.left (And.right (by assumption)) | with_reducible exact And.left (And.right (And.right (by assumption))) | with_reducible exact And.left (And.right (And.right (And.right (by assumption)))) | with_reducible exact And.left (And.right (And.right (And.right (And.right (by assumption))))) | with_reducible exact And.left (And.right (And.right (And.right (And.right (And.right (by assumption)))))) | with_reducible exact And.right (by assumption) | with_reducible exact And.right (And.right (by assumption)) | with_reducible exact And.right (And.right (And.right (by assumption))) | with_reducible exact And.right (And.right (And.right (And.right (by assumption)))) | with_reducible exact And.right (And.right (And.right (And.right (And.right (by assumption))))))
  k_with "subscriptTail" => ((k_here; (with_reducible show wpAny _ _ (subscriptTail _ _ (Value.ref _) (Value.int 0 _)) _ _ _); k_dflt (refine' tup_head ?Nz33 ?mz33 ?_; (case Nz33 => k_asm); (case mz33 => k_mem); k_whole)))
  k_with "call type:tuple" => ((k_here; (with_reducible show wpAny _ _ (call (Value.type "tuple") [Value.ref _]) _ _ _); k_dflt (refine' tuple_ofM ?Fz34 ?Nz34 ?mz34 ?zz34 ?_; (case Fz34 => k_asm); (case Nz34 => k_asm); (case mz34 => k_mem); (case zz34 => first | assumption | (simp only [List.length_cons, List.length_nil]; omega)); k_whole); intro Dw hw Fw Nw l1w; (try k_lt l1w); (try k_sweep)))
  k_with "call type:list" => ((k_here; (with_reducible show wpAny _ _ (call (Value.type "list") [Value.ref _]) _ _ _); k_dflt (refine' list_ofTupM ?Fz35 ?Nz35 ?mz35 ?zz35 ?_; (case Fz35 => k_asm); (case Nz35 => k_asm); (case mz35 => k_mem); (case zz35 => first | assumption | (simp only [List.length_cons, List.length_nil]; omega)); k_whole); intro Dw kw hw Fw Nw l1w; (try k_lt l1w); (try k_sweep)))
  k_with "subscriptTail Name Slice ref ref" => ((k_here; (with_reducible show wpAny _ _ (subscriptTail _ (PySem.Expr.Slice (some _) none none _) (Value.ref _) (Value.ref _)) _ _ _); k_dflt (refine' slice_tupM ?Fz36 ?Nz36 ?mz36 ?zz36 ?_ ?sz36 ?tz36; (case Fz36 => k_asm); (case Nz36 => k_asm); (case mz36 => k_mem); (case zz36 => first | assumption | (simp only [List.length_cons, List.length_nil]; omega)); (case sz36 => with_unfolding_all rfl); (case tz36 => kmk_pure)); intro Dw hw Fw Nw l1w; (try k_lt l1w); (try k_sweep)))
  k_with "compareOp Eq ref none" => ((k_here; (with_reducible show wpAny _ _ (compareOp CmpOp.Eq (Value.ref _) Value.none) _ _ _); k_dflt (refine' eq_tup_none ?Nz37 ?mz37 ?uz37 ?_; (case Nz37 => k_asm); (case mz37 => k_mem); (case uz37 => k_units); k_whole)))
  k_with "compareOp Eq ref" => ((k_here; (with_reducible show wpAny _ _ (compareOp CmpOp.Eq (Value.ref _) Value.none) _ _ _); k_dflt (refine' eq_tup_none ?Nz38 ?mz38 ?uz38 ?_; (case Nz38 => k_asm); (case mz38 => k_mem); (case uz38 => k_units); k_whole)))
  k_with "k_mem" => (((repeat (first | exact List.Mem.head _ | assumption | refine' List.Mem.tail _ ?_ | exact List.mem_append_left _ (by assumption) | exact List.mem_append_left _ (List.Mem.head _) | refine' List.mem_append_right _ ?_)); done))
  k_with "binaryOp Add ref ref" => ((k_here; (with_reducible show wpAny _ _ (binaryOp Operator.Add (Value.ref _) (Value.ref _)) _ _ _); k_dflt (refine' add_tupM ?Fz40 ?Nz40 ?mz40 ?nz40 ?zz40 ?az40 ?bz40; (case Fz40 => k_asm); (case Nz40 => k_asm); (case mz40 => k_mem); (case nz40 => k_mem); (case zz40 => first | assumption | (simp only [List.length_cons, List.length_nil]; omega)); (case' az40 => intro e1w); (case' bz40 => (intro e1w Dw hw Fw Nw l1w; (try k_lt l1w); (try k_sweep))))))
  k_with "kqd_sub" => (((repeat (refine List.forall_mem_cons.mpr ⟨by k_mem, ?_⟩)); first | exact List.forall_mem_nil _ | (intro p9 h9; k_mem)))
  k_with "ktr_rel" => (first | assumption | exact tb_ltOf (by first | assumption | exact (And.right (by assumption)) | exact (And.right (And.right (by assumption))) | exact (And.right (And.right (And.right (by assumption)))) | exact (And.right (And.right (And.right (And.right (by assumption))))) | exact (And.right (And.right (And.right (And.right (And.right (by assumption)))))) | exact (And.right (And.right (And.right (And.right (And.right (And.right (by assumption))))))) | exact (And.right (And.right (And.right (And.right (And.right (And.right (And.right (by assumption)))))))) | exact (And.right (And.right (And.right (And.right (And.right (And.right (And.right (And.right (by assumption))))))))) | exact (And.right (And.right (And.right (And.right (And.right (And.right (And.right (And.right (And.right (by assumption)))))))))) | exact (And.right (And.right (And.right (And.right (And.right (And.right (And.right (And.right (And.right (And.right (by assumption)))))))))))))
  k_with "getMethod ref" => ((k_here; (with_reducible show wpAny _ _ (getMethod (Value.ref _) (Str.ofString "get") _) _ _ _); k_dflt (refine kdg_method (knd := PySem.intKind Pr _) (by k_asm) (by k_mem) (by k_asm) ?_)))
  k_with "call builtin:dict.get" => ((k_here; (try dsimp only [List.nil_append, List.cons_append]); (with_reducible show wpAny _ _ (call (Value.builtin _) [Value.ref _, Value.int _ _, _]) _ _ _); k_dflt (refine kdg_get2 (knd := PySem.intKind Pr _) (by k_asm) (by k_mem) (by k_asm) (by k_asm) (intKind_is _ _ _ _) _ (by assumption) ?_); (try dsimp only [Option.getD])))
  k_with "subscriptTail" => ((k_here; (with_reducible show wpAny _ _ (subscriptTail _ _ (Value.ref _) (Value.int _ _)) _ _ _); k_dflt (refine' list_itemM ?Nz45 ?mz45 ?xz45 ?kz45 ?zz45 ?_; (case Nz45 => k_asm); (case mz45 => k_mem); (case xz45 => assumption); (case kz45 => omega); (case zz45 => first | assumption | omega); k_whole)))
  k_with "call builtin:len" => ((k_here; (with_reducible show wpAny _ _ (call (Value.builtin "len") [Value.ref _]) _ _ _); k_dflt (refine' len_listM ?Nz46 ?mz46 ?zz46 ?_; (case Nz46 => k_asm); (case mz46 => k_mem); (case zz46 => first | assumption | omega); k_whole)))
  k_with "tb_rel" => (first | assumption | (refine' LV.mono ?hz47 ?sz47; (case hz47 => assumption); (case sz47 => kqd_sub)) | (refine' RowsIn.mono ?sz47 ?hz47; (case hz47 => assumption); (case sz47 => kqd_sub)) | (refine' LispAt.mono ?hz47 ?sz47; (case hz47 => assumption); (case sz47 => kqd_sub)) | (refine' RulesAt.mono ?hz47 ?sz47; (case hz47 => assumption); (case sz47 => kqd_sub)) | (refine' IntDict.mono ?hz47 ?sz47; (case hz47 => assumption); (case sz47 => kqd_sub)) | (refine' PlistsIn.mono ?hz47 ?sz47; (case hz47 => assumption); (case sz47 => kqd_sub)) | (refine' DatAll.mono ?sz47 ?hz47; (case hz47 => assumption); (case sz47 => kqd_sub)))
  trivial
set_option maxHeartbeats 4000000 in
theorem items_ok {w : World} {led : List (Addr × Obj)} {self v : Value} {d : Dat} (hv : LV led v d) :
    Ctr w 900 64 [self, v] led (fun r led' => (r = .none ∧ led' = led ∧ ∀ ks b, d ≠ lstD ks b) ∨ (∃ b k vs ks c, r = .ref b ∧ led' = (b, listOf vs.toArray k) :: led ∧ d = lstD ks c ∧ SymsIn led vs ks c ∧ ks.length ≤ 3 ∧ ∀ p ∈ led, p.1 < b)) := by
  cases hv
  case' lst h1 h2 h4 => have hz1 := lst_len h2 h4; have hz2 := Nat.le_trans hz1 (show 4 ≤ 1000 by decide)
  all_goals
    refine ctr_of fun mean mg mb env outer A₀ base h₀ L m s Q hf hk B F X N T ret => ?_
    k_dflt k_enter
    k_steps
  all_goals first
    | exact ret _ _ _ _ (.inr ⟨_, _, _, _, _, rfl, rfl, rfl, by assumption, by assumption, by ktr_rel⟩) (by k_asm) (cb_drop (by assumption) (by kqd_sub))
    | exact ret _ _ _ _ (.inl ⟨rfl, rfl, fun ks b e => by first | exact nomatch e | exact symD_ne_lstD e | exact prD_ne_lstD e⟩) (by k_asm) (by k_asm)
theorem items_use {w : World} {led : List (Addr × Obj)} {self v : Value} {d : Dat} (hv : LV led v d)
    {mean : ExcName → Option Value} {mg mb : Str → Option Value} {A : Around} {env : Env} {outer : List Env} {A₀ : Around} {base h₀ : Heap} {L : Addr} {m : Str → Option Value} {s : Shared} {Q E : Value → Shared → Prop}
    (B : Below A₀ base outer h₀) (F : Fr h₀ L s.heap m) (X : (Mine.hd.heap_39 w.params).In h₀) (N : News h₀ L s.heap led) (T : TopOk mean mg mb h₀)
    (u1 : A.handled = none) (u2 : A.depth ≤ 900) (u3 : A.units ≤ 900) (u4 : A.frames = some (env :: outer)) (u5 : env.frame = some L) (u6 : env.scope.kind = .function)
    (ret1 : ∀ h' tk', (∀ ks b, d ≠ lstD ks b) → Fr h₀ L h' m → News h₀ L h' led → Q .none { s with heap := h', toks := tk' })
    (ret2 : ∀ b k vs ks c h' tk', d = lstD ks c → SymsIn led vs ks c → ks.length ≤ 3 → (∀ p ∈ led, p.1 < b) → Fr h₀ L h' m → News h₀ L h' ((b, listOf vs.toArray k) :: led) → Q (.ref b) { s with heap := h', toks := tk' }) :
    wpAny (model Pr w) A (call (.ref 64) [self, v]) Q E s := ctr_use (items_ok hv) B F X N T u1 u2 u3 u4 u5 u6 fun r h' tk' led' p F' N' => by
  rcases p with ⟨rfl, rfl, c⟩ | ⟨b, k, vs, ks, c, rfl, rfl, c1, c2, c3, c4⟩
  · exact ret1 h' tk' c F' N'
  · exact ret2 b k vs ks c h' tk' c1 c2 c3 c4 F' N'
end
section
theorem words_D4_1 : True := by
  k_with_none
  k_with "k_enter" => (first | (refine' code_def ?k1z64 ?k2z64 ?k3z64 ?k4z64 ?k5z64 ?kAz64 ?kFz64 ?kKz64 ?k6z64 ?k7z64 ?k8z64 ?k9z64 ?kBz64 ?_ ?c2z64 ?c3z64 ?c4z64 ?c5z64; (case kAz64 => exact rfl); (case kFz64 => first | exact rfl | assumption); (case kKz64 => first | exact rfl | assumption); (case k1z64 => k_asm); (case k2z64 => k_asm); (case k3z64 => k_asm); (case k4z64 => k_asm); (case k5z64 => k_asm); (case k6z64 => k_is); (case k7z64 => k_is); (case k8z64 => k_room); (case k9z64 => first | exact BindsTo.of_eq rfl | exact binds_K (by k_in) rfl (by k_is) rfl rfl rfl | fail "k_enter: no rule for these arguments"); (case c5z64 => decide); (case kBz64 => exact locs rfl); (case c2z64 => exact rfl); (case c3z64 => exact rfl); (case c4z64 => exact rfl); k_whole; intro gw Lw hw FGw Fw Nw Bw Xw Tw; (try dsimp only); (try k_lift Bw); (try k_fold)) | (refine' code_defC ?k1z64 ?k2z64 ?k3z64 ?k4z64 ?k5z64 ?kAz64 ?kFz64 ?kKz64 ?k6z64 ?k7z64 ?k8z64 ?k9z64 ?kBz64 ?kDz64 ?_ ?c2z64 ?c3z64 ?c4z64; (case kAz64 => exact rfl); (case kFz64 => first | exact rfl | assumption); (case kKz64 => first | exact rfl | assumption); (case k1z64 => k_asm); (case k2z64 => k_asm); (case k3z64 => k_asm); (case k4z64 => k_asm); (case k5z64 => k_asm); (case k6z64 => k_is); (case k7z64 => k_is); (case k8z64 => k_room); (case k9z64 => first | exact BindsTo.of_eq rfl | exact binds_K (by k_in) rfl (by k_is) rfl rfl rfl | fail "k_enter: no rule for these arguments"); (case kBz64 => exact rfl); (case kDz64 => decide +kernel); (case c2z64 => exact rfl); (case c3z64 => exact rfl); (case c4z64 => exact rfl); k_whole; intro gw Lw hw tkw cellsw FGw Fw Nw Yw Bw Xw Tw l1w; (try k_lt l1w); k_cells Yw; (try simp only [List.cons_append, List.nil_append] at Nw); (try dsimp only); (try k_lift Bw); (try k_fold)))
  k_with "k_ne" => (refine neN ?_; (try dsimp only); first | with_reducible assumption | with_reducible exact Ne.symm (by assumption) | exact (by k_extra "nes") | exact Ne.symm (by k_extra "nes") | exact Nat.ne_of_lt (by k_extra "lt") | exact Nat.ne_of_gt (by k_extra "lt") | omega)
  k_with "lt" => (first | with_reducible assumption | with_reducible exact And.left (by assumption) | with_reducible exact And.left (And.right (by assumption)) | with_reducible exact And.left (And.right (And.right (by assumption))) | with_reducible exact And.left (And.right (And.right (And.right (by assumption)))) | with_reducible exact And.left (And.right (And.right (And.right (And.right (by assumption))))) | with_reducible exact And.left (And.right (And.right (And.right (And.right (And.right (by assumption)))))) | with_reducible exact And.left (And.right (And.right (And.right (And.right (And.right (And.right (by assumption))))))) | with_reducible exact And.left (And.right (And.right (And.right (And.right (And.right (And.right (And.right (by assumption)))))))) | with_reducible exact And.left (And.right (And.right (And.right (And.right (And.right (And.right (And.right (And.right (by assumption))))))))) | with_reducible exact And.left (And.right (And.right (And.right (And.right (And.right (And.right (And.right (And.right (And.right (by assumption)))))))))) | with_reducible exact And.left (And.right (And.right (And.right (And.right (And.right (And.right (And.right (And.right (And.right (And.right (by assumption))))))))))) | with_reducible exact And.left (And.right (And.right (And.right (And.right (And.right (And.right (And.right (And.right (And.right (And.right (And.right (by assumption)))))))))))) | with_reducible exact And.left (And.right (And.right (And.right (And.right (And.right (And.right (And.right (And.right (And.right (And.right (And.right (And.right (by assumption))))))))))))) | with_reducible exact And.left (And.right (And.right (And.right (And.right (And.right (And.right (And.right (And.right (And.right (And.right (And.right (And.right (And.right (by assumption)))))))))))))) | with_reducible exact And.left (And.right (And.right (And.right (And.right (And.right (And.right (And.right (And.right (And.right (And.right (And.right (And.right (And.right (And.right (by assumption))))))))))))))) | with_reducible exact And.left (And.right (And.right (And.right (And.right (And.right (And.right (And.right (And.right (And.right (And.right (And.right (And.right (And.right (And.right (And.right (by assumption)))))))))))))))) | with_reducible exact And.right (by assumption) | with_reducible exact And.right (And.right (by assumption)) | with_reducible exact And.right (And.right (And.right (by assumption))) | with_reducible exact And.right (And.right (And.right (And.right (by assumption)))) | with_reducible exact And.right (And.right (And.right (And.right (And.right (by assumption))))) | with_reducible exact And.right (And.right (And.right (And.right (And.right (And.right (by assumption)))))) | with_reducible exact And.right (And.right (And.right (And.right (And.right (And.right (And.right (by assumption))))))) | with_reducible exact And.right (And.right (And.right (And.right (And.right (And.right (And.right (And.right (by assumption)))))))) | with_reducible exact And.right (And.right (And.right (And.right (And.right (And.right (And.right (And.right (And.right (by assumption))))))))))
  k_with "nes" => (first | with_reducible exact And.left (by assumption) | with_reducible exact And.left (And.right (by assumption)) | with_reducible exact And.left (And.right (And.right (by assumption))) | with_reducible exact And.left (And.right (And.right (And.right (by assumption)))) | with_reducible exact And.left (And.right (And.right (And.right (And.right (by assumption))))) | with_reducible exact And.left (And.right (And.right (And.right (And.right (And.right (by assumption)))))) | with_reducible exact And.right (by assumption) | with_reducible exact And.right (And.right (by assumption)) | with_reducible exact And.right (And.right (And.right (by assumption))) | with_reducible exact And.right (And.right (And.right (And.right (by assumption)))) | with_reducible exact And.right (And.right (And.right (And.right (And.right (by assumption))))))
  k_with "subscriptTail" => ((k_here; (with_reducible show wpAny _ _ (subscriptTail _ _ (Value.ref _) (Value.int 0 _)) _ _ _); k_dflt (refine' tup_head ?Nz49 ?mz49 ?_; (case Nz49 => k_asm); (case mz49 => k_mem); k_whole)))
  k_with "call type:tuple" => ((k_here; (with_reducible show wpAny _ _ (call (Value.type "tuple") [Value.ref _]) _ _ _); k_dflt (refine' tuple_ofM ?Fz50 ?Nz50 ?mz50 ?zz50 ?_; (case Fz50 => k_asm); (case Nz50 => k_asm); (case mz50 => k_mem); (case zz50 => first | assumption | (simp only [List.length_cons, List.length_nil]; omega)); k_whole); intro Dw hw Fw Nw l1w; (try k_lt l1w); (try k_sweep)))
  k_with "call type:list" => ((k_here; (with_reducible show wpAny _ _ (call (Value.type "list") [Value.ref _]) _ _ _); k_dflt (refine' list_ofTupM ?Fz51 ?Nz51 ?mz51 ?zz51 ?_; (case Fz51 => k_asm); (case Nz51 => k_asm); (case mz51 => k_mem); (case zz51 => first | assumption | (simp only [List.length_cons, List.length_nil]; omega)); k_whole); intro Dw kw hw Fw Nw l1w; (try k_lt l1w); (try k_sweep)))
  k_with "subscriptTail Name Slice ref ref" => ((k_here; (with_reducible show wpAny _ _ (subscriptTail _ (PySem.Expr.Slice (some _) none none _) (Value.ref _) (Value.ref _)) _ _ _); k_dflt (refine' slice_tupM ?Fz52 ?Nz52 ?mz52 ?zz52 ?_ ?sz52 ?tz52; (case Fz52 => k_asm); (case Nz52 => k_asm); (case mz52 => k_mem); (case zz52 => first | assumption | (simp only [List.length_cons, List.length_nil]; omega)); (case sz52 => with_unfolding_all rfl); (case tz52 => kmk_pure)); intro Dw hw Fw Nw l1w; (try k_lt l1w); (try k_sweep)))
  k_with "compareOp Eq ref none" => ((k_here; (with_reducible show wpAny _ _ (compareOp CmpOp.Eq (Value.ref _) Value.none) _ _ _); k_dflt (refine' eq_tup_none ?Nz53 ?mz53 ?uz53 ?_; (case Nz53 => k_asm); (case mz53 => k_mem); (case uz53 => k_units); k_whole)))
  k_with "compareOp Eq ref" => ((k_here; (with_reducible show wpAny _ _ (compareOp CmpOp.Eq (Value.ref _) Value.none) _ _ _); k_dflt (refine' eq_tup_none ?Nz54 ?mz54 ?uz54 ?_; (case Nz54 => k_asm); (case mz54 => k_mem); (case uz54 => k_units); k_whole)))
  k_with "k_mem" => (((repeat (first | exact List.Mem.head _ | assumption | refine' List.Mem.tail _ ?_ | exact List.mem_append_left _ (by assumption) | exact List.mem_append_left _ (List.Mem.head _) | refine' List.mem_append_right _ ?_)); done))
  k_with "binaryOp Add ref ref" => ((k_here; (with_reducible show wpAny _ _ (binaryOp Operator.Add (Value.ref _) (Value.ref _)) _ _ _); k_dflt (refine' add_tupM ?Fz56 ?Nz56 ?mz56 ?nz56 ?zz56 ?az56 ?bz56; (case Fz56 => k_asm); (case Nz56 => k_asm); (case mz56 => k_mem); (case nz56 => k_mem); (case zz56 => first | assumption | (simp only [List.length_cons, List.length_nil]; omega)); (case' az56 => intro e1w); (case' bz56 => (intro e1w Dw hw Fw Nw l1w; (try k_lt l1w); (try k_sweep))))))
  k_with "kqd_sub" => (((repeat (refine List.forall_mem_cons.mpr ⟨by k_mem, ?_⟩)); first | exact List.forall_mem_nil _ | (intro p9 h9; k_mem)))
  k_with "ktr_rel" => (first | assumption | exact tb_ltOf (by first | assumption | exact (And.right (by assumption)) | exact (And.right (And.right (by assumption))) | exact (And.right (And.right (And.right (by assumption)))) | exact (And.right (And.right (And.right (And.right (by assumption))))) | exact (And.right (And.right (And.right (And.right (And.right (by assumption)))))) | exact (And.right (And.right (And.right (And.right (And.right (And.right (by assumption))))))) | exact (And.right (And.right (And.right (And.right (And.right (And.right (And.right (by assumption)))))))) | exact (And.right (And.right (And.right (And.right (And.right (And.right (And.right (And.right (by assumption))))))))) | exact (And.right (And.right (And.right (And.right (And.right (And.right (And.right (And.right (And.right (by assumption)))))))))) | exact (And.right (And.right (And.right (And.right (And.right (And.right (And.right (And.right (And.right (And.right (by assumption)))))))))))))
  k_with "getMethod ref" => ((k_here; (with_reducible show wpAny _ _ (getMethod (Value.ref _) (Str.ofString "get") _) _ _ _); k_dflt (refine kdg_method (knd := PySem.intKind Pr _) (by k_asm) (by k_mem) (by k_asm) ?_)))
  k_with "call builtin:dict.get" => ((k_here; (try dsimp only [List.nil_append, List.cons_append]); (with_reducible show wpAny _ _ (call (Value.builtin _) [Value.ref _, Value.int _ _, _]) _ _ _); k_dflt (refine kdg_get2 (knd := PySem.intKind Pr _) (by k_asm) (by k_mem) (by k_asm) (by k_asm) (intKind_is _ _ _ _) _ (by assumption) ?_); (try dsimp only [Option.getD])))
  k_with "subscriptTail" => ((k_here; (with_reducible show wpAny _ _ (subscriptTail _ _ (Value.ref _) (Value.int _ _)) _ _ _); k_dflt (refine' list_itemM ?Nz61 ?mz61 ?xz61 ?kz61 ?zz61 ?_; (case Nz61 => k_asm); (case mz61 => k_mem); (case xz61 => assumption); (case kz61 => omega); (case zz61 => first | assumption | omega); k_whole)))
  k_with "call builtin:len" => ((k_here; (with_reducible show wpAny _ _ (call (Value.builtin "len") [Value.ref _]) _ _ _); k_dflt (refine' len_listM ?Nz62 ?mz62 ?zz62 ?_; (case Nz62 => k_asm); (case mz62 => k_mem); (case zz62 => first | assumption | omega); k_whole)))
  k_with "tb_rel" => (first | assumption | (refine' LV.mono ?hz63 ?sz63; (case hz63 => assumption); (case sz63 => kqd_sub)) | (refine' RowsIn.mono ?sz63 ?hz63; (case hz63 => assumption); (case sz63 => kqd_sub)) | (refine' LispAt.mono ?hz63 ?sz63; (case hz63 => assumption); (case sz63 => kqd_sub)) | (refine' RulesAt.mono ?hz63 ?sz63; (case hz63 => assumption); (case sz63 => kqd_sub)) | (refine' IntDict.mono ?hz63 ?sz63; (case hz63 => assumption); (case sz63 => kqd_sub)) | (refine' PlistsIn.mono ?hz63 ?sz63; (case hz63 => assumption); (case sz63 => kqd_sub)) | (refine' DatAll.mono ?sz63 ?hz63; (case hz63 => assumption); (case sz63 => kqd_sub)))
  trivial
set_option maxHeartbeats 4000000 in
theorem pair_ok {w : World} {led : List (Addr × Obj)} {self v : Value} {d : Dat} (hv : LV led v d) :
    Ctr w 900 71 [self, v] led (fun r led' => (r = .none ∧ led' = led ∧ d ≠ prD) ∨ (∃ b k t, r = .ref b ∧ led' = (b, tupO [.int 3 t, .none] k) :: led ∧ d = prD ∧ ∀ p ∈ led, p.1 < b)) := by
  cases hv
  all_goals
    refine ctr_of fun mean mg mb env outer A₀ base h₀ L m s Q hf hk B F X N T ret => ?_
    k_dflt k_enter
    k_steps
  all_goals first
    | exact ret _ _ _ _ (.inr ⟨_, _, _, rfl, rfl, rfl, by ktr_rel⟩) (by k_asm) (by k_asm)
    | exact ret _ _ _ _ (.inl ⟨rfl, rfl, fun e => by first | exact nomatch e | exact symD_ne_prD e | exact lstD_ne_prD e⟩) (by k_asm) (by k_asm)
theorem pair_use {w : World} {led : List (Addr × Obj)} {self v : Value} {d : Dat} (hv : LV led v d)
    {mean : ExcName → Option Value} {mg mb : Str → Option Value} {A : Around} {env : Env} {outer : List Env} {A₀ : Around} {base h₀ : Heap} {L : Addr} {m : Str → Option Value} {s : Shared} {Q E : Value → Shared → Prop}
    (B : Below A₀ base outer h₀) (F : Fr h₀ L s.heap m) (X : (Mine.hd.heap_39 w.params).In h₀) (N : News h₀ L s.heap led) (T : TopOk mean mg mb h₀)
    (u1 : A.handled = none) (u2 : A.depth ≤ 900) (u3 : A.units ≤ 900) (u4 : A.frames = some (env :: outer)) (u5 : env.frame = some L) (u6 : env.scope.kind = .function)
    (ret1 : ∀ h' tk', d ≠ prD → Fr h₀ L h' m → News h₀ L h' led → Q .none { s with heap := h', toks := tk' })
    (ret2 : ∀ b k t h' tk', d = prD → (∀ p ∈ led, p.1 < b) → Fr h₀ L h' m → News h₀ L h' ((b, tupO [.int 3 t, .none] k) :: led) → Q (.ref b) { s with heap := h', toks := tk' }) :
    wpAny (model Pr w) A (call (.ref 71) [self, v]) Q E s := ctr_use (pair_ok hv) B F X N T u1 u2 u3 u4 u5 u6 fun r h' tk' led' p F' N' => by
  rcases p with ⟨rfl, rfl, c⟩ | ⟨b, k, t, rfl, rfl, c1, c2⟩
  · exact ret1 h' tk' c F' N'
  · exact ret2 b k t h' tk' c1 c2 F' N'
end
section
theorem words_D5_1 : True := by
  k_with_none
  k_with "k_enter" => (first | (refine' code_def ?k1z80 ?k2z80 ?k3z80 ?k4z80 ?k5z80 ?kAz80 ?kFz80 ?kKz80 ?k6z80 ?k7z80 ?k8z80 ?k9z80 ?kBz80 ?_ ?c2z80 ?c3z80 ?c4z80 ?c5z80; (case kAz80 => exact rfl); (case kFz80 => first | exact rfl | assumption); (case kKz80 => first | exact rfl | assumption); (case k1z80 => k_asm); (case k2z80 => k_asm); (case k3z80 => k_asm); (case k4z80 => k_asm); (case k5z80 => k_asm); (case k6z80 => k_is); (case k7z80 => k_is); (case k8z80 => k_room); (case k9z80 => first | exact BindsTo.of_eq rfl | exact binds_K (by k_in) rfl (by k_is) rfl rfl rfl | fail "k_enter: no rule for these arguments"); (case c5z80 => decide); (case kBz80 => exact locs rfl); (case c2z80 => exact rfl); (case c3z80 => exact rfl); (case c4z80 => exact rfl); k_whole; intro gw Lw hw FGw Fw Nw Bw Xw Tw; (try dsimp only); (try k_lift Bw); (try k_fold)) | (refine' code_defC ?k1z80 ?k2z80 ?k3z80 ?k4z80 ?k5z80 ?kAz80 ?kFz80 ?kKz80 ?k6z80 ?k7z80 ?k8z80 ?k9z80 ?kBz80 ?kDz80 ?_ ?c2z80 ?c3z80 ?c4z80; (case kAz80 => exact rfl); (case kFz80 => first | exact rfl | assumption); (case kKz80 => first | exact rfl | assumption); (case k1z80 => k_asm); (case k2z80 => k_asm); (case k3z80 => k_asm); (case k4z80 => k_asm); (case k5z80 => k_asm); (case k6z80 => k_is); (case k7z80 => k_is); (case k8z80 => k_room); (case k9z80 => first | exact BindsTo.of_eq rfl | exact binds_K (by k_in) rfl (by k_is) rfl rfl rfl | fail "k_enter: no rule for these arguments"); (case kBz80 => exact rfl); (case kDz80 => decide +kernel); (case c2z80 => exact rfl); (case c3z80 => exact rfl); (case c4z80 => exact rfl); k_whole; intro gw Lw hw tkw cellsw FGw Fw Nw Yw Bw Xw Tw l1w; (try k_lt l1w); k_cells Yw; (try simp only [List.cons_append, List.nil_append] at Nw); (try dsimp only); (try k_lift Bw); (try k_fold)))
  k_with "k_ne" => (refine neN ?_; (try dsimp only); first | with_reducible assumption | with_reducible exact Ne.symm (by assumption) | exact (by k_extra "nes") | exact Ne.symm (by k_extra "nes") | exact Nat.ne_of_lt (by k_extra "lt") | exact Nat.ne_of_gt (by k_extra "lt") | omega)
  k_with "lt" => (first | with_reducible assumption | with_reducible exact And.left (by assumption) | with_reducible exact And.left (And.right (by assumption)) | with_reducible exact And.left (And.right (And.right (by assumption))) | with_reducible exact And.left (And.right (And.right (And.right (by assumption)))) | with_reducible exact And.left (And.right (And.right (And.right (And.right (by assumption))))) | with_reducible exact And.left (And.right (And.right (And.right (And.right (And.right (by assumption)))))) | with_reducible exact And.left (And.right (And.right (And.right (And.right (And.right (And.right (by assumption))))))) | with_reducible exact And.left (And.right (And.right (And.right (And.right (And.right (And.right (And.right (by assumption)))))))) | with_reducible exact And.left (And.right (And.right (And.right (And.right (And.right (And.right (And.right (And.right (by assumption))))))))) | with_reducible exact And.left (And.right (And.right (And.right (And.right (And.right (And.right (And.right (And.right (And.right (by assumption)))))))))) | with_reducible exact And.left (And.right (And.right (And.right (And.right (And.right (And.right (And.right (And.right (And.right (And.right (by assumption))))))))))) | with_reducible exact And.left (And.right (And.right (And.right (And.right (And.right (And.right (And.right (And.right (And.right (And.right (And.right (by assumption)))))))))))) | with_reducible exact And.left (And.right (And.right (And.right (And.right (And.right (And.right (And.right (And.right (And.right (And.right (And.right (And.right (by assumption))))))))))))) | with_reducible exact And.left (And.right (And.right (And.right (And.right (And.right (And.right (And.right (And.right (And.right (And.right (And.right (And.right (And.right (by assumption)))))))))))))) | with_reducible exact And.left (And.right (And.right (And.right (And.right (And.right (And.right (And.right (And.right (And.right (And.right (And.right (And.right (And.right (And.right (by assumption))))))))))))))) | with_reducible exact And.left (And.right (And.right (And.right (And.right (And.right (And.right (And.right (And.right (And.right (And.right (And.right (And.right (And.right (And.right (And.right (by assumption)))))))))))))))) | with_reducible exact And.right (by assumption) | with_reducible exact And.right (And.right (by assumption)) | with_reducible exact And.right (And.right (And.right (by assumption))) | with_reducible exact And.right (And.right (And.right (And.right (by assumption)))) | with_reducible exact And.right (And.right (And.right (And.right (And.right (by assumption))))) | with_reducible exact And.right (And.right (And.right (And.right (And.right (And.right (by assumption)))))) | with_reducible exact And.right (And.right (And.right (And.right (And.right (And.right (And.right (by assumption))))))) | with_reducible exact And.right (And.right (And.right (And.right (And.right (And.right (And.right (And.right (by assumption)))))))) | with_reducible exact And.right (And.right (And.right (And.right (And.right (And.right (And.right (And.right (And.right (by assumption))))))))))
  k_with "nes" => (first | with_reducible exact And.left (by assumption) | with_reducible exact And.left (And.right (by assumption)) | with_reducible exact And.left (And.right (And.right (by assumption))) | with_reducible exact And.left (And.right (And.right (And.right (by assumption)))) | with_reducible exact And.left (And.right (And.right (And.right (And.right (by assumption))))) | with_reducible exact And.left (And.right (And.right (And.right (And.right (And.right (by assumption)))))) | with_reducible exact And.right (by assumption) | with_reducible exact And.right (And.right (by assumption)) | with_reducible exact And.right (And.right (And.right (by assumption))) | with_reducible exact And.right (And.right (And.right (And.right (by assumption)))) | with_reducible exact And.right (And.right (And.right (And.right (And.right (by assumption))))))
  k_with "subscriptTail" => ((k_here; (with_reducible show wpAny _ _ (subscriptTail _ _ (Value.ref _) (Value.int 0 _)) _ _ _); k_dflt (refine' tup_head ?Nz65 ?mz65 ?_; (case Nz65 => k_asm); (case mz65 => k_mem); k_whole)))
  k_with "call type:tuple" => ((k_here; (with_reducible show wpAny _ _ (call (Value.type "tuple") [Value.ref _]) _ _ _); k_dflt (refine' tuple_ofM ?Fz66 ?Nz66 ?mz66 ?zz66 ?_; (case Fz66 => k_asm); (case Nz66 => k_asm); (case mz66 => k_mem); (case zz66 => first | assumption | (simp only [List.length_cons, List.length_nil]; omega)); k_whole); intro Dw hw Fw Nw l1w; (try k_lt l1w); (try k_sweep)))
  k_with "call type:list" => ((k_here; (with_reducible show wpAny _ _ (call (Value.type "list") [Value.ref _]) _ _ _); k_dflt (refine' list_ofTupM ?Fz67 ?Nz67 ?mz67 ?zz67 ?_; (case Fz67 => k_asm); (case Nz67 => k_asm); (case mz67 => k_mem); (case zz67 => first | assumption | (simp only [List.length_cons, List.length_nil]; omega)); k_whole); intro Dw kw hw Fw Nw l1w; (try k_lt l1w); (try k_sweep)))
  k_with "subscriptTail Name Slice ref ref" => ((k_here; (with_reducible show wpAny _ _ (subscriptTail _ (PySem.Expr.Slice (some _) none none _) (Value.ref _) (Value.ref _)) _ _ _); k_dflt (refine' slice_tupM ?Fz68 ?Nz68 ?mz68 ?zz68 ?_ ?sz68 ?tz68; (case Fz68 => k_asm); (case Nz68 => k_asm); (case mz68 => k_mem); (case zz68 => first | assumption | (simp only [List.length_cons, List.length_nil]; omega)); (case sz68 => with_unfolding_all rfl); (case tz68 => kmk_pure)); intro Dw hw Fw Nw l1w; (try k_lt l1w); (try k_sweep)))
  k_with "compareOp Eq ref none" => ((k_here; (with_reducible show wpAny _ _ (compareOp CmpOp.Eq (Value.ref _) Value.none) _ _ _); k_dflt (refine' eq_tup_none ?Nz69 ?mz69 ?uz69 ?_; (case Nz69 => k_asm); (case mz69 => k_mem); (case uz69 => k_units); k_whole)))
  k_with "compareOp Eq ref" => ((k_here; (with_reducible show wpAny _ _ (compareOp CmpOp.Eq (Value.ref _) Value.none) _ _ _); k_dflt (refine' eq_tup_none ?Nz70 ?mz70 ?uz70 ?_; (case Nz70 => k_asm); (case mz70 => k_mem); (case uz70 => k_units); k_whole)))
  k_with "k_mem" => (((repeat (first | exact List.Mem.head _ | assumption | refine' List.Mem.tail _ ?_ | exact List.mem_append_left _ (by assumption) | exact List.mem_append_left _ (List.Mem.head _) | refine' List.mem_append_right _ ?_)); done))
  k_with "binaryOp Add ref ref" => ((k_here; (with_reducible show wpAny _ _ (binaryOp Operator.Add (Value.ref _) (Value.ref _)) _ _ _); k_dflt (refine' add_tupM ?Fz72 ?Nz72 ?mz72 ?nz72 ?zz72 ?az72 ?bz72; (case Fz72 => k_asm); (case Nz72 => k_asm); (case mz72 => k_mem); (case nz72 => k_mem); (case zz72 => first | assumption | (simp only [List.length_cons, List.length_nil]; omega)); (case' az72 => intro e1w); (case' bz72 => (intro e1w Dw hw Fw Nw l1w; (try k_lt l1w); (try k_sweep))))))
  k_with "kqd_sub" => (((repeat (refine List.forall_mem_cons.mpr ⟨by k_mem, ?_⟩)); first | exact List.forall_mem_nil _ | (intro p9 h9; k_mem)))
  k_with "ktr_rel" => (first | assumption | exact tb_ltOf (by first | assumption | exact (And.right (by assumption)) | exact (And.right (And.right (by assumption))) | exact (And.right (And.right (And.right (by assumption)))) | exact (And.right (And.right (And.right (And.right (by assumption))))) | exact (And.right (And.right (And.right (And.right (And.right (by assumption)))))) | exact (And.right (And.right (And.right (And.right (And.right (And.right (by assumption))))))) | exact (And.right (And.right (And.right (And.right (And.right (And.right (And.right (by assumption)))))))) | exact (And.right (And.right (And.right (And.right (And.right (And.right (And.right (And.right (by assumption))))))))) | exact (And.right (And.right (And.right (And.right (And.right (And.right (And.right (And.right (And.right (by assumption)))))))))) | exact (And.right (And.right (And.right (And.right (And.right (And.right (And.right (And.right (And.right (And.right (by assumption)))))))))))))
  k_with "getMethod ref" => ((k_here; (with_reducible show wpAny _ _ (getMethod (Value.ref _) (Str.ofString "get") _) _ _ _); k_dflt (refine kdg_method (knd := PySem.intKind Pr _) (by k_asm) (by k_mem) (by k_asm) ?_)))
  k_with "call builtin:dict.get" => ((k_here; (try dsimp only [List.nil_append, List.cons_append]); (with_reducible show wpAny _ _ (call (Value.builtin _) [Value.ref _, Value.int _ _, _]) _ _ _); k_dflt (refine kdg_get2 (knd := PySem.intKind Pr _) (by k_asm) (by k_mem) (by k_asm) (by k_asm) (intKind_is _ _ _ _) _ (by assumption) ?_); (try dsimp only [Option.getD])))
  k_with "subscriptTail" => ((k_here; (with_reducible show wpAny _ _ (subscriptTail _ _ (Value.ref _) (Value.int _ _)) _ _ _); k_dflt (refine' list_itemM ?Nz77 ?mz77 ?xz77 ?kz77 ?zz77 ?_; (case Nz77 => k_asm); (case mz77 => k_mem); (case xz77 => assumption); (case kz77 => omega); (case zz77 => first | assumption | omega); k_whole)))
  k_with "call builtin:len" => ((k_here; (with_reducible show wpAny _ _ (call (Value.builtin "len") [Value.ref _]) _ _ _); k_dflt (refine' len_listM ?Nz78 ?mz78 ?zz78 ?_; (case Nz78 => k_asm); (case mz78 => k_mem); (case zz78 => first | assumption | omega); k_whole)))
  k_with "tb_rel" => (first | assumption | (refine' LV.mono ?hz79 ?sz79; (case hz79 => assumption); (case sz79 => kqd_sub)) | (refine' RowsIn.mono ?sz79 ?hz79; (case hz79 => assumption); (case sz79 => kqd_sub)) | (refine' LispAt.mono ?hz79 ?sz79; (case hz79 => assumption); (case sz79 => kqd_sub)) | (refine' RulesAt.mono ?hz79 ?sz79; (case hz79 => assumption); (case sz79 => kqd_sub)) | (refine' IntDict.mono ?hz79 ?sz79; (case hz79 => assumption); (case sz79 => kqd_sub)) | (refine' PlistsIn.mono ?hz79 ?sz79; (case hz79 => assumption); (case sz79 => kqd_sub)) | (refine' DatAll.mono ?sz79 ?hz79; (case hz79 => assumption); (case sz79 => kqd_sub)))
  trivial
set_option maxHeartbeats 4000000 in
theorem is_nil_ok {w : World} {led : List (Addr × Obj)} {ru li dd : Addr} {fi : Int} {v : Value} {d : Dat} (hr : RulesAt w led ru li fi dd) (hv : LV led v d) :
    Ctr w 900 127 [.ref ru, v] led (fun r led' => led' = led ∧ (d = .none ∧ r = .bool true ∨ d ≠ .none ∧ r = .bool false)) := by
  obtain ⟨dr, t, h1, h2⟩ := hr
  cases hv
  all_goals
    refine ctr_of fun mean mg mb env outer A₀ base h₀ L m s Q hf hk B F X N T ret => ?_
    k_dflt k_enter
    k_steps
  all_goals first
    | exact ret _ _ _ _ ⟨rfl, .inl ⟨rfl, rfl⟩⟩ (by k_asm) (by k_asm)
    | exact ret _ _ _ _ ⟨rfl, .inr ⟨(fun e => nomatch e), rfl⟩⟩ (by k_asm) (by k_asm)
theorem is_nil_use {w : World} {led : List (Addr × Obj)} {ru li dd : Addr} {fi : Int} {v : Value} {d : Dat} (hr : RulesAt w led ru li fi dd) (hv : LV led v d)
    {mean : ExcName → Option Value} {mg mb : Str → Option Value} {A : Around} {env : Env} {outer : List Env} {A₀ : Around} {base h₀ : Heap} {L : Addr} {m : Str → Option Value} {s : Shared} {Q E : Value → Shared → Prop}
    (B : Below A₀ base outer h₀) (F : Fr h₀ L s.heap m) (X : (Mine.hd.heap_39 w.params).In h₀) (N : News h₀ L s.heap led) (T : TopOk mean mg mb h₀)
    (u1 : A.handled = none) (u2 : A.depth ≤ 900) (u3 : A.units ≤ 900) (u4 : A.frames = some (env :: outer)) (u5 : env.frame = some L) (u6 : env.scope.kind = .function)
    (ret1 : ∀ h' tk', d = .none → Fr h₀ L h' m → News h₀ L h' led → Q (.bool true) { s with heap := h', toks := tk' })
    (ret2 : ∀ h' tk', d ≠ .none → Fr h₀ L h' m → News h₀ L h' led → Q (.bool false) { s with heap := h', toks := tk' }) :
    wpAny (model Pr w) A (call (.ref 127) [.ref ru, v]) Q E s := ctr_use (is_nil_ok hr hv) B F X N T u1 u2 u3 u4 u5 u6 fun r h' tk' led' p F' N' => by
  rcases p with ⟨rfl, ⟨c, rfl⟩ | ⟨c, rfl⟩⟩
  · exact ret1 h' tk' c F' N'
  · exact ret2 h' tk' c F' N'
end
section
theorem words_D6_1 : True := by
  k_with_none
  k_with "k_enter" => (first | (refine' code_def ?k1z96 ?k2z96 ?k3z96 ?k4z96 ?k5z96 ?kAz96 ?kFz96 ?kKz96 ?k6z96 ?k7z96 ?k8z96 ?k9z96 ?kBz96 ?_ ?c2z96 ?c3z96 ?c4z96 ?c5z96; (case kAz96 => exact rfl); (case kFz96 => first | exact rfl | assumption); (case kKz96 => first | exact rfl | assumption); (case k1z96 => k_asm); (case k2z96 => k_asm); (case k3z96 => k_asm); (case k4z96 => k_asm); (case k5z96 => k_asm); (case k6z96 => k_is); (case k7z96 => k_is); (case k8z96 => k_room); (case k9z96 => first | exact BindsTo.of_eq rfl | exact binds_K (by k_in) rfl (by k_is) rfl rfl rfl | fail "k_enter: no rule for these arguments"); (case c5z96 => decide); (case kBz96 => exact locs rfl); (case c2z96 => exact rfl); (case c3z96 => exact rfl); (case c4z96 => exact rfl); k_whole; intro gw Lw hw FGw Fw Nw Bw Xw Tw; (try dsimp only); (try k_lift Bw); (try k_fold)) | (refine' code_defC ?k1z96 ?k2z96 ?k3z96 ?k4z96 ?k5z96 ?kAz96 ?kFz96 ?kKz96 ?k6z96 ?k7z96 ?k8z96 ?k9z96 ?kBz96 ?kDz96 ?_ ?c2z96 ?c3z96 ?c4z96; (case kAz96 => exact rfl); (case kFz96 => first | exact rfl | assumption); (case kKz96 => first | exact rfl | assumption); (case k1z96 => k_asm); (case k2z96 => k_asm); (case k3z96 => k_asm); (case k4z96 => k_asm); (case k5z96 => k_asm); (case k6z96 => k_is); (case k7z96 => k_is); (case k8z96 => k_room); (case k9z96 => first | exact BindsTo.of_eq rfl | exact binds_K (by k_in) rfl (by k_is) rfl rfl rfl | fail "k_enter: no rule for these arguments"); (case kBz96 => exact rfl); (case kDz96 => decide +kernel); (case c2z96 => exact rfl); (case c3z96 => exact rfl); (case c4z96 => exact rfl); k_whole; intro gw Lw hw tkw cellsw FGw Fw Nw Yw Bw Xw Tw l1w; (try k_lt l1w); k_cells Yw; (try simp only [List.cons_append, List.nil_append] at Nw); (try dsimp only); (try k_lift Bw); (try k_fold)))
  k_with "k_ne" => (refine neN ?_; (try dsimp only); first | with_reducible assumption | with_reducible exact Ne.symm (by assumption) | exact (by k_extra "nes") | exact Ne.symm (by k_extra "nes") | exact Nat.ne_of_lt (by k_extra "lt") | exact Nat.ne_of_gt (by k_extra "lt") | omega)
  k_with "lt" => (first | with_reducible assumption | with_reducible exact And.left (by assumption) | with_reducible exact And.left (And.right (by assumption)) | with_reducible exact And.left (And.right (And.right (by assumption))) | with_reducible exact And.left (And.right (And.right (And.right (by assumption)))) | with_reducible exact And.left (And.right (And.right (And.right (And.right (by assumption))))) | with_reducible exact And.left (And.right (And.right (And.right (And.right (And.right (by assumption)))))) | with_reducible exact And.left (And.right (And.right (And.right (And.right (And.right (And.right (by assumption))))))) | with_reducible exact And.left (And.right (And.right (And.right (And.right (And.right (And.right (And.right (by assumption)))))))) | with_reducible exact And.left (And.right (And.right (And.right (And.right (And.right (And.right (And.right (And.right (by assumption))))))))) | with_reducible exact And.left (And.right (And.right (And.right (And.right (And.right (And.right (And.right (And.right (And.right (by assumption)))))))))) | with_reducible exact And.left (And.right (And.right (And.right (And.right (And.right (And.right (And.right (And.right (And.right (And.right (by assumption))))))))))) | with_reducible exact And.left (And.right (And.right (And.right (And.right (And.right (And.right (And.right (And.right (And.right (And.right (And.right (by assumption)))))))))))) | with_reducible exact And.left (And.right (And.right (And.right (And.right (And.right (And.right (And.right (And.right (And.right (And.right (And.right (And.right (by assumption))))))))))))) | with_reducible exact And.left (And.right (And.right (And.right (And.right (And.right (And.right (And.right (And.right (And.right (And.right (And.right (And.right (And.right (by assumption)))))))))))))) | with_reducible exact And.left (And.right (And.right (And.right (And.right (And.right (And.right (And.right (And.right (And.right (And.right (And.right (And.right (And.right (And.right (by assumption))))))))))))))) | with_reducible exact And.left (And.right (And.right (And.right (And.right (And.right (And.right (And.right (And.right (And.right (And.right (And.right (And.right (And.right (And.right (And.right (by assumption)))))))))))))))) | with_reducible exact And.right (by assumption) | with_reducible exact And.right (And.right (by assumption)) | with_reducible exact And.right (And.right (And.right (by assumption))) | with_reducible exact And.right (And.right (And.right (And.right (by assumption)))) | with_reducible exact And.right (And.right (And.right (And.right (And.right (by assumption))))) | with_reducible exact And.right (And.right (And.right (And.right (And.right (And.right (by assumption)))))) | with_reducible exact And.right (And.right (And.right (And.right (And.right (And.right (And.right (by assumption))))))) | with_reducible exact And.right (And.right (And.right (And.right (And.right (And.right (And.right (And.right (by assumption)))))))) | with_reducible exact And.right (And.right (And.right (And.right (And.right (And.right (And.right (And.right (And.right (by assumption))))))))))
  k_with "nes" => (first | with_reducible exact And.left (by assumption) | with_reducible exact And.left (And.right (by assumption)) | with_reducible exact And.left (And.right (And.right (by assumption))) | with_reducible exact And.left (And.right (And.right (And.right (by assumption)))) | with_reducible exact And.left (And.right (And.right (And.right (And.right (by assumption))))) | with_reducible exact And.left (And.right (And.right (And.right (And.right (And.right (by assumption)))))) | with_reducible exact And.right (by assumption) | with_reducible exact And.right (And.right (by assumption)) | with_reducible exact And.right (And.right (And.right (by assumption))) | with_reducible exact And.right (And.right (And.right (And.right (by assumption)))) | with_reducible exact And.right (And.right (And.right (And.right (And.right (by assumption))))))
  k_with "subscriptTail" => ((k_here; (with_reducible show wpAny _ _ (subscriptTail _ _ (Value.ref _) (Value.int 0 _)) _ _ _); k_dflt (refine' tup_head ?Nz81 ?mz81 ?_; (case Nz81 => k_asm); (case mz81 => k_mem); k_whole)))
  k_with "call type:tuple" => ((k_here; (with_reducible show wpAny _ _ (call (Value.type "tuple") [Value.ref _]) _ _ _); k_dflt (refine' tuple_ofM ?Fz82 ?Nz82 ?mz82 ?zz82 ?_; (case Fz82 => k_asm); (case Nz82 => k_asm); (case mz82 => k_mem); (case zz82 => first | assumption | (simp only [List.length_cons, List.length_nil]; omega)); k_whole); intro Dw hw Fw Nw l1w; (try k_lt l1w); (try k_sweep)))
  k_with "call type:list" => ((k_here; (with_reducible show wpAny _ _ (call (Value.type "list") [Value.ref _]) _ _ _); k_dflt (refine' list_ofTupM ?Fz83 ?Nz83 ?mz83 ?zz83 ?_; (case Fz83 => k_asm); (case Nz83 => k_asm); (case mz83 => k_mem); (case zz83 => first | assumption | (simp only [List.length_cons, List.length_nil]; omega)); k_whole); intro Dw kw hw Fw Nw l1w; (try k_lt l1w); (try k_sweep)))
  k_with "subscriptTail Name Slice ref ref" => ((k_here; (with_reducible show wpAny _ _ (subscriptTail _ (PySem.Expr.Slice (some _) none none _) (Value.ref _) (Value.ref _)) _ _ _); k_dflt (refine' slice_tupM ?Fz84 ?Nz84 ?mz84 ?zz84 ?_ ?sz84 ?tz84; (case Fz84 => k_asm); (case Nz84 => k_asm); (case mz84 => k_mem); (case zz84 => first | assumption | (simp only [List.length_cons, List.length_nil]; omega)); (case sz84 => with_unfolding_all rfl); (case tz84 => kmk_pure)); intro Dw hw Fw Nw l1w; (try k_lt l1w); (try k_sweep)))
  k_with "compareOp Eq ref none" => ((k_here; (with_reducible show wpAny _ _ (compareOp CmpOp.Eq (Value.ref _) Value.none) _ _ _); k_dflt (refine' eq_tup_none ?Nz85 ?mz85 ?uz85 ?_; (case Nz85 => k_asm); (case mz85 => k_mem); (case uz85 => k_units); k_whole)))
  k_with "compareOp Eq ref" => ((k_here; (with_reducible show wpAny _ _ (compareOp CmpOp.Eq (Value.ref _) Value.none) _ _ _); k_dflt (refine' eq_tup_none ?Nz86 ?mz86 ?uz86 ?_; (case Nz86 => k_asm); (case mz86 => k_mem); (case uz86 => k_units); k_whole)))
  k_with "k_mem" => (((repeat (first | exact List.Mem.head _ | assumption | refine' List.Mem.tail _ ?_ | exact List.mem_append_left _ (by assumption) | exact List.mem_append_left _ (List.Mem.head _) | refine' List.mem_append_right _ ?_)); done))
  k_with "binaryOp Add ref ref" => ((k_here; (with_reducible show wpAny _ _ (binaryOp Operator.Add (Value.ref _) (Value.ref _)) _ _ _); k_dflt (refine' add_tupM ?Fz88 ?Nz88 ?mz88 ?nz88 ?zz88 ?az88 ?bz88; (case Fz88 => k_asm); (case Nz88 => k_asm); (case mz88 => k_mem); (case nz88 => k_mem); (case zz88 => first | assumption | (simp only [List.length_cons, List.length_nil]; omega)); (case' az88 => intro e1w); (case' bz88 => (intro e1w Dw hw Fw Nw l1w; (try k_lt l1w); (try k_sweep))))))
  k_with "kqd_sub" => (((repeat (refine List.forall_mem_cons.mpr ⟨by k_mem, ?_⟩)); first | exact List.forall_mem_nil _ | (intro p9 h9; k_mem)))
  k_with "ktr_rel" => (first | assumption | exact tb_ltOf (by first | assumption | exact (And.right (by assumption)) | exact (And.right (And.right (by assumption))) | exact (And.right (And.right (And.right (by assumption)))) | exact (And.right (And.right (And.right (And.right (by assumption))))) | exact (And.right (And.right (And.right (And.right (And.right (by assumption)))))) | exact (And.right (And.right (And.right (And.right (And.right (And.right (by assumption))))))) | exact (And.right (And.right (And.right (And.right (And.right (And.right (And.right (by assumption)))))))) | exact (And.right (And.right (And.right (And.right (And.right (And.right (And.right (And.right (by assumption))))))))) | exact (And.right (And.right (And.right (And.right (And.right (And.right (And.right (And.right (And.right (by assumption)))))))))) | exact (And.right (And.right (And.right (And.right (And.right (And.right (And.right (And.right (And.right (And.right (by assumption)))))))))))))
  k_with "getMethod ref" => ((k_here; (with_reducible show wpAny _ _ (getMethod (Value.ref _) (Str.ofString "get") _) _ _ _); k_dflt (refine kdg_method (knd := PySem.intKind Pr _) (by k_asm) (by k_mem) (by k_asm) ?_)))
  k_with "call builtin:dict.get" => ((k_here; (try dsimp only [List.nil_append, List.cons_append]); (with_reducible show wpAny _ _ (call (Value.builtin _) [Value.ref _, Value.int _ _, _]) _ _ _); k_dflt (refine kdg_get2 (knd := PySem.intKind Pr _) (by k_asm) (by k_mem) (by k_asm) (by k_asm) (intKind_is _ _ _ _) _ (by assumption) ?_); (try dsimp only [Option.getD])))
  k_with "subscriptTail" => ((k_here; (with_reducible show wpAny _ _ (subscriptTail _ _ (Value.ref _) (Value.int _ _)) _ _ _); k_dflt (refine' list_itemM ?Nz93 ?mz93 ?xz93 ?kz93 ?zz93 ?_; (case Nz93 => k_asm); (case mz93 => k_mem); (case xz93 => assumption); (case kz93 => omega); (case zz93 => first | assumption | omega); k_whole)))
  k_with "call builtin:len" => ((k_here; (with_reducible show wpAny _ _ (call (Value.builtin "len") [Value.ref _]) _ _ _); k_dflt (refine' len_listM ?Nz94 ?mz94 ?zz94 ?_; (case Nz94 => k_asm); (case mz94 => k_mem); (case zz94 => first | assumption | omega); k_whole)))
  k_with "tb_rel" => (first | assumption | (refine' LV.mono ?hz95 ?sz95; (case hz95 => assumption); (case sz95 => kqd_sub)) | (refine' RowsIn.mono ?sz95 ?hz95; (case hz95 => assumption); (case sz95 => kqd_sub)) | (refine' LispAt.mono ?hz95 ?sz95; (case hz95 => assumption); (case sz95 => kqd_sub)) | (refine' RulesAt.mono ?hz95 ?sz95; (case hz95 => assumption); (case sz95 => kqd_sub)) | (refine' IntDict.mono ?hz95 ?sz95; (case hz95 => assumption); (case sz95 => kqd_sub)) | (refine' PlistsIn.mono ?hz95 ?sz95; (case hz95 => assumption); (case sz95 => kqd_sub)) | (refine' DatAll.mono ?sz95 ?hz95; (case hz95 => assumption); (case sz95 => kqd_sub)))
  trivial
set_option maxHeartbeats 4000000 in
theorem is_loose_ok {w : World} {led : List (Addr × Obj)} {ru li dd : Addr} {fi : Int} {kvs : List (Int × Value)} {k x : Int} {t : Tok} (hr : RulesAt w led ru li fi dd) (hd : IntDict w led dd kvs)
    (hx : (valueAt kvs k = none ∧ x = 0) ∨ ∃ u, valueAt kvs k = some (.int x u)) :
    Ctr w 900 153 [.ref ru, .int k t] led (fun r led' => led' = led ∧ r = .bool (decide (0 < x))) := by
  obtain ⟨dr, t, h1, h2⟩ := hr
  obtain ⟨od, h3, h4, h5⟩ := hd
  rcases hx with ⟨h6, rfl⟩ | ⟨u, h6⟩
  all_goals
    refine ctr_of fun mean mg mb env outer A₀ base h₀ L m s Q hf hk B F X N T ret => ?_
    k_dflt k_enter
    k_steps
  all_goals exact ret _ _ _ _ ⟨rfl, rfl⟩ (by k_asm) (cb_drop (by assumption) (by kqd_sub))
end
section
theorem words_D18_1 : True := by
  k_with_none
  k_with "k_enter" => (first | (refine' code_def ?k1z112 ?k2z112 ?k3z112 ?k4z112 ?k5z112 ?kAz112 ?kFz112 ?kKz112 ?k6z112 ?k7z112 ?k8z112 ?k9z112 ?kBz112 ?_ ?c2z112 ?c3z112 ?c4z112 ?c5z112; (case kAz112 => exact rfl); (case kFz112 => first | exact rfl | assumption); (case kKz112 => first | exact rfl | assumption); (case k1z112 => k_asm); (case k2z112 => k_asm); (case k3z112 => k_asm); (case k4z112 => k_asm); (case k5z112 => k_asm); (case k6z112 => k_is); (case k7z112 => k_is); (case k8z112 => k_room); (case k9z112 => first | exact BindsTo.of_eq rfl | exact binds_K (by k_in) rfl (by k_is) rfl rfl rfl | fail "k_enter: no rule for these arguments"); (case c5z112 => decide); (case kBz112 => exact locs rfl); (case c2z112 => exact rfl); (case c3z112 => exact rfl); (case c4z112 => exact rfl); k_whole; intro gw Lw hw FGw Fw Nw Bw Xw Tw; (try dsimp only); (try k_lift Bw); (try k_fold)) | (refine' code_defC ?k1z112 ?k2z112 ?k3z112 ?k4z112 ?k5z112 ?kAz112 ?kFz112 ?kKz112 ?k6z112 ?k7z112 ?k8z112 ?k9z112 ?kBz112 ?kDz112 ?_ ?c2z112 ?c3z112 ?c4z112; (case kAz112 => exact rfl); (case kFz112 => first | exact rfl | assumption); (case kKz112 => first | exact rfl | assumption); (case k1z112 => k_asm); (case k2z112 => k_asm); (case k3z112 => k_asm); (case k4z112 => k_asm); (case k5z112 => k_asm); (case k6z112 => k_is); (case k7z112 => k_is); (case k8z112 => k_room); (case k9z112 => first | exact BindsTo.of_eq rfl | exact binds_K (by k_in) rfl (by k_is) rfl rfl rfl | fail "k_enter: no rule for these arguments"); (case kBz112 => exact rfl); (case kDz112 => decide +kernel); (case c2z112 => exact rfl); (case c3z112 => exact rfl); (case c4z112 => exact rfl); k_whole; intro gw Lw hw tkw cellsw FGw Fw Nw Yw Bw Xw Tw l1w; (try k_lt l1w); k_cells Yw; (try simp only [List.cons_append, List.nil_append] at Nw); (try dsimp only); (try k_lift Bw); (try k_fold)))
  k_with "k_ne" => (refine neN ?_; (try dsimp only); first | with_reducible assumption | with_reducible exact Ne.symm (by assumption) | exact (by k_extra "nes") | exact Ne.symm (by k_extra "nes") | exact Nat.ne_of_lt (by k_extra "lt") | exact Nat.ne_of_gt (by k_extra "lt") | omega)
  k_with "lt" => (first | with_reducible assumption | with_reducible exact And.left (by assumption) | with_reducible exact And.left (And.right (by assumption)) | with_reducible exact And.left (And.right (And.right (by assumption))) | with_reducible exact And.left (And.right (And.right (And.right (by assumption)))) | with_reducible exact And.left (And.right (And.right (And.right (And.right (by assumption))))) | with_reducible exact And.left (And.right (And.right (And.right (And.right (And.right (by assumption)))))) | with_reducible exact And.left (And.right (And.right (And.right (And.right (And.right (And.right (by assumption))))))) | with_reducible exact And.left (And.right (And.right (And.right (And.right (And.right (And.right (And.right (by assumption)))))))) | with_reducible exact And.left (And.right (And.right (And.right (And.right (And.right (And.right (And.right (And.right (by assumption))))))))) | with_reducible exact And.left (And.right (And.right (And.right (And.right (And.right (And.right (And.right (And.right (And.right (by assumption)))))))))) | with_reducible exact And.left (And.right (And.right (And.right (And.right (And.right (And.right (And.right (And.right (And.right (And.right (by assumption))))))))))) | with_reducible exact And.left (And.right (And.right (And.right (And.right (And.right (And.right (And.right (And.right (And.right (And.right (And.right (by assumption)))))))))))) | with_reducible exact And.left (And.right (And.right (And.right (And.right (And.right (And.right (And.right (And.right (And.right (And.right (And.right (And.right (by assumption))))))))))))) | with_reducible exact And.left (And.right (And.right (And.right (And.right (And.right (And.right (And.right (And.right (And.right (And.right (And.right (And.right (And.right (by assumption)))))))))))))) | with_reducible exact And.left (And.right (And.right (And.right (And.right (And.right (And.right (And.right (And.right (And.right (And.right (And.right (And.right (And.right (And.right (by assumption))))))))))))))) | with_reducible exact And.left (And.right (And.right (And.right (And.right (And.right (And.right (And.right (And.right (And.right (And.right (And.right (And.right (And.right (And.right (And.right (by assumption)))))))))))))))) | with_reducible exact And.right (by assumption) | with_reducible exact And.right (And.right (by assumption)) | with_reducible exact And.right (And.right (And.right (by assumption))) | with_reducible exact And.right (And.right (And.right (And.right (by assumption)))) | with_reducible exact And.right (And.right (And.right (And.right (And.right (by assumption))))) | with_reducible exact And.right (And.right (And.right (And.right (And.right (And.right (by assumption)))))) | with_reducible exact And.right (And.right (And.right (And.right (And.right (And.right (And.right (by assumption))))))) | with_reducible exact And.right (And.right (And.right (And.right (And.right (And.right (And.right (And.right (by assumption)))))))) | with_reducible exact And.right (And.right (And.right (And.right (And.right (And.right (And.right (And.right (And.right (by assumption))))))))))
  k_with "nes" => (first | with_reducible exact And.left (by assumption) | with_reducible exact And.left (And.right (by assumption)) | with_reducible exact And.left (And.right (And.right (by assumption))) | with_reducible exact And.left (And.right (And.right (And.right (by assumption)))) | with_reducible exact And.left (And.right (And.right (And.right (And.right (by assumption))))) | with_reducible exact And.left (And.right (And.right (And.right (And.right (And.right (by assumption)))))) | with_reducible exact And.right (by assumption) | with_reducible exact And.right (And.right (by assumption)) | with_reducible exact And.right (And.right (And.right (by assumption))) | with_reducible exact And.right (And.right (And.right (And.right (by assumption)))) | with_reducible exact And.right (And.right (And.right (And.right (And.right (by assumption))))))
  k_with "subscriptTail" => ((k_here; (with_reducible show wpAny _ _ (subscriptTail _ _ (Value.ref _) (Value.int 0 _)) _ _ _); k_dflt (refine' tup_head ?Nz97 ?mz97 ?_; (case Nz97 => k_asm); (case mz97 => k_mem); k_whole)))
  k_with "call type:tuple" => ((k_here; (with_reducible show wpAny _ _ (call (Value.type "tuple") [Value.ref _]) _ _ _); k_dflt (refine' tuple_ofM ?Fz98 ?Nz98 ?mz98 ?zz98 ?_; (case Fz98 => k_asm); (case Nz98 => k_asm); (case mz98 => k_mem); (case zz98 => first | assumption | (simp only [List.length_cons, List.length_nil]; omega)); k_whole); intro Dw hw Fw Nw l1w; (try k_lt l1w); (try k_sweep)))
  k_with "call type:list" => ((k_here; (with_reducible show wpAny _ _ (call (Value.type "list") [Value.ref _]) _ _ _); k_dflt (refine' list_ofTupM ?Fz99 ?Nz99 ?mz99 ?zz99 ?_; (case Fz99 => k_asm); (case Nz99 => k_asm); (case mz99 => k_mem); (case zz99 => first | assumption | (simp only [List.length_cons, List.length_nil]; omega)); k_whole); intro Dw kw hw Fw Nw l1w; (try k_lt l1w); (try k_sweep)))
  k_with "subscriptTail Name Slice ref ref" => ((k_here; (with_reducible show wpAny _ _ (subscriptTail _ (PySem.Expr.Slice (some _) none none _) (Value.ref _) (Value.ref _)) _ _ _); k_dflt (refine' slice_tupM ?Fz100 ?Nz100 ?mz100 ?zz100 ?_ ?sz100 ?tz100; (case Fz100 => k_asm); (case Nz100 => k_asm); (case mz100 => k_mem); (case zz100 => first | assumption | (simp only [List.length_cons, List.length_nil]; omega)); (case sz100 => with_unfolding_all rfl); (case tz100 => kmk_pure)); intro Dw hw Fw Nw l1w; (try k_lt l1w); (try k_sweep)))
  k_with "compareOp Eq ref none" => ((k_here; (with_reducible show wpAny _ _ (compareOp CmpOp.Eq (Value.ref _) Value.none) _ _ _); k_dflt (refine' eq_tup_none ?Nz101 ?mz101 ?uz101 ?_; (case Nz101 => k_asm); (case mz101 => k_mem); (case uz101 => k_units); k_whole)))
  k_with "compareOp Eq ref" => ((k_here; (with_reducible show wpAny _ _ (compareOp CmpOp.Eq (Value.ref _) Value.none) _ _ _); k_dflt (refine' eq_tup_none ?Nz102 ?mz102 ?uz102 ?_; (case Nz102 => k_asm); (case mz102 => k_mem); (case uz102 => k_units); k_whole)))
  k_with "k_mem" => (((repeat (first | exact List.Mem.head _ | assumption | refine' List.Mem.tail _ ?_ | exact List.mem_append_left _ (by assumption) | exact List.mem_append_left _ (List.Mem.head _) | refine' List.mem_append_right _ ?_)); done))
  k_with "binaryOp Add ref ref" => ((k_here; (with_reducible show wpAny _ _ (binaryOp Operator.Add (Value.ref _) (Value.ref _)) _ _ _); k_dflt (refine' add_tupM ?Fz104 ?Nz104 ?mz104 ?nz104 ?zz104 ?az104 ?bz104; (case Fz104 => k_asm); (case Nz104 => k_asm); (case mz104 => k_mem); (case nz104 => k_mem); (case zz104 => first | assumption | (simp only [List.length_cons, List.length_nil]; omega)); (case' az104 => intro e1w); (case' bz104 => (intro e1w Dw hw Fw Nw l1w; (try k_lt l1w); (try k_sweep))))))
  k_with "kqd_sub" => (((repeat (refine List.forall_mem_cons.mpr ⟨by k_mem, ?_⟩)); first | exact List.forall_mem_nil _ | (intro p9 h9; k_mem)))
  k_with "ktr_rel" => (first | assumption | exact tb_ltOf (by first | assumption | exact (And.right (by assumption)) | exact (And.right (And.right (by assumption))) | exact (And.right (And.right (And.right (by assumption)))) | exact (And.right (And.right (And.right (And.right (by assumption))))) | exact (And.right (And.right (And.right (And.right (And.right (by assumption)))))) | exact (And.right (And.right (And.right (And.right (And.right (And.right (by assumption))))))) | exact (And.right (And.right (And.right (And.right (And.right (And.right (And.right (by assumption)))))))) | exact (And.right (And.right (And.right (And.right (And.right (And.right (And.right (And.right (by assumption))))))))) | exact (And.right (And.right (And.right (And.right (And.right (And.right (And.right (And.right (And.right (by assumption)))))))))) | exact (And.right (And.right (And.right (And.right (And.right (And.right (And.right (And.right (And.right (And.right (by assumption)))))))))))))
  k_with "getMethod ref" => ((k_here; (with_reducible show wpAny _ _ (getMethod (Value.ref _) (Str.ofString "get") _) _ _ _); k_dflt (refine kdg_method (knd := PySem.intKind Pr _) (by k_asm) (by k_mem) (by k_asm) ?_)))
  k_with "call builtin:dict.get" => ((k_here; (try dsimp only [List.nil_append, List.cons_append]); (with_reducible show wpAny _ _ (call (Value.builtin _) [Value.ref _, Value.int _ _, _]) _ _ _); k_dflt (refine kdg_get2 (knd := PySem.intKind Pr _) (by k_asm) (by k_mem) (by k_asm) (by k_asm) (intKind_is _ _ _ _) _ (by assumption) ?_); (try dsimp only [Option.getD])))
  k_with "subscriptTail" => ((k_here; (with_reducible show wpAny _ _ (subscriptTail _ _ (Value.ref _) (Value.int _ _)) _ _ _); k_dflt (refine' list_itemM ?Nz109 ?mz109 ?xz109 ?kz109 ?zz109 ?_; (case Nz109 => k_asm); (case mz109 => k_mem); (case xz109 => assumption); (case kz109 => omega); (case zz109 => first | assumption | omega); k_whole)))
  k_with "call builtin:len" => ((k_here; (with_reducible show wpAny _ _ (call (Value.builtin "len") [Value.ref _]) _ _ _); k_dflt (refine' len_listM ?Nz110 ?mz110 ?zz110 ?_; (case Nz110 => k_asm); (case mz110 => k_mem); (case zz110 => first | assumption | omega); k_whole)))
  k_with "tb_rel" => (first | assumption | (refine' LV.mono ?hz111 ?sz111; (case hz111 => assumption); (case sz111 => kqd_sub)) | (refine' RowsIn.mono ?sz111 ?hz111; (case hz111 => assumption); (case sz111 => kqd_sub)) | (refine' LispAt.mono ?hz111 ?sz111; (case hz111 => assumption); (case sz111 => kqd_sub)) | (refine' RulesAt.mono ?hz111 ?sz111; (case hz111 => assumption); (case sz111 => kqd_sub)) | (refine' IntDict.mono ?hz111 ?sz111; (case hz111 => assumption); (case sz111 => kqd_sub)) | (refine' PlistsIn.mono ?hz111 ?sz111; (case hz111 => assumption); (case sz111 => kqd_sub)) | (refine' DatAll.mono ?sz111 ?hz111; (case hz111 => assumption); (case sz111 => kqd_sub)))
  trivial
set_option maxHeartbeats 4000000 in
theorem is_tight_ok {w : World} {led : List (Addr × Obj)} {ru li dd : Addr} {fi : Int} {kvs : List (Int × Value)} {k x : Int} {t : Tok} (hr : RulesAt w led ru li fi dd) (hd : IntDict w led dd kvs)
    (hx : (valueAt kvs k = none ∧ x = 0) ∨ ∃ u, valueAt kvs k = some (.int x u)) :
    Ctr w 900 160 [.ref ru, .int k t] led (fun r led' => led' = led ∧ r = .bool (decide (x < 0))) := by
  obtain ⟨dr, t, h1, h2⟩ := hr
  obtain ⟨od, h3, h4, h5⟩ := hd
  rcases hx with ⟨h6, rfl⟩ | ⟨u, h6⟩
  all_goals
    refine ctr_of fun mean mg mb env outer A₀ base h₀ L m s Q hf hk B F X N T ret => ?_
    k_dflt k_enter
    k_steps
  all_goals exact ret _ _ _ _ ⟨rfl, rfl⟩ (by k_asm) (cb_drop (by assumption) (by kqd_sub))
end
section
theorem words_D7_1 : True := by
  k_with_none
  k_with "k_enter" => (first | (refine' code_def ?k1z130 ?k2z130 ?k3z130 ?k4z130 ?k5z130 ?kAz130 ?kFz130 ?kKz130 ?k6z130 ?k7z130 ?k8z130 ?k9z130 ?kBz130 ?_ ?c2z130 ?c3z130 ?c4z130 ?c5z130; (case kAz130 => exact rfl); (case kFz130 => first | exact rfl | assumption); (case kKz130 => first | exact rfl | assumption); (case k1z130 => k_asm); (case k2z130 => k_asm); (case k3z130 => k_asm); (case k4z130 => k_asm); (case k5z130 => k_asm); (case k6z130 => k_is); (case k7z130 => k_is); (case k8z130 => k_room); (case k9z130 => first | exact BindsTo.of_eq rfl | exact binds_K (by k_in) rfl (by k_is) rfl rfl rfl | fail "k_enter: no rule for these arguments"); (case c5z130 => decide); (case kBz130 => exact locs rfl); (case c2z130 => exact rfl); (case c3z130 => exact rfl); (case c4z130 => exact rfl); k_whole; intro gw Lw hw FGw Fw Nw Bw Xw Tw; (try dsimp only); (try k_lift Bw); (try k_fold)) | (refine' code_defC ?k1z130 ?k2z130 ?k3z130 ?k4z130 ?k5z130 ?kAz130 ?kFz130 ?kKz130 ?k6z130 ?k7z130 ?k8z130 ?k9z130 ?kBz130 ?kDz130 ?_ ?c2z130 ?c3z130 ?c4z130; (case kAz130 => exact rfl); (case kFz130 => first | exact rfl | assumption); (case kKz130 => first | exact rfl | assumption); (case k1z130 => k_asm); (case k2z130 => k_asm); (case k3z130 => k_asm); (case k4z130 => k_asm); (case k5z130 => k_asm); (case k6z130 => k_is); (case k7z130 => k_is); (case k8z130 => k_room); (case k9z130 => first | exact BindsTo.of_eq rfl | exact binds_K (by k_in) rfl (by k_is) rfl rfl rfl | fail "k_enter: no rule for these arguments"); (case kBz130 => exact rfl); (case kDz130 => decide +kernel); (case c2z130 => exact rfl); (case c3z130 => exact rfl); (case c4z130 => exact rfl); k_whole; intro gw Lw hw tkw cellsw FGw Fw Nw Yw Bw Xw Tw l1w; (try k_lt l1w); k_cells Yw; (try simp only [List.cons_append, List.nil_append] at Nw); (try dsimp only); (try k_lift Bw); (try k_fold)))
  k_with "k_ne" => (refine neN ?_; (try dsimp only); first | with_reducible assumption | with_reducible exact Ne.symm (by assumption) | exact (by k_extra "nes") | exact Ne.symm (by k_extra "nes") | exact Nat.ne_of_lt (by k_extra "lt") | exact Nat.ne_of_gt (by k_extra "lt") | omega)
  k_with "lt" => (first | with_reducible assumption | with_reducible exact And.left (by assumption) | with_reducible exact And.left (And.right (by assumption)) | with_reducible exact And.left (And.right (And.right (by assumption))) | with_reducible exact And.left (And.right (And.right (And.right (by assumption)))) | with_reducible exact And.left (And.right (And.right (And.right (And.right (by assumption))))) | with_reducible exact And.left (And.right (And.right (And.right (And.right (And.right (by assumption)))))) | with_reducible exact And.left (And.right (And.right (And.right (And.right (And.right (And.right (by assumption))))))) | with_reducible exact And.left (And.right (And.right (And.right (And.right (And.right (And.right (And.right (by assumption)))))))) | with_reducible exact And.left (And.right (And.right (And.right (And.right (And.right (And.right (And.right (And.right (by assumption))))))))) | with_reducible exact And.left (And.right (And.right (And.right (And.right (And.right (And.right (And.right (And.right (And.right (by assumption)))))))))) | with_reducible exact And.left (And.right (And.right (And.right (And.right (And.right (And.right (And.right (And.right (And.right (And.right (by assumption))))))))))) | with_reducible exact And.left (And.right (And.right (And.right (And.right (And.right (And.right (And.right (And.right (And.right (And.right (And.right (by assumption)))))))))))) | with_reducible exact And.left (And.right (And.right (And.right (And.right (And.right (And.right (And.right (And.right (And.right (And.right (And.right (And.right (by assumption))))))))))))) | with_reducible exact And.left (And.right (And.right (And.right (And.right (And.right (And.right (And.right (And.right (And.right (And.right (And.right (And.right (And.right (by assumption)))))))))))))) | with_reducible exact And.left (And.right (And.right (And.right (And.right (And.right (And.right (And.right (And.right (And.right (And.right (And.right (And.right (And.right (And.right (by assumption))))))))))))))) | with_reducible exact And.left (And.right (And.right (And.right (And.right (And.right (And.right (And.right (And.right (And.right (And.right (And.right (And.right (And.right (And.right (And.right (by assumption)))))))))))))))) | with_reducible exact And.right (by assumption) | with_reducible exact And.right (And.right (by assumption)) | with_reducible exact And.right (And.right (And.right (by assumption))) | with_reducible exact And.right (And.right (And.right (And.right (by assumption)))) | with_reducible exact And.right (And.right (And.right (And.right (And.right (by assumption))))) | with_reducible exact And.right (And.right (And.right (And.right (And.right (And.right (by assumption)))))) | with_reducible exact And.right (And.right (And.right (And.right (And.right (And.right (And.right (by assumption))))))) | with_reducible exact And.right (And.right (And.right (And.right (And.right (And.right (And.right (And.right (by assumption)))))))) | with_reducible exact And.right (And.right (And.right (And.right (And.right (And.right (And.right (And.right (And.right (by assumption))))))))))
  k_with "nes" => (first | with_reducible exact And.left (by assumption) | with_reducible exact And.left (And.right (by assumption)) | with_reducible exact And.left (And.right (And.right (by assumption))) | with_reducible exact And.left (And.right (And.right (And.right (by assumption)))) | with_reducible exact And.left (And.right (And.right (And.right (And.right (by assumption))))) | with_reducible exact And.left (And.right (And.right (And.right (And.right (And.right (by assumption)))))) | with_reducible exact And.right (by assumption) | with_reducible exact And.right (And.right (by assumption)) | with_reducible exact And.right (And.right (And.right (by assumption))) | with_reducible exact And.right (And.right (And.right (And.right (by assumption)))) | with_reducible exact And.right (And.right (And.right (And.right (And.right (by assumption))))))
  k_with "subscriptTail" => ((k_here; (with_reducible show wpAny _ _ (subscriptTail _ _ (Value.ref _) (Value.int 0 _)) _ _ _); k_dflt (refine' tup_head ?Nz113 ?mz113 ?_; (case Nz113 => k_asm); (case mz113 => k_mem); k_whole)))
  k_with "call type:tuple" => ((k_here; (with_reducible show wpAny _ _ (call (Value.type "tuple") [Value.ref _]) _ _ _); k_dflt (refine' tuple_ofM ?Fz114 ?Nz114 ?mz114 ?zz114 ?_; (case Fz114 => k_asm); (case Nz114 => k_asm); (case mz114 => k_mem); (case zz114 => first | assumption | (simp only [List.length_cons, List.length_nil]; omega)); k_whole); intro Dw hw Fw Nw l1w; (try k_lt l1w); (try k_sweep)))
  k_with "call type:list" => ((k_here; (with_reducible show wpAny _ _ (call (Value.type "list") [Value.ref _]) _ _ _); k_dflt (refine' list_ofTupM ?Fz115 ?Nz115 ?mz115 ?zz115 ?_; (case Fz115 => k_asm); (case Nz115 => k_asm); (case mz115 => k_mem); (case zz115 => first | assumption | (simp only [List.length_cons, List.length_nil]; omega)); k_whole); intro Dw kw hw Fw Nw l1w; (try k_lt l1w); (try k_sweep)))
  k_with "subscriptTail Name Slice ref ref" => ((k_here; (with_reducible show wpAny _ _ (subscriptTail _ (PySem.Expr.Slice (some _) none none _) (Value.ref _) (Value.ref _)) _ _ _); k_dflt (refine' slice_tupM ?Fz116 ?Nz116 ?mz116 ?zz116 ?_ ?sz116 ?tz116; (case Fz116 => k_asm); (case Nz116 => k_asm); (case mz116 => k_mem); (case zz116 => first | assumption | (simp only [List.length_cons, List.length_nil]; omega)); (case sz116 => with_unfolding_all rfl); (case tz116 => kmk_pure)); intro Dw hw Fw Nw l1w; (try k_lt l1w); (try k_sweep)))
  k_with "compareOp Eq ref none" => ((k_here; (with_reducible show wpAny _ _ (compareOp CmpOp.Eq (Value.ref _) Value.none) _ _ _); k_dflt (refine' eq_tup_none ?Nz117 ?mz117 ?uz117 ?_; (case Nz117 => k_asm); (case mz117 => k_mem); (case uz117 => k_units); k_whole)))
  k_with "compareOp Eq ref" => ((k_here; (with_reducible show wpAny _ _ (compareOp CmpOp.Eq (Value.ref _) Value.none) _ _ _); k_dflt (refine' eq_tup_none ?Nz118 ?mz118 ?uz118 ?_; (case Nz118 => k_asm); (case mz118 => k_mem); (case uz118 => k_units); k_whole)))
  k_with "k_mem" => (((repeat (first | exact List.Mem.head _ | assumption | refine' List.Mem.tail _ ?_ | exact List.mem_append_left _ (by assumption) | exact List.mem_append_left _ (List.Mem.head _) | refine' List.mem_append_right _ ?_)); done))
  k_with "binaryOp Add ref ref" => ((k_here; (with_reducible show wpAny _ _ (binaryOp Operator.Add (Value.ref _) (Value.ref _)) _ _ _); k_dflt (refine' add_tupM ?Fz120 ?Nz120 ?mz120 ?nz120 ?zz120 ?az120 ?bz120; (case Fz120 => k_asm); (case Nz120 => k_asm); (case mz120 => k_mem); (case nz120 => k_mem); (case zz120 => first | assumption | (simp only [List.length_cons, List.length_nil]; omega)); (case' az120 => intro e1w); (case' bz120 => (intro e1w Dw hw Fw Nw l1w; (try k_lt l1w); (try k_sweep))))))
  k_with "kqd_sub" => (((repeat (refine List.forall_mem_cons.mpr ⟨by k_mem, ?_⟩)); first | exact List.forall_mem_nil _ | (intro p9 h9; k_mem)))
  k_with "ktr_rel" => (first | assumption | exact tb_ltOf (by first | assumption | exact (And.right (by assumption)) | exact (And.right (And.right (by assumption))) | exact (And.right (And.right (And.right (by assumption)))) | exact (And.right (And.right (And.right (And.right (by assumption))))) | exact (And.right (And.right (And.right (And.right (And.right (by assumption)))))) | exact (And.right (And.right (And.right (And.right (And.right (And.right (by assumption))))))) | exact (And.right (And.right (And.right (And.right (And.right (And.right (And.right (by assumption)))))))) | exact (And.right (And.right (And.right (And.right (And.right (And.right (And.right (And.right (by assumption))))))))) | exact (And.right (And.right (And.right (And.right (And.right (And.right (And.right (And.right (And.right (by assumption)))))))))) | exact (And.right (And.right (And.right (And.right (And.right (And.right (And.right (And.right (And.right (And.right (by assumption)))))))))))))
  k_with "getMethod ref" => ((k_here; (with_reducible show wpAny _ _ (getMethod (Value.ref _) (Str.ofString "get") _) _ _ _); k_dflt (refine kdg_method (knd := PySem.intKind Pr _) (by k_asm) (by k_mem) (by k_asm) ?_)))
  k_with "call builtin:dict.get" => ((k_here; (try dsimp only [List.nil_append, List.cons_append]); (with_reducible show wpAny _ _ (call (Value.builtin _) [Value.ref _, Value.int _ _, _]) _ _ _); k_dflt (refine kdg_get2 (knd := PySem.intKind Pr _) (by k_asm) (by k_mem) (by k_asm) (by k_asm) (intKind_is _ _ _ _) _ (by assumption) ?_); (try dsimp only [Option.getD])))
  k_with "subscriptTail" => ((k_here; (with_reducible show wpAny _ _ (subscriptTail _ _ (Value.ref _) (Value.int _ _)) _ _ _); k_dflt (refine' list_itemM ?Nz125 ?mz125 ?xz125 ?kz125 ?zz125 ?_; (case Nz125 => k_asm); (case mz125 => k_mem); (case xz125 => assumption); (case kz125 => omega); (case zz125 => first | assumption | omega); k_whole)))
  k_with "call builtin:len" => ((k_here; (with_reducible show wpAny _ _ (call (Value.builtin "len") [Value.ref _]) _ _ _); k_dflt (refine' len_listM ?Nz126 ?mz126 ?zz126 ?_; (case Nz126 => k_asm); (case mz126 => k_mem); (case zz126 => first | assumption | omega); k_whole)))
  k_with "tb_rel" => (first | assumption | (refine' LV.mono ?hz127 ?sz127; (case hz127 => assumption); (case sz127 => kqd_sub)) | (refine' RowsIn.mono ?sz127 ?hz127; (case hz127 => assumption); (case sz127 => kqd_sub)) | (refine' LispAt.mono ?hz127 ?sz127; (case hz127 => assumption); (case sz127 => kqd_sub)) | (refine' RulesAt.mono ?hz127 ?sz127; (case hz127 => assumption); (case sz127 => kqd_sub)) | (refine' IntDict.mono ?hz127 ?sz127; (case hz127 => assumption); (case sz127 => kqd_sub)) | (refine' PlistsIn.mono ?hz127 ?sz127; (case hz127 => assumption); (case sz127 => kqd_sub)) | (refine' DatAll.mono ?sz127 ?hz127; (case hz127 => assumption); (case sz127 => kqd_sub)))
  k_with "pyIter ref" => (((with_reducible show wpAny _ _ (pyIter (Value.ref _)) (fun it s₂ => LoopAtV _ _ _ _ _ _ _ _ _ it s₂) _ _); (rename Fr _ _ _ _ => lFw); (rename News _ _ _ _ => lNw); (rename IsRange _ _ _ _ _ _ _ _ => lRw); (with_unfolding_all refine iter_rangeUnr (by rfl) lRw (small_one (by omega) (by omega) (by omega) (by omega)) (rangeSize_nat _ _) lFw lNw ?_); clear lFw lNw; intro iw l1w; (try k_lt l1w)))
  k_with "RangeRest" => (fail "mine")
  trivial
set_option maxHeartbeats 4000000 in
theorem plist_find_ok {w : World} {led : List (Addr × Obj)} {pl : Addr} {vs : List Value} {n : Nat} {rows : List (Int × Dat)} {k : Int} {t : Tok} (hm : (pl, listOf vs.toArray n) ∈ led) (hd : RowsIn led vs rows) (hz : rows.length ≤ 100) :
    Ctr w 900 99 [.ref pl, .int k t] led (fun r led' => led' = led ∧ ∃ j t, r = .int j t ∧ ((j = -1 ∧ ∀ p ∈ rows, p.1 ≠ k) ∨ ∃ (i : Nat) (d : Dat) (b : Addr) (nb : Nat) (tb : Tok) (v : Value), j = (i : Int) ∧ vs[i]? = some (.ref b) ∧ (b, tupO [.int k tb, v] nb) ∈ led ∧ LV led v d ∧ getD rows k = some d)) := by
  have hl : vs.length = rows.length := hd.length
  refine ctr_of fun mean mg mb env outer A₀ base h₀ L m s Q hf hk B F X N T ret => ?_
  k_dflt k_enter
  k_steps
  refine range_indK (fun i => ∀ p ∈ rows.take i, p.1 ≠ k) (by simp) ?_ ?_
  · intro i hi hP t9 h9 tk9 F9 N9
    obtain ⟨b, nb, tb, k', v, d, e1, e2, e3, e4⟩ := hd.get i (by omega)
    k_steps
    · have e5 : k' = k := by assumption
      exact ret _ _ _ _ ⟨rfl, _, _, rfl, .inr ⟨i, d, b, nb, tb, v, by omega, e1, e5 ▸ e2, e3, getD_at i (e5 ▸ e4) hP⟩⟩ (by k_asm) (cb_drop (by assumption) (by kqd_sub))
    · have e5 : k' ≠ k := by assumption
      refine UnrEnd.intro (by assumption) N9 led (fun p hp => hp) (fun p hp => Nat.ne_of_lt (l1w p hp)) ⟨rfl, ⟨_, rfl⟩, ?_⟩
      intro p hp
      rw [List.take_add_one, e4] at hp
      rcases List.mem_append.mp hp with hp | hp
      · exact hP p hp
      · simp at hp; subst hp; exact e5
  · intro hP u h9 tk9 F9 N9
    k_steps
    have hP' : ∀ p ∈ rows, p.1 ≠ k := by
      have e : rows.take (((vs.length : Nat) : Int) - 0).toNat = rows := List.take_of_length_le (by omega)
      rw [← e]; exact hP
    exact ret _ _ _ _ ⟨rfl, _, _, rfl, .inl ⟨rfl, hP'⟩⟩ (by k_asm) (cb_drop (by assumption) (by kqd_sub))
theorem plist_find_use {w : World} {led : List (Addr × Obj)} {pl : Addr} {vs : List Value} {n : Nat} {rows : List (Int × Dat)} {k : Int} {t : Tok} (hm : (pl, listOf vs.toArray n) ∈ led) (hd : RowsIn led vs rows) (hz : rows.length ≤ 100)
    {mean : ExcName → Option Value} {mg mb : Str → Option Value} {A : Around} {env : Env} {outer : List Env} {A₀ : Around} {base h₀ : Heap} {L : Addr} {m : Str → Option Value} {s : Shared} {Q E : Value → Shared → Prop}
    (B : Below A₀ base outer h₀) (F : Fr h₀ L s.heap m) (X : (Mine.hd.heap_39 w.params).In h₀) (N : News h₀ L s.heap led) (T : TopOk mean mg mb h₀)
    (u1 : A.handled = none) (u2 : A.depth ≤ 900) (u3 : A.units ≤ 900) (u4 : A.frames = some (env :: outer)) (u5 : env.frame = some L) (u6 : env.scope.kind = .function)
    (ret1 : ∀ t h' tk', (∀ p ∈ rows, p.1 ≠ k) → Fr h₀ L h' m → News h₀ L h' led → Q (.int (-1) t) { s with heap := h', toks := tk' })
    (ret2 : ∀ t (i : Nat) d b nb tb v h' tk', vs[i]? = some (.ref b) → (b, tupO [.int k tb, v] nb) ∈ led → LV led v d → getD rows k = some d → Fr h₀ L h' m → News h₀ L h' led → Q (.int (i : Int) t) { s with heap := h', toks := tk' }) :
    wpAny (model Pr w) A (call (.ref 99) [.ref pl, .int k t]) Q E s := ctr_use (plist_find_ok hm hd hz) B F X N T u1 u2 u3 u4 u5 u6 fun r h' tk' led' p F' N' => by
  rcases p with ⟨rfl, j, t, rfl, ⟨rfl, c⟩ | ⟨i, d, b, nb, tb, v, rfl, c1, c2, c3, c4⟩⟩
  · exact ret1 t h' tk' c F' N'
  · exact ret2 t i d b nb tb v h' tk' c1 c2 c3 c4 F' N'

theorem words_D7_2 : True := by
  k_with "call ref" => ((k_here; (with_reducible show wpAny _ _ (call (Value.ref 99) [Value.ref _, Value.int _ _]) _ _ _); k_dflt (refine' plist_find_use ?mz131 ?dz131 ?zz131 ?Bz131 ?Fz131 ?Xz131 ?Nz131 ?Tz131 ?hz131 ?dpz131 ?uz131 ?Az131 ?fz131 ?kz131 ?_ ?_; (case Nz131 => k_asm); (case mz131 => k_mem); (case dz131 => tb_rel); (case zz131 => assumption); (case Bz131 => k_asm); (case Fz131 => k_asm); (case Xz131 => k_asm); (case Tz131 => k_asm); (case hz131 => exact rfl); (case dpz131 => exact Nat.le_of_ble_eq_true rfl); (case uz131 => exact Nat.le_of_ble_eq_true rfl); (case Az131 => exact rfl); (case fz131 => exact rfl); (case kz131 => exact rfl)); (all_goals (first | ((with_reducible intro tw i4w d4w b4w nb4w tb4w v4w hw tkw c4w c5w c6w c7w Fw Nw); (try k_sweep); (try k_fold)) | ((with_reducible intro tw hw tkw c4w Fw Nw); (try k_sweep); (try k_fold))))))
  trivial
set_option maxHeartbeats 4000000 in
theorem plist_get_ok {w : World} {led : List (Addr × Obj)} {pl : Addr} {vs : List Value} {n : Nat} {rows : List (Int × Dat)} {k : Int} {t : Tok} (hm : (pl, listOf vs.toArray n) ∈ led) (hd : RowsIn led vs rows) (hz : rows.length ≤ 100) :
    Ctr w 800 106 [.ref pl, .int k t] led (fun r led' => (r = .none ∧ led' = led ∧ getD rows k = none) ∨ ∃ a n v d, r = .ref a ∧ led' = (a, tupO [v] n) :: led ∧ LV led v d ∧ getD rows k = some d ∧ ∀ p ∈ led, p.1 < a) := by
  have hl : vs.length = rows.length := hd.length
  refine ctr_of fun mean mg mb env outer A₀ base h₀ L m s Q hf hk B F X N T ret => ?_
  k_dflt k_enter
  k_steps
  · exact ret _ _ _ _ (.inl ⟨rfl, rfl, getD_none (by assumption)⟩) (by k_asm) (cb_drop (by assumption) (by kqd_sub))
  · exact ret _ _ _ _ (.inr ⟨_, _, _, _, rfl, rfl, by assumption, by assumption, by ktr_rel⟩) (by k_asm) (cb_drop (by assumption) (by kqd_sub))
theorem plist_get_use {w : World} {led : List (Addr × Obj)} {pl : Addr} {vs : List Value} {n : Nat} {rows : List (Int × Dat)} {k : Int} {t : Tok} (hm : (pl, listOf vs.toArray n) ∈ led) (hd : RowsIn led vs rows) (hz : rows.length ≤ 100)
    {mean : ExcName → Option Value} {mg mb : Str → Option Value} {A : Around} {env : Env} {outer : List Env} {A₀ : Around} {base h₀ : Heap} {L : Addr} {m : Str → Option Value} {s : Shared} {Q E : Value → Shared → Prop}
    (B : Below A₀ base outer h₀) (F : Fr h₀ L s.heap m) (X : (Mine.hd.heap_39 w.params).In h₀) (N : News h₀ L s.heap led) (T : TopOk mean mg mb h₀)
    (u1 : A.handled = none) (u2 : A.depth ≤ 800) (u3 : A.units ≤ 800) (u4 : A.frames = some (env :: outer)) (u5 : env.frame = some L) (u6 : env.scope.kind = .function)
    (ret1 : ∀ h' tk', getD rows k = none → Fr h₀ L h' m → News h₀ L h' led → Q .none { s with heap := h', toks := tk' })
    (ret2 : ∀ a n v d' h' tk', LV led v d' → getD rows k = some d' → (∀ p ∈ led, p.1 < a) → Fr h₀ L h' m → News h₀ L h' ((a, tupO [v] n) :: led) → Q (.ref a) { s with heap := h', toks := tk' }) :
    wpAny (model Pr w) A (call (.ref 106) [.ref pl, .int k t]) Q E s := ctr_use (plist_get_ok hm hd hz) B F X N T u1 u2 u3 u4 u5 u6 fun r h' tk' led' p F' N' => by
  rcases p with ⟨rfl, rfl, c⟩ | ⟨a, n, v, d', rfl, rfl, c1, c2, c3⟩
  · exact ret1 h' tk' c F' N'
  · exact ret2 a n v d' h' tk' c1 c2 c3 F' N'
end
section
theorem words_D8_1 : True := by
  k_with_none
  k_with "k_enter" => (first | (refine' code_def ?k1z150 ?k2z150 ?k3z150 ?k4z150 ?k5z150 ?kAz150 ?kFz150 ?kKz150 ?k6z150 ?k7z150 ?k8z150 ?k9z150 ?kBz150 ?_ ?c2z150 ?c3z150 ?c4z150 ?c5z150; (case kAz150 => exact rfl); (case kFz150 => first | exact rfl | assumption); (case kKz150 => first | exact rfl | assumption); (case k1z150 => k_asm); (case k2z150 => k_asm); (case k3z150 => k_asm); (case k4z150 => k_asm); (case k5z150 => k_asm); (case k6z150 => k_is); (case k7z150 => k_is); (case k8z150 => k_room); (case k9z150 => first | exact BindsTo.of_eq rfl | exact binds_K (by k_in) rfl (by k_is) rfl rfl rfl | fail "k_enter: no rule for these arguments"); (case c5z150 => decide); (case kBz150 => exact locs rfl); (case c2z150 => exact rfl); (case c3z150 => exact rfl); (case c4z150 => exact rfl); k_whole; intro gw Lw hw FGw Fw Nw Bw Xw Tw; (try dsimp only); (try k_lift Bw); (try k_fold)) | (refine' code_defC ?k1z150 ?k2z150 ?k3z150 ?k4z150 ?k5z150 ?kAz150 ?kFz150 ?kKz150 ?k6z150 ?k7z150 ?k8z150 ?k9z150 ?kBz150 ?kDz150 ?_ ?c2z150 ?c3z150 ?c4z150; (case kAz150 => exact rfl); (case kFz150 => first | exact rfl | assumption); (case kKz150 => first | exact rfl | assumption); (case k1z150 => k_asm); (case k2z150 => k_asm); (case k3z150 => k_asm); (case k4z150 => k_asm); (case k5z150 => k_asm); (case k6z150 => k_is); (case k7z150 => k_is); (case k8z150 => k_room); (case k9z150 => first | exact BindsTo.of_eq rfl | exact binds_K (by k_in) rfl (by k_is) rfl rfl rfl | fail "k_enter: no rule for these arguments"); (case kBz150 => exact rfl); (case kDz150 => decide +kernel); (case c2z150 => exact rfl); (case c3z150 => exact rfl); (case c4z150 => exact rfl); k_whole; intro gw Lw hw tkw cellsw FGw Fw Nw Yw Bw Xw Tw l1w; (try k_lt l1w); k_cells Yw; (try simp only [List.cons_append, List.nil_append] at Nw); (try dsimp only); (try k_lift Bw); (try k_fold)))
  k_with "k_ne" => (refine neN ?_; (try dsimp only); first | with_reducible assumption | with_reducible exact Ne.symm (by assumption) | exact (by k_extra "nes") | exact Ne.symm (by k_extra "nes") | exact Nat.ne_of_lt (by k_extra "lt") | exact Nat.ne_of_gt (by k_extra "lt") | omega)
  k_with "lt" => (first | with_reducible assumption | with_reducible exact And.left (by assumption) | with_reducible exact And.left (And.right (by assumption)) | with_reducible exact And.left (And.right (And.right (by assumption))) | with_reducible exact And.left (And.right (And.right (And.right (by assumption)))) | with_reducible exact And.left (And.right (And.right (And.right (And.right (by assumption))))) | with_reducible exact And.left (And.right (And.right (And.right (And.right (And.right (by assumption)))))) | with_reducible exact And.left (And.right (And.right (And.right (And.right (And.right (And.right (by assumption))))))) | with_reducible exact And.left (And.right (And.right (And.right (And.right (And.right (And.right (And.right (by assumption)))))))) | with_reducible exact And.left (And.right (And.right (And.right (And.right (And.right (And.right (And.right (And.right (by assumption))))))))) | with_reducible exact And.left (And.right (And.right (And.right (And.right (And.right (And.right (And.right (And.right (And.right (by assumption)))))))))) | with_reducible exact And.left (And.right (And.right (And.right (And.right (And.right (And.right (And.right (And.right (And.right (And.right (by assumption))))))))))) | with_reducible exact And.left (And.right (And.right (And.right (And.right (And.right (And.right (And.right (And.right (And.right (And.right (And.right (by assumption)))))))))))) | with_reducible exact And.left (And.right (And.right (And.right (And.right (And.right (And.right (And.right (And.right (And.right (And.right (And.right (And.right (by assumption))))))))))))) | with_reducible exact And.left (And.right (And.right (And.right (And.right (And.right (And.right (And.right (And.right (And.right (And.right (And.right (And.right (And.right (by assumption)))))))))))))) | with_reducible exact And.left (And.right (And.right (And.right (And.right (And.right (And.right (And.right (And.right (And.right (And.right (And.right (And.right (And.right (And.right (by assumption))))))))))))))) | with_reducible exact And.left (And.right (And.right (And.right (And.right (And.right (And.right (And.right (And.right (And.right (And.right (And.right (And.right (And.right (And.right (And.right (by assumption)))))))))))))))) | with_reducible exact And.right (by assumption) | with_reducible exact And.right (And.right (by assumption)) | with_reducible exact And.right (And.right (And.right (by assumption))) | with_reducible exact And.right (And.right (And.right (And.right (by assumption)))) | with_reducible exact And.right (And.right (And.right (And.right (And.right (by assumption))))) | with_reducible exact And.right (And.right (And.right (And.right (And.right (And.right (by assumption)))))) | with_reducible exact And.right (And.right (And.right (And.right (And.right (And.right (And.right (by assumption))))))) | with_reducible exact And.right (And.right (And.right (And.right (And.right (And.right (And.right (And.right (by assumption)))))))) | with_reducible exact And.right (And.right (And.right (And.right (And.right (And.right (And.right (And.right (And.right (by assumption))))))))))
  k_with "nes" => (first | with_reducible exact And.left (by assumption) | with_reducible exact And.left (And.right (by assumption)) | with_reducible exact And.left (And.right (And.right (by assumption))) | with_reducible exact And.left (And.right (And.right (And.right (by assumption)))) | with_reducible exact And.left (And.right (And.right (And.right (And.right (by assumption))))) | with_reducible exact And.left (And.right (And.right (And.right (And.right (And.right (by assumption)))))) | with_reducible exact And.right (by assumption) | with_reducible exact And.right (And.right (by assumption)) | with_reducible exact And.right (And.right (And.right (by assumption))) | with_reducible exact And.right (And.right (And.right (And.right (by assumption)))) | with_reducible exact And.right (And.right (And.right (And.right (And.right (by assumption))))))
  k_with "subscriptTail" => ((k_here; (with_reducible show wpAny _ _ (subscriptTail _ _ (Value.ref _) (Value.int 0 _)) _ _ _); k_dflt (refine' tup_head ?Nz132 ?mz132 ?_; (case Nz132 => k_asm); (case mz132 => k_mem); k_whole)))
  k_with "call type:tuple" => ((k_here; (with_reducible show wpAny _ _ (call (Value.type "tuple") [Value.ref _]) _ _ _); k_dflt (refine' tuple_ofM ?Fz133 ?Nz133 ?mz133 ?zz133 ?_; (case Fz133 => k_asm); (case Nz133 => k_asm); (case mz133 => k_mem); (case zz133 => first | assumption | (simp only [List.length_cons, List.length_nil]; omega)); k_whole); intro Dw hw Fw Nw l1w; (try k_lt l1w); (try k_sweep)))
  k_with "call type:list" => ((k_here; (with_reducible show wpAny _ _ (call (Value.type "list") [Value.ref _]) _ _ _); k_dflt (refine' list_ofTupM ?Fz134 ?Nz134 ?mz134 ?zz134 ?_; (case Fz134 => k_asm); (case Nz134 => k_asm); (case mz134 => k_mem); (case zz134 => first | assumption | (simp only [List.length_cons, List.length_nil]; omega)); k_whole); intro Dw kw hw Fw Nw l1w; (try k_lt l1w); (try k_sweep)))
  k_with "subscriptTail Name Slice ref ref" => ((k_here; (with_reducible show wpAny _ _ (subscriptTail _ (PySem.Expr.Slice (some _) none none _) (Value.ref _) (Value.ref _)) _ _ _); k_dflt (refine' slice_tupM ?Fz135 ?Nz135 ?mz135 ?zz135 ?_ ?sz135 ?tz135; (case Fz135 => k_asm); (case Nz135 => k_asm); (case mz135 => k_mem); (case zz135 => first | assumption | (simp only [List.length_cons, List.length_nil]; omega)); (case sz135 => with_unfolding_all rfl); (case tz135 => kmk_pure)); intro Dw hw Fw Nw l1w; (try k_lt l1w); (try k_sweep)))
  k_with "compareOp Eq ref none" => ((k_here; (with_reducible show wpAny _ _ (compareOp CmpOp.Eq (Value.ref _) Value.none) _ _ _); k_dflt (refine' eq_tup_none ?Nz136 ?mz136 ?uz136 ?_; (case Nz136 => k_asm); (case mz136 => k_mem); (case uz136 => k_units); k_whole)))
  k_with "compareOp Eq ref" => ((k_here; (with_reducible show wpAny _ _ (compareOp CmpOp.Eq (Value.ref _) Value.none) _ _ _); k_dflt (refine' eq_tup_none ?Nz137 ?mz137 ?uz137 ?_; (case Nz137 => k_asm); (case mz137 => k_mem); (case uz137 => k_units); k_whole)))
  k_with "k_mem" => (((repeat (first | exact List.Mem.head _ | assumption | refine' List.Mem.tail _ ?_ | exact List.mem_append_left _ (by assumption) | exact List.mem_append_left _ (List.Mem.head _) | refine' List.mem_append_right _ ?_)); done))
  k_with "binaryOp Add ref ref" => ((k_here; (with_reducible show wpAny _ _ (binaryOp Operator.Add (Value.ref _) (Value.ref _)) _ _ _); k_dflt (refine' add_tupM ?Fz139 ?Nz139 ?mz139 ?nz139 ?zz139 ?az139 ?bz139; (case Fz139 => k_asm); (case Nz139 => k_asm); (case mz139 => k_mem); (case nz139 => k_mem); (case zz139 => first | assumption | (simp only [List.length_cons, List.length_nil]; omega)); (case' az139 => intro e1w); (case' bz139 => (intro e1w Dw hw Fw Nw l1w; (try k_lt l1w); (try k_sweep))))))
  k_with "kqd_sub" => (((repeat (refine List.forall_mem_cons.mpr ⟨by k_mem, ?_⟩)); first | exact List.forall_mem_nil _ | (intro p9 h9; k_mem)))
  k_with "ktr_rel" => (first | assumption | exact tb_ltOf (by first | assumption | exact (And.right (by assumption)) | exact (And.right (And.right (by assumption))) | exact (And.right (And.right (And.right (by assumption)))) | exact (And.right (And.right (And.right (And.right (by assumption))))) | exact (And.right (And.right (And.right (And.right (And.right (by assumption)))))) | exact (And.right (And.right (And.right (And.right (And.right (And.right (by assumption))))))) | exact (And.right (And.right (And.right (And.right (And.right (And.right (And.right (by assumption)))))))) | exact (And.right (And.right (And.right (And.right (And.right (And.right (And.right (And.right (by assumption))))))))) | exact (And.right (And.right (And.right (And.right (And.right (And.right (And.right (And.right (And.right (by assumption)))))))))) | exact (And.right (And.right (And.right (And.right (And.right (And.right (And.right (And.right (And.right (And.right (by assumption)))))))))))))
  k_with "getMethod ref" => ((k_here; (with_reducible show wpAny _ _ (getMethod (Value.ref _) (Str.ofString "get") _) _ _ _); k_dflt (refine kdg_method (knd := PySem.intKind Pr _) (by k_asm) (by k_mem) (by k_asm) ?_)))
  k_with "call builtin:dict.get" => ((k_here; (try dsimp only [List.nil_append, List.cons_append]); (with_reducible show wpAny _ _ (call (Value.builtin _) [Value.ref _, Value.int _ _, _]) _ _ _); k_dflt (refine kdg_get2 (knd := PySem.intKind Pr _) (by k_asm) (by k_mem) (by k_asm) (by k_asm) (intKind_is _ _ _ _) _ (by assumption) ?_); (try dsimp only [Option.getD])))
  k_with "subscriptTail" => ((k_here; (with_reducible show wpAny _ _ (subscriptTail _ _ (Value.ref _) (Value.int _ _)) _ _ _); k_dflt (refine' list_itemM ?Nz144 ?mz144 ?xz144 ?kz144 ?zz144 ?_; (case Nz144 => k_asm); (case mz144 => k_mem); (case xz144 => assumption); (case kz144 => omega); (case zz144 => first | assumption | omega); k_whole)))
  k_with "call builtin:len" => ((k_here; (with_reducible show wpAny _ _ (call (Value.builtin "len") [Value.ref _]) _ _ _); k_dflt (refine' len_listM ?Nz145 ?mz145 ?zz145 ?_; (case Nz145 => k_asm); (case mz145 => k_mem); (case zz145 => first | assumption | omega); k_whole)))
  k_with "tb_rel" => (first | assumption | (refine' LV.mono ?hz146 ?sz146; (case hz146 => assumption); (case sz146 => kqd_sub)) | (refine' RowsIn.mono ?sz146 ?hz146; (case hz146 => assumption); (case sz146 => kqd_sub)) | (refine' LispAt.mono ?hz146 ?sz146; (case hz146 => assumption); (case sz146 => kqd_sub)) | (refine' RulesAt.mono ?hz146 ?sz146; (case hz146 => assumption); (case sz146 => kqd_sub)) | (refine' IntDict.mono ?hz146 ?sz146; (case hz146 => assumption); (case sz146 => kqd_sub)) | (refine' PlistsIn.mono ?hz146 ?sz146; (case hz146 => assumption); (case sz146 => kqd_sub)) | (refine' DatAll.mono ?sz146 ?hz146; (case hz146 => assumption); (case sz146 => kqd_sub)))
  k_with "exec For Tuple Call cons nil" => ((k_here; (rename Fr _ _ _ _ => lFw); (with_unfolding_all refine' For_turns lFw ?_); k_whole))
  k_with "pyIter ref" => ((k_here; (with_reducible show wpAny _ _ (pyIter (Value.ref _)) (fun it s₂ => TurnsAt _ _ _ _ _ _ _ _ _ it s₂) _ _); k_dflt (refine' iter_listTurns ?hz148 ?Fz148 ?Nz148 ?mz148 ?cz148 ?dz148 ?_; (case hz148 => exact rfl); (case Fz148 => k_asm); (case Nz148 => k_asm); (case mz148 => k_mem); (case cz148 => exact rfl); (case dz148 => exact rfl)); intro iw l1w; (try k_lt l1w)))
  k_with "call ref" => ((k_here; (with_reducible show wpAny _ _ (call (Value.ref 50) [_, _]) _ _ _); k_dflt (refine' ctr_useT (number_of_ok ?mz149) ?Bz149 ?Fz149 ?Xz149 ?Nz149 ?Tz149 ?hz149 ?dpz149 ?uz149 ?Az149 ?fz149 ?kz149 ?_; (case Nz149 => k_asm); (case mz149 => tb_rel); (case Bz149 => k_asm); (case Fz149 => k_asm); (case Xz149 => k_asm); (case Tz149 => k_asm); (case hz149 => exact rfl); (case dpz149 => exact Nat.le_of_ble_eq_true rfl); (case uz149 => exact Nat.le_of_ble_eq_true rfl); (case Az149 => exact rfl); (case fz149 => exact rfl); (case kz149 => exact rfl); k_whole); (intro tw hw tkw Fw Nw); (try k_sweep); (try k_fold)))
  trivial
set_option maxHeartbeats 4000000 in
theorem symbol_property_ok {w : World} {led : List (Addr × Obj)} {li pd : Addr} {fi : Int} {kvs : List (Int × Value)} {pl : Int → List (Int × Dat)} {v : Value} {d : Dat} {k : Int} {t : Tok} (hl : LispAt w led li fi pd) (hd : IntDict w led pd kvs)
    (hp : PlistsIn led kvs pl) (hv : LV led v d) :
    Ctr w 800 78 [.ref li, v, .int k t] led (fun r led' => (r = .none ∧ led' = led ∧ getD (pl (numD d)) k = none) ∨ ∃ a n v d', r = .ref a ∧ led' = (a, tupO [v] n) :: led ∧ LV led v d' ∧ getD (pl (numD d)) k = some d' ∧ ∀ p ∈ led, p.1 < a) := by
  obtain ⟨dl, t1, t2, t3, t4, tf, hl1, hl2⟩ := hl
  obtain ⟨od, hd1, hd2, hd3⟩ := hd
  rcases hp (numD d) with ⟨hp1, hp2⟩ | ⟨pa, vs, pn, hp1, hp2, hp3, hp4⟩
  · refine ctr_of fun mean mg mb env outer A₀ base h₀ L m s Q hf hk B F X N T ret => ?_
    k_dflt k_enter
    k_steps
    exact ret _ _ _ _ (.inl ⟨rfl, rfl, by rw [hp2]; rfl⟩) (by k_asm) (cb_drop (by assumption) (by kqd_sub))
  · refine ctr_of fun mean mg mb env outer A₀ base h₀ L m s Q hf hk B F X N T ret => ?_
    k_dflt k_enter
    k_steps
    have hlen : vs.length = (pl (numD d)).length := hp3.length
    refine items_indK (Str.ofString "own") (Str.ofString "held") (fun i => ∀ p ∈ (pl (numD d)).take i, p.1 ≠ k) (by simp) ?_ ?_
    · intro i v9 u u' e1 hP h9 tk9 o9 ho9 F9 N9
      obtain ⟨b, nb, tb, k', v, d', e2, e3, e4, e5⟩ := hp3.get i (by have := (List.getElem?_eq_some_iff.mp e1).1; omega)
      rw [e1] at e2
      cases e2
      k_steps
      · have e6 : k' = k := by assumption
        exact ret _ _ _ _ (.inr ⟨_, _, _, _, rfl, rfl, e4, getD_at i (e6 ▸ e5) hP, by ktr_rel⟩) (by k_asm) (cb_drop (by assumption) (by kqd_sub))
      · have e6 : k' ≠ k := by assumption
        exact ⟨_, _, _, _, rfl, by assumption, by assumption, off_one (by assumption), And.intro (by k_mem) trivial, rfl, ⟨_, _, upd2_twice⟩, take_succ_ne hP e5 e6⟩
    · intro hP u u' h9 tk9 F9 N9
      k_steps
      have hP' : ∀ p ∈ pl (numD d), p.1 ≠ k := by
        rw [List.take_of_length_le (by omega)] at hP
        exact hP
      exact ret _ _ _ _ (.inl ⟨rfl, rfl, getD_none hP'⟩) (by k_asm) (cb_drop (by assumption) (by kqd_sub))
theorem symbol_property_use {w : World} {led : List (Addr × Obj)} {li pd : Addr} {fi : Int} {kvs : List (Int × Value)} {pl : Int → List (Int × Dat)} {v : Value} {d : Dat} {k : Int} {t : Tok} (hl : LispAt w led li fi pd) (hd : IntDict w led pd kvs)
    (hp : PlistsIn led kvs pl) (hv : LV led v d)
    {mean : ExcName → Option Value} {mg mb : Str → Option Value} {A : Around} {env : Env} {outer : List Env} {A₀ : Around} {base h₀ : Heap} {L : Addr} {m : Str → Option Value} {s : Shared} {Q E : Value → Shared → Prop}
    (B : Below A₀ base outer h₀) (F : Fr h₀ L s.heap m) (X : (Mine.hd.heap_39 w.params).In h₀) (N : News h₀ L s.heap led) (T : TopOk mean mg mb h₀)
    (u1 : A.handled = none) (u2 : A.depth ≤ 800) (u3 : A.units ≤ 800) (u4 : A.frames = some (env :: outer)) (u5 : env.frame = some L) (u6 : env.scope.kind = .function)
    (ret1 : ∀ h' tk', getD (pl (numD d)) k = none → Fr h₀ L h' m → News h₀ L h' led → Q .none { s with heap := h', toks := tk' })
    (ret2 : ∀ a n v d' h' tk', LV led v d' → getD (pl (numD d)) k = some d' → (∀ p ∈ led, p.1 < a) → Fr h₀ L h' m → News h₀ L h' ((a, tupO [v] n) :: led) → Q (.ref a) { s with heap := h', toks := tk' }) :
    wpAny (model Pr w) A (call (.ref 78) [.ref li, v, .int k t]) Q E s := ctr_use (symbol_property_ok hl hd hp hv) B F X N T u1 u2 u3 u4 u5 u6 fun r h' tk' led' p F' N' => by
  rcases p with ⟨rfl, rfl, c⟩ | ⟨a, n, v, d', rfl, rfl, c1, c2, c3⟩
  · exact ret1 h' tk' c F' N'
  · exact ret2 a n v d' h' tk' c1 c2 c3 F' N'
end
section
theorem words_D9_1 : True := by
  k_with_none
  k_with "k_enter" => (first | (refine' code_def ?k1z169 ?k2z169 ?k3z169 ?k4z169 ?k5z169 ?kAz169 ?kFz169 ?kKz169 ?k6z169 ?k7z169 ?k8z169 ?k9z169 ?kBz169 ?_ ?c2z169 ?c3z169 ?c4z169 ?c5z169; (case kAz169 => exact rfl); (case kFz169 => first | exact rfl | assumption); (case kKz169 => first | exact rfl | assumption); (case k1z169 => k_asm); (case k2z169 => k_asm); (case k3z169 => k_asm); (case k4z169 => k_asm); (case k5z169 => k_asm); (case k6z169 => k_is); (case k7z169 => k_is); (case k8z169 => k_room); (case k9z169 => first | exact BindsTo.of_eq rfl | exact binds_K (by k_in) rfl (by k_is) rfl rfl rfl | fail "k_enter: no rule for these arguments"); (case c5z169 => decide); (case kBz169 => exact locs rfl); (case c2z169 => exact rfl); (case c3z169 => exact rfl); (case c4z169 => exact rfl); k_whole; intro gw Lw hw FGw Fw Nw Bw Xw Tw; (try dsimp only); (try k_lift Bw); (try k_fold)) | (refine' code_defC ?k1z169 ?k2z169 ?k3z169 ?k4z169 ?k5z169 ?kAz169 ?kFz169 ?kKz169 ?k6z169 ?k7z169 ?k8z169 ?k9z169 ?kBz169 ?kDz169 ?_ ?c2z169 ?c3z169 ?c4z169; (case kAz169 => exact rfl); (case kFz169 => first | exact rfl | assumption); (case kKz169 => first | exact rfl | assumption); (case k1z169 => k_asm); (case k2z169 => k_asm); (case k3z169 => k_asm); (case k4z169 => k_asm); (case k5z169 => k_asm); (case k6z169 => k_is); (case k7z169 => k_is); (case k8z169 => k_room); (case k9z169 => first | exact BindsTo.of_eq rfl | exact binds_K (by k_in) rfl (by k_is) rfl rfl rfl | fail "k_enter: no rule for these arguments"); (case kBz169 => exact rfl); (case kDz169 => decide +kernel); (case c2z169 => exact rfl); (case c3z169 => exact rfl); (case c4z169 => exact rfl); k_whole; intro gw Lw hw tkw cellsw FGw Fw Nw Yw Bw Xw Tw l1w; (try k_lt l1w); k_cells Yw; (try simp only [List.cons_append, List.nil_append] at Nw); (try dsimp only); (try k_lift Bw); (try k_fold)))
  k_with "k_ne" => (refine neN ?_; (try dsimp only); first | with_reducible assumption | with_reducible exact Ne.symm (by assumption) | exact (by k_extra "nes") | exact Ne.symm (by k_extra "nes") | exact Nat.ne_of_lt (by k_extra "lt") | exact Nat.ne_of_gt (by k_extra "lt") | omega)
  k_with "lt" => (first | with_reducible assumption | with_reducible exact And.left (by assumption) | with_reducible exact And.left (And.right (by assumption)) | with_reducible exact And.left (And.right (And.right (by assumption))) | with_reducible exact And.left (And.right (And.right (And.right (by assumption)))) | with_reducible exact And.left (And.right (And.right (And.right (And.right (by assumption))))) | with_reducible exact And.left (And.right (And.right (And.right (And.right (And.right (by assumption)))))) | with_reducible exact And.left (And.right (And.right (And.right (And.right (And.right (And.right (by assumption))))))) | with_reducible exact And.left (And.right (And.right (And.right (And.right (And.right (And.right (And.right (by assumption)))))))) | with_reducible exact And.left (And.right (And.right (And.right (And.right (And.right (And.right (And.right (And.right (by assumption))))))))) | with_reducible exact And.left (And.right (And.right (And.right (And.right (And.right (And.right (And.right (And.right (And.right (by assumption)))))))))) | with_reducible exact And.left (And.right (And.right (And.right (And.right (And.right (And.right (And.right (And.right (And.right (And.right (by assumption))))))))))) | with_reducible exact And.left (And.right (And.right (And.right (And.right (And.right (And.right (And.right (And.right (And.right (And.right (And.right (by assumption)))))))))))) | with_reducible exact And.left (And.right (And.right (And.right (And.right (And.right (And.right (And.right (And.right (And.right (And.right (And.right (And.right (by assumption))))))))))))) | with_reducible exact And.left (And.right (And.right (And.right (And.right (And.right (And.right (And.right (And.right (And.right (And.right (And.right (And.right (And.right (by assumption)))))))))))))) | with_reducible exact And.left (And.right (And.right (And.right (And.right (And.right (And.right (And.right (And.right (And.right (And.right (And.right (And.right (And.right (And.right (by assumption))))))))))))))) | with_reducible exact And.left (And.right (And.right (And.right (And.right (And.right (And.right (And.right (And.right (And.right (And.right (And.right (And.right (And.right (And.right (And.right (by assumption)))))))))))))))) | with_reducible exact And.right (by assumption) | with_reducible exact And.right (And.right (by assumption)) | with_reducible exact And.right (And.right (And.right (by assumption))) | with_reducible exact And.right (And.right (And.right (And.right (by assumption)))) | with_reducible exact And.right (And.right (And.right (And.right (And.right (by assumption))))) | with_reducible exact And.right (And.right (And.right (And.right (And.right (And.right (by assumption)))))) | with_reducible exact And.right (And.right (And.right (And.right (And.right (And.right (And.right (by assumption))))))) | with_reducible exact And.right (And.right (And.right (And.right (And.right (And.right (And.right (And.right (by assumption)))))))) | with_reducible exact And.right (And.right (And.right (And.right (And.right (And.right (And.right (And.right (And.right (by assumption))))))))))
  k_with "nes" => (first | with_reducible exact And.left (by assumption) | with_reducible exact And.left (And.right (by assumption)) | with_reducible exact And.left (And.right (And.right (by assumption))) | with_reducible exact And.left (And.right (And.right (And.right (by assumption)))) | with_reducible exact And.left (And.right (And.right (And.right (And.right (by assumption))))) | with_reducible exact And.left (And.right (And.right (And.right (And.right (And.right (by assumption)))))) | with_reducible exact And.right (by assumption) | with_reducible exact And.right (And.right (by assumption)) | with_reducible exact And.right (And.right (And.right (by assumption))) | with_reducible exact And.right (And.right (And.right (And.right (by assumption)))) | with_reducible exact And.right (And.right (And.right (And.right (And.right (by assumption))))))
  k_with "subscriptTail" => ((k_here; (with_reducible show wpAny _ _ (subscriptTail _ _ (Value.ref _) (Value.int 0 _)) _ _ _); k_dflt (refine' tup_head ?Nz151 ?mz151 ?_; (case Nz151 => k_asm); (case mz151 => k_mem); k_whole)))
  k_with "call type:tuple" => ((k_here; (with_reducible show wpAny _ _ (call (Value.type "tuple") [Value.ref _]) _ _ _); k_dflt (refine' tuple_ofM ?Fz152 ?Nz152 ?mz152 ?zz152 ?_; (case Fz152 => k_asm); (case Nz152 => k_asm); (case mz152 => k_mem); (case zz152 => first | assumption | (simp only [List.length_cons, List.length_nil]; omega)); k_whole); intro Dw hw Fw Nw l1w; (try k_lt l1w); (try k_sweep)))
  k_with "call type:list" => ((k_here; (with_reducible show wpAny _ _ (call (Value.type "list") [Value.ref _]) _ _ _); k_dflt (refine' list_ofTupM ?Fz153 ?Nz153 ?mz153 ?zz153 ?_; (case Fz153 => k_asm); (case Nz153 => k_asm); (case mz153 => k_mem); (case zz153 => first | assumption | (simp only [List.length_cons, List.length_nil]; omega)); k_whole); intro Dw kw hw Fw Nw l1w; (try k_lt l1w); (try k_sweep)))
  k_with "subscriptTail Name Slice ref ref" => ((k_here; (with_reducible show wpAny _ _ (subscriptTail _ (PySem.Expr.Slice (some _) none none _) (Value.ref _) (Value.ref _)) _ _ _); k_dflt (refine' slice_tupM ?Fz154 ?Nz154 ?mz154 ?zz154 ?_ ?sz154 ?tz154; (case Fz154 => k_asm); (case Nz154 => k_asm); (case mz154 => k_mem); (case zz154 => first | assumption | (simp only [List.length_cons, List.length_nil]; omega)); (case sz154 => with_unfolding_all rfl); (case tz154 => kmk_pure)); intro Dw hw Fw Nw l1w; (try k_lt l1w); (try k_sweep)))
  k_with "compareOp Eq ref none" => ((k_here; (with_reducible show wpAny _ _ (compareOp CmpOp.Eq (Value.ref _) Value.none) _ _ _); k_dflt (refine' eq_tup_none ?Nz155 ?mz155 ?uz155 ?_; (case Nz155 => k_asm); (case mz155 => k_mem); (case uz155 => k_units); k_whole)))
  k_with "compareOp Eq ref" => ((k_here; (with_reducible show wpAny _ _ (compareOp CmpOp.Eq (Value.ref _) Value.none) _ _ _); k_dflt (refine' eq_tup_none ?Nz156 ?mz156 ?uz156 ?_; (case Nz156 => k_asm); (case mz156 => k_mem); (case uz156 => k_units); k_whole)))
  k_with "k_mem" => (((repeat (first | exact List.Mem.head _ | assumption | refine' List.Mem.tail _ ?_ | exact List.mem_append_left _ (by assumption) | exact List.mem_append_left _ (List.Mem.head _) | refine' List.mem_append_right _ ?_)); done))
  k_with "binaryOp Add ref ref" => ((k_here; (with_reducible show wpAny _ _ (binaryOp Operator.Add (Value.ref _) (Value.ref _)) _ _ _); k_dflt (refine' add_tupM ?Fz158 ?Nz158 ?mz158 ?nz158 ?zz158 ?az158 ?bz158; (case Fz158 => k_asm); (case Nz158 => k_asm); (case mz158 => k_mem); (case nz158 => k_mem); (case zz158 => first | assumption | (simp only [List.length_cons, List.length_nil]; omega)); (case' az158 => intro e1w); (case' bz158 => (intro e1w Dw hw Fw Nw l1w; (try k_lt l1w); (try k_sweep))))))
  k_with "kqd_sub" => (((repeat (refine List.forall_mem_cons.mpr ⟨by k_mem, ?_⟩)); first | exact List.forall_mem_nil _ | (intro p9 h9; k_mem)))
  k_with "ktr_rel" => (first | assumption | exact tb_ltOf (by first | assumption | exact (And.right (by assumption)) | exact (And.right (And.right (by assumption))) | exact (And.right (And.right (And.right (by assumption)))) | exact (And.right (And.right (And.right (And.right (by assumption))))) | exact (And.right (And.right (And.right (And.right (And.right (by assumption)))))) | exact (And.right (And.right (And.right (And.right (And.right (And.right (by assumption))))))) | exact (And.right (And.right (And.right (And.right (And.right (And.right (And.right (by assumption)))))))) | exact (And.right (And.right (And.right (And.right (And.right (And.right (And.right (And.right (by assumption))))))))) | exact (And.right (And.right (And.right (And.right (And.right (And.right (And.right (And.right (And.right (by assumption)))))))))) | exact (And.right (And.right (And.right (And.right (And.right (And.right (And.right (And.right (And.right (And.right (by assumption)))))))))))))
  k_with "getMethod ref" => ((k_here; (with_reducible show wpAny _ _ (getMethod (Value.ref _) (Str.ofString "get") _) _ _ _); k_dflt (refine kdg_method (knd := PySem.intKind Pr _) (by k_asm) (by k_mem) (by k_asm) ?_)))
  k_with "call builtin:dict.get" => ((k_here; (try dsimp only [List.nil_append, List.cons_append]); (with_reducible show wpAny _ _ (call (Value.builtin _) [Value.ref _, Value.int _ _, _]) _ _ _); k_dflt (refine kdg_get2 (knd := PySem.intKind Pr _) (by k_asm) (by k_mem) (by k_asm) (by k_asm) (intKind_is _ _ _ _) _ (by assumption) ?_); (try dsimp only [Option.getD])))
  k_with "subscriptTail" => ((k_here; (with_reducible show wpAny _ _ (subscriptTail _ _ (Value.ref _) (Value.int _ _)) _ _ _); k_dflt (refine' list_itemM ?Nz163 ?mz163 ?xz163 ?kz163 ?zz163 ?_; (case Nz163 => k_asm); (case mz163 => k_mem); (case xz163 => assumption); (case kz163 => omega); (case zz163 => first | assumption | omega); k_whole)))
  k_with "call builtin:len" => ((k_here; (with_reducible show wpAny _ _ (call (Value.builtin "len") [Value.ref _]) _ _ _); k_dflt (refine' len_listM ?Nz164 ?mz164 ?zz164 ?_; (case Nz164 => k_asm); (case mz164 => k_mem); (case zz164 => first | assumption | omega); k_whole)))
  k_with "tb_rel" => (first | assumption | (refine' LV.mono ?hz165 ?sz165; (case hz165 => assumption); (case sz165 => kqd_sub)) | (refine' RowsIn.mono ?sz165 ?hz165; (case hz165 => assumption); (case sz165 => kqd_sub)) | (refine' LispAt.mono ?hz165 ?sz165; (case hz165 => assumption); (case sz165 => kqd_sub)) | (refine' RulesAt.mono ?hz165 ?sz165; (case hz165 => assumption); (case sz165 => kqd_sub)) | (refine' IntDict.mono ?hz165 ?sz165; (case hz165 => assumption); (case sz165 => kqd_sub)) | (refine' PlistsIn.mono ?hz165 ?sz165; (case hz165 => assumption); (case sz165 => kqd_sub)) | (refine' DatAll.mono ?sz165 ?hz165; (case hz165 => assumption); (case sz165 => kqd_sub)))
  k_with "call ref" => ((k_here; (with_reducible show wpAny _ _ (call (Value.ref 106) [Value.ref _, Value.int _ _]) _ _ _); k_dflt (refine' plist_get_use ?mz166 ?dz166 ?zz166 ?Bz166 ?Fz166 ?Xz166 ?Nz166 ?Tz166 ?hz166 ?dpz166 ?uz166 ?Az166 ?fz166 ?kz166 ?_ ?_; (case Nz166 => k_asm); (case mz166 => k_mem); (case dz166 => tb_rel); (case zz166 => assumption); (case Bz166 => k_asm); (case Fz166 => k_asm); (case Xz166 => k_asm); (case Tz166 => k_asm); (case hz166 => exact rfl); (case dpz166 => exact Nat.le_of_ble_eq_true rfl); (case uz166 => exact Nat.le_of_ble_eq_true rfl); (case Az166 => exact rfl); (case fz166 => exact rfl); (case kz166 => exact rfl)); (all_goals (first | ((with_reducible intro a4w n4w v4w d4w hw tkw c3w c4w l1w Fw Nw); (try k_sweep); (try k_fold)) | ((with_reducible intro hw tkw c3w Fw Nw); (try k_sweep); (try k_fold))))))
  k_with "call ref" => ((k_here; (with_reducible show wpAny _ _ (call (Value.ref 78) [Value.ref _, _, Value.int _ _]) _ _ _); k_dflt (refine' symbol_property_use ?lz167 ?dz167 ?pz167 ?vz167 ?Bz167 ?Fz167 ?Xz167 ?Nz167 ?Tz167 ?hz167 ?dpz167 ?uz167 ?Az167 ?fz167 ?kz167 ?_ ?_; (case lz167 => assumption); (case dz167 => assumption); (case pz167 => assumption); (case vz167 => tb_rel); (case Nz167 => first | k_asm | (refine' cb_drop ?nz167 ?sz167; (case nz167 => k_asm); (case sz167 => kqd_sub))); (case Bz167 => k_asm); (case Fz167 => k_asm); (case Xz167 => k_asm); (case Tz167 => k_asm); (case hz167 => exact rfl); (case dpz167 => exact Nat.le_of_ble_eq_true rfl); (case uz167 => exact Nat.le_of_ble_eq_true rfl); (case Az167 => exact rfl); (case fz167 => exact rfl); (case kz167 => exact rfl)); (all_goals (first | ((with_reducible intro a4w n4w v4w d4w hw tkw c3w c4w l1w Fw Nw); (try k_sweep); (try k_fold)) | ((with_reducible intro hw tkw c3w Fw Nw); (try k_sweep); (try k_fold))))))
  k_with "call ref" => ((k_here; (with_reducible show wpAny _ _ (call (Value.ref 50) [_, _]) _ _ _); k_dflt (refine' ctr_useT (number_of_ok ?mz168) ?Bz168 ?Fz168 ?Xz168 ?Nz168 ?Tz168 ?hz168 ?dpz168 ?uz168 ?Az168 ?fz168 ?kz168 ?_; (case Nz168 => k_asm); (case mz168 => tb_rel); (case Bz168 => k_asm); (case Fz168 => k_asm); (case Xz168 => k_asm); (case Tz168 => k_asm); (case hz168 => exact rfl); (case dpz168 => exact Nat.le_of_ble_eq_true rfl); (case uz168 => exact Nat.le_of_ble_eq_true rfl); (case Az168 => exact rfl); (case fz168 => exact rfl); (case kz168 => exact rfl); k_whole); (intro tw hw tkw Fw Nw); (try k_sweep); (try k_fold)))
  trivial
def valueIn (rows : List (Int × Dat)) (c : Int) (pl : Int → List (Int × Dat)) (k : Int) : Dat :=
  match getD rows k with
  | some d => d
  | none => match getD rows c with
    | some e => if 0 ≤ numD e then (getD (pl (numD e)) k).getD .none else .none
    | none => .none
set_option maxHeartbeats 4000000 in
theorem value_in_ok {w : World} {led : List (Addr × Obj)} {ru li dd pd lp : Addr} {fi : Int} {kvs : List (Int × Value)} {pl : Int → List (Int × Dat)} {vs : List Value} {n : Nat} {rows : List (Int × Dat)} {k : Int} {t : Tok}
    (hr : RulesAt w led ru li fi dd) (hl : LispAt w led li fi pd) (hd : IntDict w led pd kvs) (hp : PlistsIn led kvs pl) (hm : (lp, listOf vs.toArray n) ∈ led) (hrows : RowsIn led vs rows) (hz : rows.length ≤ 100) :
    Ctr w 700 141 [.ref ru, .ref lp, .int k t] led (fun r led' => led' = led ∧ LV led r (valueIn rows fi pl k)) := by
  have hl' := hl
  obtain ⟨dl, t1, t2, t3, t4, tf, hl1, hl2⟩ := hl
  have hr' := hr
  obtain ⟨dr, tr, hr1, hr2⟩ := hr
  refine ctr_of fun mean mg mb env outer A₀ base h₀ L m s Q hf hk B F X N T ret => ?_
  k_dflt k_enter
  k_steps
  all_goals refine ret _ _ _ _ ⟨rfl, ?_⟩ (by k_asm) (cb_drop (by assumption) (by kqd_sub))
  all_goals unfold valueIn
  all_goals simp only [*, if_true, if_false, Option.getD_some, Option.getD_none]
  all_goals first | exact LV.nil | assumption
end
section
theorem words_D10_1 : True := by
  k_with_none
  k_with "k_enter" => (first | (refine' code_def ?k1z192 ?k2z192 ?k3z192 ?k4z192 ?k5z192 ?kAz192 ?kFz192 ?kKz192 ?k6z192 ?k7z192 ?k8z192 ?k9z192 ?kBz192 ?_ ?c2z192 ?c3z192 ?c4z192 ?c5z192; (case kAz192 => exact rfl); (case kFz192 => first | exact rfl | assumption); (case kKz192 => first | exact rfl | assumption); (case k1z192 => k_asm); (case k2z192 => k_asm); (case k3z192 => k_asm); (case k4z192 => k_asm); (case k5z192 => k_asm); (case k6z192 => k_is); (case k7z192 => k_is); (case k8z192 => k_room); (case k9z192 => first | exact BindsTo.of_eq rfl | exact binds_K (by k_in) rfl (by k_is) rfl rfl rfl | fail "k_enter: no rule for these arguments"); (case c5z192 => decide); (case kBz192 => exact locs rfl); (case c2z192 => exact rfl); (case c3z192 => exact rfl); (case c4z192 => exact rfl); k_whole; intro gw Lw hw FGw Fw Nw Bw Xw Tw; (try dsimp only); (try k_lift Bw); (try k_fold)) | (refine' code_defC ?k1z192 ?k2z192 ?k3z192 ?k4z192 ?k5z192 ?kAz192 ?kFz192 ?kKz192 ?k6z192 ?k7z192 ?k8z192 ?k9z192 ?kBz192 ?kDz192 ?_ ?c2z192 ?c3z192 ?c4z192; (case kAz192 => exact rfl); (case kFz192 => first | exact rfl | assumption); (case kKz192 => first | exact rfl | assumption); (case k1z192 => k_asm); (case k2z192 => k_asm); (case k3z192 => k_asm); (case k4z192 => k_asm); (case k5z192 => k_asm); (case k6z192 => k_is); (case k7z192 => k_is); (case k8z192 => k_room); (case k9z192 => first | exact BindsTo.of_eq rfl | exact binds_K (by k_in) rfl (by k_is) rfl rfl rfl | fail "k_enter: no rule for these arguments"); (case kBz192 => exact rfl); (case kDz192 => decide +kernel); (case c2z192 => exact rfl); (case c3z192 => exact rfl); (case c4z192 => exact rfl); k_whole; intro gw Lw hw tkw cellsw FGw Fw Nw Yw Bw Xw Tw l1w; (try k_lt l1w); k_cells Yw; (try simp only [List.cons_append, List.nil_append] at Nw); (try dsimp only); (try k_lift Bw); (try k_fold)))
  k_with "k_ne" => (refine neN ?_; (try dsimp only); first | with_reducible assumption | with_reducible exact Ne.symm (by assumption) | exact (by k_extra "nes") | exact Ne.symm (by k_extra "nes") | exact Nat.ne_of_lt (by k_extra "lt") | exact Nat.ne_of_gt (by k_extra "lt") | omega)
  k_with "lt" => (first | with_reducible assumption | with_reducible exact And.left (by assumption) | with_reducible exact And.left (And.right (by assumption)) | with_reducible exact And.left (And.right (And.right (by assumption))) | with_reducible exact And.left (And.right (And.right (And.right (by assumption)))) | with_reducible exact And.left (And.right (And.right (And.right (And.right (by assumption))))) | with_reducible exact And.left (And.right (And.right (And.right (And.right (And.right (by assumption)))))) | with_reducible exact And.left (And.right (And.right (And.right (And.right (And.right (And.right (by assumption))))))) | with_reducible exact And.left (And.right (And.right (And.right (And.right (And.right (And.right (And.right (by assumption)))))))) | with_reducible exact And.left (And.right (And.right (And.right (And.right (And.right (And.right (And.right (And.right (by assumption))))))))) | with_reducible exact And.left (And.right (And.right (And.right (And.right (And.right (And.right (And.right (And.right (And.right (by assumption)))))))))) | with_reducible exact And.left (And.right (And.right (And.right (And.right (And.right (And.right (And.right (And.right (And.right (And.right (by assumption))))))))))) | with_reducible exact And.left (And.right (And.right (And.right (And.right (And.right (And.right (And.right (And.right (And.right (And.right (And.right (by assumption)))))))))))) | with_reducible exact And.left (And.right (And.right (And.right (And.right (And.right (And.right (And.right (And.right (And.right (And.right (And.right (And.right (by assumption))))))))))))) | with_reducible exact And.left (And.right (And.right (And.right (And.right (And.right (And.right (And.right (And.right (And.right (And.right (And.right (And.right (And.right (by assumption)))))))))))))) | with_reducible exact And.left (And.right (And.right (And.right (And.right (And.right (And.right (And.right (And.right (And.right (And.right (And.right (And.right (And.right (And.right (by assumption))))))))))))))) | with_reducible exact And.left (And.right (And.right (And.right (And.right (And.right (And.right (And.right (And.right (And.right (And.right (And.right (And.right (And.right (And.right (And.right (by assumption)))))))))))))))) | with_reducible exact And.right (by assumption) | with_reducible exact And.right (And.right (by assumption)) | with_reducible exact And.right (And.right (And.right (by assumption))) | with_reducible exact And.right (And.right (And.right (And.right (by assumption)))) | with_reducible exact And.right (And.right (And.right (And.right (And.right (by assumption))))) | with_reducible exact And.right (And.right (And.right (And.right (And.right (And.right (by assumption)))))) | with_reducible exact And.right (And.right (And.right (And.right (And.right (And.right (And.right (by assumption))))))) | with_reducible exact And.right (And.right (And.right (And.right (And.right (And.right (And.right (And.right (by assumption)))))))) | with_reducible exact And.right (And.right (And.right (And.right (And.right (And.right (And.right (And.right (And.right (by assumption))))))))))
  k_with "nes" => (first | with_reducible exact And.left (by assumption) | with_reducible exact And.left (And.right (by assumption)) | with_reducible exact And.left (And.right (And.right (by assumption))) | with_reducible exact And.left (And.right (And.right (And.right (by assumption)))) | with_reducible exact And.left (And.right (And.right (And.right (And.right (by assumption))))) | with_reducible exact And.left (And.right (And.right (And.right (And.right (And.right (by assumption)))))) | with_reducible exact And.right (by assumption) | with_reducible exact And.right (And.right (by assumption)) | with_reducible exact And.right (And.right (And.right (by assumption))) | with_reducible exact And.right (And.right (And.right (And.right (by assumption)))) | with_reducible exact And.right (And.right (And.right (And.right (And.right (by assumption))))))
  k_with "subscriptTail" => ((k_here; (with_reducible show wpAny _ _ (subscriptTail _ _ (Value.ref _) (Value.int 0 _)) _ _ _); k_dflt (refine' tup_head ?Nz170 ?mz170 ?_; (case Nz170 => k_asm); (case mz170 => k_mem); k_whole)))
  k_with "call type:tuple" => ((k_here; (with_reducible show wpAny _ _ (call (Value.type "tuple") [Value.ref _]) _ _ _); k_dflt (refine' tuple_ofM ?Fz171 ?Nz171 ?mz171 ?zz171 ?_; (case Fz171 => k_asm); (case Nz171 => k_asm); (case mz171 => k_mem); (case zz171 => first | assumption | (simp only [List.length_cons, List.length_nil]; omega)); k_whole); intro Dw hw Fw Nw l1w; (try k_lt l1w); (try k_sweep)))
  k_with "call type:list" => ((k_here; (with_reducible show wpAny _ _ (call (Value.type "list") [Value.ref _]) _ _ _); k_dflt (refine' list_ofTupM ?Fz172 ?Nz172 ?mz172 ?zz172 ?_; (case Fz172 => k_asm); (case Nz172 => k_asm); (case mz172 => k_mem); (case zz172 => first | assumption | (simp only [List.length_cons, List.length_nil]; omega)); k_whole); intro Dw kw hw Fw Nw l1w; (try k_lt l1w); (try k_sweep)))
  k_with "subscriptTail Name Slice ref ref" => ((k_here; (with_reducible show wpAny _ _ (subscriptTail _ (PySem.Expr.Slice (some _) none none _) (Value.ref _) (Value.ref _)) _ _ _); k_dflt (refine' slice_tupM ?Fz173 ?Nz173 ?mz173 ?zz173 ?_ ?sz173 ?tz173; (case Fz173 => k_asm); (case Nz173 => k_asm); (case mz173 => k_mem); (case zz173 => first | assumption | (simp only [List.length_cons, List.length_nil]; omega)); (case sz173 => with_unfolding_all rfl); (case tz173 => kmk_pure)); intro Dw hw Fw Nw l1w; (try k_lt l1w); (try k_sweep)))
  k_with "compareOp Eq ref none" => ((k_here; (with_reducible show wpAny _ _ (compareOp CmpOp.Eq (Value.ref _) Value.none) _ _ _); k_dflt (refine' eq_tup_none ?Nz174 ?mz174 ?uz174 ?_; (case Nz174 => k_asm); (case mz174 => k_mem); (case uz174 => k_units); k_whole)))
  k_with "compareOp Eq ref" => ((k_here; (with_reducible show wpAny _ _ (compareOp CmpOp.Eq (Value.ref _) Value.none) _ _ _); k_dflt (refine' eq_tup_none ?Nz175 ?mz175 ?uz175 ?_; (case Nz175 => k_asm); (case mz175 => k_mem); (case uz175 => k_units); k_whole)))
  k_with "k_mem" => (((repeat (first | exact List.Mem.head _ | assumption | refine' List.Mem.tail _ ?_ | exact List.mem_append_left _ (by assumption) | exact List.mem_append_left _ (List.Mem.head _) | refine' List.mem_append_right _ ?_)); done))
  k_with "binaryOp Add ref ref" => ((k_here; (with_reducible show wpAny _ _ (binaryOp Operator.Add (Value.ref _) (Value.ref _)) _ _ _); k_dflt (refine' add_tupM ?Fz177 ?Nz177 ?mz177 ?nz177 ?zz177 ?az177 ?bz177; (case Fz177 => k_asm); (case Nz177 => k_asm); (case mz177 => k_mem); (case nz177 => k_mem); (case zz177 => first | assumption | (simp only [List.length_cons, List.length_nil]; omega)); (case' az177 => intro e1w); (case' bz177 => (intro e1w Dw hw Fw Nw l1w; (try k_lt l1w); (try k_sweep))))))
  k_with "kqd_sub" => (((repeat (refine List.forall_mem_cons.mpr ⟨by k_mem, ?_⟩)); first | exact List.forall_mem_nil _ | (intro p9 h9; k_mem)))
  k_with "ktr_rel" => (first | assumption | exact tb_ltOf (by first | assumption | exact (And.right (by assumption)) | exact (And.right (And.right (by assumption))) | exact (And.right (And.right (And.right (by assumption)))) | exact (And.right (And.right (And.right (And.right (by assumption))))) | exact (And.right (And.right (And.right (And.right (And.right (by assumption)))))) | exact (And.right (And.right (And.right (And.right (And.right (And.right (by assumption))))))) | exact (And.right (And.right (And.right (And.right (And.right (And.right (And.right (by assumption)))))))) | exact (And.right (And.right (And.right (And.right (And.right (And.right (And.right (And.right (by assumption))))))))) | exact (And.right (And.right (And.right (And.right (And.right (And.right (And.right (And.right (And.right (by assumption)))))))))) | exact (And.right (And.right (And.right (And.right (And.right (And.right (And.right (And.right (And.right (And.right (by assumption)))))))))))))
  k_with "getMethod ref" => ((k_here; (with_reducible show wpAny _ _ (getMethod (Value.ref _) (Str.ofString "get") _) _ _ _); k_dflt (refine kdg_method (knd := PySem.intKind Pr _) (by k_asm) (by k_mem) (by k_asm) ?_)))
  k_with "call builtin:dict.get" => ((k_here; (try dsimp only [List.nil_append, List.cons_append]); (with_reducible show wpAny _ _ (call (Value.builtin _) [Value.ref _, Value.int _ _, _]) _ _ _); k_dflt (refine kdg_get2 (knd := PySem.intKind Pr _) (by k_asm) (by k_mem) (by k_asm) (by k_asm) (intKind_is _ _ _ _) _ (by assumption) ?_); (try dsimp only [Option.getD])))
  k_with "subscriptTail" => ((k_here; (with_reducible show wpAny _ _ (subscriptTail _ _ (Value.ref _) (Value.int _ _)) _ _ _); k_dflt (refine' list_itemM ?Nz182 ?mz182 ?xz182 ?kz182 ?zz182 ?_; (case Nz182 => k_asm); (case mz182 => k_mem); (case xz182 => assumption); (case kz182 => omega); (case zz182 => first | assumption | omega); k_whole)))
  k_with "call builtin:len" => ((k_here; (with_reducible show wpAny _ _ (call (Value.builtin "len") [Value.ref _]) _ _ _); k_dflt (refine' len_listM ?Nz183 ?mz183 ?zz183 ?_; (case Nz183 => k_asm); (case mz183 => k_mem); (case zz183 => first | assumption | omega); k_whole)))
  k_with "tb_rel" => (first | assumption | (refine' LV.mono ?hz184 ?sz184; (case hz184 => assumption); (case sz184 => kqd_sub)) | (refine' RowsIn.mono ?sz184 ?hz184; (case hz184 => assumption); (case sz184 => kqd_sub)) | (refine' LispAt.mono ?hz184 ?sz184; (case hz184 => assumption); (case sz184 => kqd_sub)) | (refine' RulesAt.mono ?hz184 ?sz184; (case hz184 => assumption); (case sz184 => kqd_sub)) | (refine' IntDict.mono ?hz184 ?sz184; (case hz184 => assumption); (case sz184 => kqd_sub)) | (refine' PlistsIn.mono ?hz184 ?sz184; (case hz184 => assumption); (case sz184 => kqd_sub)) | (refine' DatAll.mono ?sz184 ?hz184; (case hz184 => assumption); (case sz184 => kqd_sub)))
  k_with "eval ListComp" => ((k_here; lct_look; k_dflt (refine LCt.ListComp_T (F₀ := by k_asm) (by with_unfolding_all rfl) (by decide) (by rfl) (by decide) (by rfl) ?_); k_dflt lct_toSrc))
  k_with "CompSrcT" => ((k_here; k_dflt (refine LCt.CompSrcT.ledger (by rfl) (by k_asm) (by k_asm) (by k_mem) (by simp only [List.size_toArray, sizeLine_eq]; omega) ?_); intro gw))
  k_with "compareOp NotEq ref ref" => ((k_here; (with_reducible show wpAny _ _ (compareOp CmpOp.NotEq (Value.ref _) (Value.ref _)) _ _ _); k_dflt (refine' list_ne_nil ?Nz187 ?az187 ?bz187 ?uz187 ?_; (case Nz187 => k_asm); (case az187 => k_mem); (case bz187 => k_mem); (case uz187 => k_units); k_whole)))
  k_with "compareOp Eq ref ref" => ((k_here; (with_reducible show wpAny _ _ (compareOp CmpOp.Eq (Value.ref _) (Value.ref _)) _ _ _); k_dflt (refine' list_eq_nil ?Nz188 ?az188 ?bz188 ?uz188 ?_; (case Nz188 => k_asm); (case az188 => k_mem); (case bz188 => k_mem); (case uz188 => k_units); k_whole)))
  k_with "call ref" => ((k_here; (with_reducible show wpAny _ _ (call (Value.ref 50) [_, _]) _ _ _); k_dflt (refine' ctr_useT (number_of_ok ?mz189) ?Bz189 ?Fz189 ?Xz189 ?Nz189 ?Tz189 ?hz189 ?dpz189 ?uz189 ?Az189 ?fz189 ?kz189 ?_; (case Nz189 => k_asm); (case mz189 => tb_rel); (case Bz189 => k_asm); (case Fz189 => k_asm); (case Xz189 => k_asm); (case Tz189 => k_asm); (case hz189 => exact rfl); (case dpz189 => exact Nat.le_of_ble_eq_true rfl); (case uz189 => exact Nat.le_of_ble_eq_true rfl); (case Az189 => exact rfl); (case fz189 => exact rfl); (case kz189 => exact rfl); k_whole); (intro tw hw tkw Fw Nw); (try k_sweep); (try k_fold)))
  k_with "call ref" => ((k_here; (with_reducible show wpAny _ _ (call (Value.ref 127) [Value.ref _, _]) _ _ _); k_dflt (refine' is_nil_use ?rz190 ?vz190 ?Bz190 ?Fz190 ?Xz190 ?Nz190 ?Tz190 ?hz190 ?dpz190 ?uz190 ?Az190 ?fz190 ?kz190 ?_ ?_; (case Nz190 => k_asm); (case rz190 => tb_rel); (case vz190 => tb_rel); (case Bz190 => k_asm); (case Fz190 => k_asm); (case Xz190 => k_asm); (case Tz190 => k_asm); (case hz190 => exact rfl); (case dpz190 => exact Nat.le_of_ble_eq_true rfl); (case uz190 => exact Nat.le_of_ble_eq_true rfl); (case Az190 => exact rfl); (case fz190 => exact rfl); (case kz190 => exact rfl)); (all_goals ((with_reducible intro hw tkw c1w Fw Nw); (try k_sweep); (try k_fold)))))
  k_with "call ref" => ((k_here; (with_reducible show wpAny _ _ (call (Value.ref 64) [_, _]) _ _ _); k_dflt (refine' items_use ?vz191 ?Bz191 ?Fz191 ?Xz191 ?Nz191 ?Tz191 ?hz191 ?dpz191 ?uz191 ?Az191 ?fz191 ?kz191 ?_ ?_; (case Nz191 => k_asm); (case vz191 => tb_rel); (case Bz191 => k_asm); (case Fz191 => k_asm); (case Xz191 => k_asm); (case Tz191 => k_asm); (case hz191 => exact rfl); (case dpz191 => exact Nat.le_of_ble_eq_true rfl); (case uz191 => exact Nat.le_of_ble_eq_true rfl); (case Az191 => exact rfl); (case fz191 => exact rfl); (case kz191 => exact rfl)); (all_goals (first | ((with_reducible intro b4w k4w vs4w ks4w c4w hw tkw c5w c6w c7w l1w Fw Nw); (try (have hz4w := lst_len c6w c7w)); (try k_sweep); (try k_fold)) | ((with_reducible intro hw tkw c3w Fw Nw); (try k_sweep); (try k_fold))))))
  trivial
set_option maxHeartbeats 4000000 in
theorem is_member_ok {w : World} {led : List (Addr × Obj)} {ru li dd pd : Addr} {fi : Int} {v : Value} {d : Dat} {k : Int} {t : Tok} (hr : RulesAt w led ru li fi dd) (hl : LispAt w led li fi pd) (hv : LV led v d) (hk : KeyOk k) :
    Ctr w 700 146 [.ref ru, .int k t, v] led (fun r led' => led' = led ∧ ((d = .none ∧ r = .bool false) ∨ (∃ ks c, d = lstD ks c ∧ r = .bool (decide (k ∈ ks))) ∨ (d ≠ .none ∧ (∀ ks c, d ≠ lstD ks c) ∧ r = .bool true))) := by
  have hl' := hl
  obtain ⟨dl, t1, t2, t3, t4, tf, hl1, hl2⟩ := hl
  have hr' := hr
  obtain ⟨dr, tr, hr1, hr2⟩ := hr
  refine ctr_of fun mean mg mb env outer A₀ base h₀ L m s Q hf hk' B F X N T ret => ?_
  k_dflt k_enter
  k_steps
  · exact ret _ _ _ _ ⟨rfl, .inl ⟨by assumption, rfl⟩⟩ (by k_asm) (cb_drop (by assumption) (by kqd_sub))
  · exact ret _ _ _ _ ⟨rfl, .inr (.inr ⟨by assumption, by assumption, rfl⟩)⟩ (by k_asm) (cb_drop (by assumption) (by kqd_sub))
  · refine compT_indK (fun i ys => (ys = [] ↔ ∀ j d, j < i → (ks4w.map symD ++ tailD c4w)[j]? = some d → numD d ≠ k)) (by simp) ?_ ?_
    · intro i ys v9 I9 oI9 C9 oC9 D9 m9 h9 tk9 E9 hi hinv hv9 hC9 hx9 F9 N9 off9 ne9
      obtain ⟨d9, hd1, hd2⟩ := c6w.get i v9 (by simpa using hv9)
      k_steps
      · exact compEnd_same (by assumption) (by assumption) (fun _ h => h) off9 (.inr ⟨_, by k_mem, rfl, _, rfl⟩) (memb_yes hd2 (by assumption))
      · exact compEnd_same (by assumption) (by assumption) (fun _ h => h) off9 (.inr ⟨_, by k_mem, rfl, _, rfl⟩) (memb_no hinv hd2 (by assumption))
    · intro ys hinv
      k_steps
      exact ret _ _ _ _ ⟨rfl, .inr (.inl ⟨_, _, c5w, by rw [memb_end c6w hk hinv]⟩)⟩ (by k_asm) (cb_drop (by assumption) (by kqd_sub))
end
section
section
variable {prog : Program} {w : World} {A : Around} {E : Value → Shared → Prop} {s : Shared} {h₀ : Heap} {L : Addr} {news : List (Addr × Obj)} {m : Str → Option Value}
theorem list_ne_cons {l e : Addr} {v : Value} {vs : List Value} {n k : Nat} {Q : Value → Shared → Prop} (N : News h₀ L s.heap news) (hl : (l, listOf (v :: vs).toArray n) ∈ news) (he : (e, listOf #[] k) ∈ news) (hu : A.units < cLine)
    (h : Q (.bool true) s) : wpAny (model prog w) A (compareOp .NotEq (.ref l) (.ref e)) Q E s := list_ne_nil N hl he hu (by simpa using h)
theorem list_eq_cons {l e : Addr} {v : Value} {vs : List Value} {n k : Nat} {Q : Value → Shared → Prop} (N : News h₀ L s.heap news) (hl : (l, listOf (v :: vs).toArray n) ∈ news) (he : (e, listOf #[] k) ∈ news) (hu : A.units < cLine)
    (h : Q (.bool false) s) : wpAny (model prog w) A (compareOp .Eq (.ref l) (.ref e)) Q E s := list_eq_nil N hl he hu (by simpa using h)
end
section
variable {prog : Program} {w : World} {A : Around} {E : Value → Shared → Prop} {s : Shared} {env : Env} {test : PySem.Expr} {body orelse : List Stmt} {Q : Flow → Shared → Prop} {h₀ : Heap} {L dk : Addr} {rest : List (Addr × Obj)} {m : Str → Option Value}
def DeckTurn (h₀ : Heap) (L dk : Addr) (rest : List (Addr × Obj)) (m : Str → Option Value) (s : Shared) (l : Nat) (Q : Flow → Shared → Prop) (f : Flow) (s₁ : Shared) : Prop := match f with
  | .ret v => Q (.ret v) s₁
  | .brk => Q .next s₁
  | _ => ∃ h tk vs n, s₁ = { s with heap := h, toks := tk } ∧ Fr h₀ L h m ∧ News h₀ L h ((dk, listOf vs.toArray n) :: rest) ∧ DeckOk vs ∧ vs.length < l
theorem while_deck (hE : PassesOwn (model prog w) A env E) {vs : List Value} {n : Nat} (F : Fr h₀ L s.heap m) (N : News h₀ L s.heap ((dk, listOf vs.toArray n) :: rest)) (hd : DeckOk vs)
    (turn : ∀ vs n h tk, Fr h₀ L h m → News h₀ L h ((dk, listOf vs.toArray n) :: rest) → DeckOk vs → wpAny (model prog w) A (isTrue test env (eval test env)) (fun b s₂ => WhlIf b (wpAny (model prog w) A (execs body env) (DeckTurn h₀ L dk rest m s vs.length Q) E s₂) (wpAny (model prog w) A (execs orelse env) Q E s₂)) E { s with heap := h, toks := tk }) : WhlMine prog w A E env test body orelse Q s := by
  refine while_ind (fun k s₁ => ∃ h tk vs n, s₁ = { s with heap := h, toks := tk } ∧ Fr h₀ L h m ∧ News h₀ L h ((dk, listOf vs.toArray n) :: rest) ∧ DeckOk vs ∧ k = vs.length) hE ?_ vs.length ⟨_, _, vs, n, rfl, F, N, hd, rfl⟩
  rintro k s₁ ⟨h, tk, vs, n, rfl, F, N, hd, rfl⟩
  refine wpAny_mono (turn vs n h tk F N hd) (fun b s₂ q => ?_) fun _ _ e => e
  cases b with
  | false => exact WhlIf.no rfl (by simpa [WhlIf] using q)
  | true =>
    have q' : wpAny (model prog w) A (execs body env) (DeckTurn h₀ L dk rest m s vs.length Q) E s₂ := by simpa [WhlIf] using q
    refine WhlIf.yes rfl (wpAny_mono q' (fun f s₃ r => ?_) fun _ _ e => e)
    cases f with
    | ret v => exact r
    | brk => exact r
    | next => obtain ⟨h, tk, vs', n, e, F, N, hd, hl⟩ := r; exact ⟨_, hl, h, tk, vs', n, e, F, N, hd, rfl⟩
    | cont => obtain ⟨h, tk, vs', n, e, F, N, hd, hl⟩ := r; exact ⟨_, hl, h, tk, vs', n, e, F, N, hd, rfl⟩
end
local macro_rules | `(tactic| k_all) => `(tactic| first | assumption | done)
theorem words_D11_1 : True := by
  k_with_none
  k_with "k_enter" => (first | (refine' code_def ?k1z214 ?k2z214 ?k3z214 ?k4z214 ?k5z214 ?kAz214 ?kFz214 ?kKz214 ?k6z214 ?k7z214 ?k8z214 ?k9z214 ?kBz214 ?_ ?c2z214 ?c3z214 ?c4z214 ?c5z214; (case kAz214 => exact rfl); (case kFz214 => first | exact rfl | assumption); (case kKz214 => first | exact rfl | assumption); (case k1z214 => k_asm); (case k2z214 => k_asm); (case k3z214 => k_asm); (case k4z214 => k_asm); (case k5z214 => k_asm); (case k6z214 => k_is); (case k7z214 => k_is); (case k8z214 => k_room); (case k9z214 => first | exact BindsTo.of_eq rfl | exact binds_K (by k_in) rfl (by k_is) rfl rfl rfl | fail "k_enter: no rule for these arguments"); (case c5z214 => decide); (case kBz214 => exact locs rfl); (case c2z214 => exact rfl); (case c3z214 => exact rfl); (case c4z214 => exact rfl); k_whole; intro gw Lw hw FGw Fw Nw Bw Xw Tw; (try dsimp only); (try k_lift Bw); (try k_fold)) | (refine' code_defC ?k1z214 ?k2z214 ?k3z214 ?k4z214 ?k5z214 ?kAz214 ?kFz214 ?kKz214 ?k6z214 ?k7z214 ?k8z214 ?k9z214 ?kBz214 ?kDz214 ?_ ?c2z214 ?c3z214 ?c4z214; (case kAz214 => exact rfl); (case kFz214 => first | exact rfl | assumption); (case kKz214 => first | exact rfl | assumption); (case k1z214 => k_asm); (case k2z214 => k_asm); (case k3z214 => k_asm); (case k4z214 => k_asm); (case k5z214 => k_asm); (case k6z214 => k_is); (case k7z214 => k_is); (case k8z214 => k_room); (case k9z214 => first | exact BindsTo.of_eq rfl | exact binds_K (by k_in) rfl (by k_is) rfl rfl rfl | fail "k_enter: no rule for these arguments"); (case kBz214 => exact rfl); (case kDz214 => decide +kernel); (case c2z214 => exact rfl); (case c3z214 => exact rfl); (case c4z214 => exact rfl); k_whole; intro gw Lw hw tkw cellsw FGw Fw Nw Yw Bw Xw Tw l1w; (try k_lt l1w); k_cells Yw; (try simp only [List.cons_append, List.nil_append] at Nw); (try dsimp only); (try k_lift Bw); (try k_fold)))
  k_with "k_ne" => (refine neN ?_; (try dsimp only); first | with_reducible assumption | with_reducible exact Ne.symm (by assumption) | exact (by k_extra "nes") | exact Ne.symm (by k_extra "nes") | exact Nat.ne_of_lt (by k_extra "lt") | exact Nat.ne_of_gt (by k_extra "lt") | omega)
  k_with "lt" => (first | with_reducible assumption | with_reducible exact And.left (by assumption) | with_reducible exact And.left (And.right (by assumption)) | with_reducible exact And.left (And.right (And.right (by assumption))) | with_reducible exact And.left (And.right (And.right (And.right (by assumption)))) | with_reducible exact And.left (And.right (And.right (And.right (And.right (by assumption))))) | with_reducible exact And.left (And.right (And.right (And.right (And.right (And.right (by assumption)))))) | with_reducible exact And.left (And.right (And.right (And.right (And.right (And.right (And.right (by assumption))))))) | with_reducible exact And.left (And.right (And.right (And.right (And.right (And.right (And.right (And.right (by assumption)))))))) | with_reducible exact And.left (And.right (And.right (And.right (And.right (And.right (And.right (And.right (And.right (by assumption))))))))) | with_reducible exact And.left (And.right (And.right (And.right (And.right (And.right (And.right (And.right (And.right (And.right (by assumption)))))))))) | with_reducible exact And.left (And.right (And.right (And.right (And.right (And.right (And.right (And.right (And.right (And.right (And.right (by assumption))))))))))) | with_reducible exact And.left (And.right (And.right (And.right (And.right (And.right (And.right (And.right (And.right (And.right (And.right (And.right (by assumption)))))))))))) | with_reducible exact And.left (And.right (And.right (And.right (And.right (And.right (And.right (And.right (And.right (And.right (And.right (And.right (And.right (by assumption))))))))))))) | with_reducible exact And.left (And.right (And.right (And.right (And.right (And.right (And.right (And.right (And.right (And.right (And.right (And.right (And.right (And.right (by assumption)))))))))))))) | with_reducible exact And.left (And.right (And.right (And.right (And.right (And.right (And.right (And.right (And.right (And.right (And.right (And.right (And.right (And.right (And.right (by assumption))))))))))))))) | with_reducible exact And.left (And.right (And.right (And.right (And.right (And.right (And.right (And.right (And.right (And.right (And.right (And.right (And.right (And.right (And.right (And.right (by assumption)))))))))))))))) | with_reducible exact And.right (by assumption) | with_reducible exact And.right (And.right (by assumption)) | with_reducible exact And.right (And.right (And.right (by assumption))) | with_reducible exact And.right (And.right (And.right (And.right (by assumption)))) | with_reducible exact And.right (And.right (And.right (And.right (And.right (by assumption))))) | with_reducible exact And.right (And.right (And.right (And.right (And.right (And.right (by assumption)))))) | with_reducible exact And.right (And.right (And.right (And.right (And.right (And.right (And.right (by assumption))))))) | with_reducible exact And.right (And.right (And.right (And.right (And.right (And.right (And.right (And.right (by assumption)))))))) | with_reducible exact And.right (And.right (And.right (And.right (And.right (And.right (And.right (And.right (And.right (by assumption))))))))))
  k_with "nes" => (first | with_reducible exact And.left (by assumption) | with_reducible exact And.left (And.right (by assumption)) | with_reducible exact And.left (And.right (And.right (by assumption))) | with_reducible exact And.left (And.right (And.right (And.right (by assumption)))) | with_reducible exact And.left (And.right (And.right (And.right (And.right (by assumption))))) | with_reducible exact And.left (And.right (And.right (And.right (And.right (And.right (by assumption)))))) | with_reducible exact And.right (by assumption) | with_reducible exact And.right (And.right (by assumption)) | with_reducible exact And.right (And.right (And.right (by assumption))) | with_reducible exact And.right (And.right (And.right (And.right (by assumption)))) | with_reducible exact And.right (And.right (And.right (And.right (And.right (by assumption))))))
  k_with "subscriptTail" => ((k_here; (with_reducible show wpAny _ _ (subscriptTail _ _ (Value.ref _) (Value.int 0 _)) _ _ _); k_dflt (refine' tup_head ?Nz193 ?mz193 ?_; (case Nz193 => k_asm); (case mz193 => k_mem); k_whole)))
  k_with "call type:tuple" => ((k_here; (with_reducible show wpAny _ _ (call (Value.type "tuple") [Value.ref _]) _ _ _); k_dflt (refine' tuple_ofM ?Fz194 ?Nz194 ?mz194 ?zz194 ?_; (case Fz194 => k_asm); (case Nz194 => k_asm); (case mz194 => k_mem); (case zz194 => first | assumption | (simp only [List.length_cons, List.length_nil]; omega)); k_whole); intro Dw hw Fw Nw l1w; (try k_lt l1w); (try k_sweep)))
  k_with "call type:list" => ((k_here; (with_reducible show wpAny _ _ (call (Value.type "list") [Value.ref _]) _ _ _); k_dflt (refine' list_ofTupM ?Fz195 ?Nz195 ?mz195 ?zz195 ?_; (case Fz195 => k_asm); (case Nz195 => k_asm); (case mz195 => k_mem); (case zz195 => first | assumption | (simp only [List.length_cons, List.length_nil]; omega)); k_whole); intro Dw kw hw Fw Nw l1w; (try k_lt l1w); (try k_sweep)))
  k_with "subscriptTail Name Slice ref ref" => ((k_here; (with_reducible show wpAny _ _ (subscriptTail _ (PySem.Expr.Slice (some _) none none _) (Value.ref _) (Value.ref _)) _ _ _); k_dflt (refine' slice_tupM ?Fz196 ?Nz196 ?mz196 ?zz196 ?_ ?sz196 ?tz196; (case Fz196 => k_asm); (case Nz196 => k_asm); (case mz196 => k_mem); (case zz196 => first | assumption | (simp only [List.length_cons, List.length_nil]; omega)); (case sz196 => with_unfolding_all rfl); (case tz196 => kmk_pure)); intro Dw hw Fw Nw l1w; (try k_lt l1w); (try k_sweep)))
  k_with "compareOp Eq ref none" => ((k_here; (with_reducible show wpAny _ _ (compareOp CmpOp.Eq (Value.ref _) Value.none) _ _ _); k_dflt (refine' eq_tup_none ?Nz197 ?mz197 ?uz197 ?_; (case Nz197 => k_asm); (case mz197 => k_mem); (case uz197 => k_units); k_whole)))
  k_with "compareOp Eq ref" => ((k_here; (with_reducible show wpAny _ _ (compareOp CmpOp.Eq (Value.ref _) Value.none) _ _ _); k_dflt (refine' eq_tup_none ?Nz198 ?mz198 ?uz198 ?_; (case Nz198 => k_asm); (case mz198 => k_mem); (case uz198 => k_units); k_whole)))
  k_with "k_mem" => (((repeat (first | exact List.Mem.head _ | assumption | refine' List.Mem.tail _ ?_ | exact List.mem_append_left _ (by assumption) | exact List.mem_append_left _ (List.Mem.head _) | refine' List.mem_append_right _ ?_)); done))
  k_with "binaryOp Add ref ref" => ((k_here; (with_reducible show wpAny _ _ (binaryOp Operator.Add (Value.ref _) (Value.ref _)) _ _ _); k_dflt (refine' add_tupM ?Fz200 ?Nz200 ?mz200 ?nz200 ?zz200 ?az200 ?bz200; (case Fz200 => k_asm); (case Nz200 => k_asm); (case mz200 => k_mem); (case nz200 => k_mem); (case zz200 => first | assumption | (simp only [List.length_cons, List.length_nil]; omega)); (case' az200 => intro e1w); (case' bz200 => (intro e1w Dw hw Fw Nw l1w; (try k_lt l1w); (try k_sweep))))))
  k_with "kqd_sub" => (((repeat (refine List.forall_mem_cons.mpr ⟨by k_mem, ?_⟩)); first | exact List.forall_mem_nil _ | (intro p9 h9; k_mem)))
  k_with "ktr_rel" => (first | assumption | exact tb_ltOf (by first | assumption | exact (And.right (by assumption)) | exact (And.right (And.right (by assumption))) | exact (And.right (And.right (And.right (by assumption)))) | exact (And.right (And.right (And.right (And.right (by assumption))))) | exact (And.right (And.right (And.right (And.right (And.right (by assumption)))))) | exact (And.right (And.right (And.right (And.right (And.right (And.right (by assumption))))))) | exact (And.right (And.right (And.right (And.right (And.right (And.right (And.right (by assumption)))))))) | exact (And.right (And.right (And.right (And.right (And.right (And.right (And.right (And.right (by assumption))))))))) | exact (And.right (And.right (And.right (And.right (And.right (And.right (And.right (And.right (And.right (by assumption)))))))))) | exact (And.right (And.right (And.right (And.right (And.right (And.right (And.right (And.right (And.right (And.right (by assumption)))))))))))))
  k_with "getMethod ref" => ((k_here; (with_reducible show wpAny _ _ (getMethod (Value.ref _) (Str.ofString "get") _) _ _ _); k_dflt (refine kdg_method (knd := PySem.intKind Pr _) (by k_asm) (by k_mem) (by k_asm) ?_)))
  k_with "call builtin:dict.get" => ((k_here; (try dsimp only [List.nil_append, List.cons_append]); (with_reducible show wpAny _ _ (call (Value.builtin _) [Value.ref _, Value.int _ _, _]) _ _ _); k_dflt (refine kdg_get2 (knd := PySem.intKind Pr _) (by k_asm) (by k_mem) (by k_asm) (by k_asm) (intKind_is _ _ _ _) _ (by assumption) ?_); (try dsimp only [Option.getD])))
  k_with "subscriptTail" => ((k_here; (with_reducible show wpAny _ _ (subscriptTail _ _ (Value.ref _) (Value.int _ _)) _ _ _); k_dflt (refine' list_itemM ?Nz205 ?mz205 ?xz205 ?kz205 ?zz205 ?_; (case Nz205 => k_asm); (case mz205 => k_mem); (case xz205 => assumption); (case kz205 => omega); (case zz205 => first | assumption | omega); k_whole)))
  k_with "call builtin:len" => ((k_here; (with_reducible show wpAny _ _ (call (Value.builtin "len") [Value.ref _]) _ _ _); k_dflt (refine' len_listM ?Nz206 ?mz206 ?zz206 ?_; (case Nz206 => k_asm); (case mz206 => k_mem); (case zz206 => first | assumption | omega); k_whole)))
  k_with "tb_rel" => (first | assumption | (refine' LV.mono ?hz207 ?sz207; (case hz207 => assumption); (case sz207 => kqd_sub)) | (refine' RowsIn.mono ?sz207 ?hz207; (case hz207 => assumption); (case sz207 => kqd_sub)) | (refine' LispAt.mono ?hz207 ?sz207; (case hz207 => assumption); (case sz207 => kqd_sub)) | (refine' RulesAt.mono ?hz207 ?sz207; (case hz207 => assumption); (case sz207 => kqd_sub)) | (refine' IntDict.mono ?hz207 ?sz207; (case hz207 => assumption); (case sz207 => kqd_sub)) | (refine' PlistsIn.mono ?hz207 ?sz207; (case hz207 => assumption); (case sz207 => kqd_sub)) | (refine' DatAll.mono ?sz207 ?hz207; (case hz207 => assumption); (case sz207 => kqd_sub)))
  k_with "exec While BoolOp" => ((k_here; k_dflt (refine whl_mine ?_)))
  k_with "compareOp NotEq ref ref" => ((k_here; (with_reducible show wpAny _ _ (compareOp CmpOp.NotEq (Value.ref _) (Value.ref _)) _ _ _); k_dflt ((first | refine' list_ne_cons ?Nz209 ?az209 ?bz209 ?uz209 ?_ | refine' list_ne_nil0 ?Nz209 ?az209 ?bz209 ?uz209 ?_); (case Nz209 => k_asm); (case az209 => k_mem); (case bz209 => k_mem); (case uz209 => k_units); k_whole)))
  k_with "compareOp Eq ref ref" => ((k_here; (with_reducible show wpAny _ _ (compareOp CmpOp.Eq (Value.ref _) (Value.ref _)) _ _ _); k_dflt ((first | refine' list_eq_cons ?Nz210 ?az210 ?bz210 ?uz210 ?_ | refine' list_eq_nil0 ?Nz210 ?az210 ?bz210 ?uz210 ?_); (case Nz210 => k_asm); (case az210 => k_mem); (case bz210 => k_mem); (case uz210 => k_units); k_whole)))
  k_with "subscriptTail" => ((k_here; (with_reducible show wpAny _ _ (subscriptTail _ _ (Value.ref _) (Value.int 0 _)) _ _ _); k_dflt (refine' list_headM ?Nz211 ?mz211 ?_; (case Nz211 => k_asm); (case mz211 => k_mem); k_whole)))
  k_with "call builtin:list.pop" => ((k_here; (try dsimp only [List.nil_append, List.cons_append]); (with_reducible show wpAny _ _ (call (Value.builtin _) [Value.ref _, Value.int _ _]) _ _ _); k_dflt (refine' pop0M ?Fz212 ?Nz212 ?Uz212 ?zz212 ?_; (case Fz212 => k_asm); (case Nz212 => k_asm); (case Uz212 => k_upd); (case zz212 => omega); k_whole); intro hw Fw Nw))
  k_with "setItem ref int" => ((k_here; (with_reducible show wpAny _ _ (setItem (Value.ref _) (Value.int 0 _) _) _ _ _); k_dflt (refine' set0M ?Fz213 ?Nz213 ?Uz213 ?_; (case Fz213 => k_asm); (case Nz213 => k_asm); (case Uz213 => k_upd); k_whole); intro hw Fw Nw))
  trivial
set_option maxHeartbeats 4000000 in
theorem draw_ok {w : World} {rest : List (Addr × Obj)} {dk : Addr} {vs : List Value} {n : Nat} {many : Int} {t : Tok} (hoff : ∀ p ∈ rest, p.1 ≠ dk) (hd : DeckOk vs) (hm : 0 < many) (hm2 : many ≤ 40) :
    Ctr w 900 172 [.ref dk, .int many t] ((dk, listOf vs.toArray n) :: rest) (fun r led' => ∃ x u vs' n', r = .int x u ∧ 0 ≤ x ∧ x < many ∧ DeckOk vs' ∧ led' = (dk, listOf vs'.toArray n') :: rest) := by
  refine ctr_of fun mean mg mb env outer A₀ base h₀ L m s Q hf hk B F X N T ret => ?_
  k_dflt k_enter
  k_steps
  refine while_deck ?_ (by assumption) (by assumption) hd ?_
  · passes_own
  · intro vs1 n1 h1 tk1 F1 N1 hd1
    cases vs1 with
    | nil =>
      k_steps
      exact ret _ _ _ _ ⟨_, _, [], _, rfl, by omega, hm, hd1, rfl⟩ (by k_asm) (cb_drop (by assumption) (by kqd_sub))
    | cons v1 vs1 =>
      obtain ⟨i1, t1, rfl, hi1, hd2⟩ := hd1.tail
      have hl1 := hd1.len
      rw [List.length_cons] at hl1
      k_steps
      · exact ⟨_, _, vs1, n1 + 1, rfl, by assumption, cb_drop (by assumption) (by kqd_sub), hd2, Nat.lt_succ_self _⟩
      · exact ret _ _ _ _ ⟨_, _, Value.int (i1.fdiv many) _ :: vs1, _, rfl, Int.fmod_nonneg_of_pos _ hm, Int.fmod_lt_of_pos _ hm, hd1.put (Int.fdiv_nonneg hi1 (Int.le_of_lt hm)), rfl⟩ (by k_asm) (cb_drop (by assumption) (by kqd_sub))
theorem draw_use {w : World} {dk : Addr} {vs : List Value} {n : Nat} {many : Int} {t : Tok} {led : List (Addr × Obj)} {g : Obj → List (Addr × Obj)} (hd : DeckOk vs) (hm : 0 < many) (hm2 : many ≤ 40) (U : UpdF dk (listOf vs.toArray n) led g)
    {mean : ExcName → Option Value} {mg mb : Str → Option Value} {A : Around} {env : Env} {outer : List Env} {A₀ : Around} {base h₀ : Heap} {L : Addr} {m : Str → Option Value} {s : Shared} {Q E : Value → Shared → Prop}
    (B : Below A₀ base outer h₀) (F : Fr h₀ L s.heap m) (X : (Mine.hd.heap_39 w.params).In h₀) (N : News h₀ L s.heap led) (T : TopOk mean mg mb h₀)
    (hh : A.handled = none) (hdp : A.depth ≤ 900) (hu : A.units ≤ 900) (hA : A.frames = some (env :: outer)) (hf : env.frame = some L) (hk : env.scope.kind = .function)
    (ret : ∀ x u vs' n' h' tk', 0 ≤ x → x < many → DeckOk vs' → Fr h₀ L h' m → News h₀ L h' (g (listOf vs'.toArray n')) → Q (.int x u) { s with heap := h', toks := tk' }) :
    wpAny (model Pr w) A (call (.ref 172) [.ref dk, .int many t]) Q E s := by
  obtain ⟨pre, post, rfl, e, a, b⟩ := U.split
  refine ctr_use (draw_ok (rest := pre ++ post) (vs := vs) (n := n) (fun p hp => ?_) hd hm hm2) B F X (cb_drop N fun p hp => ?_) T hh hdp hu hA hf hk ?_
  · rcases List.mem_append.mp hp with hp | hp
    · exact a p hp
    · exact b p hp
  · rcases List.mem_cons.mp hp with rfl | hp
    · simp
    · rcases List.mem_append.mp hp with hp | hp <;> simp [hp]
  · rintro v h' tk' led' ⟨x, u, vs', n', rfl, h1, h2, h3, rfl⟩ F' N'
    refine ret x u vs' n' h' tk' h1 h2 h3 F' (cb_drop N' fun p hp => ?_)
    rw [e] at hp
    rcases List.mem_append.mp hp with hp | hp
    · simp [hp]
    · rcases List.mem_cons.mp hp with rfl | hp
      · simp
      · simp [hp]
end
section
/-- a call's contract, where the heap under it bears something -/
def CtrH (w : World) (n : Nat) (f : Addr) (vs : List Value) (H : Heap → Prop) (led : List (Addr × Obj)) (post : Value → List (Addr × Obj) → Prop) : Prop :=
  ∀ (mean : ExcName → Option Value) (mg mb : Str → Option Value) (A : Around) (env : Env) (outer : List Env) (A₀ : Around) (base h₀ : Heap) (L : Addr) (m : Str → Option Value) (s : Shared) (Q E : Value → Shared → Prop),
    A.handled = none → A.depth ≤ n → A.units ≤ n → A.frames = some (env :: outer) → env.frame = some L → env.scope.kind = .function →
    Below A₀ base outer h₀ → Fr h₀ L s.heap m → (hd.heap_39 w.params).In h₀ → News h₀ L s.heap led → TopOk mean mg mb h₀ → H h₀ →
    (∀ v h' tk' led', post v led' → Fr h₀ L h' m → News h₀ L h' led' → Q v { s with heap := h', toks := tk' }) →
    wpAny (model Pr w) A (call (.ref f) vs) Q E s
theorem ctrH_of {w : World} {n : Nat} {f : Addr} {vs : List Value} {H : Heap → Prop} {led : List (Addr × Obj)} {post : Value → List (Addr × Obj) → Prop}
    (h : ∀ (mean : ExcName → Option Value) (mg mb : Str → Option Value) (env : Env) (outer : List Env) (A₀ : Around) (base h₀ : Heap) (L : Addr) (m : Str → Option Value) (s : Shared) (Q : Value → Shared → Prop),
      env.frame = some L → env.scope.kind = .function → Below A₀ base outer h₀ → Fr h₀ L s.heap m → (hd.heap_39 w.params).In h₀ → News h₀ L s.heap led → TopOk mean mg mb h₀ → H h₀ →
      (∀ v h' tk' led', post v led' → Fr h₀ L h' m → News h₀ L h' led' → Q v { s with heap := h', toks := tk' }) →
      codeAny (model Pr w) (arr n env outer) (.call (.ref f) ⟨vs, []⟩) (fun r s' => match r with | .ok (.ret v) => Q v s' | .ok _ => False | .error e => False) s) : CtrH w n f vs H led post :=
  fun mean mg mb A env outer A₀ base h₀ L m s Q E hh hd hu hA hf hk B F X N T hH ret =>
    wpAny_noRaise (wpAny_le (A' := arr n env outer) (wpAny_call (h mean mg mb env outer A₀ base h₀ L m s Q hf hk B F X N T hH ret)) hh.symm hd hA.symm rfl hu)
theorem ints_at : ∀ {vs : List Value} {ns : List Int}, IntsAre vs ns → ∀ (i : Nat) (v : Value), vs[i]? = some v → ∃ k t, v = .int k t
  | _, _, .nil, _, _, e => by simp at e
  | _, _, .cons k t r, 0, v, e => ⟨k, t, by simpa using e.symm⟩
  | _, _, .cons k t r, i + 1, v, e => ints_at r i v (by simpa using e)
theorem ints_snoc (k : Int) (t : Tok) : ∀ {vs : List Value} {ns : List Int}, IntsAre vs ns → IntsAre (vs ++ [.int k t]) (ns ++ [k])
  | _, _, .nil => .cons k t .nil
  | _, _, .cons k' t' r => .cons k' t' (ints_snoc k t r)
theorem ctrH_use {w : World} {n : Nat} {f : Addr} {vs : List Value} {H : Heap → Prop} {led : List (Addr × Obj)} {post : Value → List (Addr × Obj) → Prop} (C : CtrH w n f vs H led post)
    {mean : ExcName → Option Value} {mg mb : Str → Option Value} {A : Around} {env : Env} {outer : List Env} {A₀ : Around} {base h₀ : Heap} {L : Addr} {m : Str → Option Value} {s : Shared} {Q E : Value → Shared → Prop} (hH : H h₀)
    (B : Below A₀ base outer h₀) (F : Fr h₀ L s.heap m) (X : (Mine.hd.heap_39 w.params).In h₀) (N : News h₀ L s.heap led) (T : TopOk mean mg mb h₀)
    (hh : A.handled = none) (hd : A.depth ≤ n) (hu : A.units ≤ n) (hA : A.frames = some (env :: outer)) (hf : env.frame = some L) (hk : env.scope.kind = .function)
    (ret : ∀ v h' tk' led', post v led' → Fr h₀ L h' m → News h₀ L h' led' → Q v { s with heap := h', toks := tk' }) :
    wpAny (model Pr w) A (call (.ref f) vs) Q E s := C mean mg mb A env outer A₀ base h₀ L m s Q E hh hd hu hA hf hk B F X N T hH ret
theorem off1_ne {D : Addr} {led : List (Addr × Obj)} (h : LCg.Off1 D led) : ∀ p ∈ led, p.1 ≠ D := by
  induction led with
  | nil => intro p hp; cases hp
  | cons q led ih =>
    intro p hp
    rcases List.mem_cons.mp hp with rfl | hp
    · exact h.1
    · exact ih h.2 p hp
theorem words_D12_1 : True := by
  k_with_none
  k_with "k_enter" => (first | (refine' code_def ?k1z233 ?k2z233 ?k3z233 ?k4z233 ?k5z233 ?kAz233 ?kFz233 ?kKz233 ?k6z233 ?k7z233 ?k8z233 ?k9z233 ?kBz233 ?_ ?c2z233 ?c3z233 ?c4z233 ?c5z233; (case kAz233 => exact rfl); (case kFz233 => first | exact rfl | assumption); (case kKz233 => first | exact rfl | assumption); (case k1z233 => k_asm); (case k2z233 => k_asm); (case k3z233 => k_asm); (case k4z233 => k_asm); (case k5z233 => k_asm); (case k6z233 => k_is); (case k7z233 => k_is); (case k8z233 => k_room); (case k9z233 => first | exact BindsTo.of_eq rfl | exact binds_K (by k_in) rfl (by k_is) rfl rfl rfl | fail "k_enter: no rule for these arguments"); (case c5z233 => decide); (case kBz233 => exact locs rfl); (case c2z233 => exact rfl); (case c3z233 => exact rfl); (case c4z233 => exact rfl); k_whole; intro gw Lw hw FGw Fw Nw Bw Xw Tw; (try dsimp only); (try k_lift Bw); (try k_fold)) | (refine' code_defC ?k1z233 ?k2z233 ?k3z233 ?k4z233 ?k5z233 ?kAz233 ?kFz233 ?kKz233 ?k6z233 ?k7z233 ?k8z233 ?k9z233 ?kBz233 ?kDz233 ?_ ?c2z233 ?c3z233 ?c4z233; (case kAz233 => exact rfl); (case kFz233 => first | exact rfl | assumption); (case kKz233 => first | exact rfl | assumption); (case k1z233 => k_asm); (case k2z233 => k_asm); (case k3z233 => k_asm); (case k4z233 => k_asm); (case k5z233 => k_asm); (case k6z233 => k_is); (case k7z233 => k_is); (case k8z233 => k_room); (case k9z233 => first | exact BindsTo.of_eq rfl | exact binds_K (by k_in) rfl (by k_is) rfl rfl rfl | fail "k_enter: no rule for these arguments"); (case kBz233 => exact rfl); (case kDz233 => decide +kernel); (case c2z233 => exact rfl); (case c3z233 => exact rfl); (case c4z233 => exact rfl); k_whole; intro gw Lw hw tkw cellsw FGw Fw Nw Yw Bw Xw Tw l1w; (try k_lt l1w); k_cells Yw; (try simp only [List.cons_append, List.nil_append] at Nw); (try dsimp only); (try k_lift Bw); (try k_fold)))
  k_with "k_ne" => (refine neN ?_; (try dsimp only); first | with_reducible assumption | with_reducible exact Ne.symm (by assumption) | exact (by k_extra "nes") | exact Ne.symm (by k_extra "nes") | exact Nat.ne_of_lt (by k_extra "lt") | exact Nat.ne_of_gt (by k_extra "lt") | omega)
  k_with "lt" => (first | with_reducible assumption | with_reducible exact And.left (by assumption) | with_reducible exact And.left (And.right (by assumption)) | with_reducible exact And.left (And.right (And.right (by assumption))) | with_reducible exact And.left (And.right (And.right (And.right (by assumption)))) | with_reducible exact And.left (And.right (And.right (And.right (And.right (by assumption))))) | with_reducible exact And.left (And.right (And.right (And.right (And.right (And.right (by assumption)))))) | with_reducible exact And.left (And.right (And.right (And.right (And.right (And.right (And.right (by assumption))))))) | with_reducible exact And.left (And.right (And.right (And.right (And.right (And.right (And.right (And.right (by assumption)))))))) | with_reducible exact And.left (And.right (And.right (And.right (And.right (And.right (And.right (And.right (And.right (by assumption))))))))) | with_reducible exact And.left (And.right (And.right (And.right (And.right (And.right (And.right (And.right (And.right (And.right (by assumption)))))))))) | with_reducible exact And.left (And.right (And.right (And.right (And.right (And.right (And.right (And.right (And.right (And.right (And.right (by assumption))))))))))) | with_reducible exact And.left (And.right (And.right (And.right (And.right (And.right (And.right (And.right (And.right (And.right (And.right (And.right (by assumption)))))))))))) | with_reducible exact And.left (And.right (And.right (And.right (And.right (And.right (And.right (And.right (And.right (And.right (And.right (And.right (And.right (by assumption))))))))))))) | with_reducible exact And.left (And.right (And.right (And.right (And.right (And.right (And.right (And.right (And.right (And.right (And.right (And.right (And.right (And.right (by assumption)))))))))))))) | with_reducible exact And.left (And.right (And.right (And.right (And.right (And.right (And.right (And.right (And.right (And.right (And.right (And.right (And.right (And.right (And.right (by assumption))))))))))))))) | with_reducible exact And.left (And.right (And.right (And.right (And.right (And.right (And.right (And.right (And.right (And.right (And.right (And.right (And.right (And.right (And.right (And.right (by assumption)))))))))))))))) | with_reducible exact And.right (by assumption) | with_reducible exact And.right (And.right (by assumption)) | with_reducible exact And.right (And.right (And.right (by assumption))) | with_reducible exact And.right (And.right (And.right (And.right (by assumption)))) | with_reducible exact And.right (And.right (And.right (And.right (And.right (by assumption))))) | with_reducible exact And.right (And.right (And.right (And.right (And.right (And.right (by assumption)))))) | with_reducible exact And.right (And.right (And.right (And.right (And.right (And.right (And.right (by assumption))))))) | with_reducible exact And.right (And.right (And.right (And.right (And.right (And.right (And.right (And.right (by assumption)))))))) | with_reducible exact And.right (And.right (And.right (And.right (And.right (And.right (And.right (And.right (And.right (by assumption))))))))))
  k_with "nes" => (first | with_reducible exact And.left (by assumption) | with_reducible exact And.left (And.right (by assumption)) | with_reducible exact And.left (And.right (And.right (by assumption))) | with_reducible exact And.left (And.right (And.right (And.right (by assumption)))) | with_reducible exact And.left (And.right (And.right (And.right (And.right (by assumption))))) | with_reducible exact And.left (And.right (And.right (And.right (And.right (And.right (by assumption)))))) | with_reducible exact And.right (by assumption) | with_reducible exact And.right (And.right (by assumption)) | with_reducible exact And.right (And.right (And.right (by assumption))) | with_reducible exact And.right (And.right (And.right (And.right (by assumption)))) | with_reducible exact And.right (And.right (And.right (And.right (And.right (by assumption))))))
  k_with "subscriptTail" => ((k_here; (with_reducible show wpAny _ _ (subscriptTail _ _ (Value.ref _) (Value.int 0 _)) _ _ _); k_dflt (refine' tup_head ?Nz215 ?mz215 ?_; (case Nz215 => k_asm); (case mz215 => k_mem); k_whole)))
  k_with "call type:tuple" => ((k_here; (with_reducible show wpAny _ _ (call (Value.type "tuple") [Value.ref _]) _ _ _); k_dflt (refine' tuple_ofM ?Fz216 ?Nz216 ?mz216 ?zz216 ?_; (case Fz216 => k_asm); (case Nz216 => k_asm); (case mz216 => k_mem); (case zz216 => first | assumption | (simp only [List.length_cons, List.length_nil]; omega)); k_whole); intro Dw hw Fw Nw l1w; (try k_lt l1w); (try k_sweep)))
  k_with "call type:list" => ((k_here; (with_reducible show wpAny _ _ (call (Value.type "list") [Value.ref _]) _ _ _); k_dflt (refine' list_ofTupM ?Fz217 ?Nz217 ?mz217 ?zz217 ?_; (case Fz217 => k_asm); (case Nz217 => k_asm); (case mz217 => k_mem); (case zz217 => first | assumption | (simp only [List.length_cons, List.length_nil]; omega)); k_whole); intro Dw kw hw Fw Nw l1w; (try k_lt l1w); (try k_sweep)))
  k_with "subscriptTail Name Slice ref ref" => ((k_here; (with_reducible show wpAny _ _ (subscriptTail _ (PySem.Expr.Slice (some _) none none _) (Value.ref _) (Value.ref _)) _ _ _); k_dflt (refine' slice_tupM ?Fz218 ?Nz218 ?mz218 ?zz218 ?_ ?sz218 ?tz218; (case Fz218 => k_asm); (case Nz218 => k_asm); (case mz218 => k_mem); (case zz218 => first | assumption | (simp only [List.length_cons, List.length_nil]; omega)); (case sz218 => with_unfolding_all rfl); (case tz218 => kmk_pure)); intro Dw hw Fw Nw l1w; (try k_lt l1w); (try k_sweep)))
  k_with "compareOp Eq ref none" => ((k_here; (with_reducible show wpAny _ _ (compareOp CmpOp.Eq (Value.ref _) Value.none) _ _ _); k_dflt (refine' eq_tup_none ?Nz219 ?mz219 ?uz219 ?_; (case Nz219 => k_asm); (case mz219 => k_mem); (case uz219 => k_units); k_whole)))
  k_with "compareOp Eq ref" => ((k_here; (with_reducible show wpAny _ _ (compareOp CmpOp.Eq (Value.ref _) Value.none) _ _ _); k_dflt (refine' eq_tup_none ?Nz220 ?mz220 ?uz220 ?_; (case Nz220 => k_asm); (case mz220 => k_mem); (case uz220 => k_units); k_whole)))
  k_with "k_mem" => (((repeat (first | exact List.Mem.head _ | assumption | refine' List.Mem.tail _ ?_ | exact List.mem_append_left _ (by assumption) | exact List.mem_append_left _ (List.Mem.head _) | refine' List.mem_append_right _ ?_)); done))
  k_with "binaryOp Add ref ref" => ((k_here; (with_reducible show wpAny _ _ (binaryOp Operator.Add (Value.ref _) (Value.ref _)) _ _ _); k_dflt (refine' add_tupM ?Fz222 ?Nz222 ?mz222 ?nz222 ?zz222 ?az222 ?bz222; (case Fz222 => k_asm); (case Nz222 => k_asm); (case mz222 => k_mem); (case nz222 => k_mem); (case zz222 => first | assumption | (simp only [List.length_cons, List.length_nil]; omega)); (case' az222 => intro e1w); (case' bz222 => (intro e1w Dw hw Fw Nw l1w; (try k_lt l1w); (try k_sweep))))))
  k_with "kqd_sub" => (((repeat (refine List.forall_mem_cons.mpr ⟨by k_mem, ?_⟩)); first | exact List.forall_mem_nil _ | (intro p9 h9; k_mem)))
  k_with "ktr_rel" => (first | assumption | exact tb_ltOf (by first | assumption | exact (And.right (by assumption)) | exact (And.right (And.right (by assumption))) | exact (And.right (And.right (And.right (by assumption)))) | exact (And.right (And.right (And.right (And.right (by assumption))))) | exact (And.right (And.right (And.right (And.right (And.right (by assumption)))))) | exact (And.right (And.right (And.right (And.right (And.right (And.right (by assumption))))))) | exact (And.right (And.right (And.right (And.right (And.right (And.right (And.right (by assumption)))))))) | exact (And.right (And.right (And.right (And.right (And.right (And.right (And.right (And.right (by assumption))))))))) | exact (And.right (And.right (And.right (And.right (And.right (And.right (And.right (And.right (And.right (by assumption)))))))))) | exact (And.right (And.right (And.right (And.right (And.right (And.right (And.right (And.right (And.right (And.right (by assumption)))))))))))))
  k_with "getMethod ref" => ((k_here; (with_reducible show wpAny _ _ (getMethod (Value.ref _) (Str.ofString "get") _) _ _ _); k_dflt (refine kdg_method (knd := PySem.intKind Pr _) (by k_asm) (by k_mem) (by k_asm) ?_)))
  k_with "call builtin:dict.get" => ((k_here; (try dsimp only [List.nil_append, List.cons_append]); (with_reducible show wpAny _ _ (call (Value.builtin _) [Value.ref _, Value.int _ _, _]) _ _ _); k_dflt (refine kdg_get2 (knd := PySem.intKind Pr _) (by k_asm) (by k_mem) (by k_asm) (by k_asm) (intKind_is _ _ _ _) _ (by assumption) ?_); (try dsimp only [Option.getD])))
  k_with "subscriptTail" => ((k_here; (with_reducible show wpAny _ _ (subscriptTail _ _ (Value.ref _) (Value.int _ _)) _ _ _); k_dflt (refine' list_itemM ?Nz227 ?mz227 ?xz227 ?kz227 ?zz227 ?_; (case Nz227 => k_asm); (case mz227 => k_mem); (case xz227 => assumption); (case kz227 => omega); (case zz227 => first | assumption | omega); k_whole)))
  k_with "call builtin:len" => ((k_here; (with_reducible show wpAny _ _ (call (Value.builtin "len") [Value.ref _]) _ _ _); k_dflt (refine' len_listM ?Nz228 ?mz228 ?zz228 ?_; (case Nz228 => k_asm); (case mz228 => k_mem); (case zz228 => first | assumption | omega); k_whole)))
  k_with "tb_rel" => (first | assumption | (refine' LV.mono ?hz229 ?sz229; (case hz229 => assumption); (case sz229 => kqd_sub)) | (refine' RowsIn.mono ?sz229 ?hz229; (case hz229 => assumption); (case sz229 => kqd_sub)) | (refine' LispAt.mono ?hz229 ?sz229; (case hz229 => assumption); (case sz229 => kqd_sub)) | (refine' RulesAt.mono ?hz229 ?sz229; (case hz229 => assumption); (case sz229 => kqd_sub)) | (refine' IntDict.mono ?hz229 ?sz229; (case hz229 => assumption); (case sz229 => kqd_sub)) | (refine' PlistsIn.mono ?hz229 ?sz229; (case hz229 => assumption); (case sz229 => kqd_sub)) | (refine' DatAll.mono ?sz229 ?hz229; (case hz229 => assumption); (case sz229 => kqd_sub)))
  k_with "eval ListComp" => ((k_here; (with_reducible show wpAny _ _ (eval (PySem.Expr.ListComp _ [⟨PySem.Expr.Name _ _, _, [], _⟩] _ _) _) _ _ _); k_dflt (refine LCg.ListComp_U (F₀ := by k_asm) (by with_unfolding_all rfl) (by decide) (by rfl) (by decide) (by rfl) ?_); k_dflt lcg_toSrc))
  k_with "CompSrc" => ((k_here; k_dflt (refine LCg.CompSrc.ledger (by rfl) (by k_asm) (by k_asm) (by k_mem) (by simp only [List.size_toArray, sizeLine_eq]; first | omega | (rename IntsAre _ _ => hq9; rw [hq9.length]; omega)) ?_); intro gw))
  k_with "CompSrc" => ((k_here; (rename IsRange _ _ _ _ _ _ _ _ => lRw); k_dflt (refine LCg.CompSrc.range (by rfl) (by k_asm) (by k_asm) lRw (small_one (by omega) (by omega) (by omega) (by omega)) (rangeSize_nat _ _) (by simp only [sizeLine_eq]; omega) ?_); clear lRw; intro gw))
  trivial
set_option maxHeartbeats 4000000 in
theorem deck_ok {w : World} {sc : Addr} {vs : List Value} {ns : List Int} (hI : IntsAre vs ns) (hn : ns.length ≤ 63) {led : List (Addr × Obj)} :
    CtrH w 900 165 [.ref sc] (fun h => h.IsList sc vs.toArray) led (fun r led' => ∃ D vs' n', r = .ref D ∧ DeckOk vs' ∧ led' = (D, listOf vs'.toArray n') :: led ∧ ∀ p ∈ led, p.1 ≠ D) := by
  refine ctrH_of fun mean mg mb env outer A₀ base h₀ L m s Q hf hk B F X N T hL ret => ?_
  k_dflt k_enter
  have hL9 : gw.IsList sc vs.toArray := hL.at (fun o ho => FGw.keep _ _ ho)
  have hz9 : vs.length ≤ 63 := by rw [hI.length]; exact hn
  k_steps
  (rename IntsAre _ (List.take 16 ns) => hw9)
  refine compU_ind (fun i ys news => news = (_ :: led) ∧ ∃ ks, IntsAre ys ks ∧ (∀ n ∈ ks, 0 ≤ n) ∧ ks.length = i) ⟨rfl, [], .nil, by simp, rfl⟩ ?_ ?_
  · rintro i ys news v I9 oI9 C9 oC9 D9 m9 h9 tk9 E9 hi ⟨rfl, ks9, hk1, hk2, hk3⟩ hv9 hC9 hx9 F9 N9 off9 ne9
    obtain ⟨i9, t9, rfl⟩ := ints_at hw9 i v (by simpa using hv9)
    k_steps
    refine compEnd_same (by assumption) (by assumption) (fun _ h => h) off9 (.inr ⟨_, by k_mem, rfl, _, rfl⟩) ?_
    refine ⟨_, ints_snoc _ _ hk1, fun n hn => ?_, by simp [hk3]⟩
    rcases List.mem_append.mp hn with hn | hn
    · exact hk2 n hn
    · rw [List.mem_singleton.mp hn]
      exact Int.fmod_nonneg_of_pos _ (Int.pow_pos (by decide))
  · rintro ys news ⟨rfl, ks9, hk1, hk2, hk3⟩
    k_steps
    refine ret _ _ _ _ ⟨_, ys, ys.length, rfl, ⟨ks9, hk1, hk2, ?_⟩, rfl, ?_⟩ (by k_asm) (cb_drop (by assumption) (by kqd_sub))
    · rw [hk3, List.size_toArray, hw9.length]; omega
    · exact off1_ne (And.right (by assumption))
theorem deck_use {w : World} {sc : Addr} {vs : List Value} {ns : List Int} (hI : IntsAre vs ns) (hn : ns.length ≤ 63) {led : List (Addr × Obj)}
    {mean : ExcName → Option Value} {mg mb : Str → Option Value} {A : Around} {env : Env} {outer : List Env} {A₀ : Around} {base h₀ : Heap} {L : Addr} {m : Str → Option Value} {s : Shared} {Q E : Value → Shared → Prop}
    (hL : h₀.IsList sc vs.toArray) (B : Below A₀ base outer h₀) (F : Fr h₀ L s.heap m) (X : (Mine.hd.heap_39 w.params).In h₀) (N : News h₀ L s.heap led) (T : TopOk mean mg mb h₀)
    (u1 : A.handled = none) (u2 : A.depth ≤ 900) (u3 : A.units ≤ 900) (u4 : A.frames = some (env :: outer)) (u5 : env.frame = some L) (u6 : env.scope.kind = .function)
    (ret : ∀ D vs' n' h' tk', DeckOk vs' → (∀ p ∈ led, p.1 ≠ D) → Fr h₀ L h' m → News h₀ L h' ((D, listOf vs'.toArray n') :: led) → Q (.ref D) { s with heap := h', toks := tk' }) :
    wpAny (model Pr w) A (call (.ref 165) [.ref sc]) Q E s := ctrH_use (deck_ok hI hn) hL B F X N T u1 u2 u3 u4 u5 u6 fun r h' tk' led' p F' N' => by
  obtain ⟨D, vs', n', rfl, c1, rfl, c2⟩ := p
  exact ret D vs' n' h' tk' c1 c2 F' N'
end
section
local macro_rules | `(tactic| k_all) => `(tactic| assumption)
theorem words_D13_1 : True := by
  k_with_none
  k_with "k_enter" => (first | (refine' code_def ?k1z258 ?k2z258 ?k3z258 ?k4z258 ?k5z258 ?kAz258 ?kFz258 ?kKz258 ?k6z258 ?k7z258 ?k8z258 ?k9z258 ?kBz258 ?_ ?c2z258 ?c3z258 ?c4z258 ?c5z258; (case kAz258 => exact rfl); (case kFz258 => first | exact rfl | assumption); (case kKz258 => first | exact rfl | assumption); (case k1z258 => k_asm); (case k2z258 => k_asm); (case k3z258 => k_asm); (case k4z258 => k_asm); (case k5z258 => k_asm); (case k6z258 => k_is); (case k7z258 => k_is); (case k8z258 => k_room); (case k9z258 => first | exact BindsTo.of_eq rfl | exact binds_K (by k_in) rfl (by k_is) rfl rfl rfl | fail "k_enter: no rule for these arguments"); (case c5z258 => decide); (case kBz258 => exact locs rfl); (case c2z258 => exact rfl); (case c3z258 => exact rfl); (case c4z258 => exact rfl); k_whole; intro gw Lw hw FGw Fw Nw Bw Xw Tw; (try dsimp only); (try k_lift Bw); (try k_fold)) | (refine' code_defC ?k1z258 ?k2z258 ?k3z258 ?k4z258 ?k5z258 ?kAz258 ?kFz258 ?kKz258 ?k6z258 ?k7z258 ?k8z258 ?k9z258 ?kBz258 ?kDz258 ?_ ?c2z258 ?c3z258 ?c4z258; (case kAz258 => exact rfl); (case kFz258 => first | exact rfl | assumption); (case kKz258 => first | exact rfl | assumption); (case k1z258 => k_asm); (case k2z258 => k_asm); (case k3z258 => k_asm); (case k4z258 => k_asm); (case k5z258 => k_asm); (case k6z258 => k_is); (case k7z258 => k_is); (case k8z258 => k_room); (case k9z258 => first | exact BindsTo.of_eq rfl | exact binds_K (by k_in) rfl (by k_is) rfl rfl rfl | fail "k_enter: no rule for these arguments"); (case kBz258 => exact rfl); (case kDz258 => decide +kernel); (case c2z258 => exact rfl); (case c3z258 => exact rfl); (case c4z258 => exact rfl); k_whole; intro gw Lw hw tkw cellsw FGw Fw Nw Yw Bw Xw Tw l1w; (try k_lt l1w); k_cells Yw; (try simp only [List.cons_append, List.nil_append] at Nw); (try dsimp only); (try k_lift Bw); (try k_fold)))
  k_with "k_ne" => (refine neN ?_; (try dsimp only); first | with_reducible assumption | with_reducible exact Ne.symm (by assumption) | exact (by k_extra "nes") | exact Ne.symm (by k_extra "nes") | exact Nat.ne_of_lt (by k_extra "lt") | exact Nat.ne_of_gt (by k_extra "lt") | omega)
  k_with "lt" => (first | with_reducible assumption | with_reducible exact And.left (by assumption) | with_reducible exact And.left (And.right (by assumption)) | with_reducible exact And.left (And.right (And.right (by assumption))) | with_reducible exact And.left (And.right (And.right (And.right (by assumption)))) | with_reducible exact And.left (And.right (And.right (And.right (And.right (by assumption))))) | with_reducible exact And.left (And.right (And.right (And.right (And.right (And.right (by assumption)))))) | with_reducible exact And.left (And.right (And.right (And.right (And.right (And.right (And.right (by assumption))))))) | with_reducible exact And.left (And.right (And.right (And.right (And.right (And.right (And.right (And.right (by assumption)))))))) | with_reducible exact And.left (And.right (And.right (And.right (And.right (And.right (And.right (And.right (And.right (by assumption))))))))) | with_reducible exact And.left (And.right (And.right (And.right (And.right (And.right (And.right (And.right (And.right (And.right (by assumption)))))))))) | with_reducible exact And.left (And.right (And.right (And.right (And.right (And.right (And.right (And.right (And.right (And.right (And.right (by assumption))))))))))) | with_reducible exact And.left (And.right (And.right (And.right (And.right (And.right (And.right (And.right (And.right (And.right (And.right (And.right (by assumption)))))))))))) | with_reducible exact And.left (And.right (And.right (And.right (And.right (And.right (And.right (And.right (And.right (And.right (And.right (And.right (And.right (by assumption))))))))))))) | with_reducible exact And.left (And.right (And.right (And.right (And.right (And.right (And.right (And.right (And.right (And.right (And.right (And.right (And.right (And.right (by assumption)))))))))))))) | with_reducible exact And.left (And.right (And.right (And.right (And.right (And.right (And.right (And.right (And.right (And.right (And.right (And.right (And.right (And.right (And.right (by assumption))))))))))))))) | with_reducible exact And.left (And.right (And.right (And.right (And.right (And.right (And.right (And.right (And.right (And.right (And.right (And.right (And.right (And.right (And.right (And.right (by assumption)))))))))))))))) | with_reducible exact And.right (by assumption) | with_reducible exact And.right (And.right (by assumption)) | with_reducible exact And.right (And.right (And.right (by assumption))) | with_reducible exact And.right (And.right (And.right (And.right (by assumption)))) | with_reducible exact And.right (And.right (And.right (And.right (And.right (by assumption))))) | with_reducible exact And.right (And.right (And.right (And.right (And.right (And.right (by assumption)))))) | with_reducible exact And.right (And.right (And.right (And.right (And.right (And.right (And.right (by assumption))))))) | with_reducible exact And.right (And.right (And.right (And.right (And.right (And.right (And.right (And.right (by assumption)))))))) | with_reducible exact And.right (And.right (And.right (And.right (And.right (And.right (And.right (And.right (And.right (by assumption))))))))))
  k_with "nes" => (first | with_reducible exact And.left (by assumption) | with_reducible exact And.left (And.right (by assumption)) | with_reducible exact And.left (And.right (And.right (by assumption))) | with_reducible exact And.left (And.right (And.right (And.right (by assumption)))) | with_reducible exact And.left (And.right (And.right (And.right (And.right (by assumption))))) | with_reducible exact And.left (And.right (And.right (And.right (And.right (And.right (by assumption)))))) | with_reducible exact And.right (by assumption) | with_reducible exact And.right (And.right (by assumption)) | with_reducible exact And.right (And.right (And.right (by assumption))) | with_reducible exact And.right (And.right (And.right (And.right (by assumption)))) | with_reducible exact And.right (And.right (And.right (And.right (And.right (by assumption))))))
  k_with "subscriptTail" => ((k_here; (with_reducible show wpAny _ _ (subscriptTail _ _ (Value.ref _) (Value.int 0 _)) _ _ _); k_dflt (refine' tup_head ?Nz234 ?mz234 ?_; (case Nz234 => k_asm); (case mz234 => k_mem); k_whole)))
  k_with "call type:tuple" => ((k_here; (with_reducible show wpAny _ _ (call (Value.type "tuple") [Value.ref _]) _ _ _); k_dflt (refine' tuple_ofM ?Fz235 ?Nz235 ?mz235 ?zz235 ?_; (case Fz235 => k_asm); (case Nz235 => k_asm); (case mz235 => k_mem); (case zz235 => first | assumption | (simp only [List.length_cons, List.length_nil]; omega)); k_whole); intro Dw hw Fw Nw l1w; (try k_lt l1w); (try k_sweep)))
  k_with "call type:list" => ((k_here; (with_reducible show wpAny _ _ (call (Value.type "list") [Value.ref _]) _ _ _); k_dflt (refine' list_ofTupM ?Fz236 ?Nz236 ?mz236 ?zz236 ?_; (case Fz236 => k_asm); (case Nz236 => k_asm); (case mz236 => k_mem); (case zz236 => first | assumption | (simp only [List.length_cons, List.length_nil]; omega)); k_whole); intro Dw kw hw Fw Nw l1w; (try k_lt l1w); (try k_sweep)))
  k_with "subscriptTail Name Slice ref ref" => ((k_here; (with_reducible show wpAny _ _ (subscriptTail _ (PySem.Expr.Slice (some _) none none _) (Value.ref _) (Value.ref _)) _ _ _); k_dflt (refine' slice_tupM ?Fz237 ?Nz237 ?mz237 ?zz237 ?_ ?sz237 ?tz237; (case Fz237 => k_asm); (case Nz237 => k_asm); (case mz237 => k_mem); (case zz237 => first | assumption | (simp only [List.length_cons, List.length_nil]; omega)); (case sz237 => with_unfolding_all rfl); (case tz237 => kmk_pure)); intro Dw hw Fw Nw l1w; (try k_lt l1w); (try k_sweep)))
  k_with "compareOp Eq ref none" => ((k_here; (with_reducible show wpAny _ _ (compareOp CmpOp.Eq (Value.ref _) Value.none) _ _ _); k_dflt (refine' eq_tup_none ?Nz238 ?mz238 ?uz238 ?_; (case Nz238 => k_asm); (case mz238 => k_mem); (case uz238 => k_units); k_whole)))
  k_with "compareOp Eq ref" => ((k_here; (with_reducible show wpAny _ _ (compareOp CmpOp.Eq (Value.ref _) Value.none) _ _ _); k_dflt (refine' eq_tup_none ?Nz239 ?mz239 ?uz239 ?_; (case Nz239 => k_asm); (case mz239 => k_mem); (case uz239 => k_units); k_whole)))
  k_with "k_mem" => (((repeat (first | exact List.Mem.head _ | assumption | refine' List.Mem.tail _ ?_ | exact List.mem_append_left _ (by assumption) | exact List.mem_append_left _ (List.Mem.head _) | refine' List.mem_append_right _ ?_)); done))
  k_with "binaryOp Add ref ref" => ((k_here; (with_reducible show wpAny _ _ (binaryOp Operator.Add (Value.ref _) (Value.ref _)) _ _ _); k_dflt (refine' add_tupM ?Fz241 ?Nz241 ?mz241 ?nz241 ?zz241 ?az241 ?bz241; (case Fz241 => k_asm); (case Nz241 => k_asm); (case mz241 => k_mem); (case nz241 => k_mem); (case zz241 => first | assumption | (simp only [List.length_cons, List.length_nil]; omega)); (case' az241 => intro e1w); (case' bz241 => (intro e1w Dw hw Fw Nw l1w; (try k_lt l1w); (try k_sweep))))))
  k_with "kqd_sub" => (((repeat (refine List.forall_mem_cons.mpr ⟨by k_mem, ?_⟩)); first | exact List.forall_mem_nil _ | (intro p9 h9; k_mem)))
  k_with "ktr_rel" => (first | assumption | exact tb_ltOf (by first | assumption | exact (And.right (by assumption)) | exact (And.right (And.right (by assumption))) | exact (And.right (And.right (And.right (by assumption)))) | exact (And.right (And.right (And.right (And.right (by assumption))))) | exact (And.right (And.right (And.right (And.right (And.right (by assumption)))))) | exact (And.right (And.right (And.right (And.right (And.right (And.right (by assumption))))))) | exact (And.right (And.right (And.right (And.right (And.right (And.right (And.right (by assumption)))))))) | exact (And.right (And.right (And.right (And.right (And.right (And.right (And.right (And.right (by assumption))))))))) | exact (And.right (And.right (And.right (And.right (And.right (And.right (And.right (And.right (And.right (by assumption)))))))))) | exact (And.right (And.right (And.right (And.right (And.right (And.right (And.right (And.right (And.right (And.right (by assumption)))))))))))))
  k_with "getMethod ref" => ((k_here; (with_reducible show wpAny _ _ (getMethod (Value.ref _) (Str.ofString "get") _) _ _ _); k_dflt (refine kdg_method (knd := PySem.intKind Pr _) (by k_asm) (by k_mem) (by k_asm) ?_)))
  k_with "call builtin:dict.get" => ((k_here; (try dsimp only [List.nil_append, List.cons_append]); (with_reducible show wpAny _ _ (call (Value.builtin _) [Value.ref _, Value.int _ _, _]) _ _ _); k_dflt (refine kdg_get2 (knd := PySem.intKind Pr _) (by k_asm) (by k_mem) (by k_asm) (by k_asm) (intKind_is _ _ _ _) _ (by assumption) ?_); (try dsimp only [Option.getD])))
  k_with "subscriptTail" => ((k_here; (with_reducible show wpAny _ _ (subscriptTail _ _ (Value.ref _) (Value.int _ _)) _ _ _); k_dflt (refine' list_itemM ?Nz246 ?mz246 ?xz246 ?kz246 ?zz246 ?_; (case Nz246 => k_asm); (case mz246 => k_mem); (case xz246 => assumption); (case kz246 => omega); (case zz246 => first | assumption | omega); k_whole)))
  k_with "call builtin:len" => ((k_here; (with_reducible show wpAny _ _ (call (Value.builtin "len") [Value.ref _]) _ _ _); k_dflt (refine' len_listM ?Nz247 ?mz247 ?zz247 ?_; (case Nz247 => k_asm); (case mz247 => k_mem); (case zz247 => first | assumption | omega); k_whole)))
  k_with "tb_rel" => (first | assumption | (refine' LV.mono ?hz248 ?sz248; (case hz248 => assumption); (case sz248 => kqd_sub)) | (refine' RowsIn.mono ?sz248 ?hz248; (case hz248 => assumption); (case sz248 => kqd_sub)) | (refine' LispAt.mono ?hz248 ?sz248; (case hz248 => assumption); (case sz248 => kqd_sub)) | (refine' RulesAt.mono ?hz248 ?sz248; (case hz248 => assumption); (case sz248 => kqd_sub)) | (refine' IntDict.mono ?hz248 ?sz248; (case hz248 => assumption); (case sz248 => kqd_sub)) | (refine' PlistsIn.mono ?hz248 ?sz248; (case hz248 => assumption); (case sz248 => kqd_sub)) | (refine' DatAll.mono ?sz248 ?hz248; (case hz248 => assumption); (case sz248 => kqd_sub)))
  k_with "eval ListComp" => ((k_here; (with_reducible show wpAny _ _ (eval (PySem.Expr.ListComp _ [⟨PySem.Expr.Name _ _, _, [], _⟩] _ _) _) _ _ _); k_dflt (refine LCg.ListComp_U (F₀ := by k_asm) (by with_unfolding_all rfl) (by decide) (by rfl) (by decide) (by rfl) ?_); k_dflt lcg_toSrc))
  k_with "CompSrc" => ((k_here; k_dflt (refine LCg.CompSrc.ledger (by rfl) (by k_asm) (by k_asm) (by k_mem) (by simp only [List.size_toArray, sizeLine_eq]; first | omega | (rename IntsAre _ _ => hq9; rw [hq9.length]; omega)) ?_); intro gw))
  k_with "CompSrc" => ((k_here; (rename IsRange _ _ _ _ _ _ _ _ => lRw); k_dflt (refine LCg.CompSrc.range (by rfl) (by k_asm) (by k_asm) lRw (small_one (by omega) (by omega) (by omega) (by omega)) (rangeSize_nat _ _) (by simp only [sizeLine_eq]; omega) ?_); clear lRw; intro gw))
  k_with "subscriptTail" => ((k_here; (with_reducible show wpAny _ _ (subscriptTail _ (PySem.Expr.Slice none (some _) none _) (Value.ref _) (Value.ref _)) _ _ _); k_dflt (refine' list_uptoM (s := ⟨_, _, _, _, _⟩) ?Fz252 ?Nz252 ?mz252 ?xz252 ?zz252 ?_ ?sz252 ?tz252; (case Fz252 => k_asm); (case Nz252 => k_asm); (case mz252 => k_mem); (case xz252 => omega); (case zz252 => first | assumption | omega | (simp only [List.length_cons, List.length_nil] <;> omega)); (case sz252 => with_unfolding_all rfl); (case tz252 => kmk_pure)); intro Dw hw Fw Nw l1w; (try k_lt l1w); (try k_sweep)))
  k_with "subscriptTail Name Slice ref ref" => ((k_here; (with_reducible show wpAny _ _ (subscriptTail _ (PySem.Expr.Slice none (some _) none _) (Value.ref _) (Value.ref _)) _ _ _); k_dflt (refine' list_uptoM (s := ⟨_, _, _, _, _⟩) ?Fz253 ?Nz253 ?mz253 ?xz253 ?zz253 ?_ ?sz253 ?tz253; (case Fz253 => k_asm); (case Nz253 => k_asm); (case mz253 => k_mem); (case xz253 => omega); (case zz253 => first | assumption | omega | (simp only [List.length_cons, List.length_nil] <;> omega)); (case sz253 => with_unfolding_all rfl); (case tz253 => kmk_pure)); intro Dw hw Fw Nw l1w; (try k_lt l1w); (try k_sweep)))
  k_with "binaryOp Add ref ref" => ((k_here; (with_reducible show wpAny _ _ (binaryOp Operator.Add (Value.ref _) (Value.ref _)) _ _ _); k_dflt (refine' list_addM ?Fz254 ?Nz254 ?mz254 ?nz254 ?zz254 ?_; (case Fz254 => k_asm); (case Nz254 => k_asm); (case mz254 => k_mem); (case nz254 => k_mem); (case zz254 => first | assumption | omega | (simp only [List.length_cons, List.length_nil, List.length_take, List.length_append] <;> omega)); k_whole); (intro Dw hw Fw Nw l1w; (try k_lt l1w); (try k_sweep))))
  k_with "subscriptTail" => ((k_here; (with_reducible show wpAny _ _ (subscriptTail _ (PySem.Expr.BinOp _ _ _ _) (Value.ref _) (Value.int _ _)) _ _ _); k_dflt (refine' pick3 ?Nz255 ?mz255 ?az255 ?bz255 ?_ ?_ ?_; (case Nz255 => k_asm); (case mz255 => k_mem); (case az255 => omega); (case bz255 => omega); (all_goals intro ew); (all_goals k_whole))))
  k_with "call ref" => ((k_here; (with_reducible show wpAny _ _ (call (Value.ref 172) [Value.ref _, Value.int _ _]) _ _ _); k_dflt (refine' draw_use ?dkz256 ?mz256 ?m2z256 ?Uz256 ?Bz256 ?Fz256 ?Xz256 ?Nz256 ?Tz256 ?hz256 ?dpz256 ?uz256 ?Az256 ?fz256 ?kz256 ?_; (case Nz256 => k_asm); (case Uz256 => k_updF); (case dkz256 => assumption); (case mz256 => omega); (case m2z256 => omega); (case Bz256 => k_asm); (case Fz256 => k_asm); (case Xz256 => k_asm); (case Tz256 => k_asm); (case hz256 => exact rfl); (case dpz256 => exact Nat.le_of_ble_eq_true rfl); (case uz256 => exact Nat.le_of_ble_eq_true rfl); (case Az256 => exact rfl); (case fz256 => exact rfl); (case kz256 => exact rfl); k_whole); (intro xw uw vsw nw hw tkw low hiw dkw Fw Nw); (try dsimp only at Nw); (try k_sweep); (try k_fold)))
  k_with "call ref" => ((k_here; (with_reducible show wpAny _ _ (call (Value.ref 57) [_, Value.ref _]) _ _ _); k_dflt (refine' list_of_use ?mz257 ?zz257 ?Bz257 ?Fz257 ?Xz257 ?Nz257 ?Tz257 ?hz257 ?dpz257 ?uz257 ?Az257 ?fz257 ?kz257 ?_; (case Nz257 => k_asm); (case mz257 => k_mem); (case zz257 => first | assumption | omega | (simp only [List.length_cons, List.length_nil, List.length_take, List.length_append] <;> omega)); (case Bz257 => k_asm); (case Fz257 => k_asm); (case Xz257 => k_asm); (case Tz257 => k_asm); (case hz257 => exact rfl); (case dpz257 => exact Nat.le_of_ble_eq_true rfl); (case uz257 => exact Nat.le_of_ble_eq_true rfl); (case Az257 => exact rfl); (case fz257 => exact rfl); (case kz257 => exact rfl); k_whole); (intro b4w t4w k4w hw tkw l1w Fw Nw); (try k_lt l1w); (try k_sweep); (try k_fold)))
  trivial
set_option maxHeartbeats 4000000 in
theorem value_ok {w : World} {rest : List (Addr × Obj)} {dk li pd : Addr} {fi : Int} {vs : List Value} {n : Nat} (hl : LispAt w rest li fi pd) (hoff : ∀ p ∈ rest, p.1 ≠ dk) (hd : DeckOk vs) :
    Ctr w 800 177 [.ref dk, .ref li] ((dk, listOf vs.toArray n) :: rest) (fun r led' => ∃ vs' n' more d, led' = (dk, listOf vs'.toArray n') :: (more ++ rest) ∧ DeckOk vs' ∧ Fresh dk rest more ∧ LV more r d) := by
  obtain ⟨dl, t1, t2, t3, t4, tf, hl1, hl2⟩ := hl
  refine ctr_of fun mean mg mb env outer A₀ base h₀ L m s Q hf hk B F X N T ret => ?_
  k_dflt k_enter
  k_steps
  · exact ret _ _ _ _ ⟨_, _, [], .none, rfl, by assumption, .nil _ _, .nil⟩ (by k_asm) (cb_drop (by assumption) (by kqd_sub))
  · refine ret _ _ _ _ ⟨_, _, [(_, tupO [.str "symbol" _, .int (100 + _) _] _)], symD _, rfl, by assumption, (Fresh.nil _ _).cons ?_ ?_, .sym (.head _) ?_⟩ (by k_asm) (cb_drop (by assumption) (by kqd_sub))
    · k_ne
    · exact lt_ne (by ktr_rel)
    · exact ⟨by omega, by omega⟩
  · refine compU_deck2 (rest := rest) ?_ (by assumption) (fun i ys more => ∃ ks, SymsIn more ys ks false ∧ ks.length = i) ⟨[], .nil0, rfl⟩ ?_ ?_
    · refine List.forall_mem_cons.mpr ⟨?_, List.forall_mem_cons.mpr ⟨?_, hoff⟩⟩ <;> k_ne
    · rintro i ys more vs9 n9 v I9 oI9 C9 oC9 D9 m9 h9 tk9 E9 hi ⟨ks9, hS9, hk9⟩ hE9 hO9 hd9 ⟨t9, rfl⟩ hC9 hx9 F9 N9 ⟨off9, off8⟩ ne9
      have off9 : @Ne Nat dk I9 ∧ @Ne Nat dk C9 ∧ @Ne Nat dk D9 := off9
      k_steps
      refine LCg.CompEnd.intro (by assumption) (by assumption) ((dk, listOf _ _) :: (_, tupO [.str "symbol" _, .int (100 + _) _] _) :: (more ++ (_ :: _ :: rest))) (by kqd_sub) ⟨⟨by k_ne, by k_ne, by k_ne⟩, ⟨by k_ne, by k_ne, by k_ne⟩, off8⟩ trivial ⟨_, _, [_], rfl, by assumption, (Fresh.nil _ _).cons ?_ ?_, _, SymsIn.snoc (.head _) ?_ (hS9.mono fun p hp => .tail _ hp), ?_⟩
      · k_ne
      · exact lt_ne (lt_of_app (a := more) (by ktr_rel)).2
      · exact ⟨by omega, by omega⟩
      · simp [hk9]
    · rintro ys more vs9 n9 ⟨ks9, hS9, hk9⟩ hE9 hO9 hd9
      have hy9 : ys.length ≤ 3 := by
        have := hS9.datAll.length
        simp [tailD] at this; omega
      k_steps
      rename _ < (2 : Int) => hi8
      rename (0 : Int) ≤ _ => lo8
      have hk3 : ks9.length ≤ 3 := by omega
      obtain ⟨c9, hT9⟩ := syms_tail hS9 lo8 hi8
      refine ret _ _ _ _ ⟨_, _, (_, tupO (.str "list" _ :: (ys ++ _)) _) :: more, lstD ks9 c9, rfl, by assumption, Fresh.cons ?_ ?_ (hE9.sub fun p hp => .tail _ (.tail _ hp)), .lst (.head _) (hT9.mono fun p hp => .tail _ hp) hk3⟩ (by k_asm) (cb_drop (by assumption) (by refine List.forall_mem_cons.mpr ⟨by k_mem, List.forall_mem_cons.mpr ⟨by k_mem, ?_⟩⟩; intro p hp; rcases List.mem_append.mp hp with hp | hp; all_goals k_mem))
      · k_ne
      · exact fun q hq => lt_ne (lt_of_app (a := more) (by ktr_rel)).2 q (.tail _ (.tail _ hq))
  · exact ret _ _ _ _ ⟨_, _, [], _, rfl, by assumption, .nil _ _, .tru⟩ (by k_asm) (cb_drop (by assumption) (by kqd_sub))
  · exact ret _ _ _ _ ⟨_, _, [], _, rfl, by assumption, .nil _ _, .int _ _⟩ (by k_asm) (cb_drop (by assumption) (by kqd_sub))
  · refine ret _ _ _ _ ⟨_, _, [(_, tupO [.str "pair" _, .int 3 _, .none] _)], prD, rfl, by assumption, (Fresh.nil _ _).cons ?_ ?_, .pr (.head _)⟩ (by k_asm) (cb_drop (by assumption) (by kqd_sub))
    · k_ne
    · exact lt_ne (by ktr_rel)
theorem value_use {w : World} {dk li pd : Addr} {fi : Int} {vs : List Value} {n : Nat} {led : List (Addr × Obj)} {g : Obj → List (Addr × Obj) → List (Addr × Obj)} (hl : LispAt w led li fi pd) (hd : DeckOk vs) (U : UpdE dk (listOf vs.toArray n) led g)
    {mean : ExcName → Option Value} {mg mb : Str → Option Value} {A : Around} {env : Env} {outer : List Env} {A₀ : Around} {base h₀ : Heap} {L : Addr} {m : Str → Option Value} {s : Shared} {Q E : Value → Shared → Prop}
    (B : Below A₀ base outer h₀) (F : Fr h₀ L s.heap m) (X : (Mine.hd.heap_39 w.params).In h₀) (N : News h₀ L s.heap led) (T : TopOk mean mg mb h₀)
    (hh : A.handled = none) (hdp : A.depth ≤ 800) (hu : A.units ≤ 800) (hA : A.frames = some (env :: outer)) (hf : env.frame = some L) (hk : env.scope.kind = .function)
    (ret : ∀ r vs' n' more d h' tk', DeckOk vs' → (∀ p ∈ more, ∀ q ∈ led, p.1 ≠ q.1) → LV more r d → Fr h₀ L h' m → News h₀ L h' (g (listOf vs'.toArray n') more) → Q r { s with heap := h', toks := tk' }) :
    wpAny (model Pr w) A (call (.ref 177) [.ref dk, .ref li]) Q E s := by
  obtain ⟨rest, a, b, c, e⟩ := U.split
  refine ctr_use (value_ok (rest := rest) (vs := vs) (n := n) (hl.off b) e hd) B F X (cb_drop N a) T hh hdp hu hA hf hk ?_
  rintro v h' tk' led' ⟨vs', n', more, d, rfl, h1, h2, h3⟩ F' N'
  refine ret v vs' n' more d h' tk' h1 (fun p hp q hq => ?_) h3 F' (cb_drop N' (c _ _))
  rcases b q hq with rfl | hq
  · exact (h2 p hp).1
  · exact (h2 p hp).2 q hq
end
section
local macro_rules | `(tactic| k_all) => `(tactic| assumption)
local macro_rules | `(tactic| k_updF) => `(tactic| first | (refine' UpdE.head ?a; (case a => k_all)) | (refine' UpdE.tail ?a ?b; (case a => k_ne); (case b => k_updF)))
local macro_rules | `(tactic| k_all) => `(tactic| first | assumption | exact allLt_ne (by first | assumption | exact And.right (by assumption)) (by omega))
theorem words_D14_1 : True := by
  k_with_none
  k_with "k_enter" => (first | (refine' code_def ?k1z285 ?k2z285 ?k3z285 ?k4z285 ?k5z285 ?kAz285 ?kFz285 ?kKz285 ?k6z285 ?k7z285 ?k8z285 ?k9z285 ?kBz285 ?_ ?c2z285 ?c3z285 ?c4z285 ?c5z285; (case kAz285 => exact rfl); (case kFz285 => first | exact rfl | assumption); (case kKz285 => first | exact rfl | assumption); (case k1z285 => k_asm); (case k2z285 => k_asm); (case k3z285 => k_asm); (case k4z285 => k_asm); (case k5z285 => k_asm); (case k6z285 => k_is); (case k7z285 => k_is); (case k8z285 => k_room); (case k9z285 => first | exact BindsTo.of_eq rfl | exact binds_K (by k_in) rfl (by k_is) rfl rfl rfl | fail "k_enter: no rule for these arguments"); (case c5z285 => decide); (case kBz285 => exact locs rfl); (case c2z285 => exact rfl); (case c3z285 => exact rfl); (case c4z285 => exact rfl); k_whole; intro gw Lw hw FGw Fw Nw Bw Xw Tw; (try dsimp only); (try k_lift Bw); (try k_fold)) | (refine' code_defC ?k1z285 ?k2z285 ?k3z285 ?k4z285 ?k5z285 ?kAz285 ?kFz285 ?kKz285 ?k6z285 ?k7z285 ?k8z285 ?k9z285 ?kBz285 ?kDz285 ?_ ?c2z285 ?c3z285 ?c4z285; (case kAz285 => exact rfl); (case kFz285 => first | exact rfl | assumption); (case kKz285 => first | exact rfl | assumption); (case k1z285 => k_asm); (case k2z285 => k_asm); (case k3z285 => k_asm); (case k4z285 => k_asm); (case k5z285 => k_asm); (case k6z285 => k_is); (case k7z285 => k_is); (case k8z285 => k_room); (case k9z285 => first | exact BindsTo.of_eq rfl | exact binds_K (by k_in) rfl (by k_is) rfl rfl rfl | fail "k_enter: no rule for these arguments"); (case kBz285 => exact rfl); (case kDz285 => decide +kernel); (case c2z285 => exact rfl); (case c3z285 => exact rfl); (case c4z285 => exact rfl); k_whole; intro gw Lw hw tkw cellsw FGw Fw Nw Yw Bw Xw Tw l1w; (try k_lt l1w); k_cells Yw; (try simp only [List.cons_append, List.nil_append] at Nw); (try dsimp only); (try k_lift Bw); (try k_fold)))
  k_with "k_ne" => (refine neN ?_; (try dsimp only); first | with_reducible assumption | with_reducible exact Ne.symm (by assumption) | exact (by k_extra "nes") | exact Ne.symm (by k_extra "nes") | exact Nat.ne_of_lt (by k_extra "lt") | exact Nat.ne_of_gt (by k_extra "lt") | omega)
  k_with "lt" => (first | with_reducible assumption | with_reducible exact And.left (by assumption) | with_reducible exact And.left (And.right (by assumption)) | with_reducible exact And.left (And.right (And.right (by assumption))) | with_reducible exact And.left (And.right (And.right (And.right (by assumption)))) | with_reducible exact And.left (And.right (And.right (And.right (And.right (by assumption))))) | with_reducible exact And.left (And.right (And.right (And.right (And.right (And.right (by assumption)))))) | with_reducible exact And.left (And.right (And.right (And.right (And.right (And.right (And.right (by assumption))))))) | with_reducible exact And.left (And.right (And.right (And.right (And.right (And.right (And.right (And.right (by assumption)))))))) | with_reducible exact And.left (And.right (And.right (And.right (And.right (And.right (And.right (And.right (And.right (by assumption))))))))) | with_reducible exact And.left (And.right (And.right (And.right (And.right (And.right (And.right (And.right (And.right (And.right (by assumption)))))))))) | with_reducible exact And.left (And.right (And.right (And.right (And.right (And.right (And.right (And.right (And.right (And.right (And.right (by assumption))))))))))) | with_reducible exact And.left (And.right (And.right (And.right (And.right (And.right (And.right (And.right (And.right (And.right (And.right (And.right (by assumption)))))))))))) | with_reducible exact And.left (And.right (And.right (And.right (And.right (And.right (And.right (And.right (And.right (And.right (And.right (And.right (And.right (by assumption))))))))))))) | with_reducible exact And.left (And.right (And.right (And.right (And.right (And.right (And.right (And.right (And.right (And.right (And.right (And.right (And.right (And.right (by assumption)))))))))))))) | with_reducible exact And.left (And.right (And.right (And.right (And.right (And.right (And.right (And.right (And.right (And.right (And.right (And.right (And.right (And.right (And.right (by assumption))))))))))))))) | with_reducible exact And.left (And.right (And.right (And.right (And.right (And.right (And.right (And.right (And.right (And.right (And.right (And.right (And.right (And.right (And.right (And.right (by assumption)))))))))))))))) | with_reducible exact And.right (by assumption) | with_reducible exact And.right (And.right (by assumption)) | with_reducible exact And.right (And.right (And.right (by assumption))) | with_reducible exact And.right (And.right (And.right (And.right (by assumption)))) | with_reducible exact And.right (And.right (And.right (And.right (And.right (by assumption))))) | with_reducible exact And.right (And.right (And.right (And.right (And.right (And.right (by assumption)))))) | with_reducible exact And.right (And.right (And.right (And.right (And.right (And.right (And.right (by assumption))))))) | with_reducible exact And.right (And.right (And.right (And.right (And.right (And.right (And.right (And.right (by assumption)))))))) | with_reducible exact And.right (And.right (And.right (And.right (And.right (And.right (And.right (And.right (And.right (by assumption))))))))))
  k_with "nes" => (first | with_reducible exact And.left (by assumption) | with_reducible exact And.left (And.right (by assumption)) | with_reducible exact And.left (And.right (And.right (by assumption))) | with_reducible exact And.left (And.right (And.right (And.right (by assumption)))) | with_reducible exact And.left (And.right (And.right (And.right (And.right (by assumption))))) | with_reducible exact And.left (And.right (And.right (And.right (And.right (And.right (by assumption)))))) | with_reducible exact And.right (by assumption) | with_reducible exact And.right (And.right (by assumption)) | with_reducible exact And.right (And.right (And.right (by assumption))) | with_reducible exact And.right (And.right (And.right (And.right (by assumption)))) | with_reducible exact And.right (And.right (And.right (And.right (And.right (by assumption))))))
  k_with "subscriptTail" => ((k_here; (with_reducible show wpAny _ _ (subscriptTail _ _ (Value.ref _) (Value.int 0 _)) _ _ _); k_dflt (refine' tup_head ?Nz259 ?mz259 ?_; (case Nz259 => k_asm); (case mz259 => k_mem); k_whole)))
  k_with "call type:tuple" => ((k_here; (with_reducible show wpAny _ _ (call (Value.type "tuple") [Value.ref _]) _ _ _); k_dflt (refine' tuple_ofM ?Fz260 ?Nz260 ?mz260 ?zz260 ?_; (case Fz260 => k_asm); (case Nz260 => k_asm); (case mz260 => k_mem); (case zz260 => first | assumption | (simp only [List.length_cons, List.length_nil]; omega)); k_whole); intro Dw hw Fw Nw l1w; (try k_lt l1w); (try k_sweep)))
  k_with "call type:list" => ((k_here; (with_reducible show wpAny _ _ (call (Value.type "list") [Value.ref _]) _ _ _); k_dflt (refine' list_ofTupM ?Fz261 ?Nz261 ?mz261 ?zz261 ?_; (case Fz261 => k_asm); (case Nz261 => k_asm); (case mz261 => k_mem); (case zz261 => first | assumption | (simp only [List.length_cons, List.length_nil]; omega)); k_whole); intro Dw kw hw Fw Nw l1w; (try k_lt l1w); (try k_sweep)))
  k_with "subscriptTail Name Slice ref ref" => ((k_here; (with_reducible show wpAny _ _ (subscriptTail _ (PySem.Expr.Slice (some _) none none _) (Value.ref _) (Value.ref _)) _ _ _); k_dflt (refine' slice_tupM ?Fz262 ?Nz262 ?mz262 ?zz262 ?_ ?sz262 ?tz262; (case Fz262 => k_asm); (case Nz262 => k_asm); (case mz262 => k_mem); (case zz262 => first | assumption | (simp only [List.length_cons, List.length_nil]; omega)); (case sz262 => with_unfolding_all rfl); (case tz262 => kmk_pure)); intro Dw hw Fw Nw l1w; (try k_lt l1w); (try k_sweep)))
  k_with "compareOp Eq ref none" => ((k_here; (with_reducible show wpAny _ _ (compareOp CmpOp.Eq (Value.ref _) Value.none) _ _ _); k_dflt (refine' eq_tup_none ?Nz263 ?mz263 ?uz263 ?_; (case Nz263 => k_asm); (case mz263 => k_mem); (case uz263 => k_units); k_whole)))
  k_with "compareOp Eq ref" => ((k_here; (with_reducible show wpAny _ _ (compareOp CmpOp.Eq (Value.ref _) Value.none) _ _ _); k_dflt (refine' eq_tup_none ?Nz264 ?mz264 ?uz264 ?_; (case Nz264 => k_asm); (case mz264 => k_mem); (case uz264 => k_units); k_whole)))
  k_with "k_mem" => (((repeat (first | exact List.Mem.head _ | assumption | refine' List.Mem.tail _ ?_ | exact List.mem_append_left _ (by assumption) | exact List.mem_append_left _ (List.Mem.head _) | refine' List.mem_append_right _ ?_)); done))
  k_with "binaryOp Add ref ref" => ((k_here; (with_reducible show wpAny _ _ (binaryOp Operator.Add (Value.ref _) (Value.ref _)) _ _ _); k_dflt (refine' add_tupM ?Fz266 ?Nz266 ?mz266 ?nz266 ?zz266 ?az266 ?bz266; (case Fz266 => k_asm); (case Nz266 => k_asm); (case mz266 => k_mem); (case nz266 => k_mem); (case zz266 => first | assumption | (simp only [List.length_cons, List.length_nil]; omega)); (case' az266 => intro e1w); (case' bz266 => (intro e1w Dw hw Fw Nw l1w; (try k_lt l1w); (try k_sweep))))))
  k_with "kqd_sub" => (((repeat (refine List.forall_mem_cons.mpr ⟨by k_mem, ?_⟩)); first | exact List.forall_mem_nil _ | (intro p9 h9; k_mem)))
  k_with "ktr_rel" => (first | assumption | exact tb_ltOf (by first | assumption | exact (And.right (by assumption)) | exact (And.right (And.right (by assumption))) | exact (And.right (And.right (And.right (by assumption)))) | exact (And.right (And.right (And.right (And.right (by assumption))))) | exact (And.right (And.right (And.right (And.right (And.right (by assumption)))))) | exact (And.right (And.right (And.right (And.right (And.right (And.right (by assumption))))))) | exact (And.right (And.right (And.right (And.right (And.right (And.right (And.right (by assumption)))))))) | exact (And.right (And.right (And.right (And.right (And.right (And.right (And.right (And.right (by assumption))))))))) | exact (And.right (And.right (And.right (And.right (And.right (And.right (And.right (And.right (And.right (by assumption)))))))))) | exact (And.right (And.right (And.right (And.right (And.right (And.right (And.right (And.right (And.right (And.right (by assumption)))))))))))))
  k_with "getMethod ref" => ((k_here; (with_reducible show wpAny _ _ (getMethod (Value.ref _) (Str.ofString "get") _) _ _ _); k_dflt (refine kdg_method (knd := PySem.intKind Pr _) (by k_asm) (by k_mem) (by k_asm) ?_)))
  k_with "call builtin:dict.get" => ((k_here; (try dsimp only [List.nil_append, List.cons_append]); (with_reducible show wpAny _ _ (call (Value.builtin _) [Value.ref _, Value.int _ _, _]) _ _ _); k_dflt (refine kdg_get2 (knd := PySem.intKind Pr _) (by k_asm) (by k_mem) (by k_asm) (by k_asm) (intKind_is _ _ _ _) _ (by assumption) ?_); (try dsimp only [Option.getD])))
  k_with "subscriptTail" => ((k_here; (with_reducible show wpAny _ _ (subscriptTail _ _ (Value.ref _) (Value.int _ _)) _ _ _); k_dflt (refine' list_itemM ?Nz271 ?mz271 ?xz271 ?kz271 ?zz271 ?_; (case Nz271 => k_asm); (case mz271 => k_mem); (case xz271 => assumption); (case kz271 => omega); (case zz271 => first | assumption | omega); k_whole)))
  k_with "call builtin:len" => ((k_here; (with_reducible show wpAny _ _ (call (Value.builtin "len") [Value.ref _]) _ _ _); k_dflt (refine' len_listM ?Nz272 ?mz272 ?zz272 ?_; (case Nz272 => k_asm); (case mz272 => k_mem); (case zz272 => first | assumption | omega); k_whole)))
  k_with "tb_rel" => (first | assumption | (refine' LV.mono ?hz273 ?sz273; (case hz273 => assumption); (case sz273 => kqd_sub)) | (refine' RowsIn.mono ?sz273 ?hz273; (case hz273 => assumption); (case sz273 => kqd_sub)) | (refine' LispAt.mono ?hz273 ?sz273; (case hz273 => assumption); (case sz273 => kqd_sub)) | (refine' RulesAt.mono ?hz273 ?sz273; (case hz273 => assumption); (case sz273 => kqd_sub)) | (refine' IntDict.mono ?hz273 ?sz273; (case hz273 => assumption); (case sz273 => kqd_sub)) | (refine' PlistsIn.mono ?hz273 ?sz273; (case hz273 => assumption); (case sz273 => kqd_sub)) | (refine' DatAll.mono ?sz273 ?hz273; (case hz273 => assumption); (case sz273 => kqd_sub)))
  k_with "eval ListComp" => ((k_here; (with_reducible show wpAny _ _ (eval (PySem.Expr.ListComp _ [⟨PySem.Expr.Name _ _, _, [], _⟩] _ _) _) _ _ _); k_dflt (refine LCg.ListComp_U (F₀ := by k_asm) (by with_unfolding_all rfl) (by decide) (by rfl) (by decide) (by rfl) ?_); k_dflt lcg_toSrc))
  k_with "CompSrc" => ((k_here; k_dflt (refine LCg.CompSrc.ledger (by rfl) (by k_asm) (by k_asm) (by k_mem) (by simp only [List.size_toArray, sizeLine_eq]; first | omega | (rename IntsAre _ _ => hq9; rw [hq9.length]; omega)) ?_); intro gw))
  k_with "CompSrc" => ((k_here; (rename IsRange _ _ _ _ _ _ _ _ => lRw); k_dflt (refine LCg.CompSrc.range (by rfl) (by k_asm) (by k_asm) lRw (small_one (by omega) (by omega) (by omega) (by omega)) (rangeSize_nat _ _) (by simp only [sizeLine_eq]; omega) ?_); clear lRw; intro gw))
  k_with "subscriptTail" => ((k_here; (with_reducible show wpAny _ _ (subscriptTail _ (PySem.Expr.Slice none (some _) none _) (Value.ref _) (Value.ref _)) _ _ _); k_dflt (refine' list_uptoM (s := ⟨_, _, _, _, _⟩) ?Fz277 ?Nz277 ?mz277 ?xz277 ?zz277 ?_ ?sz277 ?tz277; (case Fz277 => k_asm); (case Nz277 => k_asm); (case mz277 => k_mem); (case xz277 => omega); (case zz277 => first | assumption | omega | (simp only [List.length_cons, List.length_nil] <;> omega)); (case sz277 => with_unfolding_all rfl); (case tz277 => kmk_pure)); intro Dw hw Fw Nw l1w; (try k_lt l1w); (try k_sweep)))
  k_with "subscriptTail Name Slice ref ref" => ((k_here; (with_reducible show wpAny _ _ (subscriptTail _ (PySem.Expr.Slice none (some _) none _) (Value.ref _) (Value.ref _)) _ _ _); k_dflt (refine' list_uptoM (s := ⟨_, _, _, _, _⟩) ?Fz278 ?Nz278 ?mz278 ?xz278 ?zz278 ?_ ?sz278 ?tz278; (case Fz278 => k_asm); (case Nz278 => k_asm); (case mz278 => k_mem); (case xz278 => omega); (case zz278 => first | assumption | omega | (simp only [List.length_cons, List.length_nil] <;> omega)); (case sz278 => with_unfolding_all rfl); (case tz278 => kmk_pure)); intro Dw hw Fw Nw l1w; (try k_lt l1w); (try k_sweep)))
  k_with "binaryOp Add ref ref" => ((k_here; (with_reducible show wpAny _ _ (binaryOp Operator.Add (Value.ref _) (Value.ref _)) _ _ _); k_dflt (refine' list_addM ?Fz279 ?Nz279 ?mz279 ?nz279 ?zz279 ?_; (case Fz279 => k_asm); (case Nz279 => k_asm); (case mz279 => k_mem); (case nz279 => k_mem); (case zz279 => first | assumption | omega | (simp only [List.length_cons, List.length_nil, List.length_take, List.length_append] <;> omega)); k_whole); (intro Dw hw Fw Nw l1w; (try k_lt l1w); (try k_sweep))))
  k_with "eval ListComp" => ((k_here; (with_reducible show wpAny _ _ (eval (PySem.Expr.ListComp _ [⟨PySem.Expr.Tuple _ _ _, _, _, _⟩] _ _) _) _ _ _); k_dflt (refine ListComp_enum (_F₀ := by k_asm) (by with_unfolding_all rfl) (by decide) (by rfl) (by decide) (by rfl) (by rfl) (by decide) ?_)))
  k_with "call type:enumerate" => (fail "mine")
  k_with "call ref" => ((k_here; (with_reducible show wpAny _ _ (call (Value.ref 172) [Value.ref _, Value.int _ _]) _ _ _); k_dflt (refine' draw_use ?dkz282 ?mz282 ?m2z282 ?Uz282 ?Bz282 ?Fz282 ?Xz282 ?Nz282 ?Tz282 ?hz282 ?dpz282 ?uz282 ?Az282 ?fz282 ?kz282 ?_; (case Nz282 => k_asm); (case Uz282 => k_updF); (case dkz282 => assumption); (case mz282 => omega); (case m2z282 => omega); (case Bz282 => k_asm); (case Fz282 => k_asm); (case Xz282 => k_asm); (case Tz282 => k_asm); (case hz282 => exact rfl); (case dpz282 => exact Nat.le_of_ble_eq_true rfl); (case uz282 => exact Nat.le_of_ble_eq_true rfl); (case Az282 => exact rfl); (case fz282 => exact rfl); (case kz282 => exact rfl); k_whole); (intro xw uw vsw nw hw tkw low hiw dkw Fw Nw); (try dsimp only at Nw); (try k_sweep); (try k_fold)))
  k_with "call ref" => ((k_here; (with_reducible show wpAny _ _ (call (Value.ref 177) [Value.ref _, Value.ref _]) _ _ _); k_dflt (refine' value_use ?lz283 ?dkz283 ?Uz283 ?Bz283 ?Fz283 ?Xz283 ?Nz283 ?Tz283 ?hz283 ?dpz283 ?uz283 ?Az283 ?fz283 ?kz283 ?_; (case Nz283 => k_asm); (case Uz283 => k_updF); (case lz283 => first | tb_rel | exact ⟨_, _, _, _, _, _, by k_mem, by k_mem⟩); (case dkz283 => assumption); (case Bz283 => k_asm); (case Fz283 => k_asm); (case Xz283 => k_asm); (case Tz283 => k_asm); (case hz283 => exact rfl); (case dpz283 => exact Nat.le_of_ble_eq_true rfl); (case uz283 => exact Nat.le_of_ble_eq_true rfl); (case Az283 => exact rfl); (case fz283 => exact rfl); (case kz283 => exact rfl); k_whole); (intro rw vsw nw morew dw hw tkw dkw frw lvw Fw Nw); (try dsimp only at Nw); (try k_sweep); (try k_fold)))
  k_with "compareOp NotIn int ref" => ((k_here; (with_reducible show wpAny _ _ (compareOp CmpOp.NotIn (Value.int _ _) (Value.ref _)) _ _ _); k_dflt (refine' notin_intsM ?Nz284 ?mz284 ?iz284 ?uz284 ?_; (case Nz284 => k_asm); (case mz284 => k_mem); (case iz284 => exact IntsAre.take (by assumption) _); (case uz284 => ke_room); k_whole); intro bw))
  trivial
set_option maxHeartbeats 4000000 in
theorem rows_ok {w : World} {rest : List (Addr × Obj)} {dk li pd : Addr} {fi : Int} {vs : List Value} {n : Nat} {most : Int} {t : Tok} (hl : LispAt w rest li fi pd) (hoff : ∀ p ∈ rest, p.1 ≠ dk) (hd : DeckOk vs) (hm : 0 ≤ most) (hm2 : most ≤ 4) :
    Ctr w 700 182 [.ref dk, .ref li, .int most t] ((dk, listOf vs.toArray n) :: rest) (fun r led' => ∃ vs' n' more D ws k rows, r = .ref D ∧ led' = (dk, listOf vs'.toArray n') :: (more ++ rest) ∧ DeckOk vs' ∧ Fresh dk rest more ∧
      ((D, listOf ws.toArray k) ∈ more ∧ RowsIn more ws rows ∧ rows.length ≤ 4 ∧ ∀ p ∈ rows, KeyOk p.1)) := by
  refine ctr_of fun mean mg mb env outer A₀ base h₀ L m s Q hf hk B F X N T ret => ?_
  k_dflt k_enter
  k_steps
  refine compU_lit3 (rest := rest) (by assumption) (fun i ys => ∃ ks, IntsAre ys ks ∧ ks.length = i ∧ ∀ k ∈ ks, KeyOk k) ⟨[], .nil, rfl, by simp⟩ ?_ ?_
  · rintro i ys vs9 n9 v I9 oI9 C9 oC9 D9 m9 h9 tk9 E9 hi ⟨ks9, hS9, hk9, hK9⟩ hd9 ⟨t9, rfl⟩ hC9 hx9 F9 N9 ⟨o91, o92, o93, off9, off8⟩ ne9
    have off7 : @Ne Nat dk I9 ∧ @Ne Nat dk C9 ∧ @Ne Nat dk D9 := off9
    k_steps
    refine LCg.CompEnd.intro (by assumption) (by assumption) (_ :: _ :: _ :: (dk, listOf _ _) :: rest) (by kqd_sub) ⟨o91, o92, o93, off7, off8⟩ trivial ⟨_, _, rfl, by assumption, ks9 ++ [_], ints_snoc _ _ hS9, by simp [hk9], fun k hk => ?_⟩
    rcases List.mem_append.mp hk with hk | hk
    · exact hK9 k hk
    · rw [List.mem_singleton.mp hk]; exact ⟨by omega, by omega⟩
  · rintro ys vs9 n9 ⟨ks9, hS9, hk9, hK9⟩ hd9
    have hy9 : ys.length ≤ 5 := by
      have := hS9.length
      omega
    k_steps
    refine enum_deck4 (by rfl) (by k_asm) (by assumption) (by omega) ?_ (by assumption) (fun i ws more => ∃ rows, RowsIn more ws rows ∧ rows.length ≤ i ∧ ∀ p ∈ rows, KeyOk p.1) ⟨[], .nil, Nat.le_refl _, by simp⟩ ?_ ?_
    · refine List.forall_mem_cons.mpr ⟨by k_ne, List.forall_mem_cons.mpr ⟨by k_ne, List.forall_mem_cons.mpr ⟨by k_ne, List.forall_mem_cons.mpr ⟨by k_ne, hoff⟩⟩⟩⟩
    · rintro i ws more vs8 n8 t8 y e8 oe8 it8 oit8 C8 oC8 D8 m8 h8 tk8 E8 ⟨rows, hR8, hl8, hK8⟩ hE8 hO8 hd8 hv8 hC8 hx8 hy8 F8 N8 ⟨off8, off7⟩ offe ⟨ne1, ne2, ne3, ne4, ne5, ne6⟩
      obtain ⟨k8, u8, rfl, hks8⟩ := ints_key hS9 i y hv8
      have off6 : @Ne Nat dk it8 ∧ @Ne Nat dk C8 ∧ @Ne Nat dk D8 := off8
      have ne0 : @Ne Nat dk e8 := offe _ (.head _)
      have offt : ∀ p ∈ more ++ _, (@Ne Nat p.1 e8) ∧ (@Ne Nat p.1 it8) ∧ (@Ne Nat p.1 C8) ∧ (@Ne Nat p.1 D8) := fun p hp => ⟨offe p (.tail _ hp), off7.mem p hp⟩
      k_steps
      · rename LV _ _ _ => lv7
        rename ∀ (p : Addr × Obj), p ∈ _ → ∀ q : Addr × Obj, q ∈ _ → p.1 ≠ q.1 => fr7
        rename List (Addr × Obj) => more7
        refine PairEnd.intro (by assumption) (by assumption) ((dk, listOf _ _) :: (_, tupO [.int k8 u8, _] _) :: (more7 ++ (more ++ (_ :: _ :: _ :: _ :: rest)))) (by kqd_sub) (off_pairs (List.forall_mem_cons.mpr ⟨⟨by k_ne, by k_ne, by k_ne, by k_ne⟩, List.forall_mem_cons.mpr ⟨⟨by k_ne, by k_ne, by k_ne, by k_ne⟩, fun p hp => ?_⟩⟩)) (by k_mem) ⟨_, _, (_, tupO [.int k8 u8, _] _) :: more7, rfl, by assumption, Fresh.cons ?_ ?_ ?_, rows ++ [(k8, _)], RowsIn.append (hR8.mono fun p hp => ?_) (.cons (.head _) (lv7.mono fun p hp => ?_) .nil), ?_, fun p hp => ?_⟩
        · rcases List.mem_append.mp hp with hp | hp
          · exact ⟨fr7 p hp (e8, oe8) (by k_mem), fr7 p hp (it8, oit8) (by k_mem), fr7 p hp (C8, oC8) (by k_mem), fr7 p hp (D8, _) (by k_mem)⟩
          · exact offt p hp
        · k_ne
        · exact lt_ne (lt_of_app (a := more) (lt_of_app (a := more7) (by ktr_rel)).2).2
        · exact fun p hp => ⟨fr7 p hp (dk, _) (by k_mem), fun q hq => fr7 p hp q (by k_mem)⟩
        · exact List.mem_append_right _ hp
        · exact List.mem_append_left _ (.tail _ hp)
        · simp; omega
        · rcases List.mem_append.mp hp with hp | hp
          · exact hK8 p hp
          · rw [List.mem_singleton.mp hp]; exact hK9 k8 hks8
      · exact PairEnd.intro (by assumption) (by assumption) ((dk, listOf vs8.toArray n8) :: (more ++ _)) (by kqd_sub) (off_pairs (List.forall_mem_cons.mpr ⟨⟨by k_ne, by k_ne, by k_ne, by k_ne⟩, offt⟩)) (by k_mem) ⟨rfl, rows, hR8, by omega, hK8⟩
    · rintro g ws more vs8 n8 ⟨rows, hR8, hl8, hK8⟩ hE8 hO8 hd8
      have hr4 : rows.length ≤ 4 := by
        have := hS9.length
        omega
      k_steps
      refine ret _ _ _ _ ⟨_, _, (_, listOf ws.toArray _) :: more, _, ws, _, rows, rfl, rfl, by assumption, Fresh.cons ?_ ?_ (hE8.sub fun p hp => .tail _ (.tail _ (.tail _ (.tail _ hp)))), .head _, hR8.mono fun p hp => .tail _ hp, hr4, hK8⟩ (by k_asm) (cb_drop (by assumption) (by refine List.forall_mem_cons.mpr ⟨by k_mem, List.forall_mem_cons.mpr ⟨by k_mem, ?_⟩⟩; intro p hp; rcases List.mem_append.mp hp with hp | hp; all_goals k_mem))
      · k_ne
      · exact fun q hq => off1_all (And.right (by assumption)) q (List.mem_append_right _ (.tail _ (.tail _ (.tail _ (.tail _ hq)))))
theorem rows_use {w : World} {dk li pd : Addr} {fi : Int} {vs : List Value} {n : Nat} {most : Int} {t : Tok} {led : List (Addr × Obj)} {g : Obj → List (Addr × Obj) → List (Addr × Obj)} (hl : LispAt w led li fi pd) (hd : DeckOk vs) (hm : 0 ≤ most) (hm2 : most ≤ 4) (U : UpdE dk (listOf vs.toArray n) led g)
    {mean : ExcName → Option Value} {mg mb : Str → Option Value} {A : Around} {env : Env} {outer : List Env} {A₀ : Around} {base h₀ : Heap} {L : Addr} {m : Str → Option Value} {s : Shared} {Q E : Value → Shared → Prop}
    (B : Below A₀ base outer h₀) (F : Fr h₀ L s.heap m) (X : (Mine.hd.heap_39 w.params).In h₀) (N : News h₀ L s.heap led) (T : TopOk mean mg mb h₀)
    (hh : A.handled = none) (hdp : A.depth ≤ 700) (hu : A.units ≤ 700) (hA : A.frames = some (env :: outer)) (hf : env.frame = some L) (hk : env.scope.kind = .function)
    (ret : ∀ r vs' n' more D ws k rows h' tk', r = .ref D → DeckOk vs' → (∀ p ∈ more, ∀ q ∈ led, p.1 ≠ q.1) → (D, listOf ws.toArray k) ∈ more ∧ RowsIn more ws rows ∧ rows.length ≤ 4 ∧ (∀ p ∈ rows, KeyOk p.1) → Fr h₀ L h' m → News h₀ L h' (g (listOf vs'.toArray n') more) → Q r { s with heap := h', toks := tk' }) :
    wpAny (model Pr w) A (call (.ref 182) [.ref dk, .ref li, .int most t]) Q E s := by
  obtain ⟨rest, a, b, c, e⟩ := U.split
  refine ctr_use (rows_ok (rest := rest) (vs := vs) (n := n) (hl.off b) e hd hm hm2) B F X (cb_drop N a) T hh hdp hu hA hf hk ?_
  rintro v h' tk' led' ⟨vs', n', more, D, ws, k, rows, rfl, rfl, h1, h2, h3⟩ F' N'
  refine ret _ vs' n' more D ws k rows h' tk' rfl h1 (fun p hp q hq => ?_) h3 F' (cb_drop N' (c _ _))
  rcases b q hq with rfl | hq
  · exact (h2 p hp).1
  · exact (h2 p hp).2 q hq
end
section
theorem words_D15_1 : True := by
  k_with_none
  k_with "k_enter" => (first | (refine' code_def ?k1z305 ?k2z305 ?k3z305 ?k4z305 ?k5z305 ?kAz305 ?kFz305 ?kKz305 ?k6z305 ?k7z305 ?k8z305 ?k9z305 ?kBz305 ?_ ?c2z305 ?c3z305 ?c4z305 ?c5z305; (case kAz305 => exact rfl); (case kFz305 => first | exact rfl | assumption); (case kKz305 => first | exact rfl | assumption); (case k1z305 => k_asm); (case k2z305 => k_asm); (case k3z305 => k_asm); (case k4z305 => k_asm); (case k5z305 => k_asm); (case k6z305 => k_is); (case k7z305 => k_is); (case k8z305 => k_room); (case k9z305 => first | exact BindsTo.of_eq rfl | exact binds_K (by k_in) rfl (by k_is) rfl rfl rfl | fail "k_enter: no rule for these arguments"); (case c5z305 => decide); (case kBz305 => exact locs rfl); (case c2z305 => exact rfl); (case c3z305 => exact rfl); (case c4z305 => exact rfl); k_whole; intro gw Lw hw FGw Fw Nw Bw Xw Tw; (try dsimp only); (try k_lift Bw); (try k_fold)) | (refine' code_defC ?k1z305 ?k2z305 ?k3z305 ?k4z305 ?k5z305 ?kAz305 ?kFz305 ?kKz305 ?k6z305 ?k7z305 ?k8z305 ?k9z305 ?kBz305 ?kDz305 ?_ ?c2z305 ?c3z305 ?c4z305; (case kAz305 => exact rfl); (case kFz305 => first | exact rfl | assumption); (case kKz305 => first | exact rfl | assumption); (case k1z305 => k_asm); (case k2z305 => k_asm); (case k3z305 => k_asm); (case k4z305 => k_asm); (case k5z305 => k_asm); (case k6z305 => k_is); (case k7z305 => k_is); (case k8z305 => k_room); (case k9z305 => first | exact BindsTo.of_eq rfl | exact binds_K (by k_in) rfl (by k_is) rfl rfl rfl | fail "k_enter: no rule for these arguments"); (case kBz305 => exact rfl); (case kDz305 => decide +kernel); (case c2z305 => exact rfl); (case c3z305 => exact rfl); (case c4z305 => exact rfl); k_whole; intro gw Lw hw tkw cellsw FGw Fw Nw Yw Bw Xw Tw l1w; (try k_lt l1w); k_cells Yw; (try simp only [List.cons_append, List.nil_append] at Nw); (try dsimp only); (try k_lift Bw); (try k_fold)))
  k_with "k_ne" => (refine neN ?_; (try dsimp only); first | with_reducible assumption | with_reducible exact Ne.symm (by assumption) | exact (by k_extra "nes") | exact Ne.symm (by k_extra "nes") | exact Nat.ne_of_lt (by k_extra "lt") | exact Nat.ne_of_gt (by k_extra "lt") | omega)
  k_with "lt" => (first | with_reducible assumption | with_reducible exact And.left (by assumption) | with_reducible exact And.left (And.right (by assumption)) | with_reducible exact And.left (And.right (And.right (by assumption))) | with_reducible exact And.left (And.right (And.right (And.right (by assumption)))) | with_reducible exact And.left (And.right (And.right (And.right (And.right (by assumption))))) | with_reducible exact And.left (And.right (And.right (And.right (And.right (And.right (by assumption)))))) | with_reducible exact And.left (And.right (And.right (And.right (And.right (And.right (And.right (by assumption))))))) | with_reducible exact And.left (And.right (And.right (And.right (And.right (And.right (And.right (And.right (by assumption)))))))) | with_reducible exact And.left (And.right (And.right (And.right (And.right (And.right (And.right (And.right (And.right (by assumption))))))))) | with_reducible exact And.left (And.right (And.right (And.right (And.right (And.right (And.right (And.right (And.right (And.right (by assumption)))))))))) | with_reducible exact And.left (And.right (And.right (And.right (And.right (And.right (And.right (And.right (And.right (And.right (And.right (by assumption))))))))))) | with_reducible exact And.left (And.right (And.right (And.right (And.right (And.right (And.right (And.right (And.right (And.right (And.right (And.right (by assumption)))))))))))) | with_reducible exact And.left (And.right (And.right (And.right (And.right (And.right (And.right (And.right (And.right (And.right (And.right (And.right (And.right (by assumption))))))))))))) | with_reducible exact And.left (And.right (And.right (And.right (And.right (And.right (And.right (And.right (And.right (And.right (And.right (And.right (And.right (And.right (by assumption)))))))))))))) | with_reducible exact And.left (And.right (And.right (And.right (And.right (And.right (And.right (And.right (And.right (And.right (And.right (And.right (And.right (And.right (And.right (by assumption))))))))))))))) | with_reducible exact And.left (And.right (And.right (And.right (And.right (And.right (And.right (And.right (And.right (And.right (And.right (And.right (And.right (And.right (And.right (And.right (by assumption)))))))))))))))) | with_reducible exact And.right (by assumption) | with_reducible exact And.right (And.right (by assumption)) | with_reducible exact And.right (And.right (And.right (by assumption))) | with_reducible exact And.right (And.right (And.right (And.right (by assumption)))) | with_reducible exact And.right (And.right (And.right (And.right (And.right (by assumption))))) | with_reducible exact And.right (And.right (And.right (And.right (And.right (And.right (by assumption)))))) | with_reducible exact And.right (And.right (And.right (And.right (And.right (And.right (And.right (by assumption))))))) | with_reducible exact And.right (And.right (And.right (And.right (And.right (And.right (And.right (And.right (by assumption)))))))) | with_reducible exact And.right (And.right (And.right (And.right (And.right (And.right (And.right (And.right (And.right (by assumption))))))))))
  k_with "nes" => (first | with_reducible exact And.left (by assumption) | with_reducible exact And.left (And.right (by assumption)) | with_reducible exact And.left (And.right (And.right (by assumption))) | with_reducible exact And.left (And.right (And.right (And.right (by assumption)))) | with_reducible exact And.left (And.right (And.right (And.right (And.right (by assumption))))) | with_reducible exact And.left (And.right (And.right (And.right (And.right (And.right (by assumption)))))) | with_reducible exact And.right (by assumption) | with_reducible exact And.right (And.right (by assumption)) | with_reducible exact And.right (And.right (And.right (by assumption))) | with_reducible exact And.right (And.right (And.right (And.right (by assumption)))) | with_reducible exact And.right (And.right (And.right (And.right (And.right (by assumption))))))
  k_with "subscriptTail" => ((k_here; (with_reducible show wpAny _ _ (subscriptTail _ _ (Value.ref _) (Value.int 0 _)) _ _ _); k_dflt (refine' tup_head ?Nz286 ?mz286 ?_; (case Nz286 => k_asm); (case mz286 => k_mem); k_whole)))
  k_with "call type:tuple" => ((k_here; (with_reducible show wpAny _ _ (call (Value.type "tuple") [Value.ref _]) _ _ _); k_dflt (refine' tuple_ofM ?Fz287 ?Nz287 ?mz287 ?zz287 ?_; (case Fz287 => k_asm); (case Nz287 => k_asm); (case mz287 => k_mem); (case zz287 => first | assumption | (simp only [List.length_cons, List.length_nil]; omega)); k_whole); intro Dw hw Fw Nw l1w; (try k_lt l1w); (try k_sweep)))
  k_with "call type:list" => ((k_here; (with_reducible show wpAny _ _ (call (Value.type "list") [Value.ref _]) _ _ _); k_dflt (refine' list_ofTupM ?Fz288 ?Nz288 ?mz288 ?zz288 ?_; (case Fz288 => k_asm); (case Nz288 => k_asm); (case mz288 => k_mem); (case zz288 => first | assumption | (simp only [List.length_cons, List.length_nil]; omega)); k_whole); intro Dw kw hw Fw Nw l1w; (try k_lt l1w); (try k_sweep)))
  k_with "subscriptTail Name Slice ref ref" => ((k_here; (with_reducible show wpAny _ _ (subscriptTail _ (PySem.Expr.Slice (some _) none none _) (Value.ref _) (Value.ref _)) _ _ _); k_dflt (refine' slice_tupM ?Fz289 ?Nz289 ?mz289 ?zz289 ?_ ?sz289 ?tz289; (case Fz289 => k_asm); (case Nz289 => k_asm); (case mz289 => k_mem); (case zz289 => first | assumption | (simp only [List.length_cons, List.length_nil]; omega)); (case sz289 => with_unfolding_all rfl); (case tz289 => kmk_pure)); intro Dw hw Fw Nw l1w; (try k_lt l1w); (try k_sweep)))
  k_with "compareOp Eq ref none" => ((k_here; (with_reducible show wpAny _ _ (compareOp CmpOp.Eq (Value.ref _) Value.none) _ _ _); k_dflt (refine' eq_tup_none ?Nz290 ?mz290 ?uz290 ?_; (case Nz290 => k_asm); (case mz290 => k_mem); (case uz290 => k_units); k_whole)))
  k_with "compareOp Eq ref" => ((k_here; (with_reducible show wpAny _ _ (compareOp CmpOp.Eq (Value.ref _) Value.none) _ _ _); k_dflt (refine' eq_tup_none ?Nz291 ?mz291 ?uz291 ?_; (case Nz291 => k_asm); (case mz291 => k_mem); (case uz291 => k_units); k_whole)))
  k_with "k_mem" => (((repeat (first | exact List.Mem.head _ | assumption | refine' List.Mem.tail _ ?_ | exact List.mem_append_left _ (by assumption) | exact List.mem_append_left _ (List.Mem.head _) | refine' List.mem_append_right _ ?_)); done))
  k_with "binaryOp Add ref ref" => ((k_here; (with_reducible show wpAny _ _ (binaryOp Operator.Add (Value.ref _) (Value.ref _)) _ _ _); k_dflt (refine' add_tupM ?Fz293 ?Nz293 ?mz293 ?nz293 ?zz293 ?az293 ?bz293; (case Fz293 => k_asm); (case Nz293 => k_asm); (case mz293 => k_mem); (case nz293 => k_mem); (case zz293 => first | assumption | (simp only [List.length_cons, List.length_nil]; omega)); (case' az293 => intro e1w); (case' bz293 => (intro e1w Dw hw Fw Nw l1w; (try k_lt l1w); (try k_sweep))))))
  k_with "kqd_sub" => (((repeat (refine List.forall_mem_cons.mpr ⟨by k_mem, ?_⟩)); first | exact List.forall_mem_nil _ | (intro p9 h9; k_mem)))
  k_with "ktr_rel" => (first | assumption | exact tb_ltOf (by first | assumption | exact (And.right (by assumption)) | exact (And.right (And.right (by assumption))) | exact (And.right (And.right (And.right (by assumption)))) | exact (And.right (And.right (And.right (And.right (by assumption))))) | exact (And.right (And.right (And.right (And.right (And.right (by assumption)))))) | exact (And.right (And.right (And.right (And.right (And.right (And.right (by assumption))))))) | exact (And.right (And.right (And.right (And.right (And.right (And.right (And.right (by assumption)))))))) | exact (And.right (And.right (And.right (And.right (And.right (And.right (And.right (And.right (by assumption))))))))) | exact (And.right (And.right (And.right (And.right (And.right (And.right (And.right (And.right (And.right (by assumption)))))))))) | exact (And.right (And.right (And.right (And.right (And.right (And.right (And.right (And.right (And.right (And.right (by assumption)))))))))))))
  k_with "getMethod ref" => ((k_here; (with_reducible show wpAny _ _ (getMethod (Value.ref _) (Str.ofString "get") _) _ _ _); k_dflt (refine kdg_method (knd := PySem.intKind Pr _) (by k_asm) (by k_mem) (by k_asm) ?_)))
  k_with "call builtin:dict.get" => ((k_here; (try dsimp only [List.nil_append, List.cons_append]); (with_reducible show wpAny _ _ (call (Value.builtin _) [Value.ref _, Value.int _ _, _]) _ _ _); k_dflt (refine kdg_get2 (knd := PySem.intKind Pr _) (by k_asm) (by k_mem) (by k_asm) (by k_asm) (intKind_is _ _ _ _) _ (by assumption) ?_); (try dsimp only [Option.getD])))
  k_with "subscriptTail" => ((k_here; (with_reducible show wpAny _ _ (subscriptTail _ _ (Value.ref _) (Value.int _ _)) _ _ _); k_dflt (refine' list_itemM ?Nz298 ?mz298 ?xz298 ?kz298 ?zz298 ?_; (case Nz298 => k_asm); (case mz298 => k_mem); (case xz298 => assumption); (case kz298 => omega); (case zz298 => first | assumption | omega); k_whole)))
  k_with "call builtin:len" => ((k_here; (with_reducible show wpAny _ _ (call (Value.builtin "len") [Value.ref _]) _ _ _); k_dflt (refine' len_listM ?Nz299 ?mz299 ?zz299 ?_; (case Nz299 => k_asm); (case mz299 => k_mem); (case zz299 => first | assumption | omega); k_whole)))
  k_with "tb_rel" => (first | assumption | (refine' LV.mono ?hz300 ?sz300; (case hz300 => assumption); (case sz300 => kqd_sub)) | (refine' RowsIn.mono ?sz300 ?hz300; (case hz300 => assumption); (case sz300 => kqd_sub)) | (refine' LispAt.mono ?hz300 ?sz300; (case hz300 => assumption); (case sz300 => kqd_sub)) | (refine' RulesAt.mono ?hz300 ?sz300; (case hz300 => assumption); (case sz300 => kqd_sub)) | (refine' IntDict.mono ?hz300 ?sz300; (case hz300 => assumption); (case sz300 => kqd_sub)) | (refine' PlistsIn.mono ?hz300 ?sz300; (case hz300 => assumption); (case sz300 => kqd_sub)) | (refine' DatAll.mono ?sz300 ?hz300; (case hz300 => assumption); (case sz300 => kqd_sub)))
  k_with "subscriptTail" => ((k_here; (with_reducible show wpAny _ _ (subscriptTail _ (PySem.Expr.Slice none (some _) none _) (Value.ref _) (Value.ref _)) _ _ _); k_dflt (refine' list_uptoM (s := ⟨_, _, _, _, _⟩) ?Fz301 ?Nz301 ?mz301 ?xz301 ?zz301 ?_ ?sz301 ?tz301; (case Fz301 => k_asm); (case Nz301 => k_asm); (case mz301 => k_mem); (case xz301 => omega); (case zz301 => first | assumption | omega | (simp only [List.length_cons, List.length_nil] <;> omega)); (case sz301 => with_unfolding_all rfl); (case tz301 => kmk_pure)); intro Dw hw Fw Nw l1w; (try k_lt l1w); (try k_sweep)))
  k_with "subscriptTail Name Slice ref ref" => ((k_here; (with_reducible show wpAny _ _ (subscriptTail _ (PySem.Expr.Slice none (some _) none _) (Value.ref _) (Value.ref _)) _ _ _); k_dflt (refine' list_uptoM (s := ⟨_, _, _, _, _⟩) ?Fz302 ?Nz302 ?mz302 ?xz302 ?zz302 ?_ ?sz302 ?tz302; (case Fz302 => k_asm); (case Nz302 => k_asm); (case mz302 => k_mem); (case xz302 => omega); (case zz302 => first | assumption | omega | (simp only [List.length_cons, List.length_nil] <;> omega)); (case sz302 => with_unfolding_all rfl); (case tz302 => kmk_pure)); intro Dw hw Fw Nw l1w; (try k_lt l1w); (try k_sweep)))
  k_with "binaryOp Add ref ref" => ((k_here; (with_reducible show wpAny _ _ (binaryOp Operator.Add (Value.ref _) (Value.ref _)) _ _ _); k_dflt (refine' list_addM ?Fz303 ?Nz303 ?mz303 ?nz303 ?zz303 ?_; (case Fz303 => k_asm); (case Nz303 => k_asm); (case mz303 => k_mem); (case nz303 => k_mem); (case zz303 => first | assumption | omega | (simp only [List.length_cons, List.length_nil, List.length_take, List.length_append] <;> omega)); k_whole); (intro Dw hw Fw Nw l1w; (try k_lt l1w); (try k_sweep))))
  k_with "eval ListComp" => ((k_here; k_dflt (refine ListComp_pairs (_F₀ := by k_asm) (by with_unfolding_all rfl) (by decide) (by rfl) (by decide) (by rfl) (by rfl) (by decide) ?_)))
  trivial
set_option maxHeartbeats 4000000 in
theorem of_ok {w : World} {led : List (Addr × Obj)} {pl : Addr} {vs : List Value} {n : Nat} {rows : List (Int × Dat)} {k : Int} {t : Tok} (hm : (pl, listOf vs.toArray n) ∈ led) (hd : RowsIn led vs rows) (hz : rows.length ≤ 100) :
    Ctr w 900 187 [.ref pl, .int k t] led (fun r led' => ∃ D ws, r = .ref D ∧ led' = (D, listOf ws.toArray 0) :: led ∧ (∀ p ∈ led, p.1 < D) ∧ ((getD rows k = none ∧ ws = []) ∨ ∃ v d, ws = [v] ∧ LV led v d ∧ getD rows k = some d)) := by
  have hl : vs.length = rows.length := hd.length
  refine ctr_of fun mean mg mb env outer A₀ base h₀ L m s Q hf hk B F X N T ret => ?_
  k_dflt k_enter
  k_steps
  refine pairsL_introK (by rfl) (by k_asm) (by assumption) (by k_mem) (by omega) (fun i ys => ys.length ≤ i ∧ ((ys = [] ∧ ∀ p ∈ rows.take i, p.1 ≠ k) ∨ ∃ v d r, ys = v :: r ∧ LV led v d ∧ getD rows k = some d)) ⟨Nat.le_refl _, .inl ⟨rfl, by simp⟩⟩ (fun i x y => ∃ k' t d, x = .int k' t ∧ LV led y d ∧ rows[i]? = some (k', d)) ?_ ?_ ?_
  · intro i v hv
    obtain ⟨b, nb, tb, k', v', d, e1, e2, e3, e4⟩ := hd.get i (by have := (List.getElem?_eq_some_iff.mp hv).1; omega)
    rw [hv] at e1; cases e1
    exact ⟨b, _, _, nb, rfl, by k_mem, k', tb, d, rfl, e3, e4⟩
  · rintro i ys x y I9 oI9 C9 oC9 D9 m9 h9 tk9 E9 ⟨hl9, hI9⟩ ⟨k', t', d', rfl, hv9, hr9⟩ hC9 hx9 hy9 F9 N9 off9 ne9
    k_steps
    · refine compEnd_same (by assumption) (by assumption) (fun _ h => h) off9 (by k_mem) ⟨by simp; omega, ?_⟩
      rcases hI9 with ⟨rfl, h1⟩ | ⟨v1, d1, r1, rfl, h1, h2⟩
      · have e5 : k' = k := by assumption
        exact .inr ⟨_, d', [], rfl, hv9, getD_at i (e5 ▸ hr9) h1⟩
      · exact .inr ⟨v1, d1, r1 ++ [y], rfl, h1, h2⟩
    · refine compEnd_same (by assumption) (by assumption) (fun _ h => h) off9 (by k_mem) ⟨by omega, ?_⟩
      rcases hI9 with ⟨rfl, h1⟩ | h1
      · exact .inl ⟨rfl, take_succ_ne h1 hr9 (by assumption)⟩
      · exact .inr h1
  · rintro ys ⟨hl9, hI9⟩
    have hz9 : ys.length ≤ 1000 := by omega
    k_steps
    refine ret _ _ _ _ ⟨_, ys.take 1, rfl, rfl, by ktr_rel, ?_⟩ (by k_asm) (cb_drop (by assumption) (by kqd_sub))
    rw [List.take_of_length_le (by omega)] at hI9
    rcases hI9 with ⟨rfl, h1⟩ | ⟨v1, d1, r1, rfl, h1, h2⟩
    · exact .inl ⟨getD_none h1, rfl⟩
    · exact .inr ⟨v1, d1, rfl, h1, h2⟩
theorem of_use {w : World} {led : List (Addr × Obj)} {pl : Addr} {vs : List Value} {n : Nat} {rows : List (Int × Dat)} {k : Int} {t : Tok} (hm : (pl, listOf vs.toArray n) ∈ led) (hd : RowsIn led vs rows) (hz : rows.length ≤ 100)
    {mean : ExcName → Option Value} {mg mb : Str → Option Value} {A : Around} {env : Env} {outer : List Env} {A₀ : Around} {base h₀ : Heap} {L : Addr} {m : Str → Option Value} {s : Shared} {Q E : Value → Shared → Prop}
    (B : Below A₀ base outer h₀) (F : Fr h₀ L s.heap m) (X : (Mine.hd.heap_39 w.params).In h₀) (N : News h₀ L s.heap led) (T : TopOk mean mg mb h₀)
    (u1 : A.handled = none) (u2 : A.depth ≤ 900) (u3 : A.units ≤ 900) (u4 : A.frames = some (env :: outer)) (u5 : env.frame = some L) (u6 : env.scope.kind = .function)
    (ret1 : ∀ D h' tk', getD rows k = none → (∀ p ∈ led, p.1 < D) → Fr h₀ L h' m → News h₀ L h' ((D, listOf ([] : List Value).toArray 0) :: led) → Q (.ref D) { s with heap := h', toks := tk' })
    (ret2 : ∀ D v d h' tk', LV led v d → getD rows k = some d → (∀ p ∈ led, p.1 < D) → Fr h₀ L h' m → News h₀ L h' ((D, listOf [v].toArray 0) :: led) → Q (.ref D) { s with heap := h', toks := tk' }) :
    wpAny (model Pr w) A (call (.ref 187) [.ref pl, .int k t]) Q E s := ctr_use (of_ok hm hd hz) B F X N T u1 u2 u3 u4 u5 u6 fun r h' tk' led' p F' N' => by
  rcases p with ⟨D, ws, rfl, rfl, c, ⟨c1, rfl⟩ | ⟨v, d, rfl, c1, c2⟩⟩
  · exact ret1 D h' tk' c1 c F' N'
  · exact ret2 D v d h' tk' c1 c2 c F' N'
end
section
theorem words_D16_1 : True := by
  k_with_none
  k_with "k_enter" => (first | (refine' code_def ?k1z333 ?k2z333 ?k3z333 ?k4z333 ?k5z333 ?kAz333 ?kFz333 ?kKz333 ?k6z333 ?k7z333 ?k8z333 ?k9z333 ?kBz333 ?_ ?c2z333 ?c3z333 ?c4z333 ?c5z333; (case kAz333 => exact rfl); (case kFz333 => first | exact rfl | assumption); (case kKz333 => first | exact rfl | assumption); (case k1z333 => k_asm); (case k2z333 => k_asm); (case k3z333 => k_asm); (case k4z333 => k_asm); (case k5z333 => k_asm); (case k6z333 => k_is); (case k7z333 => k_is); (case k8z333 => k_room); (case k9z333 => first | exact BindsTo.of_eq rfl | exact binds_K (by k_in) rfl (by k_is) rfl rfl rfl | fail "k_enter: no rule for these arguments"); (case c5z333 => decide); (case kBz333 => exact locs rfl); (case c2z333 => exact rfl); (case c3z333 => exact rfl); (case c4z333 => exact rfl); k_whole; intro gw Lw hw FGw Fw Nw Bw Xw Tw; (try dsimp only); (try k_lift Bw); (try k_fold)) | (refine' code_defC ?k1z333 ?k2z333 ?k3z333 ?k4z333 ?k5z333 ?kAz333 ?kFz333 ?kKz333 ?k6z333 ?k7z333 ?k8z333 ?k9z333 ?kBz333 ?kDz333 ?_ ?c2z333 ?c3z333 ?c4z333; (case kAz333 => exact rfl); (case kFz333 => first | exact rfl | assumption); (case kKz333 => first | exact rfl | assumption); (case k1z333 => k_asm); (case k2z333 => k_asm); (case k3z333 => k_asm); (case k4z333 => k_asm); (case k5z333 => k_asm); (case k6z333 => k_is); (case k7z333 => k_is); (case k8z333 => k_room); (case k9z333 => first | exact BindsTo.of_eq rfl | exact binds_K (by k_in) rfl (by k_is) rfl rfl rfl | fail "k_enter: no rule for these arguments"); (case kBz333 => exact rfl); (case kDz333 => decide +kernel); (case c2z333 => exact rfl); (case c3z333 => exact rfl); (case c4z333 => exact rfl); k_whole; intro gw Lw hw tkw cellsw FGw Fw Nw Yw Bw Xw Tw l1w; (try k_lt l1w); k_cells Yw; (try simp only [List.cons_append, List.nil_append] at Nw); (try dsimp only); (try k_lift Bw); (try k_fold)))
  k_with "k_ne" => (refine neN ?_; (try dsimp only); first | with_reducible assumption | with_reducible exact Ne.symm (by assumption) | exact (by k_extra "nes") | exact Ne.symm (by k_extra "nes") | exact Nat.ne_of_lt (by k_extra "lt") | exact Nat.ne_of_gt (by k_extra "lt") | omega)
  k_with "lt" => (first | with_reducible assumption | with_reducible exact And.left (by assumption) | with_reducible exact And.left (And.right (by assumption)) | with_reducible exact And.left (And.right (And.right (by assumption))) | with_reducible exact And.left (And.right (And.right (And.right (by assumption)))) | with_reducible exact And.left (And.right (And.right (And.right (And.right (by assumption))))) | with_reducible exact And.left (And.right (And.right (And.right (And.right (And.right (by assumption)))))) | with_reducible exact And.left (And.right (And.right (And.right (And.right (And.right (And.right (by assumption))))))) | with_reducible exact And.left (And.right (And.right (And.right (And.right (And.right (And.right (And.right (by assumption)))))))) | with_reducible exact And.left (And.right (And.right (And.right (And.right (And.right (And.right (And.right (And.right (by assumption))))))))) | with_reducible exact And.left (And.right (And.right (And.right (And.right (And.right (And.right (And.right (And.right (And.right (by assumption)))))))))) | with_reducible exact And.left (And.right (And.right (And.right (And.right (And.right (And.right (And.right (And.right (And.right (And.right (by assumption))))))))))) | with_reducible exact And.left (And.right (And.right (And.right (And.right (And.right (And.right (And.right (And.right (And.right (And.right (And.right (by assumption)))))))))))) | with_reducible exact And.left (And.right (And.right (And.right (And.right (And.right (And.right (And.right (And.right (And.right (And.right (And.right (And.right (by assumption))))))))))))) | with_reducible exact And.left (And.right (And.right (And.right (And.right (And.right (And.right (And.right (And.right (And.right (And.right (And.right (And.right (And.right (by assumption)))))))))))))) | with_reducible exact And.left (And.right (And.right (And.right (And.right (And.right (And.right (And.right (And.right (And.right (And.right (And.right (And.right (And.right (And.right (by assumption))))))))))))))) | with_reducible exact And.left (And.right (And.right (And.right (And.right (And.right (And.right (And.right (And.right (And.right (And.right (And.right (And.right (And.right (And.right (And.right (by assumption)))))))))))))))) | with_reducible exact And.right (by assumption) | with_reducible exact And.right (And.right (by assumption)) | with_reducible exact And.right (And.right (And.right (by assumption))) | with_reducible exact And.right (And.right (And.right (And.right (by assumption)))) | with_reducible exact And.right (And.right (And.right (And.right (And.right (by assumption))))) | with_reducible exact And.right (And.right (And.right (And.right (And.right (And.right (by assumption)))))) | with_reducible exact And.right (And.right (And.right (And.right (And.right (And.right (And.right (by assumption))))))) | with_reducible exact And.right (And.right (And.right (And.right (And.right (And.right (And.right (And.right (by assumption)))))))) | with_reducible exact And.right (And.right (And.right (And.right (And.right (And.right (And.right (And.right (And.right (by assumption))))))))))
  k_with "nes" => (first | with_reducible exact And.left (by assumption) | with_reducible exact And.left (And.right (by assumption)) | with_reducible exact And.left (And.right (And.right (by assumption))) | with_reducible exact And.left (And.right (And.right (And.right (by assumption)))) | with_reducible exact And.left (And.right (And.right (And.right (And.right (by assumption))))) | with_reducible exact And.left (And.right (And.right (And.right (And.right (And.right (by assumption)))))) | with_reducible exact And.right (by assumption) | with_reducible exact And.right (And.right (by assumption)) | with_reducible exact And.right (And.right (And.right (by assumption))) | with_reducible exact And.right (And.right (And.right (And.right (by assumption)))) | with_reducible exact And.right (And.right (And.right (And.right (And.right (by assumption))))))
  k_with "subscriptTail" => ((k_here; (with_reducible show wpAny _ _ (subscriptTail _ _ (Value.ref _) (Value.int 0 _)) _ _ _); k_dflt (refine' tup_head ?Nz306 ?mz306 ?_; (case Nz306 => k_asm); (case mz306 => k_mem); k_whole)))
  k_with "call type:tuple" => ((k_here; (with_reducible show wpAny _ _ (call (Value.type "tuple") [Value.ref _]) _ _ _); k_dflt (refine' tuple_ofM ?Fz307 ?Nz307 ?mz307 ?zz307 ?_; (case Fz307 => k_asm); (case Nz307 => k_asm); (case mz307 => k_mem); (case zz307 => first | assumption | (simp only [List.length_cons, List.length_nil]; omega)); k_whole); intro Dw hw Fw Nw l1w; (try k_lt l1w); (try k_sweep)))
  k_with "call type:list" => ((k_here; (with_reducible show wpAny _ _ (call (Value.type "list") [Value.ref _]) _ _ _); k_dflt (refine' list_ofTupM ?Fz308 ?Nz308 ?mz308 ?zz308 ?_; (case Fz308 => k_asm); (case Nz308 => k_asm); (case mz308 => k_mem); (case zz308 => first | assumption | (simp only [List.length_cons, List.length_nil]; omega)); k_whole); intro Dw kw hw Fw Nw l1w; (try k_lt l1w); (try k_sweep)))
  k_with "subscriptTail Name Slice ref ref" => ((k_here; (with_reducible show wpAny _ _ (subscriptTail _ (PySem.Expr.Slice (some _) none none _) (Value.ref _) (Value.ref _)) _ _ _); k_dflt (refine' slice_tupM ?Fz309 ?Nz309 ?mz309 ?zz309 ?_ ?sz309 ?tz309; (case Fz309 => k_asm); (case Nz309 => k_asm); (case mz309 => k_mem); (case zz309 => first | assumption | (simp only [List.length_cons, List.length_nil]; omega)); (case sz309 => with_unfolding_all rfl); (case tz309 => kmk_pure)); intro Dw hw Fw Nw l1w; (try k_lt l1w); (try k_sweep)))
  k_with "compareOp Eq ref none" => ((k_here; (with_reducible show wpAny _ _ (compareOp CmpOp.Eq (Value.ref _) Value.none) _ _ _); k_dflt (refine' eq_tup_none ?Nz310 ?mz310 ?uz310 ?_; (case Nz310 => k_asm); (case mz310 => k_mem); (case uz310 => k_units); k_whole)))
  k_with "compareOp Eq ref" => ((k_here; (with_reducible show wpAny _ _ (compareOp CmpOp.Eq (Value.ref _) Value.none) _ _ _); k_dflt (refine' eq_tup_none ?Nz311 ?mz311 ?uz311 ?_; (case Nz311 => k_asm); (case mz311 => k_mem); (case uz311 => k_units); k_whole)))
  k_with "k_mem" => (((repeat (first | exact List.Mem.head _ | assumption | refine' List.Mem.tail _ ?_ | exact List.mem_append_left _ (by assumption) | exact List.mem_append_left _ (List.Mem.head _) | refine' List.mem_append_right _ ?_)); done))
  k_with "binaryOp Add ref ref" => ((k_here; (with_reducible show wpAny _ _ (binaryOp Operator.Add (Value.ref _) (Value.ref _)) _ _ _); k_dflt (refine' add_tupM ?Fz313 ?Nz313 ?mz313 ?nz313 ?zz313 ?az313 ?bz313; (case Fz313 => k_asm); (case Nz313 => k_asm); (case mz313 => k_mem); (case nz313 => k_mem); (case zz313 => first | assumption | (simp only [List.length_cons, List.length_nil]; omega)); (case' az313 => intro e1w); (case' bz313 => (intro e1w Dw hw Fw Nw l1w; (try k_lt l1w); (try k_sweep))))))
  k_with "kqd_sub" => (((repeat (refine List.forall_mem_cons.mpr ⟨by k_mem, ?_⟩)); first | exact List.forall_mem_nil _ | (intro p9 h9; k_mem)))
  k_with "ktr_rel" => (first | assumption | exact tb_ltOf (by first | assumption | exact (And.right (by assumption)) | exact (And.right (And.right (by assumption))) | exact (And.right (And.right (And.right (by assumption)))) | exact (And.right (And.right (And.right (And.right (by assumption))))) | exact (And.right (And.right (And.right (And.right (And.right (by assumption)))))) | exact (And.right (And.right (And.right (And.right (And.right (And.right (by assumption))))))) | exact (And.right (And.right (And.right (And.right (And.right (And.right (And.right (by assumption)))))))) | exact (And.right (And.right (And.right (And.right (And.right (And.right (And.right (And.right (by assumption))))))))) | exact (And.right (And.right (And.right (And.right (And.right (And.right (And.right (And.right (And.right (by assumption)))))))))) | exact (And.right (And.right (And.right (And.right (And.right (And.right (And.right (And.right (And.right (And.right (by assumption)))))))))))))
  k_with "getMethod ref" => ((k_here; (with_reducible show wpAny _ _ (getMethod (Value.ref _) (Str.ofString "get") _) _ _ _); k_dflt (refine kdg_method (knd := PySem.intKind Pr _) (by k_asm) (by k_mem) (by k_asm) ?_)))
  k_with "call builtin:dict.get" => ((k_here; (try dsimp only [List.nil_append, List.cons_append]); (with_reducible show wpAny _ _ (call (Value.builtin _) [Value.ref _, Value.int _ _, _]) _ _ _); k_dflt (refine kdg_get2 (knd := PySem.intKind Pr _) (by k_asm) (by k_mem) (by k_asm) (by k_asm) (intKind_is _ _ _ _) _ (by assumption) ?_); (try dsimp only [Option.getD])))
  k_with "subscriptTail" => ((k_here; (with_reducible show wpAny _ _ (subscriptTail _ _ (Value.ref _) (Value.int _ _)) _ _ _); k_dflt (refine' list_itemM ?Nz318 ?mz318 ?xz318 ?kz318 ?zz318 ?_; (case Nz318 => k_asm); (case mz318 => k_mem); (case xz318 => assumption); (case kz318 => omega); (case zz318 => first | assumption | omega); k_whole)))
  k_with "call builtin:len" => ((k_here; (with_reducible show wpAny _ _ (call (Value.builtin "len") [Value.ref _]) _ _ _); k_dflt (refine' len_listM ?Nz319 ?mz319 ?zz319 ?_; (case Nz319 => k_asm); (case mz319 => k_mem); (case zz319 => first | assumption | omega); k_whole)))
  k_with "tb_rel" => (first | assumption | (refine' LV.mono ?hz320 ?sz320; (case hz320 => assumption); (case sz320 => kqd_sub)) | (refine' RowsIn.mono ?sz320 ?hz320; (case hz320 => assumption); (case sz320 => kqd_sub)) | (refine' LispAt.mono ?hz320 ?sz320; (case hz320 => assumption); (case sz320 => kqd_sub)) | (refine' RulesAt.mono ?hz320 ?sz320; (case hz320 => assumption); (case sz320 => kqd_sub)) | (refine' IntDict.mono ?hz320 ?sz320; (case hz320 => assumption); (case sz320 => kqd_sub)) | (refine' PlistsIn.mono ?hz320 ?sz320; (case hz320 => assumption); (case sz320 => kqd_sub)) | (refine' DatAll.mono ?sz320 ?hz320; (case hz320 => assumption); (case sz320 => kqd_sub)))
  k_with "eval ListComp" => ((k_here; lct_look; k_dflt (refine LCt.ListComp_T (F₀ := by k_asm) (by with_unfolding_all rfl) (by decide) (by rfl) (by decide) (by rfl) ?_); k_dflt lct_toSrc))
  k_with "CompSrcT" => ((k_here; k_dflt (refine LCt.CompSrcT.ledger (by rfl) (by k_asm) (by k_asm) (by k_mem) (by simp only [List.size_toArray, sizeLine_eq]; omega) ?_); intro gw))
  k_with "compareOp NotEq ref ref" => ((k_here; (with_reducible show wpAny _ _ (compareOp CmpOp.NotEq (Value.ref _) (Value.ref _)) _ _ _); k_dflt (refine' list_ne_nil ?Nz323 ?az323 ?bz323 ?uz323 ?_; (case Nz323 => k_asm); (case az323 => k_mem); (case bz323 => k_mem); (case uz323 => k_units); k_whole)))
  k_with "compareOp Eq ref ref" => ((k_here; (with_reducible show wpAny _ _ (compareOp CmpOp.Eq (Value.ref _) (Value.ref _)) _ _ _); k_dflt (refine' list_eq_nil ?Nz324 ?az324 ?bz324 ?uz324 ?_; (case Nz324 => k_asm); (case az324 => k_mem); (case bz324 => k_mem); (case uz324 => k_units); k_whole)))
  k_with "call ref" => ((k_here; (with_reducible show wpAny _ _ (call (Value.ref 50) [_, _]) _ _ _); k_dflt (refine' ctr_useT (number_of_ok ?mz325) ?Bz325 ?Fz325 ?Xz325 ?Nz325 ?Tz325 ?hz325 ?dpz325 ?uz325 ?Az325 ?fz325 ?kz325 ?_; (case Nz325 => k_asm); (case mz325 => tb_rel); (case Bz325 => k_asm); (case Fz325 => k_asm); (case Xz325 => k_asm); (case Tz325 => k_asm); (case hz325 => exact rfl); (case dpz325 => exact Nat.le_of_ble_eq_true rfl); (case uz325 => exact Nat.le_of_ble_eq_true rfl); (case Az325 => exact rfl); (case fz325 => exact rfl); (case kz325 => exact rfl); k_whole); (intro tw hw tkw Fw Nw); (try k_sweep); (try k_fold)))
  k_with "call ref" => ((k_here; (with_reducible show wpAny _ _ (call (Value.ref 64) [_, _]) _ _ _); k_dflt (refine' items_use ?vz326 ?Bz326 ?Fz326 ?Xz326 ?Nz326 ?Tz326 ?hz326 ?dpz326 ?uz326 ?Az326 ?fz326 ?kz326 ?_ ?_; (case Nz326 => k_asm); (case vz326 => tb_rel); (case Bz326 => k_asm); (case Fz326 => k_asm); (case Xz326 => k_asm); (case Tz326 => k_asm); (case hz326 => exact rfl); (case dpz326 => exact Nat.le_of_ble_eq_true rfl); (case uz326 => exact Nat.le_of_ble_eq_true rfl); (case Az326 => exact rfl); (case fz326 => exact rfl); (case kz326 => exact rfl)); (all_goals (first | ((with_reducible intro b4w k4w vs4w ks4w c4w hw tkw c5w c6w c7w l1w Fw Nw); (try (first | exact absurd c5w symD_ne_lstD | exact absurd c5w prD_ne_lstD | exact absurd c5w none_ne_lstD | exact absurd c5w tru_ne_lstD | exact absurd c5w int_ne_lstD | exact absurd c5w ((by assumption : ∀ ks b, _ ≠ lstD ks b) _ _))); (try (have hz4w := lst_len c6w c7w)); (try k_lt l1w); (try k_sweep); (try k_fold)) | ((with_reducible intro hw tkw c3w Fw Nw); (try (first | (obtain ⟨_, _, e9⟩ := c2 (by assumption); exact absurd e9 (c3w _ _)) | exact absurd rfl (c3w _ _))); (try k_sweep); (try k_fold))))))
  k_with "call ref" => ((k_here; (with_reducible show wpAny _ _ (call (Value.ref 71) [_, _]) _ _ _); k_dflt (refine' pair_use ?vz327 ?Bz327 ?Fz327 ?Xz327 ?Nz327 ?Tz327 ?hz327 ?dpz327 ?uz327 ?Az327 ?fz327 ?kz327 ?_ ?_; (case Nz327 => k_asm); (case vz327 => tb_rel); (case Bz327 => k_asm); (case Fz327 => k_asm); (case Xz327 => k_asm); (case Tz327 => k_asm); (case hz327 => exact rfl); (case dpz327 => exact Nat.le_of_ble_eq_true rfl); (case uz327 => exact Nat.le_of_ble_eq_true rfl); (case Az327 => exact rfl); (case fz327 => exact rfl); (case kz327 => exact rfl)); (all_goals (first | ((with_reducible intro b4w k4w t4w hw tkw c3w l1w Fw Nw); (try (first | exact absurd c3w symD_ne_prD | exact absurd c3w lstD_ne_prD | exact absurd c3w none_ne_prD | exact absurd c3w tru_ne_prD | exact absurd c3w int_ne_prD | exact absurd c3w (by assumption : _ ≠ prD))); (try k_lt l1w); (try k_sweep); (try k_fold)) | ((with_reducible intro hw tkw c3w Fw Nw); (try (first | exact absurd (c3 (by assumption)) c3w | exact absurd rfl c3w)); (try k_sweep); (try k_fold))))))
  k_with "call ref" => ((k_here; (with_reducible show wpAny _ _ (call (Value.ref 57) [_, Value.ref _]) _ _ _); k_dflt (refine' list_of_use ?mz328 ?zz328 ?Bz328 ?Fz328 ?Xz328 ?Nz328 ?Tz328 ?hz328 ?dpz328 ?uz328 ?Az328 ?fz328 ?kz328 ?_; (case Nz328 => k_asm); (case mz328 => k_mem); (case zz328 => first | assumption | omega | (simp only [List.length_cons, List.length_nil, List.length_take, List.length_append] <;> omega)); (case Bz328 => k_asm); (case Fz328 => k_asm); (case Xz328 => k_asm); (case Tz328 => k_asm); (case hz328 => exact rfl); (case dpz328 => exact Nat.le_of_ble_eq_true rfl); (case uz328 => exact Nat.le_of_ble_eq_true rfl); (case Az328 => exact rfl); (case fz328 => exact rfl); (case kz328 => exact rfl); k_whole); (intro b4w t4w k4w hw tkw l1w Fw Nw); (try k_lt l1w); (try k_sweep); (try k_fold)))
  k_with "compareOp Eq ref ref" => ((k_here; (with_reducible show wpAny _ _ (compareOp CmpOp.Eq (Value.ref _) (Value.ref _)) _ _ _); k_dflt (refine' eq_p3 ?Nz329 ?xz329 ?yz329 ?uz329 ?_; (case Nz329 => k_asm); (case xz329 => k_mem); (case yz329 => k_mem); (case uz329 => ke_room); k_whole)))
  k_with "CompRestT" => (refine stop_of ?_)
  k_with "compareOp NotEq ref ref" => ((k_here; (with_reducible show wpAny _ _ (compareOp CmpOp.NotEq (Value.ref _) _) _ _ _); k_dflt (refine' ne_lv2 ?Nz331 ?xz331 ?yz331 ?ez331 ?uz331 ?_; (case Nz331 => k_asm); (case yz331 => tb_rel); (case xz331 => first | exact lv_sym_of (by k_mem) (hsy (by assumption)) | exact LV.lst (by k_mem) (by refine' SymsIn.mono ?sz331 ?hz331; (case hz331 => assumption); (case sz331 => kqd_sub)) (by assumption)); (case ez331 => first | exact rfl | exact Eq.symm (by assumption)); (case uz331 => ke_room); k_whole)))
  k_with "compareOp NotEq" => (walk_at "compareOp NotEq ref ref")
  trivial
abbrev setM1 (x : Str) (v : Option Value) (m : Str → Option Value) : Str → Option Value := fun y => if y = x then v else m y
theorem sym_of {led : List (Addr × Obj)} {v : Value} {d : Dat} (hv : LV led v d) (h : 0 ≤ numD d) : d = symD (numD d) ∧ KeyOk (numD d) := by
  cases hv with
  | sym h1 h2 => rw [numD_sym]; exact ⟨rfl, h2⟩
  | lst h1 h2 h3 => rw [numD_lst] at h; omega
  | nil => exact absurd h (by decide)
  | tru => exact absurd h (by decide)
  | int i t => exact absurd h (by show ¬ (0 : Int) ≤ -1; decide)
  | pr h1 => exact absurd h (by show ¬ (0 : Int) ≤ -1; decide)
theorem one_true {d : Dat} {b1 b2 b3 : Bool} (c1 : b1 = true → 0 ≤ numD d) (c2 : b2 = true → ∃ ks c, d = lstD ks c) (c3 : b3 = true → d = prD) : ([b1, b2, b3].filter id).length ≤ 1 := by
  have e1 : ¬ (b1 = true ∧ b2 = true) := fun ⟨h1, h2⟩ => by
    obtain ⟨ks, c, e⟩ := c2 h2
    have := c1 h1
    rw [e, numD_lst] at this; omega
  have e2 : ¬ (b1 = true ∧ b3 = true) := fun ⟨h1, h2⟩ => by
    have := c1 h1
    rw [c3 h2] at this; exact absurd this (by show ¬ (0 : Int) ≤ -1; decide)
  have e3 : ¬ (b2 = true ∧ b3 = true) := fun ⟨h1, h2⟩ => by
    obtain ⟨ks, c, e⟩ := c2 h1
    exact lstD_ne_prD (e.symm.trans (c3 h2))
  cases b1 <;> cases b2 <;> cases b3 <;> simp_all
theorem lv_sym_of {led : List (Addr × Obj)} {a : Addr} {n : Nat} {t1 t2 : Tok} {d : Dat} (h : (a, tupO [.str "symbol" t1, .int (numD d) t2] n) ∈ led) (g : d = symD (numD d) ∧ KeyOk (numD d)) : LV led (.ref a) d := by
  rw [g.1]
  have := LV.sym h g.2
  exact this
theorem bools_at {b1 b2 b3 : Bool} : ∀ (i : Nat) (v : Value), ([.bool b1, .bool b2, .bool b3] : List Value)[i]? = some v → ∃ b, v = .bool b ∧ [b1, b2, b3][i]? = some b
  | 0, _, e => ⟨b1, (Option.some.inj e).symm, rfl⟩
  | 1, _, e => ⟨b2, (Option.some.inj e).symm, rfl⟩
  | 2, _, e => ⟨b3, (Option.some.inj e).symm, rfl⟩
  | n + 3, _, e => nomatch e
theorem inv_yes {l : List Bool} {i n : Nat} (hb : l[i]? = some true) (h : n ≤ ((l.take i).filter id).length) : n + 1 ≤ ((l.take (i + 1)).filter id).length := by
  rw [List.take_add_one, hb, List.filter_append, List.length_append]
  simpa using h
theorem inv_no {l : List Bool} {i n : Nat} (h : n ≤ ((l.take i).filter id).length) : n ≤ ((l.take (i + 1)).filter id).length := by
  rw [List.take_add_one, List.filter_append, List.length_append]
  omega
/-- behind the three sorts -/
inductive MidX (h₀ : Heap) (L : Addr) (s₁ : Shared) (led : List (Addr × Obj)) (d : Dat) (m : Str → Option Value) (s : Shared) : Prop where
  | mk (h : Heap) (tk : Nat) (D : Addr) (kD : Nat) (b1 b2 b3 : Bool) : (s = { s₁ with heap := h, toks := tk }) →
    (Fr h₀ L h (setM1 (Str.ofString "sorts") (some (.ref D)) m)) →
    (News h₀ L h ((D, listOf [.bool b1, .bool b2, .bool b3].toArray kD) :: led)) →
    ((b1 = true → 0 ≤ numD d)) →
    ((b2 = true → ∃ ks c, d = lstD ks c)) →
    ((b3 = true → d = prD)) → MidX h₀ L s₁ led d m s
theorem cutX {M : Model} {A : Around} {E : Value → Shared → Prop} {s : Shared} {env : Env} {Q : Flow → Shared → Prop} {h₀ : Heap} {L : Addr} {m : Str → Option Value} {l : List Stmt} (led : List (Addr × Obj)) (d : Dat) (_F : Fr h₀ L s.heap m)
    (h1 : wpAny M A (execs (l.take 1) env) (CutPost (MidX h₀ L s led d m) Q) E s) (h2 : ∀ s', MidX h₀ L s led d m s' → wpAny M A (execs (l.drop 1) env) Q E s') : wpAny M A (execs l env) Q E s := cut_at 1 _ h1 h2
def Same (h₀ : Heap) (L : Addr) (s₁ : Shared) (m : Str → Option Value) (news : List (Addr × Obj)) (s : Shared) : Prop := ∃ (h : Heap) (tk : Nat), s = { s₁ with heap := h, toks := tk } ∧ Fr h₀ L h m ∧ News h₀ L h news
theorem cutY {M : Model} {A : Around} {E : Value → Shared → Prop} {s : Shared} {env : Env} {Q : Flow → Shared → Prop} {h₀ : Heap} {L : Addr} {m : Str → Option Value} {news : List (Addr × Obj)} {l : List Stmt} (k : Nat) (_F : Fr h₀ L s.heap m) (_N : News h₀ L s.heap news)
    (h1 : wpAny M A (execs (l.take k) env) (CutPost (Same h₀ L s m news) Q) E s) (h2 : ∀ s', Same h₀ L s m news s' → wpAny M A (execs (l.drop k) env) Q E s') : wpAny M A (execs l env) Q E s := cut_at k _ h1 h2
set_option maxHeartbeats 4000000 in
theorem right_ok {w : World} {led : List (Addr × Obj)} {li pd : Addr} {fi : Int} {v : Value} {d : Dat} (hl' : LispAt w led li fi pd) (hv : LV led v d) :
    Ctr w 700 192 [.ref li, v] led (fun r led' => led' = led ∧ r = .bool true) := by
  have hl := hl'
  obtain ⟨dl, t1, t2, t3, t4, tf, hl1, hl2⟩ := hl
  refine ctr_of fun mean mg mb env outer A₀ base h₀ L m s Q hf hk B F X N T ret => ?_
  k_dflt k_enter
  refine cutX led d Fw ?_ ?_
  · simp only [List.take_succ_cons, List.take_zero]
    try k_fold
    k_steps
    · exact cut_next ⟨_, _, _, _, _, false, false, rfl, by assumption, cb_drop (by assumption) (by kqd_sub), fun e => of_decide_eq_true e, (fun e => nomatch e), (fun e => nomatch e)⟩
    · exact cut_next ⟨_, _, _, _, _, false, true, rfl, by assumption, cb_drop (by assumption) (by kqd_sub), fun e => of_decide_eq_true e, (fun e => nomatch e), fun _ => by assumption⟩
    · exact cut_next ⟨_, _, _, _, _, true, false, rfl, by assumption, cb_drop (by assumption) (by kqd_sub), fun e => of_decide_eq_true e, fun _ => ⟨_, _, by assumption⟩, (fun e => nomatch e)⟩
    · exact absurd (Eq.trans (Eq.symm (by assumption : d = prD)) (by assumption : d = lstD _ _)) prD_ne_lstD
  · rintro s5 ⟨h5, tk5, D5, k5, b1, b2, b3, rfl, F5, N5, c1, c2, c3⟩
    have hsy : b1 = true → d = symD (numD d) ∧ KeyOk (numD d) := fun e => sym_of hv (c1 e)
    have hone := one_true c1 c2 c3
    simp only [List.drop_succ_cons, List.drop_zero]
    refine cutY 1 F5 N5 ?_ ?_
    · simp only [List.take_succ_cons, List.take_zero]
      try k_fold
      k_steps
      unfold Stop
      refine compT_indK (fun i ys => ys.length ≤ (([b1, b2, b3].take i).filter id).length) (Nat.le_refl _) ?_ ?_
      · rintro i ys v9 I9 oI9 C9 oC9 D9 m9 h9 tk9 E9 hi hinv hv9 hC9 hx9 F9 N9 off9 ne9
        obtain ⟨b9, rfl, hb9⟩ := bools_at i v9 (by simpa using hv9)
        cases b9
        all_goals k_steps
        · exact compEnd_same (by assumption) (by assumption) (fun _ h => h) off9 (.inr ⟨_, by k_mem, rfl, _, rfl⟩) (inv_no hinv)
        · exact compEnd_same (by assumption) (by assumption) (fun _ h => h) off9 (.inr ⟨_, by k_mem, rfl, _, rfl⟩) (by rw [List.length_append]; exact inv_yes hb9 hinv)
      · intro ys hinv
        have hy9 : ys.length ≤ 1 := Nat.le_trans hinv (by simpa using hone)
        k_steps
        all_goals exact cut_next ⟨_, _, rfl, by assumption, cb_drop (by assumption) (fun p hp => by k_mem)⟩
    · rintro s6 ⟨h6, tk6, rfl, F6, N6⟩
      simp only [List.drop_succ_cons, List.drop_zero]
      refine cutY 1 F6 N6 ?_ ?_
      · simp only [List.take_succ_cons, List.take_zero]
        try k_fold
        k_steps
        all_goals exact cut_next ⟨_, _, rfl, by assumption, cb_drop (by assumption) (fun p hp => by k_mem)⟩
      · rintro s7 ⟨h7, tk7, rfl, F7, N7⟩
        simp only [List.drop_succ_cons, List.drop_zero]
        try k_fold
        k_steps
        · exact ret _ _ _ _ ⟨rfl, rfl⟩ (by k_asm) (cb_drop (by assumption) (by kqd_sub))
        · cases b3 with
          | false => exact ret _ _ _ _ ⟨rfl, rfl⟩ (by k_asm) (cb_drop (by assumption) (by kqd_sub))
          | true => first | contradiction | simp_all
end
section
theorem words_D17_1 : True := by
  k_with_none
  k_with "k_enter" => (first | (refine' code_def ?k1z351 ?k2z351 ?k3z351 ?k4z351 ?k5z351 ?kAz351 ?kFz351 ?kKz351 ?k6z351 ?k7z351 ?k8z351 ?k9z351 ?kBz351 ?_ ?c2z351 ?c3z351 ?c4z351 ?c5z351; (case kAz351 => exact rfl); (case kFz351 => first | exact rfl | assumption); (case kKz351 => first | exact rfl | assumption); (case k1z351 => k_asm); (case k2z351 => k_asm); (case k3z351 => k_asm); (case k4z351 => k_asm); (case k5z351 => k_asm); (case k6z351 => k_is); (case k7z351 => k_is); (case k8z351 => k_room); (case k9z351 => first | exact BindsTo.of_eq rfl | exact binds_K (by k_in) rfl (by k_is) rfl rfl rfl | fail "k_enter: no rule for these arguments"); (case c5z351 => decide); (case kBz351 => exact locs rfl); (case c2z351 => exact rfl); (case c3z351 => exact rfl); (case c4z351 => exact rfl); k_whole; intro gw Lw hw FGw Fw Nw Bw Xw Tw; (try dsimp only); (try k_lift Bw); (try k_fold)) | (refine' code_defC ?k1z351 ?k2z351 ?k3z351 ?k4z351 ?k5z351 ?kAz351 ?kFz351 ?kKz351 ?k6z351 ?k7z351 ?k8z351 ?k9z351 ?kBz351 ?kDz351 ?_ ?c2z351 ?c3z351 ?c4z351; (case kAz351 => exact rfl); (case kFz351 => first | exact rfl | assumption); (case kKz351 => first | exact rfl | assumption); (case k1z351 => k_asm); (case k2z351 => k_asm); (case k3z351 => k_asm); (case k4z351 => k_asm); (case k5z351 => k_asm); (case k6z351 => k_is); (case k7z351 => k_is); (case k8z351 => k_room); (case k9z351 => first | exact BindsTo.of_eq rfl | exact binds_K (by k_in) rfl (by k_is) rfl rfl rfl | fail "k_enter: no rule for these arguments"); (case kBz351 => exact rfl); (case kDz351 => decide +kernel); (case c2z351 => exact rfl); (case c3z351 => exact rfl); (case c4z351 => exact rfl); k_whole; intro gw Lw hw tkw cellsw FGw Fw Nw Yw Bw Xw Tw l1w; (try k_lt l1w); k_cells Yw; (try simp only [List.cons_append, List.nil_append] at Nw); (try dsimp only); (try k_lift Bw); (try k_fold)))
  k_with "k_ne" => (refine neN ?_; (try dsimp only); first | with_reducible assumption | with_reducible exact Ne.symm (by assumption) | exact (by k_extra "nes") | exact Ne.symm (by k_extra "nes") | exact Nat.ne_of_lt (by k_extra "lt") | exact Nat.ne_of_gt (by k_extra "lt") | omega)
  k_with "lt" => (first | with_reducible assumption | with_reducible exact And.left (by assumption) | with_reducible exact And.left (And.right (by assumption)) | with_reducible exact And.left (And.right (And.right (by assumption))) | with_reducible exact And.left (And.right (And.right (And.right (by assumption)))) | with_reducible exact And.left (And.right (And.right (And.right (And.right (by assumption))))) | with_reducible exact And.left (And.right (And.right (And.right (And.right (And.right (by assumption)))))) | with_reducible exact And.left (And.right (And.right (And.right (And.right (And.right (And.right (by assumption))))))) | with_reducible exact And.left (And.right (And.right (And.right (And.right (And.right (And.right (And.right (by assumption)))))))) | with_reducible exact And.left (And.right (And.right (And.right (And.right (And.right (And.right (And.right (And.right (by assumption))))))))) | with_reducible exact And.left (And.right (And.right (And.right (And.right (And.right (And.right (And.right (And.right (And.right (by assumption)))))))))) | with_reducible exact And.left (And.right (And.right (And.right (And.right (And.right (And.right (And.right (And.right (And.right (And.right (by assumption))))))))))) | with_reducible exact And.left (And.right (And.right (And.right (And.right (And.right (And.right (And.right (And.right (And.right (And.right (And.right (by assumption)))))))))))) | with_reducible exact And.left (And.right (And.right (And.right (And.right (And.right (And.right (And.right (And.right (And.right (And.right (And.right (And.right (by assumption))))))))))))) | with_reducible exact And.left (And.right (And.right (And.right (And.right (And.right (And.right (And.right (And.right (And.right (And.right (And.right (And.right (And.right (by assumption)))))))))))))) | with_reducible exact And.left (And.right (And.right (And.right (And.right (And.right (And.right (And.right (And.right (And.right (And.right (And.right (And.right (And.right (And.right (by assumption))))))))))))))) | with_reducible exact And.left (And.right (And.right (And.right (And.right (And.right (And.right (And.right (And.right (And.right (And.right (And.right (And.right (And.right (And.right (And.right (by assumption)))))))))))))))) | with_reducible exact And.right (by assumption) | with_reducible exact And.right (And.right (by assumption)) | with_reducible exact And.right (And.right (And.right (by assumption))) | with_reducible exact And.right (And.right (And.right (And.right (by assumption)))) | with_reducible exact And.right (And.right (And.right (And.right (And.right (by assumption))))) | with_reducible exact And.right (And.right (And.right (And.right (And.right (And.right (by assumption)))))) | with_reducible exact And.right (And.right (And.right (And.right (And.right (And.right (And.right (by assumption))))))) | with_reducible exact And.right (And.right (And.right (And.right (And.right (And.right (And.right (And.right (by assumption)))))))) | with_reducible exact And.right (And.right (And.right (And.right (And.right (And.right (And.right (And.right (And.right (by assumption))))))))))
  k_with "nes" => (first | with_reducible exact And.left (by assumption) | with_reducible exact And.left (And.right (by assumption)) | with_reducible exact And.left (And.right (And.right (by assumption))) | with_reducible exact And.left (And.right (And.right (And.right (by assumption)))) | with_reducible exact And.left (And.right (And.right (And.right (And.right (by assumption))))) | with_reducible exact And.left (And.right (And.right (And.right (And.right (And.right (by assumption)))))) | with_reducible exact And.right (by assumption) | with_reducible exact And.right (And.right (by assumption)) | with_reducible exact And.right (And.right (And.right (by assumption))) | with_reducible exact And.right (And.right (And.right (And.right (by assumption)))) | with_reducible exact And.right (And.right (And.right (And.right (And.right (by assumption))))))
  k_with "subscriptTail" => ((k_here; (with_reducible show wpAny _ _ (subscriptTail _ _ (Value.ref _) (Value.int 0 _)) _ _ _); k_dflt (refine' tup_head ?Nz334 ?mz334 ?_; (case Nz334 => k_asm); (case mz334 => k_mem); k_whole)))
  k_with "call type:tuple" => ((k_here; (with_reducible show wpAny _ _ (call (Value.type "tuple") [Value.ref _]) _ _ _); k_dflt (refine' tuple_ofM ?Fz335 ?Nz335 ?mz335 ?zz335 ?_; (case Fz335 => k_asm); (case Nz335 => k_asm); (case mz335 => k_mem); (case zz335 => first | assumption | (simp only [List.length_cons, List.length_nil]; omega)); k_whole); intro Dw hw Fw Nw l1w; (try k_lt l1w); (try k_sweep)))
  k_with "call type:list" => ((k_here; (with_reducible show wpAny _ _ (call (Value.type "list") [Value.ref _]) _ _ _); k_dflt (refine' list_ofTupM ?Fz336 ?Nz336 ?mz336 ?zz336 ?_; (case Fz336 => k_asm); (case Nz336 => k_asm); (case mz336 => k_mem); (case zz336 => first | assumption | (simp only [List.length_cons, List.length_nil]; omega)); k_whole); intro Dw kw hw Fw Nw l1w; (try k_lt l1w); (try k_sweep)))
  k_with "subscriptTail Name Slice ref ref" => ((k_here; (with_reducible show wpAny _ _ (subscriptTail _ (PySem.Expr.Slice (some _) none none _) (Value.ref _) (Value.ref _)) _ _ _); k_dflt (refine' slice_tupM ?Fz337 ?Nz337 ?mz337 ?zz337 ?_ ?sz337 ?tz337; (case Fz337 => k_asm); (case Nz337 => k_asm); (case mz337 => k_mem); (case zz337 => first | assumption | (simp only [List.length_cons, List.length_nil]; omega)); (case sz337 => with_unfolding_all rfl); (case tz337 => kmk_pure)); intro Dw hw Fw Nw l1w; (try k_lt l1w); (try k_sweep)))
  k_with "compareOp Eq ref none" => ((k_here; (with_reducible show wpAny _ _ (compareOp CmpOp.Eq (Value.ref _) Value.none) _ _ _); k_dflt (refine' eq_tup_none ?Nz338 ?mz338 ?uz338 ?_; (case Nz338 => k_asm); (case mz338 => k_mem); (case uz338 => k_units); k_whole)))
  k_with "compareOp Eq ref" => ((k_here; (with_reducible show wpAny _ _ (compareOp CmpOp.Eq (Value.ref _) Value.none) _ _ _); k_dflt (refine' eq_tup_none ?Nz339 ?mz339 ?uz339 ?_; (case Nz339 => k_asm); (case mz339 => k_mem); (case uz339 => k_units); k_whole)))
  k_with "k_mem" => (((repeat (first | exact List.Mem.head _ | assumption | refine' List.Mem.tail _ ?_ | exact List.mem_append_left _ (by assumption) | exact List.mem_append_left _ (List.Mem.head _) | refine' List.mem_append_right _ ?_)); done))
  k_with "binaryOp Add ref ref" => ((k_here; (with_reducible show wpAny _ _ (binaryOp Operator.Add (Value.ref _) (Value.ref _)) _ _ _); k_dflt (refine' add_tupM ?Fz341 ?Nz341 ?mz341 ?nz341 ?zz341 ?az341 ?bz341; (case Fz341 => k_asm); (case Nz341 => k_asm); (case mz341 => k_mem); (case nz341 => k_mem); (case zz341 => first | assumption | (simp only [List.length_cons, List.length_nil]; omega)); (case' az341 => intro e1w); (case' bz341 => (intro e1w Dw hw Fw Nw l1w; (try k_lt l1w); (try k_sweep))))))
  k_with "kqd_sub" => (((repeat (refine List.forall_mem_cons.mpr ⟨by k_mem, ?_⟩)); first | exact List.forall_mem_nil _ | (intro p9 h9; k_mem)))
  k_with "ktr_rel" => (first | assumption | exact tb_ltOf (by first | assumption | exact (And.right (by assumption)) | exact (And.right (And.right (by assumption))) | exact (And.right (And.right (And.right (by assumption)))) | exact (And.right (And.right (And.right (And.right (by assumption))))) | exact (And.right (And.right (And.right (And.right (And.right (by assumption)))))) | exact (And.right (And.right (And.right (And.right (And.right (And.right (by assumption))))))) | exact (And.right (And.right (And.right (And.right (And.right (And.right (And.right (by assumption)))))))) | exact (And.right (And.right (And.right (And.right (And.right (And.right (And.right (And.right (by assumption))))))))) | exact (And.right (And.right (And.right (And.right (And.right (And.right (And.right (And.right (And.right (by assumption)))))))))) | exact (And.right (And.right (And.right (And.right (And.right (And.right (And.right (And.right (And.right (And.right (by assumption)))))))))))))
  k_with "getMethod ref" => ((k_here; (with_reducible show wpAny _ _ (getMethod (Value.ref _) (Str.ofString "get") _) _ _ _); k_dflt (refine kdg_method (knd := PySem.intKind Pr _) (by k_asm) (by k_mem) (by k_asm) ?_)))
  k_with "call builtin:dict.get" => ((k_here; (try dsimp only [List.nil_append, List.cons_append]); (with_reducible show wpAny _ _ (call (Value.builtin _) [Value.ref _, Value.int _ _, _]) _ _ _); k_dflt (refine kdg_get2 (knd := PySem.intKind Pr _) (by k_asm) (by k_mem) (by k_asm) (by k_asm) (intKind_is _ _ _ _) _ (by assumption) ?_); (try dsimp only [Option.getD])))
  k_with "subscriptTail" => ((k_here; (with_reducible show wpAny _ _ (subscriptTail _ _ (Value.ref _) (Value.int _ _)) _ _ _); k_dflt (refine' list_itemM ?Nz346 ?mz346 ?xz346 ?kz346 ?zz346 ?_; (case Nz346 => k_asm); (case mz346 => k_mem); (case xz346 => assumption); (case kz346 => omega); (case zz346 => first | assumption | omega); k_whole)))
  k_with "call builtin:len" => ((k_here; (with_reducible show wpAny _ _ (call (Value.builtin "len") [Value.ref _]) _ _ _); k_dflt (refine' len_listM ?Nz347 ?mz347 ?zz347 ?_; (case Nz347 => k_asm); (case mz347 => k_mem); (case zz347 => first | assumption | omega); k_whole)))
  k_with "tb_rel" => (first | assumption | (refine' LV.mono ?hz348 ?sz348; (case hz348 => assumption); (case sz348 => kqd_sub)) | (refine' RowsIn.mono ?sz348 ?hz348; (case hz348 => assumption); (case sz348 => kqd_sub)) | (refine' LispAt.mono ?hz348 ?sz348; (case hz348 => assumption); (case sz348 => kqd_sub)) | (refine' RulesAt.mono ?hz348 ?sz348; (case hz348 => assumption); (case sz348 => kqd_sub)) | (refine' IntDict.mono ?hz348 ?sz348; (case hz348 => assumption); (case sz348 => kqd_sub)) | (refine' PlistsIn.mono ?hz348 ?sz348; (case hz348 => assumption); (case sz348 => kqd_sub)) | (refine' DatAll.mono ?sz348 ?hz348; (case hz348 => assumption); (case sz348 => kqd_sub)))
  k_with "getMethod ref" => ((k_here; (with_reducible show wpAny _ _ (getMethod (Value.ref _) (Str.ofString "index") _) _ _ _); k_dflt (refine' tupIdx_method ?Fz349 ?Xz349 ?lz349 ?_; (case Fz349 => k_asm); (case Xz349 => k_asm); (case lz349 => k_is); k_whole)))
  k_with "call builtin:tuple.index" => ((k_here; (try dsimp only [List.nil_append, List.cons_append]); (with_reducible show wpAny _ _ (call (Value.builtin _) [Value.ref _, Value.str _ _]) _ _ _); k_dflt (refine' tupIdx_call ?Fz350 ?Xz350 ?lz350 ?sz350 ?jz350 ?nz350 ?_; (case Fz350 => k_asm); (case Xz350 => k_asm); (case lz350 => k_is); (case sz350 => exact .cons _ _ (.cons _ _ (.cons _ _ (.cons _ _ (.cons _ _ .nil))))); (case jz350 => assumption); (case nz350 => exact names_no (by assumption)); k_whole)))
  trivial
set_option maxHeartbeats 4000000 in
theorem number_ok {w : World} {led : List (Addr × Obj)} {li pd : Addr} {fi : Int} {nm : Str} {j : Nat} {t : Tok} (hl' : LispAt w led li fi pd) (hj : namesL[j]? = some nm) :
    Ctr w 900 36 [.ref li, .str nm t] led (fun r led' => led' = led ∧ ∃ u, r = .int (fi + (j : Int)) u) := by
  have hl := hl'
  obtain ⟨dl, t1, t2, t3, t4, tf, hl1, hl2⟩ := hl
  refine ctr_of fun mean mg mb env outer A₀ base h₀ L m s Q hf hk B F X N T ret => ?_
  k_dflt k_enter
  k_steps
  exact ret _ _ _ _ ⟨rfl, _, rfl⟩ (by k_asm) (cb_drop (by assumption) (by kqd_sub))
theorem names0 : namesL[(0 : Nat)]? = some (Str.ofString "category") := rfl
theorem names1 : namesL[(1 : Nat)]? = some (Str.ofString "front-sticky") := rfl
theorem names2 : namesL[(2 : Nat)]? = some (Str.ofString "rear-nonsticky") := rfl
theorem names3 : namesL[(3 : Nat)]? = some (Str.ofString "evaporate") := rfl
theorem names4 : namesL[(4 : Nat)]? = some (Str.ofString "priority") := rfl
end
section
theorem getD_app (a b : List (Int × Dat)) (k : Int) : getD (a ++ b) k = match getD a k with | some d => some d | none => getD b k := by
  unfold getD
  rw [List.find?_append]
  cases a.find? (fun p => decide (p.1 = k)) <;> simp
theorem getD_keys {rows : List (Int × Dat)} {k : Int} (h : ∀ q ∈ rows, q.1 ≠ k) : getD rows k = none := getD_none h
theorem own_get {ro : List (Int × Dat)} {fi : Int} (h : ∀ q ∈ ro, KeyOk q.1) (hf : fi < 40) : getD ro fi = none := getD_none fun q hq => by
  have := (h q hq).1
  omega
theorem cat_get {fi k : Int} {rc : List (Int × Dat)} (h : CatOk fi rc) (hf : fi < 40) (hk : 100 ≤ k) : getD rc k = none := getD_none fun q hq => by
  rcases h with rfl | ⟨j, _, _, rfl⟩ | rfl
  · cases hq
  · rw [List.mem_singleton.mp hq]; show fi ≠ k; omega
  · rw [List.mem_singleton.mp hq]; show fi ≠ k; omega
theorem rp_get {fi k : Int} {ro rc rp : List (Int × Dat)} (h : CatOk fi rc) (hf : fi < 40) (hk : 100 ≤ k) (hp : rp = ro ++ rc ∨ rp = rc ++ ro) : getD rp k = getD ro k := by
  rcases hp with rfl | rfl
  · rw [getD_app, cat_get h hf hk]; cases getD ro k <;> rfl
  · rw [getD_app, cat_get h hf hk]
theorem rp_cat {fi : Int} {ro rc rp : List (Int × Dat)} (h : ∀ q ∈ ro, KeyOk q.1) (hf : fi < 40) (hp : rp = ro ++ rc ∨ rp = rc ++ ro) : getD rp fi = getD rc fi := by
  rcases hp with rfl | rfl
  · rw [getD_app, own_get h hf]
  · rw [getD_app, own_get h hf]; cases getD rc fi <;> rfl
theorem getD_one {k : Int} {d : Dat} : getD [(k, d)] k = some d := by simp [getD]
section
variable {fi k j : Int} {ro rc rp : List (Int × Dat)} {pl : Int → List (Int × Dat)} {d : Dat}
theorem vi_own (hc : CatOk fi rc) (hf : fi < 40) (hk : 100 ≤ k) (hp : rp = ro ++ rc ∨ rp = rc ++ ro) (h : getD ro k = some d) : valueIn rp fi pl k = d := by
  unfold valueIn
  rw [rp_get hc hf hk hp, h]
theorem vi_none (hK : ∀ q ∈ ro, KeyOk q.1) (hf : fi < 40) (hk : 100 ≤ k) (hp : rp = ro ++ [] ∨ rp = [] ++ ro) (h : getD ro k = none) : valueIn rp fi pl k = .none := by
  unfold valueIn
  rw [rp_get (.inl rfl) hf hk hp, h, rp_cat hK hf hp]
  rfl
theorem vi_five (hK : ∀ q ∈ ro, KeyOk q.1) (hf : fi < 40) (hk : 100 ≤ k) (hp : rp = ro ++ [(fi, .int 5)] ∨ rp = [(fi, .int 5)] ++ ro) (h : getD ro k = none) : valueIn rp fi pl k = .none := by
  unfold valueIn
  rw [rp_get (.inr (.inr rfl)) hf hk hp, h, rp_cat hK hf hp, getD_one]
  exact if_neg (by show ¬ (0 : Int) ≤ -1; decide)
theorem vi_sym (hK : ∀ q ∈ ro, KeyOk q.1) (hf : fi < 40) (hk : 100 ≤ k) (h0 : 100 ≤ j) (h1 : j < 105) (hp : rp = ro ++ [(fi, symD j)] ∨ rp = [(fi, symD j)] ++ ro) (h : getD ro k = none) : valueIn rp fi pl k = (getD (pl j) k).getD .none := by
  unfold valueIn
  rw [rp_get (.inr (.inl ⟨j, h0, h1, rfl⟩)) hf hk hp, h, rp_cat hK hf hp, getD_one]
  simp only [numD_sym]
  rw [if_pos (by omega)]
end
theorem lv_sym_inv {led : List (Addr × Obj)} {v : Value} {j : Int} (h : LV led v (symD j)) : ∃ a n t1 t2, v = .ref a ∧ (a, tupO [.str "symbol" t1, .int j t2] n) ∈ led := by
  generalize he : symD j = d at h
  cases h with
  | nil => simp [symD] at he
  | sym h1 h2 => rw [symD_inj he]; exact ⟨_, _, _, _, rfl, h1⟩
  | lst h1 h2 h4 => exact absurd he symD_ne_lstD
  | tru => simp [symD] at he
  | int i t => simp [symD] at he
  | pr h1 => exact absurd he symD_ne_prD
theorem lv_int_inv {led : List (Addr × Obj)} {v : Value} {i : Int} (h : LV led v (.int i)) : ∃ t, v = .int i t := by
  generalize he : Dat.int i = d at h
  cases h with
  | nil => simp at he
  | sym h1 h2 => simp [symD] at he
  | lst h1 h2 h4 => simp [lstD] at he
  | tru => simp at he
  | int i t => cases he; exact ⟨_, rfl⟩
  | pr h1 => simp [prD] at he
theorem rows_nil {led : List (Addr × Obj)} {vs : List Value} (h : RowsIn led vs []) : vs = [] := by cases h; rfl
theorem rows_sym {led : List (Addr × Obj)} {vs : List Value} {k j : Int} (h : RowsIn led vs [(k, symD j)]) : ∃ b n t a na t1 t2, vs = [.ref b] ∧ (b, tupO [.int k t, .ref a] n) ∈ led ∧ (a, tupO [.str "symbol" t1, .int j t2] na) ∈ led := by
  cases h with
  | cons h1 h2 h3 =>
    obtain ⟨a, n, t1, t2, rfl, h4⟩ := lv_sym_inv h2
    rw [rows_nil h3]
    exact ⟨_, _, _, _, _, _, _, rfl, h1, h4⟩
theorem rows_five {led : List (Addr × Obj)} {vs : List Value} {k i : Int} (h : RowsIn led vs [(k, .int i)]) : ∃ b n t u, vs = [.ref b] ∧ (b, tupO [.int k t, .int i u] n) ∈ led := by
  cases h with
  | cons h1 h2 h3 =>
    obtain ⟨t, rfl⟩ := lv_int_inv h2
    rw [rows_nil h3]
    exact ⟨_, _, _, _, rfl, h1⟩
theorem ne_sym5 {prog : Program} {w : World} {A : Around} {E : Value → Shared → Prop} {s : Shared} {h₀ : Heap} {L : Addr} {news : List (Addr × Obj)} {a : Addr} {n : Nat} {t1 t2 u : Tok} {j k : Int} {Q : Value → Shared → Prop} (N : News h₀ L s.heap news) (hx : (a, tupO [.str "symbol" t1, .int j t2] n) ∈ news)
    (hu : A.units + 64 < cLine) (h : Q (.bool true) s) : wpAny (model prog w) A (compareOp .NotEq (.ref a) (.int k u)) Q E s :=
  ne_dat N (.tuple hx (.cons (.str _ _) (.cons (.int _ _) .nil))) (.int k u) (ok_sym j) rfl hu (fun e => by simp at e) (fun _ => h)
theorem Upto.trans {ts : List Str} {m₀ m₁ m₂ : Str → Option Value} (h : Upto ts m₀ m₁) (g : Upto ts m₁ m₂) : Upto ts m₀ m₂ := fun y hy => (g y hy).trans (h y hy)
theorem Upto.top {ts : List Str} {m₀ m : Str → Option Value} {x : Str} {v : Option Value} (e : m₀ x = v) (h : Upto ts m₀ m) : Upto ts m₀ (fun y => if y = x then v else m y) := fun y hy => by
  by_cases hx : y = x
  · simp only [if_pos hx]; rw [hx, e]
  · simp only [if_neg hx]; exact h y hy
theorem Upto.mono {ts us : List Str} {m₀ m : Str → Option Value} (s : ∀ y ∈ ts, y ∈ us) (h : Upto ts m₀ m) : Upto us m₀ m := fun y hy => h y fun hh => hy (s y hh)
theorem chain_top {m : Str → Option Value} {x : Str} {v : Option Value} (h : m x = v) : m = fun y => if y = x then v else m y := by
  funext y
  by_cases hx : y = x
  · rw [if_pos hx, hx, h]
  · rw [if_neg hx]
/-- behind the loop over the numbers -/
inductive MidB (h₀ : Heap) (L : Addr) (s₁ : Shared) (dk ru : Addr) (m : Str → Option Value) (led : List (Addr × Obj)) (s : Shared) : Prop where
  | mk (h : Heap) (tk : Nat) (m' : Str → Option Value) : (s = { s₁ with heap := h, toks := tk }) →
    (Fr h₀ L h (fun y => if y = (Str.ofString "deck") then some (.ref dk) else if y = (Str.ofString "rules") then some (.ref ru) else m' y)) →
    (Upto lapN (topM dk ru m) m') →
    (News h₀ L h led) → MidB h₀ L s₁ dk ru m led s
/-- what membership says -/
def Due (d : Dat) (k : Int) (b : Bool) : Prop := (d = .none ∧ b = false) ∨ (∃ ks c, d = lstD ks c ∧ b = decide (k ∈ ks)) ∨ (d ≠ .none ∧ (∀ ks c, d ≠ lstD ks c) ∧ b = true)
theorem lstD_inj {ks ls : List Int} {b c : Bool} (h : lstD ks b = lstD ls c) (k : Int) : k ∈ ks ↔ k ∈ ls := by
  have key : ∀ (ks : List Int) (b : Bool), symD k ∈ ks.map symD ++ tailD b ↔ k ∈ ks := by
    intro ks b
    constructor
    · intro hh
      rcases List.mem_append.mp hh with hh | hh
      · obtain ⟨j, hj, e⟩ := List.mem_map.mp hh
        rw [← symD_inj e]; exact hj
      · cases b with
        | false => simp [tailD] at hh
        | true => simp [tailD, symD] at hh
    · intro hh
      exact List.mem_append_left _ (List.mem_map.mpr ⟨k, hh, rfl⟩)
  have e : ks.map symD ++ tailD b = ls.map symD ++ tailD c := by
    simp only [lstD, Dat.tuple.injEq, List.cons.injEq, true_and] at h
    exact h
  rw [← key ks b, ← key ls c, e]
theorem due_one {d : Dat} {k : Int} {b c : Bool} (h : Due d k b) (g : Due d k c) : b = c := by
  rcases h with ⟨h1, h2⟩ | ⟨ks, u, h1, h2⟩ | ⟨h1, h3, h2⟩ <;> rcases g with ⟨g1, g2⟩ | ⟨ls, u', g1, g2⟩ | ⟨g1, g3, g2⟩
  · rw [h2, g2]
  · exact absurd (h1.symm.trans g1) none_ne_lstD
  · exact absurd h1 g1
  · exact absurd (g1.symm.trans h1) none_ne_lstD
  · rw [h2, g2, decide_eq_decide]; exact lstD_inj (h1.symm.trans g1) k
  · exact absurd h1 (g3 _ _)
  · exact absurd g1 h1
  · exact absurd g1 (h3 _ _)
  · rw [h2, g2]
section
variable {fi k j : Int} {ro rc rp : List (Int × Dat)} {pl : Int → List (Int × Dat)} {d : Dat}
theorem vi_sym0 (hK : ∀ q ∈ ro, KeyOk q.1) (hf : fi < 40) (hk : 100 ≤ k) (h0 : 100 ≤ j) (h1 : j < 105) (hp : rp = ro ++ [(fi, symD j)] ∨ rp = [(fi, symD j)] ++ ro) (h : getD ro k = none) (g : pl j = []) : valueIn rp fi pl k = .none := by
  rw [vi_sym hK hf hk h0 h1 hp h, g]; rfl
theorem vi_sym1 (hK : ∀ q ∈ ro, KeyOk q.1) (hf : fi < 40) (hk : 100 ≤ k) (h0 : 100 ≤ j) (h1 : j < 105) (hp : rp = ro ++ [(fi, symD j)] ∨ rp = [(fi, symD j)] ++ ro) (h : getD ro k = none) (g : getD (pl j) k = none) : valueIn rp fi pl k = .none := by
  rw [vi_sym hK hf hk h0 h1 hp h, g]; rfl
theorem vi_sym2 (hK : ∀ q ∈ ro, KeyOk q.1) (hf : fi < 40) (hk : 100 ≤ k) (h0 : 100 ≤ j) (h1 : j < 105) (hp : rp = ro ++ [(fi, symD j)] ∨ rp = [(fi, symD j)] ++ ro) (h : getD ro k = none) (g : getD (pl j) k = some d) : valueIn rp fi pl k = d := by
  rw [vi_sym hK hf hk h0 h1 hp h, g]; rfl
end
theorem getD_nil {k : Int} {d : Dat} (h : getD [] k = some d) : False := by simp [getD] at h
theorem upto_two {ts : List Str} {m₀ m : Str → Option Value} (h : ∀ y, y ≠ (Str.ofString "number") → y ≠ (Str.ofString "further") → m y = m₀ y) : Upto numN m₀ m := fun y hy =>
  h y (fun e => hy (e ▸ .head _)) (fun e => hy (e ▸ .tail _ (.head _)))
theorem num_lap : ∀ y ∈ numN, y ∈ lapN := by decide +kernel
/-- behind a lap's value, number and due -/
inductive MidV (w : World) (h₀ : Heap) (L : Addr) (s₁ : Shared) (I pd dd dk li ru lc : Addr) (it o1 o2 oc : Obj) (fi : Int) (kvs1 : List (Int × Value)) (pl : Int → List (Int × Dat)) (m : Str → Option Value) (s : Shared) : Prop where
  | mk (h : Heap) (tk : Nat) (bag : List (Addr × Obj)) (vs : List Value) (n : Nat) (v : Value) (d : Dat) (k : Int) (t : Tok) (b : Bool) : (s = { s₁ with heap := h, toks := tk }) →
    (Fr h₀ L h (fun y => if y = (Str.ofString "due") then some (.bool b) else if y = (Str.ofString "value") then some v else if y = (Str.ofString "number") then some (.int k t) else if y = (Str.ofString "deck") then some (.ref dk) else if y = (Str.ofString "rules") then some (.ref ru) else m y)) →
    (News h₀ L h ((I, it) :: (pd, o1) :: (dd, o2) :: (dk, listOf vs.toArray n) :: bag)) →
    (Bag w I pd dd dk li ru lc fi oc kvs1 pl bag) →
    (DeckOk vs) →
    (LV bag v d) →
    (100 ≤ k) →
    (k < 106) →
    (Due d k b) → MidV w h₀ L s₁ I pd dd dk li ru lc it o1 o2 oc fi kvs1 pl m s
theorem fr_twice {h₀ h : Heap} {L : Addr} {x : Str} {u v : Option Value} {m : Str → Option Value} (F : Fr h₀ L h (fun y => if y = x then u else if y = x then v else m y)) : Fr h₀ L h (fun y => if y = x then u else m y) := by
  have e : (fun y => if y = x then u else if y = x then v else m y) = fun y => if y = x then u else m y := by
    funext y; by_cases h : y = x <;> simp [h]
  rw [← e]; exact F
abbrev setM (x : Str) (v : Option Value) (m : Str → Option Value) : Str → Option Value := fun y => if y = x then v else m y
theorem setM_self {x : Str} {v : Option Value} {m : Str → Option Value} (h : m x = v) : setM x v m = m := (chain_top h).symm
noncomputable def turnBody (p : Params) : List Stmt := match (lapBody p).drop 3 with
  | .For _ _ b _ _ :: _ => b
  | _ => []
/-- behind a turn's first two statements -/
inductive MidT (h₀ : Heap) (L : Addr) (s₁ : Shared) (led : List (Addr × Obj)) (ro rp : List (Int × Dat)) (fi : Int) (pl : Int → List (Int × Dat)) (k : Int) (m : Str → Option Value) (s : Shared) : Prop where
  | mk (h : Heap) (tk : Nat) (f : Addr) (wf : List Value) (kf : Nat) (led2 : List (Addr × Obj)) (fur : Option Dat) : (s = { s₁ with heap := h, toks := tk }) →
    (Fr h₀ L h (setM (Str.ofString "further") (some (.ref f)) m)) →
    (News h₀ L h led2) →
    (∀ p ∈ led, p ∈ led2) →
    ((f, listOf wf.toArray kf) ∈ led2) →
    (((fur = none ∧ wf = []) ∨ ∃ x dx, wf = [x] ∧ LV led2 x dx ∧ fur = some dx)) →
    ((getD ro k = none → valueIn rp fi pl k = fur.getD .none)) → MidT h₀ L s₁ led ro rp fi pl k m s
theorem vi_fin {d : Dat} {rp : List (Int × Dat)} {ro : List (Int × Dat)} {fi k : Int} {pl : Int → List (Int × Dat)} {fur : Option Dat} (h : getD ro k = none → valueIn rp fi pl k = fur.getD .none) (g : getD ro k = none) (e : fur.getD .none = d) : valueIn rp fi pl k = d := (h g).trans e
end
section
open PySem.SeqAt
theorem ne_bools {prog : Program} {w : World} {A : Around} {E : Value → Shared → Prop} {s : Shared} {h₀ : Heap} {L : Addr} {news : List (Addr × Obj)} {a b : Addr} {n k : Nat} {p q p' q' : Bool} {Q : Value → Shared → Prop} (N : News h₀ L s.heap news) (ha : (a, listOf [.bool p, .bool q].toArray n) ∈ news) (hb : (b, listOf [.bool p', .bool q'].toArray k) ∈ news)
    (e1 : p = p') (e2 : q = q') (hu : A.units < cLine) (h : Q (.bool false) s) : wpAny (model prog w) A (compareOp .NotEq (.ref a) (.ref b)) Q E s := by
  subst e1 e2
  refine cmp_ofNotEq (RcNeAt.lists (e := fun _ => true) (N.isList ha) (N.isList hb) rfl hu (fun j h1 _ => ?_) prog w E Q h)
  exact EqAt.same _
theorem member_due {w : World} {led : List (Addr × Obj)} {ru li dd pd : Addr} {fi : Int} {v : Value} {d : Dat} {k : Int} {t : Tok} (hr : RulesAt w led ru li fi dd) (hl : LispAt w led li fi pd) (hv : LV led v d) (hk : KeyOk k) :
    Ctr w 700 146 [.ref ru, .int k t, v] led (fun r led' => led' = led ∧ ∃ b, r = .bool b ∧ Due d k b) := ctr_weak (is_member_ok hr hl hv hk) (by
  rintro r l ⟨rfl, h⟩
  refine ⟨rfl, ?_⟩
  rcases h with ⟨h1, h2⟩ | ⟨ks, c, h1, h2⟩ | ⟨h1, h2, h3⟩
  · exact ⟨_, h2, .inl ⟨h1, rfl⟩⟩
  · exact ⟨_, h2, .inr (.inl ⟨ks, c, h1, rfl⟩)⟩
  · exact ⟨_, h3, .inr (.inr ⟨h1, h2, rfl⟩)⟩)
theorem member_use {w : World} {led : List (Addr × Obj)} {ru li dd pd : Addr} {fi : Int} {v : Value} {d : Dat} {k : Int} {t : Tok} {b : Bool} (hr : RulesAt w led ru li fi dd) (hl : LispAt w led li fi pd) (hv : LV led v d) (ko : KeyOk k) (du : Due d k b)
    {mean : ExcName → Option Value} {mg mb : Str → Option Value} {A : Around} {env : Env} {outer : List Env} {A₀ : Around} {base h₀ : Heap} {L : Addr} {m : Str → Option Value} {s : Shared} {Q E : Value → Shared → Prop}
    (B : Below A₀ base outer h₀) (F : Fr h₀ L s.heap m) (X : (Mine.hd.heap_39 w.params).In h₀) (N : News h₀ L s.heap led) (T : TopOk mean mg mb h₀)
    (u1 : A.handled = none) (u2 : A.depth ≤ 700) (u3 : A.units ≤ 700) (u4 : A.frames = some (env :: outer)) (u5 : env.frame = some L) (u6 : env.scope.kind = .function)
    (ret : ∀ h' tk', Fr h₀ L h' m → News h₀ L h' led → Q (.bool b) { s with heap := h', toks := tk' }) :
    wpAny (model Pr w) A (call (.ref 146) [.ref ru, .int k t, v]) Q E s := ctr_use1 (member_due hr hl hv ko) B F X N T u1 u2 u3 u4 u5 u6 fun r h' tk' p F' N' => by
  obtain ⟨b', rfl, c⟩ := p
  cases due_one c du
  exact ret h' tk' F' N'
theorem symp_none {w : World} {led : List (Addr × Obj)} {li pd : Addr} {fi : Int} {kvs : List (Int × Value)} {pl : Int → List (Int × Dat)} {v : Value} {j k : Int} {t : Tok} (hl : LispAt w led li fi pd) (hd : IntDict w led pd kvs)
    (hp : PlistsIn led kvs pl) (hv : LV led v (symD j)) (hj : pl j = []) :
    Ctr w 800 78 [.ref li, v, .int k t] led (fun r led' => led' = led ∧ r = .none) := ctr_weak (symbol_property_ok hl hd hp hv) (by
  rintro r l (⟨h1, h2, _⟩ | ⟨a, n, v', d', _, _, _, h4, _⟩)
  · exact ⟨h2, h1⟩
  · rw [numD_sym, hj] at h4; exact (getD_nil h4).elim)
theorem dflt_none {kvs : List (Int × Value)} {j : Int} (h : DfltOk kvs) (hj : 106 ≤ j) : valueAt kvs j = none := by
  cases e : valueAt kvs j with
  | none => rfl
  | some v => have := (h j v e).1; omega
theorem stored_at {kvs : List (Int × Value)} {k : Int} {v : Value} : valueAt (stored kvs k v) k = some v := by rw [valueAt_stored, if_pos rfl]
/-- a lap's end -/
inductive MidD (w : World) (h₀ : Heap) (L : Addr) (s₁ : Shared) (I pd dd dk li ru lc : Addr) (it o1 oc : Obj) (fi : Int) (kvs1 : List (Int × Value)) (pl : Int → List (Int × Dat)) (nm : Nat) (m : Str → Option Value) (s : Shared) : Prop where
  | mk (h : Heap) (tk : Nat) (m' : Str → Option Value) (bag : List (Addr × Obj)) (vs : List Value) (n : Nat) (o2 : Obj) (kvs2 : List (Int × Value)) : (s = { s₁ with heap := h, toks := tk }) →
    (Fr h₀ L h m') →
    (Upto lapN (topM dk ru m) m') →
    (News h₀ L h ((I, it) :: (pd, o1) :: (dd, o2) :: (dk, listOf vs.toArray n) :: bag)) →
    (Bag w I pd dd dk li ru lc fi oc kvs1 pl bag) →
    (DeckOk vs) →
    (o2.IsDictOf (PySem.intKind Pr w) kvs2) →
    (DfltOk kvs2) →
    (kvs2.length ≤ nm) → MidD w h₀ L s₁ I pd dd dk li ru lc it o1 oc fi kvs1 pl nm m s
theorem ne_bool_same {prog : Program} {w : World} {A : Around} {E : Value → Shared → Prop} {s : Shared} {b : Bool} {Q : Value → Shared → Prop} (h : Q (.bool false) s) : wpAny (model prog w) A (compareOp .NotEq (.bool b) (.bool b)) Q E s :=
  cmp_ofNotEq (RcNeAt.bool_bool b b prog w E Q (by simpa using h))
theorem kda_itemA {prog : Program} {w : World} {K : Type} [DecidableEq K] {knd : KeyKind prog w K} {A : Around} {E : Value → Shared → Prop} {s : Shared} {h₀ : Heap} {L d : Addr} {news : List (Addr × Obj)} {o : Obj} {kvs : List (K × Value)} {k : K} {key v : Value} {value slice : PySem.Expr} {Q : Value → Shared → Prop}
    (N : News h₀ L s.heap news) (hp : (d, o) ∈ news) (hd : o.IsDictOf knd kvs) (hkey : knd.is k key = true) (hl : valueAt kvs k = some v) (h : Q v { s with toks := s.toks + 1 })
    (hs : subscripted slice false (.ref d) key = operate [.ref d, key] (getItem (.ref d) key) := by with_unfolding_all rfl) :
    wpAny (model prog w) A (subscriptTail value slice (.ref d) key) Q E s :=
  have hD := kda_dict N hp hd
  tail_any hD.typeIs slot_dict_getitem.lookup (wpAny_getItem_of hkey hD.mapOf hl h) hs
end
section
local macro_rules | `(tactic| k_all) => `(tactic| assumption)
local macro_rules | `(tactic| k_updF) => `(tactic| first | (refine' UpdE.head ?a; (case a => k_all)) | (refine' UpdE.tail ?a ?b; (case a => k_ne); (case b => k_updF)))
local macro_rules | `(tactic| k_all) => `(tactic| first | assumption | exact List.forall_mem_nil _ | (refine' List.forall_mem_cons.mpr ⟨?a, ?b⟩; (case a => k_ne); (case b => k_all)) | (refine' List.forall_mem_append.mpr ⟨?a, ?b⟩; (case a => exact frq (by assumption) (by k_mem)); (case b => k_all)) | exact frq (by assumption) (by k_mem))
theorem words_LA1_1 : True := by
  k_with_none
  k_with "k_enter" => (first | (refine' code_def ?k1z373 ?k2z373 ?k3z373 ?k4z373 ?k5z373 ?kAz373 ?kFz373 ?kKz373 ?k6z373 ?k7z373 ?k8z373 ?k9z373 ?kBz373 ?_ ?c2z373 ?c3z373 ?c4z373 ?c5z373; (case kAz373 => exact rfl); (case kFz373 => first | exact rfl | assumption); (case kKz373 => first | exact rfl | assumption); (case k1z373 => k_asm); (case k2z373 => k_asm); (case k3z373 => k_asm); (case k4z373 => k_asm); (case k5z373 => k_asm); (case k6z373 => k_is); (case k7z373 => k_is); (case k8z373 => k_room); (case k9z373 => first | exact BindsTo.of_eq rfl | exact binds_K (by k_in) rfl (by k_is) rfl rfl rfl | fail "k_enter: no rule for these arguments"); (case c5z373 => decide); (case kBz373 => exact locs rfl); (case c2z373 => exact rfl); (case c3z373 => exact rfl); (case c4z373 => exact rfl); k_whole; intro gw Lw hw FGw Fw Nw Bw Xw Tw; (try dsimp only); (try k_lift Bw); (try k_fold)) | (refine' code_defC ?k1z373 ?k2z373 ?k3z373 ?k4z373 ?k5z373 ?kAz373 ?kFz373 ?kKz373 ?k6z373 ?k7z373 ?k8z373 ?k9z373 ?kBz373 ?kDz373 ?_ ?c2z373 ?c3z373 ?c4z373; (case kAz373 => exact rfl); (case kFz373 => first | exact rfl | assumption); (case kKz373 => first | exact rfl | assumption); (case k1z373 => k_asm); (case k2z373 => k_asm); (case k3z373 => k_asm); (case k4z373 => k_asm); (case k5z373 => k_asm); (case k6z373 => k_is); (case k7z373 => k_is); (case k8z373 => k_room); (case k9z373 => first | exact BindsTo.of_eq rfl | exact binds_K (by k_in) rfl (by k_is) rfl rfl rfl | fail "k_enter: no rule for these arguments"); (case kBz373 => exact rfl); (case kDz373 => decide +kernel); (case c2z373 => exact rfl); (case c3z373 => exact rfl); (case c4z373 => exact rfl); k_whole; intro gw Lw hw tkw cellsw FGw Fw Nw Yw Bw Xw Tw l1w; (try k_lt l1w); k_cells Yw; (try simp only [List.cons_append, List.nil_append] at Nw); (try dsimp only); (try k_lift Bw); (try k_fold)))
  k_with "k_ne" => (refine neN ?_; (try dsimp only); first | with_reducible assumption | with_reducible exact Ne.symm (by assumption) | exact (by k_extra "nes") | exact Ne.symm (by k_extra "nes") | exact Nat.ne_of_lt (by k_extra "lt") | exact Nat.ne_of_gt (by k_extra "lt") | omega)
  k_with "lt" => (first | with_reducible assumption | with_reducible exact And.left (by assumption) | with_reducible exact And.left (And.right (by assumption)) | with_reducible exact And.left (And.right (And.right (by assumption))) | with_reducible exact And.left (And.right (And.right (And.right (by assumption)))) | with_reducible exact And.left (And.right (And.right (And.right (And.right (by assumption))))) | with_reducible exact And.left (And.right (And.right (And.right (And.right (And.right (by assumption)))))) | with_reducible exact And.left (And.right (And.right (And.right (And.right (And.right (And.right (by assumption))))))) | with_reducible exact And.left (And.right (And.right (And.right (And.right (And.right (And.right (And.right (by assumption)))))))) | with_reducible exact And.left (And.right (And.right (And.right (And.right (And.right (And.right (And.right (And.right (by assumption))))))))) | with_reducible exact And.left (And.right (And.right (And.right (And.right (And.right (And.right (And.right (And.right (And.right (by assumption)))))))))) | with_reducible exact And.left (And.right (And.right (And.right (And.right (And.right (And.right (And.right (And.right (And.right (And.right (by assumption))))))))))) | with_reducible exact And.left (And.right (And.right (And.right (And.right (And.right (And.right (And.right (And.right (And.right (And.right (And.right (by assumption)))))))))))) | with_reducible exact And.left (And.right (And.right (And.right (And.right (And.right (And.right (And.right (And.right (And.right (And.right (And.right (And.right (by assumption))))))))))))) | with_reducible exact And.left (And.right (And.right (And.right (And.right (And.right (And.right (And.right (And.right (And.right (And.right (And.right (And.right (And.right (by assumption)))))))))))))) | with_reducible exact And.left (And.right (And.right (And.right (And.right (And.right (And.right (And.right (And.right (And.right (And.right (And.right (And.right (And.right (And.right (by assumption))))))))))))))) | with_reducible exact And.left (And.right (And.right (And.right (And.right (And.right (And.right (And.right (And.right (And.right (And.right (And.right (And.right (And.right (And.right (And.right (by assumption)))))))))))))))) | with_reducible exact And.right (by assumption) | with_reducible exact And.right (And.right (by assumption)) | with_reducible exact And.right (And.right (And.right (by assumption))) | with_reducible exact And.right (And.right (And.right (And.right (by assumption)))) | with_reducible exact And.right (And.right (And.right (And.right (And.right (by assumption))))) | with_reducible exact And.right (And.right (And.right (And.right (And.right (And.right (by assumption)))))) | with_reducible exact And.right (And.right (And.right (And.right (And.right (And.right (And.right (by assumption))))))) | with_reducible exact And.right (And.right (And.right (And.right (And.right (And.right (And.right (And.right (by assumption)))))))) | with_reducible exact And.right (And.right (And.right (And.right (And.right (And.right (And.right (And.right (And.right (by assumption))))))))))
  k_with "nes" => (first | with_reducible exact And.left (by assumption) | with_reducible exact And.left (And.right (by assumption)) | with_reducible exact And.left (And.right (And.right (by assumption))) | with_reducible exact And.left (And.right (And.right (And.right (by assumption)))) | with_reducible exact And.left (And.right (And.right (And.right (And.right (by assumption))))) | with_reducible exact And.left (And.right (And.right (And.right (And.right (And.right (by assumption)))))) | with_reducible exact And.right (by assumption) | with_reducible exact And.right (And.right (by assumption)) | with_reducible exact And.right (And.right (And.right (by assumption))) | with_reducible exact And.right (And.right (And.right (And.right (by assumption)))) | with_reducible exact And.right (And.right (And.right (And.right (And.right (by assumption))))))
  k_with "subscriptTail" => ((k_here; (with_reducible show wpAny _ _ (subscriptTail _ _ (Value.ref _) (Value.int 0 _)) _ _ _); k_dflt (refine' tup_head ?Nz352 ?mz352 ?_; (case Nz352 => k_asm); (case mz352 => k_mem); k_whole)))
  k_with "call type:tuple" => ((k_here; (with_reducible show wpAny _ _ (call (Value.type "tuple") [Value.ref _]) _ _ _); k_dflt (refine' tuple_ofM ?Fz353 ?Nz353 ?mz353 ?zz353 ?_; (case Fz353 => k_asm); (case Nz353 => k_asm); (case mz353 => k_mem); (case zz353 => first | assumption | (simp only [List.length_cons, List.length_nil]; omega)); k_whole); intro Dw hw Fw Nw l1w; (try k_lt l1w); (try k_sweep)))
  k_with "call type:list" => ((k_here; (with_reducible show wpAny _ _ (call (Value.type "list") [Value.ref _]) _ _ _); k_dflt (refine' list_ofTupM ?Fz354 ?Nz354 ?mz354 ?zz354 ?_; (case Fz354 => k_asm); (case Nz354 => k_asm); (case mz354 => k_mem); (case zz354 => first | assumption | (simp only [List.length_cons, List.length_nil]; omega)); k_whole); intro Dw kw hw Fw Nw l1w; (try k_lt l1w); (try k_sweep)))
  k_with "subscriptTail Name Slice ref ref" => ((k_here; (with_reducible show wpAny _ _ (subscriptTail _ (PySem.Expr.Slice (some _) none none _) (Value.ref _) (Value.ref _)) _ _ _); k_dflt (refine' slice_tupM ?Fz355 ?Nz355 ?mz355 ?zz355 ?_ ?sz355 ?tz355; (case Fz355 => k_asm); (case Nz355 => k_asm); (case mz355 => k_mem); (case zz355 => first | assumption | (simp only [List.length_cons, List.length_nil]; omega)); (case sz355 => with_unfolding_all rfl); (case tz355 => kmk_pure)); intro Dw hw Fw Nw l1w; (try k_lt l1w); (try k_sweep)))
  k_with "compareOp Eq ref none" => ((k_here; (with_reducible show wpAny _ _ (compareOp CmpOp.Eq (Value.ref _) Value.none) _ _ _); k_dflt (refine' eq_tup_none ?Nz356 ?mz356 ?uz356 ?_; (case Nz356 => k_asm); (case mz356 => k_mem); (case uz356 => k_units); k_whole)))
  k_with "compareOp Eq ref" => ((k_here; (with_reducible show wpAny _ _ (compareOp CmpOp.Eq (Value.ref _) Value.none) _ _ _); k_dflt (refine' eq_tup_none ?Nz357 ?mz357 ?uz357 ?_; (case Nz357 => k_asm); (case mz357 => k_mem); (case uz357 => k_units); k_whole)))
  k_with "k_mem" => (((repeat (first | exact List.Mem.head _ | assumption | refine' List.Mem.tail _ ?_ | exact List.mem_append_left _ (by assumption) | exact List.mem_append_left _ (List.Mem.head _) | refine' List.mem_append_right _ ?_)); done))
  k_with "binaryOp Add ref ref" => ((k_here; (with_reducible show wpAny _ _ (binaryOp Operator.Add (Value.ref _) (Value.ref _)) _ _ _); k_dflt (refine' add_tupM ?Fz359 ?Nz359 ?mz359 ?nz359 ?zz359 ?az359 ?bz359; (case Fz359 => k_asm); (case Nz359 => k_asm); (case mz359 => k_mem); (case nz359 => k_mem); (case zz359 => first | assumption | (simp only [List.length_cons, List.length_nil]; omega)); (case' az359 => intro e1w); (case' bz359 => (intro e1w Dw hw Fw Nw l1w; (try k_lt l1w); (try k_sweep))))))
  k_with "kqd_sub" => (((repeat (refine List.forall_mem_cons.mpr ⟨by k_mem, ?_⟩)); first | exact List.forall_mem_nil _ | (intro p9 h9; k_mem)))
  k_with "ktr_rel" => (first | assumption | exact tb_ltOf (by first | assumption | exact (And.right (by assumption)) | exact (And.right (And.right (by assumption))) | exact (And.right (And.right (And.right (by assumption)))) | exact (And.right (And.right (And.right (And.right (by assumption))))) | exact (And.right (And.right (And.right (And.right (And.right (by assumption)))))) | exact (And.right (And.right (And.right (And.right (And.right (And.right (by assumption))))))) | exact (And.right (And.right (And.right (And.right (And.right (And.right (And.right (by assumption)))))))) | exact (And.right (And.right (And.right (And.right (And.right (And.right (And.right (And.right (by assumption))))))))) | exact (And.right (And.right (And.right (And.right (And.right (And.right (And.right (And.right (And.right (by assumption)))))))))) | exact (And.right (And.right (And.right (And.right (And.right (And.right (And.right (And.right (And.right (And.right (by assumption)))))))))))))
  k_with "getMethod ref" => ((k_here; (with_reducible show wpAny _ _ (getMethod (Value.ref _) (Str.ofString "get") _) _ _ _); k_dflt (refine kdg_method (knd := PySem.intKind Pr _) (by k_asm) (by k_mem) (by k_asm) ?_)))
  k_with "call builtin:dict.get" => ((k_here; (try dsimp only [List.nil_append, List.cons_append]); (with_reducible show wpAny _ _ (call (Value.builtin _) [Value.ref _, Value.int _ _, _]) _ _ _); k_dflt (refine kdg_get2 (knd := PySem.intKind Pr _) (by k_asm) (by k_mem) (by k_asm) (by k_asm) (intKind_is _ _ _ _) _ (by assumption) ?_); (try dsimp only [Option.getD])))
  k_with "subscriptTail" => ((k_here; (with_reducible show wpAny _ _ (subscriptTail _ _ (Value.ref _) (Value.int _ _)) _ _ _); k_dflt (refine' list_itemM ?Nz364 ?mz364 ?xz364 ?kz364 ?zz364 ?_; (case Nz364 => k_asm); (case mz364 => k_mem); (case xz364 => assumption); (case kz364 => omega); (case zz364 => first | assumption | omega); k_whole)))
  k_with "call builtin:len" => ((k_here; (with_reducible show wpAny _ _ (call (Value.builtin "len") [Value.ref _]) _ _ _); k_dflt (refine' len_listM ?Nz365 ?mz365 ?zz365 ?_; (case Nz365 => k_asm); (case mz365 => k_mem); (case zz365 => first | assumption | omega); k_whole)))
  k_with "tb_rel" => (first | assumption | (refine' LV.mono ?hz366 ?sz366; (case hz366 => assumption); (case sz366 => kqd_sub)) | (refine' RowsIn.mono ?sz366 ?hz366; (case hz366 => assumption); (case sz366 => kqd_sub)) | (refine' LispAt.mono ?hz366 ?sz366; (case hz366 => assumption); (case sz366 => kqd_sub)) | (refine' RulesAt.mono ?hz366 ?sz366; (case hz366 => assumption); (case sz366 => kqd_sub)) | (refine' IntDict.mono ?hz366 ?sz366; (case hz366 => assumption); (case sz366 => kqd_sub)) | (refine' PlistsIn.mono ?hz366 ?sz366; (case hz366 => assumption); (case sz366 => kqd_sub)) | (refine' DatAll.mono ?sz366 ?hz366; (case hz366 => assumption); (case sz366 => kqd_sub)))
  k_with "subscriptTail" => ((k_here; (with_reducible show wpAny _ _ (subscriptTail _ (PySem.Expr.Slice none (some _) none _) (Value.ref _) (Value.ref _)) _ _ _); k_dflt (refine' list_uptoM (s := ⟨_, _, _, _, _⟩) ?Fz367 ?Nz367 ?mz367 ?xz367 ?zz367 ?_ ?sz367 ?tz367; (case Fz367 => k_asm); (case Nz367 => k_asm); (case mz367 => k_mem); (case xz367 => omega); (case zz367 => first | assumption | omega | (simp only [List.length_cons, List.length_nil] <;> omega)); (case sz367 => with_unfolding_all rfl); (case tz367 => kmk_pure)); intro Dw hw Fw Nw l1w; (try k_lt l1w); (try k_sweep)))
  k_with "subscriptTail Name Slice ref ref" => ((k_here; (with_reducible show wpAny _ _ (subscriptTail _ (PySem.Expr.Slice none (some _) none _) (Value.ref _) (Value.ref _)) _ _ _); k_dflt (refine' list_uptoM (s := ⟨_, _, _, _, _⟩) ?Fz368 ?Nz368 ?mz368 ?xz368 ?zz368 ?_ ?sz368 ?tz368; (case Fz368 => k_asm); (case Nz368 => k_asm); (case mz368 => k_mem); (case xz368 => omega); (case zz368 => first | assumption | omega | (simp only [List.length_cons, List.length_nil] <;> omega)); (case sz368 => with_unfolding_all rfl); (case tz368 => kmk_pure)); intro Dw hw Fw Nw l1w; (try k_lt l1w); (try k_sweep)))
  k_with "binaryOp Add ref ref" => ((k_here; (with_reducible show wpAny _ _ (binaryOp Operator.Add (Value.ref _) (Value.ref _)) _ _ _); k_dflt (refine' list_addM ?Fz369 ?Nz369 ?mz369 ?nz369 ?zz369 ?_; (case Fz369 => k_asm); (case Nz369 => k_asm); (case mz369 => k_mem); (case nz369 => k_mem); (case zz369 => first | assumption | omega | (simp only [List.length_cons, List.length_nil, List.length_take, List.length_append] <;> omega)); k_whole); (intro Dw hw Fw Nw l1w; (try k_lt l1w); (try k_sweep))))
  k_with "subscriptTail" => ((k_here; (with_reducible show wpAny _ _ (subscriptTail (PySem.Expr.List _ _) (PySem.Expr.Call _ _ _ _) (Value.ref _) (Value.int _ _)) _ _ _); k_dflt (refine' pick3 ?Nz370 ?mz370 ?az370 ?bz370 ?_ ?_ ?_; (case Nz370 => k_asm); (case mz370 => k_mem); (case az370 => omega); (case bz370 => omega); (all_goals intro ew); (all_goals k_whole))))
  k_with "call ref" => ((k_here; (with_reducible show wpAny _ _ (call (Value.ref 172) [Value.ref _, Value.int _ _]) _ _ _); k_dflt (refine' draw_use ?dkz371 ?mz371 ?m2z371 ?Uz371 ?Bz371 ?Fz371 ?Xz371 ?Nz371 ?Tz371 ?hz371 ?dpz371 ?uz371 ?Az371 ?fz371 ?kz371 ?_; (case Nz371 => k_asm); (case Uz371 => k_updF); (case dkz371 => assumption); (case mz371 => omega); (case m2z371 => omega); (case Bz371 => k_asm); (case Fz371 => k_asm); (case Xz371 => k_asm); (case Tz371 => k_asm); (case hz371 => exact rfl); (case dpz371 => exact Nat.le_of_ble_eq_true rfl); (case uz371 => exact Nat.le_of_ble_eq_true rfl); (case Az371 => exact rfl); (case fz371 => exact rfl); (case kz371 => exact rfl); k_whole); (intro xw uw vsw nw hw tkw low hiw dkw Fw Nw); (try dsimp only at Nw); (try k_sweep); (try k_fold)))
  k_with "call ref" => ((k_here; (with_reducible show wpAny _ _ (call (Value.ref 182) [Value.ref _, Value.ref _, Value.int _ _]) _ _ _); k_dflt (refine' rows_use ?lz372 ?dkz372 ?m1z372 ?m2z372 ?Uz372 ?Bz372 ?Fz372 ?Xz372 ?Nz372 ?Tz372 ?hz372 ?dpz372 ?uz372 ?Az372 ?fz372 ?kz372 ?_; (case Nz372 => k_asm); (case Uz372 => k_updF); (case lz372 => first | tb_rel | exact ⟨_, _, _, _, _, _, by k_mem, by k_mem⟩); (case dkz372 => assumption); (case m1z372 => omega); (case m2z372 => omega); (case Bz372 => k_asm); (case Fz372 => k_asm); (case Xz372 => k_asm); (case Tz372 => k_asm); (case hz372 => exact rfl); (case dpz372 => exact Nat.le_of_ble_eq_true rfl); (case uz372 => exact Nat.le_of_ble_eq_true rfl); (case Az372 => exact rfl); (case fz372 => exact rfl); (case kz372 => exact rfl); k_whole); (rintro rw vsw nw morew Dw wsw kw rowsw hw tkw e1w dkw frw ⟨hmw, hrw, hlw, hkw⟩ Fw Nw); subst e1w; (have hz9 := rows_len hrw hlw); (try dsimp only at Nw); (try k_sweep); (try k_fold)))
  trivial
set_option maxHeartbeats 4000000 in
theorem lap_A1 {w : World} {mean : ExcName → Option Value} {mg mb : Str → Option Value} {h₀ : Heap} {d : Scope} {L fa : Addr} {cdv : Value} {E : Value → Shared → Prop} {Q : Flow → Shared → Prop} {s : Shared} {I pd dd dk li ru : Addr} {it o1 o2 oc : Obj} {fi : Int} {kvs1 : List (Int × Value)} {pl : Int → List (Int × Dat)} {m : Str → Option Value} {bag : List (Addr × Obj)} {vs : List Value} {n : Nat}
    (K0 : Below callerA h₀ [] h₀) (X : (Mine.hd.heap_39 w.params).In h₀) (T : TopOk mean mg mb h₀)
    (F : Fr h₀ L s.heap (fun y => if y = (Str.ofString "deck") then some (.ref dk) else if y = (Str.ofString "rules") then some (.ref ru) else m y))
    (N : News h₀ L s.heap ((I, it) :: (pd, o1) :: (dd, o2) :: (dk, listOf vs.toArray n) :: bag)) (Bg : Bag w I pd dd dk li ru (L + 1) fi oc kvs1 pl bag) (hoc : oc.data = .cell (some (.ref li))) (hdk : DeckOk vs) (ap : Apart I pd dd dk) (hf0 : 0 ≤ fi) (hf1 : fi < 40) :
    wpAny (model Pr w) (callerA.deeper (lawEnv w.params d L fa cdv)) (execs ((lapBody w.params).take 2) (lawEnv w.params d L fa cdv)) (CutPost (MidC w h₀ L s I pd dd dk li ru (L + 1) it o1 o2 oc fi kvs1 pl m) Q) E s := by
  have e1 : lapBody w.params = lapBody w.params := rfl
  conv at e1 => rhs; whnf
  have e2 : scopeOf w.params 197 d = scopeOf w.params 197 d := rfl
  conv at e2 => rhs; whnf
  rw [e1]
  unfold lawEnv
  rw [e2]
  clear e1 e2
  simp only [List.take_succ_cons, List.take_zero, List.drop_succ_cons, List.drop_zero]
  obtain ⟨q1, q2, q3, q4, q5, q6, q7, q8⟩ := Bg
  obtain ⟨ap1, ap2, ap3, ap4, ap5, ap6⟩ := ap
  have w1 := q2
  have w2 := q3
  obtain ⟨dl8, tl1, tl2, tl3, tl4, tl5, w3, w4⟩ := w1
  obtain ⟨dr8, tr8, w5, w6⟩ := w2
  try k_fold
  k_steps
  · rename ∀ (p : Addr × Obj), p ∈ _ → ∀ q : Addr × Obj, q ∈ _ → p.1 ≠ q.1 => fr9
    refine cut_next ?_
    refine ⟨_, _, [_, _, _, _, _, _, _] ++ (_ ++ bag), _, _, _, _, _, _, _, _, _, [], rfl, by assumption, pull (front := [_, _, _, _, _, _, _]) (by assumption), Bag.grow ⟨q1, q2, q3, q4, q5, q6, q7, q8⟩ (fun p hp => List.mem_append_right _ (List.mem_append_right _ hp)) ?h1 ?h2 ?h3 ?h4, by assumption,
      List.mem_append_right _ (List.mem_append_left _ (by assumption)), RowsIn.mono (fun p hp => List.mem_append_right _ (List.mem_append_left _ hp)) (by assumption), by assumption, by assumption, by k_mem, .nil, .inl rfl⟩
    case h1 => dsimp only [List.cons_append, List.nil_append]; k_all
    case h2 => dsimp only [List.cons_append, List.nil_append]; k_all
    case h3 => dsimp only [List.cons_append, List.nil_append]; k_all
    case h4 => dsimp only [List.cons_append, List.nil_append]; k_all
  · rename ∀ (p : Addr × Obj), p ∈ _ → ∀ q : Addr × Obj, q ∈ _ → p.1 ≠ q.1 => fr9
    refine cut_next ?_
    refine ⟨_, _, [_, _, _, _, _, _, _] ++ (_ ++ bag), _, _, _, _, _, _, _, _, _, [(fi, symD _)], rfl, by assumption, pull (front := [_, _, _, _, _, _, _]) (by assumption), Bag.grow ⟨q1, q2, q3, q4, q5, q6, q7, q8⟩ (fun p hp => List.mem_append_right _ (List.mem_append_right _ hp)) ?h1 ?h2 ?h3 ?h4, by assumption,
      List.mem_append_right _ (List.mem_append_left _ (by assumption)), RowsIn.mono (fun p hp => List.mem_append_right _ (List.mem_append_left _ hp)) (by assumption), by assumption, by assumption, by k_mem, .cons (by k_mem) (.sym (by k_mem) ⟨by omega, by omega⟩) .nil, .inr (.inl ⟨_, by omega, by omega, rfl⟩)⟩
    case h1 => dsimp only [List.cons_append, List.nil_append]; k_all
    case h2 => dsimp only [List.cons_append, List.nil_append]; k_all
    case h3 => dsimp only [List.cons_append, List.nil_append]; k_all
    case h4 => dsimp only [List.cons_append, List.nil_append]; k_all
  · rename ∀ (p : Addr × Obj), p ∈ _ → ∀ q : Addr × Obj, q ∈ _ → p.1 ≠ q.1 => fr9
    refine cut_next ?_
    refine ⟨_, _, [_, _, _, _, _, _, _] ++ (_ ++ bag), _, _, _, _, _, _, _, _, _, [(fi, .int 5)], rfl, by assumption, pull (front := [_, _, _, _, _, _, _]) (by assumption), Bag.grow ⟨q1, q2, q3, q4, q5, q6, q7, q8⟩ (fun p hp => List.mem_append_right _ (List.mem_append_right _ hp)) ?h1 ?h2 ?h3 ?h4, by assumption,
      List.mem_append_right _ (List.mem_append_left _ (by assumption)), RowsIn.mono (fun p hp => List.mem_append_right _ (List.mem_append_left _ hp)) (by assumption), by assumption, by assumption, by k_mem, .cons (by k_mem) (.int _ _) .nil, .inr (.inr rfl)⟩
    case h1 => dsimp only [List.cons_append, List.nil_append]; k_all
    case h2 => dsimp only [List.cons_append, List.nil_append]; k_all
    case h3 => dsimp only [List.cons_append, List.nil_append]; k_all
    case h4 => dsimp only [List.cons_append, List.nil_append]; k_all
end
section
local macro_rules | `(tactic| k_all) => `(tactic| assumption)
local macro_rules | `(tactic| k_updF) => `(tactic| first | (refine' UpdE.head ?a; (case a => k_all)) | (refine' UpdE.tail ?a ?b; (case a => k_ne); (case b => k_updF)))
local macro_rules | `(tactic| k_all) => `(tactic| first | assumption | exact List.forall_mem_nil _ | (refine' List.forall_mem_cons.mpr ⟨?a, ?b⟩; (case a => k_ne); (case b => k_all)) | (refine' List.forall_mem_append.mpr ⟨?a, ?b⟩; (case a => exact frq (by assumption) (by k_mem)); (case b => k_all)) | exact frq (by assumption) (by k_mem))
theorem words_LA2_1 : True := by
  k_with_none
  k_with "k_enter" => (first | (refine' code_def ?k1z395 ?k2z395 ?k3z395 ?k4z395 ?k5z395 ?kAz395 ?kFz395 ?kKz395 ?k6z395 ?k7z395 ?k8z395 ?k9z395 ?kBz395 ?_ ?c2z395 ?c3z395 ?c4z395 ?c5z395; (case kAz395 => exact rfl); (case kFz395 => first | exact rfl | assumption); (case kKz395 => first | exact rfl | assumption); (case k1z395 => k_asm); (case k2z395 => k_asm); (case k3z395 => k_asm); (case k4z395 => k_asm); (case k5z395 => k_asm); (case k6z395 => k_is); (case k7z395 => k_is); (case k8z395 => k_room); (case k9z395 => first | exact BindsTo.of_eq rfl | exact binds_K (by k_in) rfl (by k_is) rfl rfl rfl | fail "k_enter: no rule for these arguments"); (case c5z395 => decide); (case kBz395 => exact locs rfl); (case c2z395 => exact rfl); (case c3z395 => exact rfl); (case c4z395 => exact rfl); k_whole; intro gw Lw hw FGw Fw Nw Bw Xw Tw; (try dsimp only); (try k_lift Bw); (try k_fold)) | (refine' code_defC ?k1z395 ?k2z395 ?k3z395 ?k4z395 ?k5z395 ?kAz395 ?kFz395 ?kKz395 ?k6z395 ?k7z395 ?k8z395 ?k9z395 ?kBz395 ?kDz395 ?_ ?c2z395 ?c3z395 ?c4z395; (case kAz395 => exact rfl); (case kFz395 => first | exact rfl | assumption); (case kKz395 => first | exact rfl | assumption); (case k1z395 => k_asm); (case k2z395 => k_asm); (case k3z395 => k_asm); (case k4z395 => k_asm); (case k5z395 => k_asm); (case k6z395 => k_is); (case k7z395 => k_is); (case k8z395 => k_room); (case k9z395 => first | exact BindsTo.of_eq rfl | exact binds_K (by k_in) rfl (by k_is) rfl rfl rfl | fail "k_enter: no rule for these arguments"); (case kBz395 => exact rfl); (case kDz395 => decide +kernel); (case c2z395 => exact rfl); (case c3z395 => exact rfl); (case c4z395 => exact rfl); k_whole; intro gw Lw hw tkw cellsw FGw Fw Nw Yw Bw Xw Tw l1w; (try k_lt l1w); k_cells Yw; (try simp only [List.cons_append, List.nil_append] at Nw); (try dsimp only); (try k_lift Bw); (try k_fold)))
  k_with "k_ne" => (refine neN ?_; (try dsimp only); first | with_reducible assumption | with_reducible exact Ne.symm (by assumption) | exact (by k_extra "nes") | exact Ne.symm (by k_extra "nes") | exact Nat.ne_of_lt (by k_extra "lt") | exact Nat.ne_of_gt (by k_extra "lt") | omega)
  k_with "lt" => (first | with_reducible assumption | with_reducible exact And.left (by assumption) | with_reducible exact And.left (And.right (by assumption)) | with_reducible exact And.left (And.right (And.right (by assumption))) | with_reducible exact And.left (And.right (And.right (And.right (by assumption)))) | with_reducible exact And.left (And.right (And.right (And.right (And.right (by assumption))))) | with_reducible exact And.left (And.right (And.right (And.right (And.right (And.right (by assumption)))))) | with_reducible exact And.left (And.right (And.right (And.right (And.right (And.right (And.right (by assumption))))))) | with_reducible exact And.left (And.right (And.right (And.right (And.right (And.right (And.right (And.right (by assumption)))))))) | with_reducible exact And.left (And.right (And.right (And.right (And.right (And.right (And.right (And.right (And.right (by assumption))))))))) | with_reducible exact And.left (And.right (And.right (And.right (And.right (And.right (And.right (And.right (And.right (And.right (by assumption)))))))))) | with_reducible exact And.left (And.right (And.right (And.right (And.right (And.right (And.right (And.right (And.right (And.right (And.right (by assumption))))))))))) | with_reducible exact And.left (And.right (And.right (And.right (And.right (And.right (And.right (And.right (And.right (And.right (And.right (And.right (by assumption)))))))))))) | with_reducible exact And.left (And.right (And.right (And.right (And.right (And.right (And.right (And.right (And.right (And.right (And.right (And.right (And.right (by assumption))))))))))))) | with_reducible exact And.left (And.right (And.right (And.right (And.right (And.right (And.right (And.right (And.right (And.right (And.right (And.right (And.right (And.right (by assumption)))))))))))))) | with_reducible exact And.left (And.right (And.right (And.right (And.right (And.right (And.right (And.right (And.right (And.right (And.right (And.right (And.right (And.right (And.right (by assumption))))))))))))))) | with_reducible exact And.left (And.right (And.right (And.right (And.right (And.right (And.right (And.right (And.right (And.right (And.right (And.right (And.right (And.right (And.right (And.right (by assumption)))))))))))))))) | with_reducible exact And.right (by assumption) | with_reducible exact And.right (And.right (by assumption)) | with_reducible exact And.right (And.right (And.right (by assumption))) | with_reducible exact And.right (And.right (And.right (And.right (by assumption)))) | with_reducible exact And.right (And.right (And.right (And.right (And.right (by assumption))))) | with_reducible exact And.right (And.right (And.right (And.right (And.right (And.right (by assumption)))))) | with_reducible exact And.right (And.right (And.right (And.right (And.right (And.right (And.right (by assumption))))))) | with_reducible exact And.right (And.right (And.right (And.right (And.right (And.right (And.right (And.right (by assumption)))))))) | with_reducible exact And.right (And.right (And.right (And.right (And.right (And.right (And.right (And.right (And.right (by assumption))))))))))
  k_with "nes" => (first | with_reducible exact And.left (by assumption) | with_reducible exact And.left (And.right (by assumption)) | with_reducible exact And.left (And.right (And.right (by assumption))) | with_reducible exact And.left (And.right (And.right (And.right (by assumption)))) | with_reducible exact And.left (And.right (And.right (And.right (And.right (by assumption))))) | with_reducible exact And.left (And.right (And.right (And.right (And.right (And.right (by assumption)))))) | with_reducible exact And.right (by assumption) | with_reducible exact And.right (And.right (by assumption)) | with_reducible exact And.right (And.right (And.right (by assumption))) | with_reducible exact And.right (And.right (And.right (And.right (by assumption)))) | with_reducible exact And.right (And.right (And.right (And.right (And.right (by assumption))))))
  k_with "subscriptTail" => ((k_here; (with_reducible show wpAny _ _ (subscriptTail _ _ (Value.ref _) (Value.int 0 _)) _ _ _); k_dflt (refine' tup_head ?Nz374 ?mz374 ?_; (case Nz374 => k_asm); (case mz374 => k_mem); k_whole)))
  k_with "call type:tuple" => ((k_here; (with_reducible show wpAny _ _ (call (Value.type "tuple") [Value.ref _]) _ _ _); k_dflt (refine' tuple_ofM ?Fz375 ?Nz375 ?mz375 ?zz375 ?_; (case Fz375 => k_asm); (case Nz375 => k_asm); (case mz375 => k_mem); (case zz375 => first | assumption | (simp only [List.length_cons, List.length_nil]; omega)); k_whole); intro Dw hw Fw Nw l1w; (try k_lt l1w); (try k_sweep)))
  k_with "call type:list" => ((k_here; (with_reducible show wpAny _ _ (call (Value.type "list") [Value.ref _]) _ _ _); k_dflt (refine' list_ofTupM ?Fz376 ?Nz376 ?mz376 ?zz376 ?_; (case Fz376 => k_asm); (case Nz376 => k_asm); (case mz376 => k_mem); (case zz376 => first | assumption | (simp only [List.length_cons, List.length_nil]; omega)); k_whole); intro Dw kw hw Fw Nw l1w; (try k_lt l1w); (try k_sweep)))
  k_with "subscriptTail Name Slice ref ref" => ((k_here; (with_reducible show wpAny _ _ (subscriptTail _ (PySem.Expr.Slice (some _) none none _) (Value.ref _) (Value.ref _)) _ _ _); k_dflt (refine' slice_tupM ?Fz377 ?Nz377 ?mz377 ?zz377 ?_ ?sz377 ?tz377; (case Fz377 => k_asm); (case Nz377 => k_asm); (case mz377 => k_mem); (case zz377 => first | assumption | (simp only [List.length_cons, List.length_nil]; omega)); (case sz377 => with_unfolding_all rfl); (case tz377 => kmk_pure)); intro Dw hw Fw Nw l1w; (try k_lt l1w); (try k_sweep)))
  k_with "compareOp Eq ref none" => ((k_here; (with_reducible show wpAny _ _ (compareOp CmpOp.Eq (Value.ref _) Value.none) _ _ _); k_dflt (refine' eq_tup_none ?Nz378 ?mz378 ?uz378 ?_; (case Nz378 => k_asm); (case mz378 => k_mem); (case uz378 => k_units); k_whole)))
  k_with "compareOp Eq ref" => ((k_here; (with_reducible show wpAny _ _ (compareOp CmpOp.Eq (Value.ref _) Value.none) _ _ _); k_dflt (refine' eq_tup_none ?Nz379 ?mz379 ?uz379 ?_; (case Nz379 => k_asm); (case mz379 => k_mem); (case uz379 => k_units); k_whole)))
  k_with "k_mem" => (((repeat (first | exact List.Mem.head _ | assumption | refine' List.Mem.tail _ ?_ | exact List.mem_append_left _ (by assumption) | exact List.mem_append_left _ (List.Mem.head _) | refine' List.mem_append_right _ ?_)); done))
  k_with "binaryOp Add ref ref" => ((k_here; (with_reducible show wpAny _ _ (binaryOp Operator.Add (Value.ref _) (Value.ref _)) _ _ _); k_dflt (refine' add_tupM ?Fz381 ?Nz381 ?mz381 ?nz381 ?zz381 ?az381 ?bz381; (case Fz381 => k_asm); (case Nz381 => k_asm); (case mz381 => k_mem); (case nz381 => k_mem); (case zz381 => first | assumption | (simp only [List.length_cons, List.length_nil]; omega)); (case' az381 => intro e1w); (case' bz381 => (intro e1w Dw hw Fw Nw l1w; (try k_lt l1w); (try k_sweep))))))
  k_with "kqd_sub" => (((repeat (refine List.forall_mem_cons.mpr ⟨by k_mem, ?_⟩)); first | exact List.forall_mem_nil _ | (intro p9 h9; k_mem)))
  k_with "ktr_rel" => (first | assumption | exact tb_ltOf (by first | assumption | exact (And.right (by assumption)) | exact (And.right (And.right (by assumption))) | exact (And.right (And.right (And.right (by assumption)))) | exact (And.right (And.right (And.right (And.right (by assumption))))) | exact (And.right (And.right (And.right (And.right (And.right (by assumption)))))) | exact (And.right (And.right (And.right (And.right (And.right (And.right (by assumption))))))) | exact (And.right (And.right (And.right (And.right (And.right (And.right (And.right (by assumption)))))))) | exact (And.right (And.right (And.right (And.right (And.right (And.right (And.right (And.right (by assumption))))))))) | exact (And.right (And.right (And.right (And.right (And.right (And.right (And.right (And.right (And.right (by assumption)))))))))) | exact (And.right (And.right (And.right (And.right (And.right (And.right (And.right (And.right (And.right (And.right (by assumption)))))))))))))
  k_with "getMethod ref" => ((k_here; (with_reducible show wpAny _ _ (getMethod (Value.ref _) (Str.ofString "get") _) _ _ _); k_dflt (refine kdg_method (knd := PySem.intKind Pr _) (by k_asm) (by k_mem) (by k_asm) ?_)))
  k_with "call builtin:dict.get" => ((k_here; (try dsimp only [List.nil_append, List.cons_append]); (with_reducible show wpAny _ _ (call (Value.builtin _) [Value.ref _, Value.int _ _, _]) _ _ _); k_dflt (refine kdg_get2 (knd := PySem.intKind Pr _) (by k_asm) (by k_mem) (by k_asm) (by k_asm) (intKind_is _ _ _ _) _ (by assumption) ?_); (try dsimp only [Option.getD])))
  k_with "subscriptTail" => ((k_here; (with_reducible show wpAny _ _ (subscriptTail _ _ (Value.ref _) (Value.int _ _)) _ _ _); k_dflt (refine' list_itemM ?Nz386 ?mz386 ?xz386 ?kz386 ?zz386 ?_; (case Nz386 => k_asm); (case mz386 => k_mem); (case xz386 => assumption); (case kz386 => omega); (case zz386 => first | assumption | omega); k_whole)))
  k_with "call builtin:len" => ((k_here; (with_reducible show wpAny _ _ (call (Value.builtin "len") [Value.ref _]) _ _ _); k_dflt (refine' len_listM ?Nz387 ?mz387 ?zz387 ?_; (case Nz387 => k_asm); (case mz387 => k_mem); (case zz387 => first | assumption | omega); k_whole)))
  k_with "tb_rel" => (first | assumption | (refine' LV.mono ?hz388 ?sz388; (case hz388 => assumption); (case sz388 => kqd_sub)) | (refine' RowsIn.mono ?sz388 ?hz388; (case hz388 => assumption); (case sz388 => kqd_sub)) | (refine' LispAt.mono ?hz388 ?sz388; (case hz388 => assumption); (case sz388 => kqd_sub)) | (refine' RulesAt.mono ?hz388 ?sz388; (case hz388 => assumption); (case sz388 => kqd_sub)) | (refine' IntDict.mono ?hz388 ?sz388; (case hz388 => assumption); (case sz388 => kqd_sub)) | (refine' PlistsIn.mono ?hz388 ?sz388; (case hz388 => assumption); (case sz388 => kqd_sub)) | (refine' DatAll.mono ?sz388 ?hz388; (case hz388 => assumption); (case sz388 => kqd_sub)))
  k_with "subscriptTail" => ((k_here; (with_reducible show wpAny _ _ (subscriptTail _ (PySem.Expr.Slice none (some _) none _) (Value.ref _) (Value.ref _)) _ _ _); k_dflt (refine' list_uptoM (s := ⟨_, _, _, _, _⟩) ?Fz389 ?Nz389 ?mz389 ?xz389 ?zz389 ?_ ?sz389 ?tz389; (case Fz389 => k_asm); (case Nz389 => k_asm); (case mz389 => k_mem); (case xz389 => omega); (case zz389 => first | assumption | omega | (simp only [List.length_cons, List.length_nil] <;> omega)); (case sz389 => with_unfolding_all rfl); (case tz389 => kmk_pure)); intro Dw hw Fw Nw l1w; (try k_lt l1w); (try k_sweep)))
  k_with "subscriptTail Name Slice ref ref" => ((k_here; (with_reducible show wpAny _ _ (subscriptTail _ (PySem.Expr.Slice none (some _) none _) (Value.ref _) (Value.ref _)) _ _ _); k_dflt (refine' list_uptoM (s := ⟨_, _, _, _, _⟩) ?Fz390 ?Nz390 ?mz390 ?xz390 ?zz390 ?_ ?sz390 ?tz390; (case Fz390 => k_asm); (case Nz390 => k_asm); (case mz390 => k_mem); (case xz390 => omega); (case zz390 => first | assumption | omega | (simp only [List.length_cons, List.length_nil] <;> omega)); (case sz390 => with_unfolding_all rfl); (case tz390 => kmk_pure)); intro Dw hw Fw Nw l1w; (try k_lt l1w); (try k_sweep)))
  k_with "binaryOp Add ref ref" => ((k_here; (with_reducible show wpAny _ _ (binaryOp Operator.Add (Value.ref _) (Value.ref _)) _ _ _); k_dflt (refine' list_addM ?Fz391 ?Nz391 ?mz391 ?nz391 ?zz391 ?_; (case Fz391 => k_asm); (case Nz391 => k_asm); (case mz391 => k_mem); (case nz391 => k_mem); (case zz391 => first | assumption | omega | (simp only [List.length_cons, List.length_nil, List.length_take, List.length_append] <;> omega)); k_whole); (intro Dw hw Fw Nw l1w; (try k_lt l1w); (try k_sweep))))
  k_with "subscriptTail" => ((k_here; (with_reducible show wpAny _ _ (subscriptTail (PySem.Expr.List _ _) (PySem.Expr.Call _ _ _ _) (Value.ref _) (Value.int _ _)) _ _ _); k_dflt (refine' pick3 ?Nz392 ?mz392 ?az392 ?bz392 ?_ ?_ ?_; (case Nz392 => k_asm); (case mz392 => k_mem); (case az392 => omega); (case bz392 => omega); (all_goals intro ew); (all_goals k_whole))))
  k_with "call ref" => ((k_here; (with_reducible show wpAny _ _ (call (Value.ref 172) [Value.ref _, Value.int _ _]) _ _ _); k_dflt (refine' draw_use ?dkz393 ?mz393 ?m2z393 ?Uz393 ?Bz393 ?Fz393 ?Xz393 ?Nz393 ?Tz393 ?hz393 ?dpz393 ?uz393 ?Az393 ?fz393 ?kz393 ?_; (case Nz393 => k_asm); (case Uz393 => k_updF); (case dkz393 => assumption); (case mz393 => omega); (case m2z393 => omega); (case Bz393 => k_asm); (case Fz393 => k_asm); (case Xz393 => k_asm); (case Tz393 => k_asm); (case hz393 => exact rfl); (case dpz393 => exact Nat.le_of_ble_eq_true rfl); (case uz393 => exact Nat.le_of_ble_eq_true rfl); (case Az393 => exact rfl); (case fz393 => exact rfl); (case kz393 => exact rfl); k_whole); (intro xw uw vsw nw hw tkw low hiw dkw Fw Nw); (try dsimp only at Nw); (try k_sweep); (try k_fold)))
  k_with "call ref" => ((k_here; (with_reducible show wpAny _ _ (call (Value.ref 182) [Value.ref _, Value.ref _, Value.int _ _]) _ _ _); k_dflt (refine' rows_use ?lz394 ?dkz394 ?m1z394 ?m2z394 ?Uz394 ?Bz394 ?Fz394 ?Xz394 ?Nz394 ?Tz394 ?hz394 ?dpz394 ?uz394 ?Az394 ?fz394 ?kz394 ?_; (case Nz394 => k_asm); (case Uz394 => k_updF); (case lz394 => first | tb_rel | exact ⟨_, _, _, _, _, _, by k_mem, by k_mem⟩); (case dkz394 => assumption); (case m1z394 => omega); (case m2z394 => omega); (case Bz394 => k_asm); (case Fz394 => k_asm); (case Xz394 => k_asm); (case Tz394 => k_asm); (case hz394 => exact rfl); (case dpz394 => exact Nat.le_of_ble_eq_true rfl); (case uz394 => exact Nat.le_of_ble_eq_true rfl); (case Az394 => exact rfl); (case fz394 => exact rfl); (case kz394 => exact rfl); k_whole); (rintro rw vsw nw morew Dw wsw kw rowsw hw tkw e1w dkw frw ⟨hmw, hrw, hlw, hkw⟩ Fw Nw); subst e1w; (have hz9 := rows_len hrw hlw); (try dsimp only at Nw); (try k_sweep); (try k_fold)))
  trivial
set_option maxHeartbeats 4000000 in
theorem lap_A2 {w : World} {mean : ExcName → Option Value} {mg mb : Str → Option Value} {h₀ : Heap} {d : Scope} {L fa : Addr} {cdv : Value} {E : Value → Shared → Prop} {Q : Flow → Shared → Prop} {s : Shared} {I pd dd dk li ru : Addr} {it o1 o2 oc : Obj} {fi : Int} {kvs1 : List (Int × Value)} {pl : Int → List (Int × Dat)} {m : Str → Option Value} {bag : List (Addr × Obj)} {vs : List Value} {n : Nat} {o c : Addr} {wo wc : List Value} {ko kc : Nat} {ro rc : List (Int × Dat)}
    (K0 : Below callerA h₀ [] h₀) (X : (Mine.hd.heap_39 w.params).In h₀) (T : TopOk mean mg mb h₀)
    (F : Fr h₀ L s.heap (fun y => if y = (Str.ofString "category") then some (.ref c) else if y = (Str.ofString "own") then some (.ref o) else if y = (Str.ofString "deck") then some (.ref dk) else if y = (Str.ofString "rules") then some (.ref ru) else m y))
    (N : News h₀ L s.heap ((I, it) :: (pd, o1) :: (dd, o2) :: (dk, listOf vs.toArray n) :: bag)) (Bg : Bag w I pd dd dk li ru (L + 1) fi oc kvs1 pl bag) (hoc : oc.data = .cell (some (.ref li))) (hdk : DeckOk vs) (ap : Apart I pd dd dk) (hf0 : 0 ≤ fi) (hf1 : fi < 40)
    (a1 : (o, listOf wo.toArray ko) ∈ bag) (a2 : RowsIn bag wo ro) (a3 : ro.length ≤ 4) (a4 : ∀ q ∈ ro, KeyOk q.1) (a5 : (c, listOf wc.toArray kc) ∈ bag) (a6 : RowsIn bag wc rc) (a7 : CatOk fi rc) :
    wpAny (model Pr w) (callerA.deeper (lawEnv w.params d L fa cdv)) (execs (((lapBody w.params).drop 2).take 1) (lawEnv w.params d L fa cdv)) (CutPost (MidA w h₀ L s I pd dd dk li ru (L + 1) it o1 o2 oc fi kvs1 pl m) Q) E s := by
  have e1 : lapBody w.params = lapBody w.params := rfl
  conv at e1 => rhs; whnf
  have e2 : scopeOf w.params 197 d = scopeOf w.params 197 d := rfl
  conv at e2 => rhs; whnf
  rw [e1]
  unfold lawEnv
  rw [e2]
  clear e1 e2
  simp only [List.take_succ_cons, List.take_zero, List.drop_succ_cons, List.drop_zero]
  obtain ⟨q1, q2, q3, q4, q5, q6, q7, q8⟩ := Bg
  obtain ⟨ap1, ap2, ap3, ap4, ap5, ap6⟩ := ap
  have w1 := q2
  have w2 := q3
  obtain ⟨dl8, tl1, tl2, tl3, tl4, tl5, w3, w4⟩ := w1
  obtain ⟨dr8, tr8, w5, w6⟩ := w2
  try k_fold
  have z1 := rows_len a2 a3
  have z2 := rows_len a6 (Nat.le_trans (cat_len a7) (by decide))
  k_steps
  · refine cut_next ?_
    refine ⟨_, _, [_] ++ bag, _, _, _, _, _, _, _, _, _, _, _, ro, rc, _, rfl, by assumption, pull (front := [_]) (by assumption), Bag.grow ⟨q1, q2, q3, q4, q5, q6, q7, q8⟩ (fun p hp => List.mem_append_right _ hp) ?h1 ?h2 ?h3 ?h4, by assumption,
      List.mem_append_right _ (by assumption), RowsIn.mono (fun p hp => List.mem_append_right _ hp) a2, by assumption, by assumption, List.mem_append_right _ a5, RowsIn.mono (fun p hp => List.mem_append_right _ hp) a6, by assumption, .head _, RowsIn.mono (fun p hp => List.mem_append_right _ hp) (a2.append a6), .inl rfl⟩
    case h1 => dsimp only [List.cons_append, List.nil_append]; k_all
    case h2 => dsimp only [List.cons_append, List.nil_append]; k_all
    case h3 => dsimp only [List.cons_append, List.nil_append]; k_all
    case h4 => dsimp only [List.cons_append, List.nil_append]; k_all
  · refine cut_next ?_
    refine ⟨_, _, [_] ++ bag, _, _, _, _, _, _, _, _, _, _, _, ro, rc, _, rfl, by assumption, pull (front := [_]) (by assumption), Bag.grow ⟨q1, q2, q3, q4, q5, q6, q7, q8⟩ (fun p hp => List.mem_append_right _ hp) ?h1 ?h2 ?h3 ?h4, by assumption,
      List.mem_append_right _ (by assumption), RowsIn.mono (fun p hp => List.mem_append_right _ hp) a2, by assumption, by assumption, List.mem_append_right _ a5, RowsIn.mono (fun p hp => List.mem_append_right _ hp) a6, by assumption, .head _, RowsIn.mono (fun p hp => List.mem_append_right _ hp) (a6.append a2), .inr rfl⟩
    case h1 => dsimp only [List.cons_append, List.nil_append]; k_all
    case h2 => dsimp only [List.cons_append, List.nil_append]; k_all
    case h3 => dsimp only [List.cons_append, List.nil_append]; k_all
    case h4 => dsimp only [List.cons_append, List.nil_append]; k_all
end
section
local macro_rules | `(tactic| k_all) => `(tactic| first | assumption | exact List.forall_mem_nil _ | (refine' List.forall_mem_cons.mpr ⟨?a, ?b⟩; (case a => k_ne); (case b => k_all)) | (refine' List.forall_mem_append.mpr ⟨?a, ?b⟩; (case a => exact frq (by assumption) (by k_mem)); (case b => k_all)) | exact frq (by assumption) (by k_mem))
theorem words_LT1_1 : True := by
  k_with_none
  k_with "k_enter" => (first | (refine' code_def ?k1z424 ?k2z424 ?k3z424 ?k4z424 ?k5z424 ?kAz424 ?kFz424 ?kKz424 ?k6z424 ?k7z424 ?k8z424 ?k9z424 ?kBz424 ?_ ?c2z424 ?c3z424 ?c4z424 ?c5z424; (case kAz424 => exact rfl); (case kFz424 => first | exact rfl | assumption); (case kKz424 => first | exact rfl | assumption); (case k1z424 => k_asm); (case k2z424 => k_asm); (case k3z424 => k_asm); (case k4z424 => k_asm); (case k5z424 => k_asm); (case k6z424 => k_is); (case k7z424 => k_is); (case k8z424 => k_room); (case k9z424 => first | exact BindsTo.of_eq rfl | exact binds_K (by k_in) rfl (by k_is) rfl rfl rfl | fail "k_enter: no rule for these arguments"); (case c5z424 => decide); (case kBz424 => exact locs rfl); (case c2z424 => exact rfl); (case c3z424 => exact rfl); (case c4z424 => exact rfl); k_whole; intro gw Lw hw FGw Fw Nw Bw Xw Tw; (try dsimp only); (try k_lift Bw); (try k_fold)) | (refine' code_defC ?k1z424 ?k2z424 ?k3z424 ?k4z424 ?k5z424 ?kAz424 ?kFz424 ?kKz424 ?k6z424 ?k7z424 ?k8z424 ?k9z424 ?kBz424 ?kDz424 ?_ ?c2z424 ?c3z424 ?c4z424; (case kAz424 => exact rfl); (case kFz424 => first | exact rfl | assumption); (case kKz424 => first | exact rfl | assumption); (case k1z424 => k_asm); (case k2z424 => k_asm); (case k3z424 => k_asm); (case k4z424 => k_asm); (case k5z424 => k_asm); (case k6z424 => k_is); (case k7z424 => k_is); (case k8z424 => k_room); (case k9z424 => first | exact BindsTo.of_eq rfl | exact binds_K (by k_in) rfl (by k_is) rfl rfl rfl | fail "k_enter: no rule for these arguments"); (case kBz424 => exact rfl); (case kDz424 => decide +kernel); (case c2z424 => exact rfl); (case c3z424 => exact rfl); (case c4z424 => exact rfl); k_whole; intro gw Lw hw tkw cellsw FGw Fw Nw Yw Bw Xw Tw l1w; (try k_lt l1w); k_cells Yw; (try simp only [List.cons_append, List.nil_append] at Nw); (try dsimp only); (try k_lift Bw); (try k_fold)))
  k_with "k_ne" => (refine neN ?_; (try dsimp only); first | with_reducible assumption | with_reducible exact Ne.symm (by assumption) | exact (by k_extra "nes") | exact Ne.symm (by k_extra "nes") | exact Nat.ne_of_lt (by k_extra "lt") | exact Nat.ne_of_gt (by k_extra "lt") | omega)
  k_with "lt" => (first | with_reducible assumption | with_reducible exact And.left (by assumption) | with_reducible exact And.left (And.right (by assumption)) | with_reducible exact And.left (And.right (And.right (by assumption))) | with_reducible exact And.left (And.right (And.right (And.right (by assumption)))) | with_reducible exact And.left (And.right (And.right (And.right (And.right (by assumption))))) | with_reducible exact And.left (And.right (And.right (And.right (And.right (And.right (by assumption)))))) | with_reducible exact And.left (And.right (And.right (And.right (And.right (And.right (And.right (by assumption))))))) | with_reducible exact And.left (And.right (And.right (And.right (And.right (And.right (And.right (And.right (by assumption)))))))) | with_reducible exact And.left (And.right (And.right (And.right (And.right (And.right (And.right (And.right (And.right (by assumption))))))))) | with_reducible exact And.left (And.right (And.right (And.right (And.right (And.right (And.right (And.right (And.right (And.right (by assumption)))))))))) | with_reducible exact And.left (And.right (And.right (And.right (And.right (And.right (And.right (And.right (And.right (And.right (And.right (by assumption))))))))))) | with_reducible exact And.left (And.right (And.right (And.right (And.right (And.right (And.right (And.right (And.right (And.right (And.right (And.right (by assumption)))))))))))) | with_reducible exact And.left (And.right (And.right (And.right (And.right (And.right (And.right (And.right (And.right (And.right (And.right (And.right (And.right (by assumption))))))))))))) | with_reducible exact And.left (And.right (And.right (And.right (And.right (And.right (And.right (And.right (And.right (And.right (And.right (And.right (And.right (And.right (by assumption)))))))))))))) | with_reducible exact And.left (And.right (And.right (And.right (And.right (And.right (And.right (And.right (And.right (And.right (And.right (And.right (And.right (And.right (And.right (by assumption))))))))))))))) | with_reducible exact And.left (And.right (And.right (And.right (And.right (And.right (And.right (And.right (And.right (And.right (And.right (And.right (And.right (And.right (And.right (And.right (by assumption)))))))))))))))) | with_reducible exact And.right (by assumption) | with_reducible exact And.right (And.right (by assumption)) | with_reducible exact And.right (And.right (And.right (by assumption))) | with_reducible exact And.right (And.right (And.right (And.right (by assumption)))) | with_reducible exact And.right (And.right (And.right (And.right (And.right (by assumption))))) | with_reducible exact And.right (And.right (And.right (And.right (And.right (And.right (by assumption)))))) | with_reducible exact And.right (And.right (And.right (And.right (And.right (And.right (And.right (by assumption))))))) | with_reducible exact And.right (And.right (And.right (And.right (And.right (And.right (And.right (And.right (by assumption)))))))) | with_reducible exact And.right (And.right (And.right (And.right (And.right (And.right (And.right (And.right (And.right (by assumption))))))))))
  k_with "nes" => (first | with_reducible exact And.left (by assumption) | with_reducible exact And.left (And.right (by assumption)) | with_reducible exact And.left (And.right (And.right (by assumption))) | with_reducible exact And.left (And.right (And.right (And.right (by assumption)))) | with_reducible exact And.left (And.right (And.right (And.right (And.right (by assumption))))) | with_reducible exact And.left (And.right (And.right (And.right (And.right (And.right (by assumption)))))) | with_reducible exact And.right (by assumption) | with_reducible exact And.right (And.right (by assumption)) | with_reducible exact And.right (And.right (And.right (by assumption))) | with_reducible exact And.right (And.right (And.right (And.right (by assumption)))) | with_reducible exact And.right (And.right (And.right (And.right (And.right (by assumption))))))
  k_with "subscriptTail" => ((k_here; (with_reducible show wpAny _ _ (subscriptTail _ _ (Value.ref _) (Value.int 0 _)) _ _ _); k_dflt (refine' tup_head ?Nz396 ?mz396 ?_; (case Nz396 => k_asm); (case mz396 => k_mem); k_whole)))
  k_with "call type:tuple" => ((k_here; (with_reducible show wpAny _ _ (call (Value.type "tuple") [Value.ref _]) _ _ _); k_dflt (refine' tuple_ofM ?Fz397 ?Nz397 ?mz397 ?zz397 ?_; (case Fz397 => k_asm); (case Nz397 => k_asm); (case mz397 => k_mem); (case zz397 => first | assumption | (simp only [List.length_cons, List.length_nil]; omega)); k_whole); intro Dw hw Fw Nw l1w; (try k_lt l1w); (try k_sweep)))
  k_with "call type:list" => ((k_here; (with_reducible show wpAny _ _ (call (Value.type "list") [Value.ref _]) _ _ _); k_dflt (refine' list_ofTupM ?Fz398 ?Nz398 ?mz398 ?zz398 ?_; (case Fz398 => k_asm); (case Nz398 => k_asm); (case mz398 => k_mem); (case zz398 => first | assumption | (simp only [List.length_cons, List.length_nil]; omega)); k_whole); intro Dw kw hw Fw Nw l1w; (try k_lt l1w); (try k_sweep)))
  k_with "subscriptTail Name Slice ref ref" => ((k_here; (with_reducible show wpAny _ _ (subscriptTail _ (PySem.Expr.Slice (some _) none none _) (Value.ref _) (Value.ref _)) _ _ _); k_dflt (refine' slice_tupM ?Fz399 ?Nz399 ?mz399 ?zz399 ?_ ?sz399 ?tz399; (case Fz399 => k_asm); (case Nz399 => k_asm); (case mz399 => k_mem); (case zz399 => first | assumption | (simp only [List.length_cons, List.length_nil]; omega)); (case sz399 => with_unfolding_all rfl); (case tz399 => kmk_pure)); intro Dw hw Fw Nw l1w; (try k_lt l1w); (try k_sweep)))
  k_with "compareOp Eq ref none" => ((k_here; (with_reducible show wpAny _ _ (compareOp CmpOp.Eq (Value.ref _) Value.none) _ _ _); k_dflt (refine' eq_tup_none ?Nz400 ?mz400 ?uz400 ?_; (case Nz400 => k_asm); (case mz400 => k_mem); (case uz400 => k_units); k_whole)))
  k_with "compareOp Eq ref" => ((k_here; (with_reducible show wpAny _ _ (compareOp CmpOp.Eq (Value.ref _) Value.none) _ _ _); k_dflt (refine' eq_tup_none ?Nz401 ?mz401 ?uz401 ?_; (case Nz401 => k_asm); (case mz401 => k_mem); (case uz401 => k_units); k_whole)))
  k_with "k_mem" => (((repeat (first | exact List.Mem.head _ | assumption | refine' List.Mem.tail _ ?_ | exact List.mem_append_left _ (by assumption) | exact List.mem_append_left _ (List.Mem.head _) | refine' List.mem_append_right _ ?_)); done))
  k_with "binaryOp Add ref ref" => ((k_here; (with_reducible show wpAny _ _ (binaryOp Operator.Add (Value.ref _) (Value.ref _)) _ _ _); k_dflt (refine' add_tupM ?Fz403 ?Nz403 ?mz403 ?nz403 ?zz403 ?az403 ?bz403; (case Fz403 => k_asm); (case Nz403 => k_asm); (case mz403 => k_mem); (case nz403 => k_mem); (case zz403 => first | assumption | (simp only [List.length_cons, List.length_nil]; omega)); (case' az403 => intro e1w); (case' bz403 => (intro e1w Dw hw Fw Nw l1w; (try k_lt l1w); (try k_sweep))))))
  k_with "kqd_sub" => (((repeat (refine List.forall_mem_cons.mpr ⟨by k_mem, ?_⟩)); first | exact List.forall_mem_nil _ | (intro p9 h9; k_mem)))
  k_with "ktr_rel" => (first | assumption | exact tb_ltOf (by first | assumption | exact (And.right (by assumption)) | exact (And.right (And.right (by assumption))) | exact (And.right (And.right (And.right (by assumption)))) | exact (And.right (And.right (And.right (And.right (by assumption))))) | exact (And.right (And.right (And.right (And.right (And.right (by assumption)))))) | exact (And.right (And.right (And.right (And.right (And.right (And.right (by assumption))))))) | exact (And.right (And.right (And.right (And.right (And.right (And.right (And.right (by assumption)))))))) | exact (And.right (And.right (And.right (And.right (And.right (And.right (And.right (And.right (by assumption))))))))) | exact (And.right (And.right (And.right (And.right (And.right (And.right (And.right (And.right (And.right (by assumption)))))))))) | exact (And.right (And.right (And.right (And.right (And.right (And.right (And.right (And.right (And.right (And.right (by assumption)))))))))))))
  k_with "getMethod ref" => ((k_here; (with_reducible show wpAny _ _ (getMethod (Value.ref _) (Str.ofString "get") _) _ _ _); k_dflt (refine kdg_method (knd := PySem.intKind Pr _) (by k_asm) (by k_mem) (by k_asm) ?_)))
  k_with "call builtin:dict.get" => ((k_here; (try dsimp only [List.nil_append, List.cons_append]); (with_reducible show wpAny _ _ (call (Value.builtin _) [Value.ref _, Value.int _ _, _]) _ _ _); k_dflt (refine kdg_get2 (knd := PySem.intKind Pr _) (by k_asm) (by k_mem) (by k_asm) (by k_asm) (intKind_is _ _ _ _) _ (by assumption) ?_); (try dsimp only [Option.getD])))
  k_with "subscriptTail" => ((k_here; (with_reducible show wpAny _ _ (subscriptTail _ _ (Value.ref _) (Value.int _ _)) _ _ _); k_dflt (refine' list_itemM ?Nz408 ?mz408 ?xz408 ?kz408 ?zz408 ?_; (case Nz408 => k_asm); (case mz408 => k_mem); (case xz408 => assumption); (case kz408 => omega); (case zz408 => first | assumption | omega); k_whole)))
  k_with "call builtin:len" => ((k_here; (with_reducible show wpAny _ _ (call (Value.builtin "len") [Value.ref _]) _ _ _); k_dflt (refine' len_listM ?Nz409 ?mz409 ?zz409 ?_; (case Nz409 => k_asm); (case mz409 => k_mem); (case zz409 => first | assumption | omega); k_whole)))
  k_with "tb_rel" => (first | assumption | (refine' LV.mono ?hz410 ?sz410; (case hz410 => assumption); (case sz410 => kqd_sub)) | (refine' RowsIn.mono ?sz410 ?hz410; (case hz410 => assumption); (case sz410 => kqd_sub)) | (refine' LispAt.mono ?hz410 ?sz410; (case hz410 => assumption); (case sz410 => kqd_sub)) | (refine' RulesAt.mono ?hz410 ?sz410; (case hz410 => assumption); (case sz410 => kqd_sub)) | (refine' IntDict.mono ?hz410 ?sz410; (case hz410 => assumption); (case sz410 => kqd_sub)) | (refine' PlistsIn.mono ?hz410 ?sz410; (case hz410 => assumption); (case sz410 => kqd_sub)) | (refine' DatAll.mono ?sz410 ?hz410; (case hz410 => assumption); (case sz410 => kqd_sub)))
  k_with "eval ListComp" => ((k_here; (with_reducible show wpAny _ _ (eval (PySem.Expr.ListComp _ [⟨PySem.Expr.Name _ _, _, [], _⟩] _ _) _) _ _ _); k_dflt (refine LCg.ListComp_U (F₀ := by k_asm) (by with_unfolding_all rfl) (by decide) (by rfl) (by decide) (by rfl) ?_); k_dflt lcg_toSrc))
  k_with "CompSrc" => ((k_here; k_dflt (refine LCg.CompSrc.ledger (by rfl) (by k_asm) (by k_asm) (by k_mem) (by simp only [List.size_toArray, sizeLine_eq]; first | omega | (rename IntsAre _ _ => hq9; rw [hq9.length]; omega)) ?_); intro gw))
  k_with "CompSrc" => ((k_here; (rename IsRange _ _ _ _ _ _ _ _ => lRw); k_dflt (refine LCg.CompSrc.range (by rfl) (by k_asm) (by k_asm) lRw (small_one (by omega) (by omega) (by omega) (by omega)) (rangeSize_nat _ _) (by simp only [sizeLine_eq]; omega) ?_); clear lRw; intro gw))
  k_with "subscriptTail" => ((k_here; (with_reducible show wpAny _ _ (subscriptTail _ (PySem.Expr.Slice none (some _) none _) (Value.ref _) (Value.ref _)) _ _ _); k_dflt (refine' list_uptoM (s := ⟨_, _, _, _, _⟩) ?Fz414 ?Nz414 ?mz414 ?xz414 ?zz414 ?_ ?sz414 ?tz414; (case Fz414 => k_asm); (case Nz414 => k_asm); (case mz414 => k_mem); (case xz414 => omega); (case zz414 => first | assumption | omega | (simp only [List.length_cons, List.length_nil] <;> omega)); (case sz414 => with_unfolding_all rfl); (case tz414 => kmk_pure)); intro Dw hw Fw Nw l1w; (try k_lt l1w); (try k_sweep)))
  k_with "subscriptTail Name Slice ref ref" => ((k_here; (with_reducible show wpAny _ _ (subscriptTail _ (PySem.Expr.Slice none (some _) none _) (Value.ref _) (Value.ref _)) _ _ _); k_dflt (refine' list_uptoM (s := ⟨_, _, _, _, _⟩) ?Fz415 ?Nz415 ?mz415 ?xz415 ?zz415 ?_ ?sz415 ?tz415; (case Fz415 => k_asm); (case Nz415 => k_asm); (case mz415 => k_mem); (case xz415 => omega); (case zz415 => first | assumption | omega | (simp only [List.length_cons, List.length_nil] <;> omega)); (case sz415 => with_unfolding_all rfl); (case tz415 => kmk_pure)); intro Dw hw Fw Nw l1w; (try k_lt l1w); (try k_sweep)))
  k_with "binaryOp Add ref ref" => ((k_here; (with_reducible show wpAny _ _ (binaryOp Operator.Add (Value.ref _) (Value.ref _)) _ _ _); k_dflt (refine' list_addM ?Fz416 ?Nz416 ?mz416 ?nz416 ?zz416 ?_; (case Fz416 => k_asm); (case Nz416 => k_asm); (case mz416 => k_mem); (case nz416 => k_mem); (case zz416 => first | assumption | omega | (simp only [List.length_cons, List.length_nil, List.length_take, List.length_append] <;> omega)); k_whole); (intro Dw hw Fw Nw l1w; (try k_lt l1w); (try k_sweep))))
  k_with "RangeRest" => (refine stop_of ?_)
  k_with "compareOp NotEq ref ref" => ((k_here; (with_reducible show wpAny _ _ (compareOp CmpOp.NotEq (Value.ref _) (Value.ref _)) _ _ _); k_dflt ((first | refine' list_ne_cons ?Nz418 ?az418 ?bz418 ?uz418 ?_ | refine' list_ne_nil0 ?Nz418 ?az418 ?bz418 ?uz418 ?_); (case Nz418 => k_asm); (case az418 => k_mem); (case bz418 => k_mem); (case uz418 => k_units); k_whole)))
  k_with "compareOp NotEq ref int" => ((k_here; (with_reducible show wpAny _ _ (compareOp CmpOp.NotEq (Value.ref _) (Value.int _ _)) _ _ _); k_dflt (refine' ne_sym5 ?Nz419 ?xz419 ?uz419 ?_; (case Nz419 => k_asm); (case xz419 => k_mem); (case uz419 => ke_room); k_whole)))
  k_with "subscriptTail" => ((k_here; (with_reducible show wpAny _ _ (subscriptTail _ _ (Value.ref _) (Value.int 1 _)) _ _ _); k_dflt (refine' tup_at1 ?Nz420 ?mz420 ?_; (case Nz420 => k_asm); (case mz420 => k_mem); k_whole)))
  k_with "subscriptTail" => ((k_here; (with_reducible show wpAny _ _ (subscriptTail _ _ (Value.ref _) (Value.int 0 _)) _ _ _); k_dflt (refine' list_headM ?Nz421 ?mz421 ?_; (case Nz421 => k_asm); (case mz421 => k_mem); k_whole)))
  k_with "call ref" => ((k_here; (with_reducible show wpAny _ _ (call (Value.ref 141) [Value.ref _, Value.ref _, Value.int _ _]) _ _ _); k_dflt (refine' ctr_use1 (value_in_ok ?rz422 ?lz422 ?iz422 ?pz422 ?mz422 ?dz422 ?zz422) ?Bz422 ?Fz422 ?Xz422 ?Nz422 ?Tz422 ?hz422 ?dpz422 ?uz422 ?Az422 ?fz422 ?kz422 ?_; (case Nz422 => k_asm); (case rz422 => tb_rel); (case lz422 => tb_rel); (case iz422 => exact ⟨_, by k_mem, by assumption, by assumption⟩); (case pz422 => tb_rel); (case mz422 => k_mem); (case dz422 => tb_rel); (case zz422 => first | assumption | omega); (case Bz422 => k_asm); (case Fz422 => k_asm); (case Xz422 => k_asm); (case Tz422 => k_asm); (case hz422 => exact rfl); (case dpz422 => exact Nat.le_of_ble_eq_true rfl); (case uz422 => exact Nat.le_of_ble_eq_true rfl); (case Az422 => exact rfl); (case fz422 => exact rfl); (case kz422 => exact rfl); k_whole); (intro vw hw tkw lvw Fw Nw); (try k_sweep); (try k_fold)))
  k_with "call ref" => ((k_here; (with_reducible show wpAny _ _ (call (Value.ref 187) [Value.ref _, Value.int _ _]) _ _ _); k_dflt (refine' of_use ?mz423 ?dz423 ?zz423 ?Bz423 ?Fz423 ?Xz423 ?Nz423 ?Tz423 ?hz423 ?dpz423 ?uz423 ?Az423 ?fz423 ?kz423 ?_ ?_; (case Nz423 => k_asm); (case mz423 => k_mem); (case dz423 => first | exact RowsIn.nil | tb_rel); (case zz423 => first | assumption | (simp only [List.length_nil]; omega) | omega); (case Bz423 => k_asm); (case Fz423 => k_asm); (case Xz423 => k_asm); (case Tz423 => k_asm); (case hz423 => exact rfl); (case dpz423 => exact Nat.le_of_ble_eq_true rfl); (case uz423 => exact Nat.le_of_ble_eq_true rfl); (case Az423 => exact rfl); (case fz423 => exact rfl); (case kz423 => exact rfl)); (all_goals (first | ((with_reducible intro Dw xw dw hw tkw lvw gw l1w Fw Nw); (try k_lt l1w); (try k_sweep); (try k_fold)) | ((with_reducible intro Dw hw tkw gw l1w Fw Nw); (try k_lt l1w); (try k_sweep); (try k_fold))))))
  trivial
set_option maxHeartbeats 4000000 in
theorem lap_T1 {w : World} {mean : ExcName → Option Value} {mg mb : Str → Option Value} {h₀ : Heap} {d : Scope} {L fa : Addr} {cdv : Value} {Q : Flow → Shared → Prop} {s : Shared} {pd dd li ru : Addr} {o1 oc : Obj} {fi : Int} {kvs1 : List (Int × Value)} {pl : Int → List (Int × Dat)} {m : Str → Option Value} {led : List (Addr × Obj)} {k : Int} {t : Tok} {c : Addr} {wc : List Value} {kc : Nat} {ro rc rp : List (Int × Dat)}
    (K0 : Below callerA h₀ [] h₀) (X : (Mine.hd.heap_39 w.params).In h₀) (T : TopOk mean mg mb h₀) (F : Fr h₀ L s.heap (setM (Str.ofString "number") (some (.int k t)) (setM (Str.ofString "category") (some (.ref c)) m))) (N : News h₀ L s.heap led)
    (q1 : PlistsIn led kvs1 pl) (q2 : LispAt w led li fi pd) (q3 : RulesAt w led ru li fi dd) (q4 : (L + 1, oc) ∈ led) (hoc : oc.data = .cell (some (.ref li))) (q5 : (pd, o1) ∈ led) (hD1 : o1.IsDictOf (PySem.intKind Pr w) kvs1) (hs1 : (pd == sysModules) = false) (hf1 : fi < 40) (hk0 : 100 ≤ k)
    (a4 : ∀ q ∈ ro, KeyOk q.1) (a5 : (c, listOf wc.toArray kc) ∈ led) (a6 : RowsIn led wc rc) (a7 : CatOk fi rc) (b1 : rp = ro ++ rc ∨ rp = rc ++ ro) :
    wpAny (model Pr w) (callerA.deeper (lawEnv w.params d L fa cdv)) (execs ((turnBody w.params).take 2) (lawEnv w.params d L fa cdv)) (CutPost (MidT h₀ L s led ro rp fi pl k (setM (Str.ofString "number") (some (.int k t)) (setM (Str.ofString "category") (some (.ref c)) m))) Q) (fun _ _ => False) s := by
  show wpAny _ (callerA.deeper (envOfC (Str.ofString "law") ⟨_, _, _, _, _⟩ L fa cdv)) (execs [_, _] (envOfC (Str.ofString "law") ⟨_, _, _, _, _⟩ L fa cdv)) _ _ _
  have w1 := q2
  have w2 := q3
  obtain ⟨dl8, tl1, tl2, tl3, tl4, tl5, w3, w4⟩ := w1
  obtain ⟨dr8, tr8, w5, w6⟩ := w2
  try k_fold
  rcases a7 with rfl | ⟨j, j1, j2, rfl⟩ | rfl
  · have e1 := rows_nil a6
    subst e1
    k_steps
    exact cut_next ⟨_, _, _, _, _, _, _, rfl, by assumption, by assumption, fun p hp => by k_mem, by k_mem, .inl ⟨rfl, rfl⟩, vi_none a4 hf1 hk0 b1⟩
  · obtain ⟨bb, bn, bt, ba, bna, bt1, bt2, rfl, c1, c2⟩ := rows_sym a6
    rcases q1 j with ⟨d1, d2⟩ | ⟨ja, jv, jn, d1, d2, d3, d4⟩
    · k_steps
      · exact cut_next ⟨_, _, _, _, _, _, _, rfl, fr_twice (by assumption), by assumption, fun p hp => by k_mem, by k_mem, .inl ⟨rfl, rfl⟩, fun g => vi_sym0 a4 hf1 hk0 j1 j2 b1 g d2⟩
      · exact (getD_nil (by assumption)).elim
    · k_steps
      · exact cut_next ⟨_, _, _, _, _, _, _, rfl, fr_twice (by assumption), by assumption, fun p hp => by k_mem, by k_mem, .inl ⟨rfl, rfl⟩, fun g => vi_sym1 a4 hf1 hk0 j1 j2 b1 g (by assumption)⟩
      · exact cut_next ⟨_, _, _, _, _, _, _, rfl, fr_twice (by assumption), by assumption, fun p hp => by k_mem, by k_mem, .inr ⟨_, _, rfl, by tb_rel, rfl⟩, fun g => vi_sym2 a4 hf1 hk0 j1 j2 b1 g (by assumption)⟩
  · obtain ⟨bb, bn, bt, bu, rfl, c1⟩ := rows_five a6
    k_steps
    exact cut_next ⟨_, _, _, _, _, _, _, rfl, by assumption, by assumption, fun p hp => by k_mem, by k_mem, .inl ⟨rfl, rfl⟩, vi_five a4 hf1 hk0 b1⟩
end
section
local macro_rules | `(tactic| k_all) => `(tactic| first | assumption | exact List.forall_mem_nil _ | (refine' List.forall_mem_cons.mpr ⟨?a, ?b⟩; (case a => k_ne); (case b => k_all)) | (refine' List.forall_mem_append.mpr ⟨?a, ?b⟩; (case a => exact frq (by assumption) (by k_mem)); (case b => k_all)) | exact frq (by assumption) (by k_mem))
theorem words_LT2_1 : True := by
  k_with_none
  k_with "k_enter" => (first | (refine' code_def ?k1z454 ?k2z454 ?k3z454 ?k4z454 ?k5z454 ?kAz454 ?kFz454 ?kKz454 ?k6z454 ?k7z454 ?k8z454 ?k9z454 ?kBz454 ?_ ?c2z454 ?c3z454 ?c4z454 ?c5z454; (case kAz454 => exact rfl); (case kFz454 => first | exact rfl | assumption); (case kKz454 => first | exact rfl | assumption); (case k1z454 => k_asm); (case k2z454 => k_asm); (case k3z454 => k_asm); (case k4z454 => k_asm); (case k5z454 => k_asm); (case k6z454 => k_is); (case k7z454 => k_is); (case k8z454 => k_room); (case k9z454 => first | exact BindsTo.of_eq rfl | exact binds_K (by k_in) rfl (by k_is) rfl rfl rfl | fail "k_enter: no rule for these arguments"); (case c5z454 => decide); (case kBz454 => exact locs rfl); (case c2z454 => exact rfl); (case c3z454 => exact rfl); (case c4z454 => exact rfl); k_whole; intro gw Lw hw FGw Fw Nw Bw Xw Tw; (try dsimp only); (try k_lift Bw); (try k_fold)) | (refine' code_defC ?k1z454 ?k2z454 ?k3z454 ?k4z454 ?k5z454 ?kAz454 ?kFz454 ?kKz454 ?k6z454 ?k7z454 ?k8z454 ?k9z454 ?kBz454 ?kDz454 ?_ ?c2z454 ?c3z454 ?c4z454; (case kAz454 => exact rfl); (case kFz454 => first | exact rfl | assumption); (case kKz454 => first | exact rfl | assumption); (case k1z454 => k_asm); (case k2z454 => k_asm); (case k3z454 => k_asm); (case k4z454 => k_asm); (case k5z454 => k_asm); (case k6z454 => k_is); (case k7z454 => k_is); (case k8z454 => k_room); (case k9z454 => first | exact BindsTo.of_eq rfl | exact binds_K (by k_in) rfl (by k_is) rfl rfl rfl | fail "k_enter: no rule for these arguments"); (case kBz454 => exact rfl); (case kDz454 => decide +kernel); (case c2z454 => exact rfl); (case c3z454 => exact rfl); (case c4z454 => exact rfl); k_whole; intro gw Lw hw tkw cellsw FGw Fw Nw Yw Bw Xw Tw l1w; (try k_lt l1w); k_cells Yw; (try simp only [List.cons_append, List.nil_append] at Nw); (try dsimp only); (try k_lift Bw); (try k_fold)))
  k_with "k_ne" => (refine neN ?_; (try dsimp only); first | with_reducible assumption | with_reducible exact Ne.symm (by assumption) | exact (by k_extra "nes") | exact Ne.symm (by k_extra "nes") | exact Nat.ne_of_lt (by k_extra "lt") | exact Nat.ne_of_gt (by k_extra "lt") | omega)
  k_with "lt" => (first | with_reducible assumption | with_reducible exact And.left (by assumption) | with_reducible exact And.left (And.right (by assumption)) | with_reducible exact And.left (And.right (And.right (by assumption))) | with_reducible exact And.left (And.right (And.right (And.right (by assumption)))) | with_reducible exact And.left (And.right (And.right (And.right (And.right (by assumption))))) | with_reducible exact And.left (And.right (And.right (And.right (And.right (And.right (by assumption)))))) | with_reducible exact And.left (And.right (And.right (And.right (And.right (And.right (And.right (by assumption))))))) | with_reducible exact And.left (And.right (And.right (And.right (And.right (And.right (And.right (And.right (by assumption)))))))) | with_reducible exact And.left (And.right (And.right (And.right (And.right (And.right (And.right (And.right (And.right (by assumption))))))))) | with_reducible exact And.left (And.right (And.right (And.right (And.right (And.right (And.right (And.right (And.right (And.right (by assumption)))))))))) | with_reducible exact And.left (And.right (And.right (And.right (And.right (And.right (And.right (And.right (And.right (And.right (And.right (by assumption))))))))))) | with_reducible exact And.left (And.right (And.right (And.right (And.right (And.right (And.right (And.right (And.right (And.right (And.right (And.right (by assumption)))))))))))) | with_reducible exact And.left (And.right (And.right (And.right (And.right (And.right (And.right (And.right (And.right (And.right (And.right (And.right (And.right (by assumption))))))))))))) | with_reducible exact And.left (And.right (And.right (And.right (And.right (And.right (And.right (And.right (And.right (And.right (And.right (And.right (And.right (And.right (by assumption)))))))))))))) | with_reducible exact And.left (And.right (And.right (And.right (And.right (And.right (And.right (And.right (And.right (And.right (And.right (And.right (And.right (And.right (And.right (by assumption))))))))))))))) | with_reducible exact And.left (And.right (And.right (And.right (And.right (And.right (And.right (And.right (And.right (And.right (And.right (And.right (And.right (And.right (And.right (And.right (by assumption)))))))))))))))) | with_reducible exact And.right (by assumption) | with_reducible exact And.right (And.right (by assumption)) | with_reducible exact And.right (And.right (And.right (by assumption))) | with_reducible exact And.right (And.right (And.right (And.right (by assumption)))) | with_reducible exact And.right (And.right (And.right (And.right (And.right (by assumption))))) | with_reducible exact And.right (And.right (And.right (And.right (And.right (And.right (by assumption)))))) | with_reducible exact And.right (And.right (And.right (And.right (And.right (And.right (And.right (by assumption))))))) | with_reducible exact And.right (And.right (And.right (And.right (And.right (And.right (And.right (And.right (by assumption)))))))) | with_reducible exact And.right (And.right (And.right (And.right (And.right (And.right (And.right (And.right (And.right (by assumption))))))))))
  k_with "nes" => (first | with_reducible exact And.left (by assumption) | with_reducible exact And.left (And.right (by assumption)) | with_reducible exact And.left (And.right (And.right (by assumption))) | with_reducible exact And.left (And.right (And.right (And.right (by assumption)))) | with_reducible exact And.left (And.right (And.right (And.right (And.right (by assumption))))) | with_reducible exact And.left (And.right (And.right (And.right (And.right (And.right (by assumption)))))) | with_reducible exact And.right (by assumption) | with_reducible exact And.right (And.right (by assumption)) | with_reducible exact And.right (And.right (And.right (by assumption))) | with_reducible exact And.right (And.right (And.right (And.right (by assumption)))) | with_reducible exact And.right (And.right (And.right (And.right (And.right (by assumption))))))
  k_with "subscriptTail" => ((k_here; (with_reducible show wpAny _ _ (subscriptTail _ _ (Value.ref _) (Value.int 0 _)) _ _ _); k_dflt (refine' tup_head ?Nz425 ?mz425 ?_; (case Nz425 => k_asm); (case mz425 => k_mem); k_whole)))
  k_with "call type:tuple" => ((k_here; (with_reducible show wpAny _ _ (call (Value.type "tuple") [Value.ref _]) _ _ _); k_dflt (refine' tuple_ofM ?Fz426 ?Nz426 ?mz426 ?zz426 ?_; (case Fz426 => k_asm); (case Nz426 => k_asm); (case mz426 => k_mem); (case zz426 => first | assumption | (simp only [List.length_cons, List.length_nil]; omega)); k_whole); intro Dw hw Fw Nw l1w; (try k_lt l1w); (try k_sweep)))
  k_with "call type:list" => ((k_here; (with_reducible show wpAny _ _ (call (Value.type "list") [Value.ref _]) _ _ _); k_dflt (refine' list_ofTupM ?Fz427 ?Nz427 ?mz427 ?zz427 ?_; (case Fz427 => k_asm); (case Nz427 => k_asm); (case mz427 => k_mem); (case zz427 => first | assumption | (simp only [List.length_cons, List.length_nil]; omega)); k_whole); intro Dw kw hw Fw Nw l1w; (try k_lt l1w); (try k_sweep)))
  k_with "subscriptTail Name Slice ref ref" => ((k_here; (with_reducible show wpAny _ _ (subscriptTail _ (PySem.Expr.Slice (some _) none none _) (Value.ref _) (Value.ref _)) _ _ _); k_dflt (refine' slice_tupM ?Fz428 ?Nz428 ?mz428 ?zz428 ?_ ?sz428 ?tz428; (case Fz428 => k_asm); (case Nz428 => k_asm); (case mz428 => k_mem); (case zz428 => first | assumption | (simp only [List.length_cons, List.length_nil]; omega)); (case sz428 => with_unfolding_all rfl); (case tz428 => kmk_pure)); intro Dw hw Fw Nw l1w; (try k_lt l1w); (try k_sweep)))
  k_with "compareOp Eq ref none" => ((k_here; (with_reducible show wpAny _ _ (compareOp CmpOp.Eq (Value.ref _) Value.none) _ _ _); k_dflt (refine' eq_tup_none ?Nz429 ?mz429 ?uz429 ?_; (case Nz429 => k_asm); (case mz429 => k_mem); (case uz429 => k_units); k_whole)))
  k_with "compareOp Eq ref" => ((k_here; (with_reducible show wpAny _ _ (compareOp CmpOp.Eq (Value.ref _) Value.none) _ _ _); k_dflt (refine' eq_tup_none ?Nz430 ?mz430 ?uz430 ?_; (case Nz430 => k_asm); (case mz430 => k_mem); (case uz430 => k_units); k_whole)))
  k_with "k_mem" => (((repeat (first | exact List.Mem.head _ | assumption | refine' List.Mem.tail _ ?_ | exact List.mem_append_left _ (by assumption) | exact List.mem_append_left _ (List.Mem.head _) | refine' List.mem_append_right _ ?_)); done))
  k_with "binaryOp Add ref ref" => ((k_here; (with_reducible show wpAny _ _ (binaryOp Operator.Add (Value.ref _) (Value.ref _)) _ _ _); k_dflt (refine' add_tupM ?Fz432 ?Nz432 ?mz432 ?nz432 ?zz432 ?az432 ?bz432; (case Fz432 => k_asm); (case Nz432 => k_asm); (case mz432 => k_mem); (case nz432 => k_mem); (case zz432 => first | assumption | (simp only [List.length_cons, List.length_nil]; omega)); (case' az432 => intro e1w); (case' bz432 => (intro e1w Dw hw Fw Nw l1w; (try k_lt l1w); (try k_sweep))))))
  k_with "kqd_sub" => (((repeat (refine List.forall_mem_cons.mpr ⟨by k_mem, ?_⟩)); first | exact List.forall_mem_nil _ | (intro p9 h9; k_mem)))
  k_with "ktr_rel" => (first | assumption | exact tb_ltOf (by first | assumption | exact (And.right (by assumption)) | exact (And.right (And.right (by assumption))) | exact (And.right (And.right (And.right (by assumption)))) | exact (And.right (And.right (And.right (And.right (by assumption))))) | exact (And.right (And.right (And.right (And.right (And.right (by assumption)))))) | exact (And.right (And.right (And.right (And.right (And.right (And.right (by assumption))))))) | exact (And.right (And.right (And.right (And.right (And.right (And.right (And.right (by assumption)))))))) | exact (And.right (And.right (And.right (And.right (And.right (And.right (And.right (And.right (by assumption))))))))) | exact (And.right (And.right (And.right (And.right (And.right (And.right (And.right (And.right (And.right (by assumption)))))))))) | exact (And.right (And.right (And.right (And.right (And.right (And.right (And.right (And.right (And.right (And.right (by assumption)))))))))))))
  k_with "getMethod ref" => ((k_here; (with_reducible show wpAny _ _ (getMethod (Value.ref _) (Str.ofString "get") _) _ _ _); k_dflt (refine kdg_method (knd := PySem.intKind Pr _) (by k_asm) (by k_mem) (by k_asm) ?_)))
  k_with "call builtin:dict.get" => ((k_here; (try dsimp only [List.nil_append, List.cons_append]); (with_reducible show wpAny _ _ (call (Value.builtin _) [Value.ref _, Value.int _ _, _]) _ _ _); k_dflt (refine kdg_get2 (knd := PySem.intKind Pr _) (by k_asm) (by k_mem) (by k_asm) (by k_asm) (intKind_is _ _ _ _) _ (by assumption) ?_); (try dsimp only [Option.getD])))
  k_with "subscriptTail" => ((k_here; (with_reducible show wpAny _ _ (subscriptTail _ _ (Value.ref _) (Value.int _ _)) _ _ _); k_dflt (refine' list_itemM ?Nz437 ?mz437 ?xz437 ?kz437 ?zz437 ?_; (case Nz437 => k_asm); (case mz437 => k_mem); (case xz437 => assumption); (case kz437 => omega); (case zz437 => first | assumption | omega); k_whole)))
  k_with "call builtin:len" => ((k_here; (with_reducible show wpAny _ _ (call (Value.builtin "len") [Value.ref _]) _ _ _); k_dflt (refine' len_listM ?Nz438 ?mz438 ?zz438 ?_; (case Nz438 => k_asm); (case mz438 => k_mem); (case zz438 => first | assumption | omega); k_whole)))
  k_with "tb_rel" => (first | assumption | (refine' LV.mono ?hz439 ?sz439; (case hz439 => assumption); (case sz439 => kqd_sub)) | (refine' RowsIn.mono ?sz439 ?hz439; (case hz439 => assumption); (case sz439 => kqd_sub)) | (refine' LispAt.mono ?hz439 ?sz439; (case hz439 => assumption); (case sz439 => kqd_sub)) | (refine' RulesAt.mono ?hz439 ?sz439; (case hz439 => assumption); (case sz439 => kqd_sub)) | (refine' IntDict.mono ?hz439 ?sz439; (case hz439 => assumption); (case sz439 => kqd_sub)) | (refine' PlistsIn.mono ?hz439 ?sz439; (case hz439 => assumption); (case sz439 => kqd_sub)) | (refine' DatAll.mono ?sz439 ?hz439; (case hz439 => assumption); (case sz439 => kqd_sub)))
  k_with "eval ListComp" => ((k_here; (with_reducible show wpAny _ _ (eval (PySem.Expr.ListComp _ [⟨PySem.Expr.Name _ _, _, [], _⟩] _ _) _) _ _ _); k_dflt (refine LCg.ListComp_U (F₀ := by k_asm) (by with_unfolding_all rfl) (by decide) (by rfl) (by decide) (by rfl) ?_); k_dflt lcg_toSrc))
  k_with "CompSrc" => ((k_here; k_dflt (refine LCg.CompSrc.ledger (by rfl) (by k_asm) (by k_asm) (by k_mem) (by simp only [List.size_toArray, sizeLine_eq]; first | omega | (rename IntsAre _ _ => hq9; rw [hq9.length]; omega)) ?_); intro gw))
  k_with "CompSrc" => ((k_here; (rename IsRange _ _ _ _ _ _ _ _ => lRw); k_dflt (refine LCg.CompSrc.range (by rfl) (by k_asm) (by k_asm) lRw (small_one (by omega) (by omega) (by omega) (by omega)) (rangeSize_nat _ _) (by simp only [sizeLine_eq]; omega) ?_); clear lRw; intro gw))
  k_with "subscriptTail" => ((k_here; (with_reducible show wpAny _ _ (subscriptTail _ (PySem.Expr.Slice none (some _) none _) (Value.ref _) (Value.ref _)) _ _ _); k_dflt (refine' list_uptoM (s := ⟨_, _, _, _, _⟩) ?Fz443 ?Nz443 ?mz443 ?xz443 ?zz443 ?_ ?sz443 ?tz443; (case Fz443 => k_asm); (case Nz443 => k_asm); (case mz443 => k_mem); (case xz443 => omega); (case zz443 => first | assumption | omega | (simp only [List.length_cons, List.length_nil] <;> omega)); (case sz443 => with_unfolding_all rfl); (case tz443 => kmk_pure)); intro Dw hw Fw Nw l1w; (try k_lt l1w); (try k_sweep)))
  k_with "subscriptTail Name Slice ref ref" => ((k_here; (with_reducible show wpAny _ _ (subscriptTail _ (PySem.Expr.Slice none (some _) none _) (Value.ref _) (Value.ref _)) _ _ _); k_dflt (refine' list_uptoM (s := ⟨_, _, _, _, _⟩) ?Fz444 ?Nz444 ?mz444 ?xz444 ?zz444 ?_ ?sz444 ?tz444; (case Fz444 => k_asm); (case Nz444 => k_asm); (case mz444 => k_mem); (case xz444 => omega); (case zz444 => first | assumption | omega | (simp only [List.length_cons, List.length_nil] <;> omega)); (case sz444 => with_unfolding_all rfl); (case tz444 => kmk_pure)); intro Dw hw Fw Nw l1w; (try k_lt l1w); (try k_sweep)))
  k_with "binaryOp Add ref ref" => ((k_here; (with_reducible show wpAny _ _ (binaryOp Operator.Add (Value.ref _) (Value.ref _)) _ _ _); k_dflt (refine' list_addM ?Fz445 ?Nz445 ?mz445 ?nz445 ?zz445 ?_; (case Fz445 => k_asm); (case Nz445 => k_asm); (case mz445 => k_mem); (case nz445 => k_mem); (case zz445 => first | assumption | omega | (simp only [List.length_cons, List.length_nil, List.length_take, List.length_append] <;> omega)); k_whole); (intro Dw hw Fw Nw l1w; (try k_lt l1w); (try k_sweep))))
  k_with "compareOp NotEq" => ((k_here; (with_reducible show wpAny _ _ (compareOp CmpOp.NotEq _ _) _ _ _); k_dflt (refine' ne_lv2 ?Nz446 ?xz446 ?yz446 ?ez446 ?uz446 ?_; (case Nz446 => k_asm); (case xz446 => tb_rel); (case yz446 => first | exact LV.nil | tb_rel); (case ez446 => first | exact vi_fin (by assumption) (by assumption) rfl | exact (by assumption : ∀ d, getD _ _ = some d → _) _ (by assumption)); (case uz446 => ke_room); k_whole)))
  k_with "RangeRest" => (refine stop_of ?_)
  k_with "compareOp NotEq ref ref" => ((k_here; (with_reducible show wpAny _ _ (compareOp CmpOp.NotEq (Value.ref _) (Value.ref _)) _ _ _); k_dflt ((first | refine' list_ne_cons ?Nz448 ?az448 ?bz448 ?uz448 ?_ | refine' list_ne_nil0 ?Nz448 ?az448 ?bz448 ?uz448 ?_); (case Nz448 => k_asm); (case az448 => k_mem); (case bz448 => k_mem); (case uz448 => k_units); k_whole)))
  k_with "compareOp NotEq ref int" => ((k_here; (with_reducible show wpAny _ _ (compareOp CmpOp.NotEq (Value.ref _) (Value.int _ _)) _ _ _); k_dflt (refine' ne_sym5 ?Nz449 ?xz449 ?uz449 ?_; (case Nz449 => k_asm); (case xz449 => k_mem); (case uz449 => ke_room); k_whole)))
  k_with "subscriptTail" => ((k_here; (with_reducible show wpAny _ _ (subscriptTail _ _ (Value.ref _) (Value.int 1 _)) _ _ _); k_dflt (refine' tup_at1 ?Nz450 ?mz450 ?_; (case Nz450 => k_asm); (case mz450 => k_mem); k_whole)))
  k_with "subscriptTail" => ((k_here; (with_reducible show wpAny _ _ (subscriptTail _ _ (Value.ref _) (Value.int 0 _)) _ _ _); k_dflt (refine' list_headM ?Nz451 ?mz451 ?_; (case Nz451 => k_asm); (case mz451 => k_mem); k_whole)))
  k_with "call ref" => ((k_here; (with_reducible show wpAny _ _ (call (Value.ref 141) [Value.ref _, Value.ref _, Value.int _ _]) _ _ _); k_dflt (refine' ctr_use1 (value_in_ok ?rz452 ?lz452 ?iz452 ?pz452 ?mz452 ?dz452 ?zz452) ?Bz452 ?Fz452 ?Xz452 ?Nz452 ?Tz452 ?hz452 ?dpz452 ?uz452 ?Az452 ?fz452 ?kz452 ?_; (case Nz452 => k_asm); (case rz452 => tb_rel); (case lz452 => tb_rel); (case iz452 => exact ⟨_, by k_mem, by assumption, by assumption⟩); (case pz452 => tb_rel); (case mz452 => k_mem); (case dz452 => tb_rel); (case zz452 => first | assumption | omega); (case Bz452 => k_asm); (case Fz452 => k_asm); (case Xz452 => k_asm); (case Tz452 => k_asm); (case hz452 => exact rfl); (case dpz452 => exact Nat.le_of_ble_eq_true rfl); (case uz452 => exact Nat.le_of_ble_eq_true rfl); (case Az452 => exact rfl); (case fz452 => exact rfl); (case kz452 => exact rfl); k_whole); (intro vw hw tkw lvw Fw Nw); (try k_sweep); (try k_fold)))
  k_with "call ref" => ((k_here; (with_reducible show wpAny _ _ (call (Value.ref 187) [Value.ref _, Value.int _ _]) _ _ _); k_dflt (refine' of_use ?mz453 ?dz453 ?zz453 ?Bz453 ?Fz453 ?Xz453 ?Nz453 ?Tz453 ?hz453 ?dpz453 ?uz453 ?Az453 ?fz453 ?kz453 ?_ ?_; (case Nz453 => k_asm); (case mz453 => k_mem); (case dz453 => first | exact RowsIn.nil | tb_rel); (case zz453 => first | assumption | (simp only [List.length_nil]; omega) | omega); (case Bz453 => k_asm); (case Fz453 => k_asm); (case Xz453 => k_asm); (case Tz453 => k_asm); (case hz453 => exact rfl); (case dpz453 => exact Nat.le_of_ble_eq_true rfl); (case uz453 => exact Nat.le_of_ble_eq_true rfl); (case Az453 => exact rfl); (case fz453 => exact rfl); (case kz453 => exact rfl)); (all_goals (first | ((with_reducible intro Dw xw dw hw tkw lvw gw l1w Fw Nw); (try k_lt l1w); (try k_sweep); (try k_fold)) | ((with_reducible intro Dw hw tkw gw l1w Fw Nw); (try k_lt l1w); (try k_sweep); (try k_fold))))))
  trivial
set_option maxHeartbeats 4000000 in
theorem lap_T2 {w : World} {mean : ExcName → Option Value} {mg mb : Str → Option Value} {h₀ : Heap} {d : Scope} {L fa : Addr} {cdv : Value} {Q : Flow → Shared → Prop} {s : Shared} {pd dd li ru : Addr} {o1 oc : Obj} {fi : Int} {kvs1 : List (Int × Value)} {pl : Int → List (Int × Dat)} {m : Str → Option Value} {led : List (Addr × Obj)} {k : Int} {t : Tok} {o f p : Addr} {wo wf wp : List Value} {ko kf kp : Nat} {ro rp : List (Int × Dat)} {fur : Option Dat}
    (K0 : Below callerA h₀ [] h₀) (X : (Mine.hd.heap_39 w.params).In h₀) (T : TopOk mean mg mb h₀) (F : Fr h₀ L s.heap (setM (Str.ofString "further") (some (.ref f)) (setM (Str.ofString "number") (some (.int k t)) (setM (Str.ofString "plist") (some (.ref p)) (setM (Str.ofString "own") (some (.ref o)) (setM (Str.ofString "rules") (some (.ref ru)) m)))))) (N : News h₀ L s.heap led)
    (q1 : PlistsIn led kvs1 pl) (q2 : LispAt w led li fi pd) (q3 : RulesAt w led ru li fi dd) (q4 : (L + 1, oc) ∈ led) (hoc : oc.data = .cell (some (.ref li))) (q5 : (pd, o1) ∈ led) (hD1 : o1.IsDictOf (PySem.intKind Pr w) kvs1) (hs1 : (pd == sysModules) = false) (hf1 : fi < 40) (hk0 : 100 ≤ k)
    (a1 : (o, listOf wo.toArray ko) ∈ led) (a2 : RowsIn led wo ro) (a3 : ro.length ≤ 4) (a5 : (f, listOf wf.toArray kf) ∈ led) (a8 : (p, listOf wp.toArray kp) ∈ led) (a9 : RowsIn led wp rp) (z2 : rp.length ≤ 100)
    (hfur : (fur = none ∧ wf = []) ∨ ∃ x dx, wf = [x] ∧ LV led x dx ∧ fur = some dx) (hvo : ∀ d, getD ro k = some d → valueIn rp fi pl k = d) (hvn : getD ro k = none → valueIn rp fi pl k = fur.getD .none) :
    wpAny (model Pr w) (callerA.deeper (lawEnv w.params d L fa cdv)) (execs ((turnBody w.params).drop 2) (lawEnv w.params d L fa cdv)) (CutPost (fun s' => ∃ (h : Heap) (tk : Nat), s' = { s with heap := h, toks := tk } ∧ Fr h₀ L h (setM (Str.ofString "further") (some (.ref f)) (setM (Str.ofString "number") (some (.int k t)) (setM (Str.ofString "plist") (some (.ref p)) (setM (Str.ofString "own") (some (.ref o)) (setM (Str.ofString "rules") (some (.ref ru)) m))))) ∧ News h₀ L h led) Q) (fun _ _ => False) s := by
  show wpAny _ (callerA.deeper (envOfC (Str.ofString "law") ⟨_, _, _, _, _⟩ L fa cdv)) (execs [_] (envOfC (Str.ofString "law") ⟨_, _, _, _, _⟩ L fa cdv)) _ _ _
  have w1 := q2
  have w2 := q3
  obtain ⟨dl8, tl1, tl2, tl3, tl4, tl5, w3, w4⟩ := w1
  obtain ⟨dr8, tr8, w5, w6⟩ := w2
  try k_fold
  have z1 := rows_len a2 a3
  have z3 : ro.length ≤ 100 := by omega
  rcases hfur with ⟨rfl, rfl⟩ | ⟨xf, df, rfl, lf, rfl⟩
  all_goals k_steps
  all_goals exact cut_next ⟨_, _, rfl, by assumption, cb_drop (by assumption) (fun p hp => by k_mem)⟩
end
section
theorem words_LB_1 : True := by
  k_with_none
  k_with "k_enter" => (first | (refine' code_def ?k1z471 ?k2z471 ?k3z471 ?k4z471 ?k5z471 ?kAz471 ?kFz471 ?kKz471 ?k6z471 ?k7z471 ?k8z471 ?k9z471 ?kBz471 ?_ ?c2z471 ?c3z471 ?c4z471 ?c5z471; (case kAz471 => exact rfl); (case kFz471 => first | exact rfl | assumption); (case kKz471 => first | exact rfl | assumption); (case k1z471 => k_asm); (case k2z471 => k_asm); (case k3z471 => k_asm); (case k4z471 => k_asm); (case k5z471 => k_asm); (case k6z471 => k_is); (case k7z471 => k_is); (case k8z471 => k_room); (case k9z471 => first | exact BindsTo.of_eq rfl | exact binds_K (by k_in) rfl (by k_is) rfl rfl rfl | fail "k_enter: no rule for these arguments"); (case c5z471 => decide); (case kBz471 => exact locs rfl); (case c2z471 => exact rfl); (case c3z471 => exact rfl); (case c4z471 => exact rfl); k_whole; intro gw Lw hw FGw Fw Nw Bw Xw Tw; (try dsimp only); (try k_lift Bw); (try k_fold)) | (refine' code_defC ?k1z471 ?k2z471 ?k3z471 ?k4z471 ?k5z471 ?kAz471 ?kFz471 ?kKz471 ?k6z471 ?k7z471 ?k8z471 ?k9z471 ?kBz471 ?kDz471 ?_ ?c2z471 ?c3z471 ?c4z471; (case kAz471 => exact rfl); (case kFz471 => first | exact rfl | assumption); (case kKz471 => first | exact rfl | assumption); (case k1z471 => k_asm); (case k2z471 => k_asm); (case k3z471 => k_asm); (case k4z471 => k_asm); (case k5z471 => k_asm); (case k6z471 => k_is); (case k7z471 => k_is); (case k8z471 => k_room); (case k9z471 => first | exact BindsTo.of_eq rfl | exact binds_K (by k_in) rfl (by k_is) rfl rfl rfl | fail "k_enter: no rule for these arguments"); (case kBz471 => exact rfl); (case kDz471 => decide +kernel); (case c2z471 => exact rfl); (case c3z471 => exact rfl); (case c4z471 => exact rfl); k_whole; intro gw Lw hw tkw cellsw FGw Fw Nw Yw Bw Xw Tw l1w; (try k_lt l1w); k_cells Yw; (try simp only [List.cons_append, List.nil_append] at Nw); (try dsimp only); (try k_lift Bw); (try k_fold)))
  k_with "k_ne" => (refine neN ?_; (try dsimp only); first | with_reducible assumption | with_reducible exact Ne.symm (by assumption) | exact (by k_extra "nes") | exact Ne.symm (by k_extra "nes") | exact Nat.ne_of_lt (by k_extra "lt") | exact Nat.ne_of_gt (by k_extra "lt") | omega)
  k_with "lt" => (first | with_reducible assumption | with_reducible exact And.left (by assumption) | with_reducible exact And.left (And.right (by assumption)) | with_reducible exact And.left (And.right (And.right (by assumption))) | with_reducible exact And.left (And.right (And.right (And.right (by assumption)))) | with_reducible exact And.left (And.right (And.right (And.right (And.right (by assumption))))) | with_reducible exact And.left (And.right (And.right (And.right (And.right (And.right (by assumption)))))) | with_reducible exact And.left (And.right (And.right (And.right (And.right (And.right (And.right (by assumption))))))) | with_reducible exact And.left (And.right (And.right (And.right (And.right (And.right (And.right (And.right (by assumption)))))))) | with_reducible exact And.left (And.right (And.right (And.right (And.right (And.right (And.right (And.right (And.right (by assumption))))))))) | with_reducible exact And.left (And.right (And.right (And.right (And.right (And.right (And.right (And.right (And.right (And.right (by assumption)))))))))) | with_reducible exact And.left (And.right (And.right (And.right (And.right (And.right (And.right (And.right (And.right (And.right (And.right (by assumption))))))))))) | with_reducible exact And.left (And.right (And.right (And.right (And.right (And.right (And.right (And.right (And.right (And.right (And.right (And.right (by assumption)))))))))))) | with_reducible exact And.left (And.right (And.right (And.right (And.right (And.right (And.right (And.right (And.right (And.right (And.right (And.right (And.right (by assumption))))))))))))) | with_reducible exact And.left (And.right (And.right (And.right (And.right (And.right (And.right (And.right (And.right (And.right (And.right (And.right (And.right (And.right (by assumption)))))))))))))) | with_reducible exact And.left (And.right (And.right (And.right (And.right (And.right (And.right (And.right (And.right (And.right (And.right (And.right (And.right (And.right (And.right (by assumption))))))))))))))) | with_reducible exact And.left (And.right (And.right (And.right (And.right (And.right (And.right (And.right (And.right (And.right (And.right (And.right (And.right (And.right (And.right (And.right (by assumption)))))))))))))))) | with_reducible exact And.right (by assumption) | with_reducible exact And.right (And.right (by assumption)) | with_reducible exact And.right (And.right (And.right (by assumption))) | with_reducible exact And.right (And.right (And.right (And.right (by assumption)))) | with_reducible exact And.right (And.right (And.right (And.right (And.right (by assumption))))) | with_reducible exact And.right (And.right (And.right (And.right (And.right (And.right (by assumption)))))) | with_reducible exact And.right (And.right (And.right (And.right (And.right (And.right (And.right (by assumption))))))) | with_reducible exact And.right (And.right (And.right (And.right (And.right (And.right (And.right (And.right (by assumption)))))))) | with_reducible exact And.right (And.right (And.right (And.right (And.right (And.right (And.right (And.right (And.right (by assumption))))))))))
  k_with "nes" => (first | with_reducible exact And.left (by assumption) | with_reducible exact And.left (And.right (by assumption)) | with_reducible exact And.left (And.right (And.right (by assumption))) | with_reducible exact And.left (And.right (And.right (And.right (by assumption)))) | with_reducible exact And.left (And.right (And.right (And.right (And.right (by assumption))))) | with_reducible exact And.left (And.right (And.right (And.right (And.right (And.right (by assumption)))))) | with_reducible exact And.right (by assumption) | with_reducible exact And.right (And.right (by assumption)) | with_reducible exact And.right (And.right (And.right (by assumption))) | with_reducible exact And.right (And.right (And.right (And.right (by assumption)))) | with_reducible exact And.right (And.right (And.right (And.right (And.right (by assumption))))))
  k_with "subscriptTail" => ((k_here; (with_reducible show wpAny _ _ (subscriptTail _ _ (Value.ref _) (Value.int 0 _)) _ _ _); k_dflt (refine' tup_head ?Nz455 ?mz455 ?_; (case Nz455 => k_asm); (case mz455 => k_mem); k_whole)))
  k_with "call type:tuple" => ((k_here; (with_reducible show wpAny _ _ (call (Value.type "tuple") [Value.ref _]) _ _ _); k_dflt (refine' tuple_ofM ?Fz456 ?Nz456 ?mz456 ?zz456 ?_; (case Fz456 => k_asm); (case Nz456 => k_asm); (case mz456 => k_mem); (case zz456 => first | assumption | (simp only [List.length_cons, List.length_nil]; omega)); k_whole); intro Dw hw Fw Nw l1w; (try k_lt l1w); (try k_sweep)))
  k_with "call type:list" => ((k_here; (with_reducible show wpAny _ _ (call (Value.type "list") [Value.ref _]) _ _ _); k_dflt (refine' list_ofTupM ?Fz457 ?Nz457 ?mz457 ?zz457 ?_; (case Fz457 => k_asm); (case Nz457 => k_asm); (case mz457 => k_mem); (case zz457 => first | assumption | (simp only [List.length_cons, List.length_nil]; omega)); k_whole); intro Dw kw hw Fw Nw l1w; (try k_lt l1w); (try k_sweep)))
  k_with "subscriptTail Name Slice ref ref" => ((k_here; (with_reducible show wpAny _ _ (subscriptTail _ (PySem.Expr.Slice (some _) none none _) (Value.ref _) (Value.ref _)) _ _ _); k_dflt (refine' slice_tupM ?Fz458 ?Nz458 ?mz458 ?zz458 ?_ ?sz458 ?tz458; (case Fz458 => k_asm); (case Nz458 => k_asm); (case mz458 => k_mem); (case zz458 => first | assumption | (simp only [List.length_cons, List.length_nil]; omega)); (case sz458 => with_unfolding_all rfl); (case tz458 => kmk_pure)); intro Dw hw Fw Nw l1w; (try k_lt l1w); (try k_sweep)))
  k_with "compareOp Eq ref none" => ((k_here; (with_reducible show wpAny _ _ (compareOp CmpOp.Eq (Value.ref _) Value.none) _ _ _); k_dflt (refine' eq_tup_none ?Nz459 ?mz459 ?uz459 ?_; (case Nz459 => k_asm); (case mz459 => k_mem); (case uz459 => k_units); k_whole)))
  k_with "compareOp Eq ref" => ((k_here; (with_reducible show wpAny _ _ (compareOp CmpOp.Eq (Value.ref _) Value.none) _ _ _); k_dflt (refine' eq_tup_none ?Nz460 ?mz460 ?uz460 ?_; (case Nz460 => k_asm); (case mz460 => k_mem); (case uz460 => k_units); k_whole)))
  k_with "k_mem" => (((repeat (first | exact List.Mem.head _ | assumption | refine' List.Mem.tail _ ?_ | exact List.mem_append_left _ (by assumption) | exact List.mem_append_left _ (List.Mem.head _) | refine' List.mem_append_right _ ?_)); done))
  k_with "binaryOp Add ref ref" => ((k_here; (with_reducible show wpAny _ _ (binaryOp Operator.Add (Value.ref _) (Value.ref _)) _ _ _); k_dflt (refine' add_tupM ?Fz462 ?Nz462 ?mz462 ?nz462 ?zz462 ?az462 ?bz462; (case Fz462 => k_asm); (case Nz462 => k_asm); (case mz462 => k_mem); (case nz462 => k_mem); (case zz462 => first | assumption | (simp only [List.length_cons, List.length_nil]; omega)); (case' az462 => intro e1w); (case' bz462 => (intro e1w Dw hw Fw Nw l1w; (try k_lt l1w); (try k_sweep))))))
  k_with "kqd_sub" => (((repeat (refine List.forall_mem_cons.mpr ⟨by k_mem, ?_⟩)); first | exact List.forall_mem_nil _ | (intro p9 h9; k_mem)))
  k_with "ktr_rel" => (first | assumption | exact tb_ltOf (by first | assumption | exact (And.right (by assumption)) | exact (And.right (And.right (by assumption))) | exact (And.right (And.right (And.right (by assumption)))) | exact (And.right (And.right (And.right (And.right (by assumption))))) | exact (And.right (And.right (And.right (And.right (And.right (by assumption)))))) | exact (And.right (And.right (And.right (And.right (And.right (And.right (by assumption))))))) | exact (And.right (And.right (And.right (And.right (And.right (And.right (And.right (by assumption)))))))) | exact (And.right (And.right (And.right (And.right (And.right (And.right (And.right (And.right (by assumption))))))))) | exact (And.right (And.right (And.right (And.right (And.right (And.right (And.right (And.right (And.right (by assumption)))))))))) | exact (And.right (And.right (And.right (And.right (And.right (And.right (And.right (And.right (And.right (And.right (by assumption)))))))))))))
  k_with "getMethod ref" => ((k_here; (with_reducible show wpAny _ _ (getMethod (Value.ref _) (Str.ofString "get") _) _ _ _); k_dflt (refine kdg_method (knd := PySem.intKind Pr _) (by k_asm) (by k_mem) (by k_asm) ?_)))
  k_with "call builtin:dict.get" => ((k_here; (try dsimp only [List.nil_append, List.cons_append]); (with_reducible show wpAny _ _ (call (Value.builtin _) [Value.ref _, Value.int _ _, _]) _ _ _); k_dflt (refine kdg_get2 (knd := PySem.intKind Pr _) (by k_asm) (by k_mem) (by k_asm) (by k_asm) (intKind_is _ _ _ _) _ (by assumption) ?_); (try dsimp only [Option.getD])))
  k_with "subscriptTail" => ((k_here; (with_reducible show wpAny _ _ (subscriptTail _ _ (Value.ref _) (Value.int _ _)) _ _ _); k_dflt (refine' list_itemM ?Nz467 ?mz467 ?xz467 ?kz467 ?zz467 ?_; (case Nz467 => k_asm); (case mz467 => k_mem); (case xz467 => assumption); (case kz467 => omega); (case zz467 => first | assumption | omega); k_whole)))
  k_with "call builtin:len" => ((k_here; (with_reducible show wpAny _ _ (call (Value.builtin "len") [Value.ref _]) _ _ _); k_dflt (refine' len_listM ?Nz468 ?mz468 ?zz468 ?_; (case Nz468 => k_asm); (case mz468 => k_mem); (case zz468 => first | assumption | omega); k_whole)))
  k_with "tb_rel" => (first | assumption | (refine' LV.mono ?hz469 ?sz469; (case hz469 => assumption); (case sz469 => kqd_sub)) | (refine' RowsIn.mono ?sz469 ?hz469; (case hz469 => assumption); (case sz469 => kqd_sub)) | (refine' LispAt.mono ?hz469 ?sz469; (case hz469 => assumption); (case sz469 => kqd_sub)) | (refine' RulesAt.mono ?hz469 ?sz469; (case hz469 => assumption); (case sz469 => kqd_sub)) | (refine' IntDict.mono ?hz469 ?sz469; (case hz469 => assumption); (case sz469 => kqd_sub)) | (refine' PlistsIn.mono ?hz469 ?sz469; (case hz469 => assumption); (case sz469 => kqd_sub)) | (refine' DatAll.mono ?sz469 ?hz469; (case hz469 => assumption); (case sz469 => kqd_sub)))
  k_with "RangeRest" => (refine stop_of ?_)
  trivial
theorem turn_ok {w : World} {mean : ExcName → Option Value} {mg mb : Str → Option Value} {h₀ : Heap} {d : Scope} {L fa : Addr} {cdv : Value} {Q : Flow → Shared → Prop} {s : Shared} {pd dd li ru : Addr} {o1 oc : Obj} {fi : Int} {kvs1 : List (Int × Value)} {pl : Int → List (Int × Dat)} {M : Str → Option Value} {led : List (Addr × Obj)} {k : Int} {t : Tok}
    {o c p : Addr} {wo wc wp : List Value} {ko kc kp : Nat} {ro rc rp : List (Int × Dat)}
    (K0 : Below callerA h₀ [] h₀) (X : (Mine.hd.heap_39 w.params).In h₀) (T : TopOk mean mg mb h₀) (F : Fr h₀ L s.heap M) (N : News h₀ L s.heap led)
    (q1 : PlistsIn led kvs1 pl) (q2 : LispAt w led li fi pd) (q3 : RulesAt w led ru li fi dd) (q4 : (L + 1, oc) ∈ led) (hoc : oc.data = .cell (some (.ref li))) (q5 : (pd, o1) ∈ led) (hD1 : o1.IsDictOf (PySem.intKind Pr w) kvs1) (hs1 : (pd == sysModules) = false) (hf1 : fi < 40) (hk0 : 100 ≤ k)
    (g1 : M (Str.ofString "number") = some (.int k t)) (g2 : M (Str.ofString "category") = some (.ref c)) (g3 : M (Str.ofString "plist") = some (.ref p)) (g4 : M (Str.ofString "own") = some (.ref o)) (g5 : M (Str.ofString "rules") = some (.ref ru))
    (a1 : (o, listOf wo.toArray ko) ∈ led) (a2 : RowsIn led wo ro) (a3 : ro.length ≤ 4) (a4 : ∀ q ∈ ro, KeyOk q.1) (a5 : (c, listOf wc.toArray kc) ∈ led) (a6 : RowsIn led wc rc) (a7 : CatOk fi rc) (a8 : (p, listOf wp.toArray kp) ∈ led) (a9 : RowsIn led wp rp) (b1 : rp = ro ++ rc ∨ rp = rc ++ ro) (z2 : rp.length ≤ 100) :
    wpAny (model Pr w) (callerA.deeper (lawEnv w.params d L fa cdv)) (execs (turnBody w.params) (lawEnv w.params d L fa cdv)) (CutPost (fun s' => ∃ (h : Heap) (tk : Nat) (m' : Str → Option Value), s' = { s with heap := h, toks := tk } ∧ Fr h₀ L h m' ∧ Upto numN M m' ∧ News h₀ L h led) Q) (fun _ _ => False) s := by
  have e1 : setM (Str.ofString "number") (some (.int k t)) (setM (Str.ofString "category") (some (.ref c)) M) = M := by rw [setM_self g2, setM_self g1]
  refine cut_at 2 (MidT h₀ L s led ro rp fi pl k M) ?_ ?_
  · have q := lap_T1 (d := d) (fa := fa) (cdv := cdv) (m := M) (t := t) (ro := ro) (rp := rp) (Q := CutPost (fun s' => ∃ (h : Heap) (tk : Nat) (m' : Str → Option Value), s' = { s with heap := h, toks := tk } ∧ Fr h₀ L h m' ∧ Upto numN M m' ∧ News h₀ L h led) Q) K0 X T (by rw [e1]; exact F) N q1 q2 q3 q4 hoc q5 hD1 hs1 hf1 hk0 a4 a5 a6 a7 b1
    rw [e1] at q
    exact q
  · rintro s' ⟨h, tk, f, wf, kf, led2, fur, rfl, F2, N2, sub, fm, hfur, hvn⟩
    have f1 : setM (Str.ofString "further") (some (.ref f)) M (Str.ofString "number") = some (.int k t) := (if_neg (by decide +kernel)).trans g1
    have f3 : setM (Str.ofString "further") (some (.ref f)) M (Str.ofString "plist") = some (.ref p) := (if_neg (by decide +kernel)).trans g3
    have f4 : setM (Str.ofString "further") (some (.ref f)) M (Str.ofString "own") = some (.ref o) := (if_neg (by decide +kernel)).trans g4
    have f5 : setM (Str.ofString "further") (some (.ref f)) M (Str.ofString "rules") = some (.ref ru) := (if_neg (by decide +kernel)).trans g5
    have f6 : setM (Str.ofString "further") (some (.ref f)) M (Str.ofString "further") = some (.ref f) := if_pos rfl
    have e2 : setM (Str.ofString "further") (some (.ref f)) (setM (Str.ofString "number") (some (.int k t)) (setM (Str.ofString "plist") (some (.ref p)) (setM (Str.ofString "own") (some (.ref o)) (setM (Str.ofString "rules") (some (.ref ru)) (setM (Str.ofString "further") (some (.ref f)) M))))) = setM (Str.ofString "further") (some (.ref f)) M := by
      rw [setM_self f5, setM_self f4, setM_self f3, setM_self f1, setM_self f6]
    refine wpAny_mono (lap_T2 (d := d) (fa := fa) (cdv := cdv) (m := setM (Str.ofString "further") (some (.ref f)) M) (s := { s with heap := h, toks := tk }) (Q := Q) (fur := fur) (t := t) K0 X T (by rw [e2]; exact F2) N2 (q1.mono sub) (q2.mono sub) (q3.mono sub) (sub _ q4) hoc (sub _ q5) hD1 hs1 hf1 hk0 (sub _ a1) (a2.mono sub) a3 fm (sub _ a8) (a9.mono sub) z2 hfur (fun d g => vi_own a7 hf1 hk0 b1 g) hvn) (fun fl s3 q => ?_) fun _ _ e => e
    cases fl with
    | next =>
      obtain ⟨h3, tk3, rfl, F3, N3⟩ := q
      rw [e2] at F3
      exact ⟨h3, tk3, _, rfl, F3, Upto.set (.tail _ (.head _)) (Upto.refl _ _), cb_drop N3 sub⟩
    | ret v => exact q
    | brk => exact q
    | cont => exact q
set_option maxHeartbeats 4000000 in
theorem lap_B {w : World} {mean : ExcName → Option Value} {mg mb : Str → Option Value} {h₀ : Heap} {d : Scope} {L fa : Addr} {cdv : Value} {E : Value → Shared → Prop} {Q : Flow → Shared → Prop} {s : Shared} {I pd dd dk li ru : Addr} {it o1 o2 oc : Obj} {fi : Int} {kvs1 : List (Int × Value)} {pl : Int → List (Int × Dat)} {m : Str → Option Value} {bag : List (Addr × Obj)} {vs : List Value} {n : Nat} {o c p : Addr} {wo wc wp : List Value} {ko kc kp : Nat} {ro rc rp : List (Int × Dat)}
    (K0 : Below callerA h₀ [] h₀) (X : (Mine.hd.heap_39 w.params).In h₀) (T : TopOk mean mg mb h₀)
    (F : Fr h₀ L s.heap (fun y => if y = (Str.ofString "plist") then some (.ref p) else if y = (Str.ofString "category") then some (.ref c) else if y = (Str.ofString "own") then some (.ref o) else if y = (Str.ofString "deck") then some (.ref dk) else if y = (Str.ofString "rules") then some (.ref ru) else m y))
    (N : News h₀ L s.heap ((I, it) :: (pd, o1) :: (dd, o2) :: (dk, listOf vs.toArray n) :: bag)) (Bg : Bag w I pd dd dk li ru (L + 1) fi oc kvs1 pl bag) (hoc : oc.data = .cell (some (.ref li))) (hdk : DeckOk vs) (ap : Apart I pd dd dk) (hf0 : 0 ≤ fi) (hf1 : fi < 40)
    (hD1 : o1.IsDictOf (PySem.intKind Pr w) kvs1) (hs1 : (pd == sysModules) = false)
    (a1 : (o, listOf wo.toArray ko) ∈ bag) (a2 : RowsIn bag wo ro) (a3 : ro.length ≤ 4) (a4 : ∀ q ∈ ro, KeyOk q.1) (a5 : (c, listOf wc.toArray kc) ∈ bag) (a6 : RowsIn bag wc rc) (a7 : CatOk fi rc) (a8 : (p, listOf wp.toArray kp) ∈ bag) (a9 : RowsIn bag wp rp) (b1 : rp = ro ++ rc ∨ rp = rc ++ ro) :
    wpAny (model Pr w) (callerA.deeper (lawEnv w.params d L fa cdv)) (execs (((lapBody w.params).drop 3).take 1) (lawEnv w.params d L fa cdv)) (CutPost (MidB h₀ L s dk ru m ((I, it) :: (pd, o1) :: (dd, o2) :: (dk, listOf vs.toArray n) :: bag)) Q) (fun _ _ => False) s := by
  have e1 : lapBody w.params = lapBody w.params := rfl
  conv at e1 => rhs; whnf
  have e2 : scopeOf w.params 197 d = scopeOf w.params 197 d := rfl
  conv at e2 => rhs; whnf
  rw [e1]
  unfold lawEnv
  rw [e2]
  clear e1 e2
  simp only [List.take_succ_cons, List.take_zero, List.drop_succ_cons, List.drop_zero]
  obtain ⟨q1, q2, q3, q4, q5, q6, q7, q8⟩ := Bg
  obtain ⟨ap1, ap2, ap3, ap4, ap5, ap6⟩ := ap
  have w1 := q2
  have w2 := q3
  obtain ⟨dl8, tl1, tl2, tl3, tl4, tl5, w3, w4⟩ := w1
  obtain ⟨dr8, tr8, w5, w6⟩ := w2
  try k_fold
  have z1 := rows_len a2 a3
  have z2 : rp.length ≤ 100 := by
    have := cat_len a7
    rcases b1 with rfl | rfl <;> rw [List.length_append] <;> omega
  have z3 : ro.length ≤ 100 := by omega
  k_steps
  unfold Stop
  refine range_lapI numN (fun i news => news = (I, it) :: (pd, o1) :: (dd, o2) :: (dk, listOf vs.toArray n) :: bag) rfl (lt_ne (by ktr_rel)) ?step ?done
  case done =>
    rintro m9 news9 rfl hm9 h9 tk9 F9 N9
    k_steps
    have u1 : m9 (Str.ofString "deck") = some (.ref dk) := (hm9 _ (by decide +kernel)).trans rfl
    have u2 : m9 (Str.ofString "rules") = some (.ref ru) := (hm9 _ (by decide +kernel)).trans rfl
    have F8 : Fr h₀ L h9 (fun y => if y = (Str.ofString "deck") then some (.ref dk) else if y = (Str.ofString "rules") then some (.ref ru) else m9 y) := by
      have e1 := chain_top (m := m9) u2
      have e2 := chain_top (m := fun y => if y = (Str.ofString "rules") then some (.ref ru) else m9 y) (x := (Str.ofString "deck")) (v := some (.ref dk)) ((if_neg (by decide +kernel)).trans u1)
      rw [← e2, ← e1]
      exact F9
    refine cut_next ⟨_, _, m9, rfl, F8, ?_, N9⟩
    exact Upto.trans (Upto.set (by decide +kernel) (Upto.set (by decide +kernel) (Upto.set (by decide +kernel) (Upto.refl _ _)))) (hm9.mono num_lap)
  case step =>
    rintro i m9 news9 hi rfl hI9 hm9 t9 h9 tk9 F9 N9
    have U9 : Upto numN _ (fun y => if y = (Str.ofString "number") then some (.int (100 + (i : Int)) t9) else m9 y) := Upto.set (.head _) hm9
    refine' cut_mono (turn_ok (d := d) (fa := fa) (cdv := cdv) (k := 100 + (i : Int)) (t := t9) (o := o) (c := c) (p := p) (ru := ru) K0 X T F9 N9 (q1.mono fun p hp => ?s1) (q2.mono fun p hp => ?s2) (q3.mono fun p hp => ?s3) ?s4 hoc ?s5 hD1 hs1 hf1 (by omega) (if_pos rfl) ((U9 _ (by decide +kernel)).trans rfl) ((U9 _ (by decide +kernel)).trans rfl) ((U9 _ (by decide +kernel)).trans rfl) ((U9 _ (by decide +kernel)).trans rfl)
      ?s6 (a2.mono fun p hp => ?s7) a3 a4 ?s8 (a6.mono fun p hp => ?s9) a7 ?s10 (a9.mono fun p hp => ?s11) b1 z2) ?zz
    case s1 => k_mem
    case s2 => k_mem
    case s3 => k_mem
    case s4 => k_mem
    case s5 => k_mem
    case s6 => k_mem
    case s7 => k_mem
    case s8 => k_mem
    case s9 => k_mem
    case s10 => k_mem
    case s11 => k_mem
    case zz =>
      rintro s3 ⟨h3, tk3, m3, rfl, F3, U3, N3⟩
      exact UnrEnd.intro F3 N3 _ (fun p hp => hp) hI9 ⟨rfl, Upto.trans U9 U3⟩
end
section
local macro_rules | `(tactic| k_all) => `(tactic| assumption)
local macro_rules | `(tactic| k_updF) => `(tactic| first | (refine' UpdE.head ?a; (case a => k_all)) | (refine' UpdE.tail ?a ?b; (case a => k_ne); (case b => k_updF)))
local macro_rules | `(tactic| k_all) => `(tactic| first | assumption | exact List.forall_mem_nil _ | (refine' List.forall_mem_cons.mpr ⟨?a, ?b⟩; (case a => k_ne); (case b => k_all)) | (refine' List.forall_mem_append.mpr ⟨?a, ?b⟩; (case a => exact frq (by assumption) (by k_mem)); (case b => k_all)) | exact frq (by assumption) (by k_mem))
theorem words_LC_1 : True := by
  k_with_none
  k_with "k_enter" => (first | (refine' code_def ?k1z493 ?k2z493 ?k3z493 ?k4z493 ?k5z493 ?kAz493 ?kFz493 ?kKz493 ?k6z493 ?k7z493 ?k8z493 ?k9z493 ?kBz493 ?_ ?c2z493 ?c3z493 ?c4z493 ?c5z493; (case kAz493 => exact rfl); (case kFz493 => first | exact rfl | assumption); (case kKz493 => first | exact rfl | assumption); (case k1z493 => k_asm); (case k2z493 => k_asm); (case k3z493 => k_asm); (case k4z493 => k_asm); (case k5z493 => k_asm); (case k6z493 => k_is); (case k7z493 => k_is); (case k8z493 => k_room); (case k9z493 => first | exact BindsTo.of_eq rfl | exact binds_K (by k_in) rfl (by k_is) rfl rfl rfl | fail "k_enter: no rule for these arguments"); (case c5z493 => decide); (case kBz493 => exact locs rfl); (case c2z493 => exact rfl); (case c3z493 => exact rfl); (case c4z493 => exact rfl); k_whole; intro gw Lw hw FGw Fw Nw Bw Xw Tw; (try dsimp only); (try k_lift Bw); (try k_fold)) | (refine' code_defC ?k1z493 ?k2z493 ?k3z493 ?k4z493 ?k5z493 ?kAz493 ?kFz493 ?kKz493 ?k6z493 ?k7z493 ?k8z493 ?k9z493 ?kBz493 ?kDz493 ?_ ?c2z493 ?c3z493 ?c4z493; (case kAz493 => exact rfl); (case kFz493 => first | exact rfl | assumption); (case kKz493 => first | exact rfl | assumption); (case k1z493 => k_asm); (case k2z493 => k_asm); (case k3z493 => k_asm); (case k4z493 => k_asm); (case k5z493 => k_asm); (case k6z493 => k_is); (case k7z493 => k_is); (case k8z493 => k_room); (case k9z493 => first | exact BindsTo.of_eq rfl | exact binds_K (by k_in) rfl (by k_is) rfl rfl rfl | fail "k_enter: no rule for these arguments"); (case kBz493 => exact rfl); (case kDz493 => decide +kernel); (case c2z493 => exact rfl); (case c3z493 => exact rfl); (case c4z493 => exact rfl); k_whole; intro gw Lw hw tkw cellsw FGw Fw Nw Yw Bw Xw Tw l1w; (try k_lt l1w); k_cells Yw; (try simp only [List.cons_append, List.nil_append] at Nw); (try dsimp only); (try k_lift Bw); (try k_fold)))
  k_with "k_ne" => (refine neN ?_; (try dsimp only); first | with_reducible assumption | with_reducible exact Ne.symm (by assumption) | exact (by k_extra "nes") | exact Ne.symm (by k_extra "nes") | exact Nat.ne_of_lt (by k_extra "lt") | exact Nat.ne_of_gt (by k_extra "lt") | omega)
  k_with "lt" => (first | with_reducible assumption | with_reducible exact And.left (by assumption) | with_reducible exact And.left (And.right (by assumption)) | with_reducible exact And.left (And.right (And.right (by assumption))) | with_reducible exact And.left (And.right (And.right (And.right (by assumption)))) | with_reducible exact And.left (And.right (And.right (And.right (And.right (by assumption))))) | with_reducible exact And.left (And.right (And.right (And.right (And.right (And.right (by assumption)))))) | with_reducible exact And.left (And.right (And.right (And.right (And.right (And.right (And.right (by assumption))))))) | with_reducible exact And.left (And.right (And.right (And.right (And.right (And.right (And.right (And.right (by assumption)))))))) | with_reducible exact And.left (And.right (And.right (And.right (And.right (And.right (And.right (And.right (And.right (by assumption))))))))) | with_reducible exact And.left (And.right (And.right (And.right (And.right (And.right (And.right (And.right (And.right (And.right (by assumption)))))))))) | with_reducible exact And.left (And.right (And.right (And.right (And.right (And.right (And.right (And.right (And.right (And.right (And.right (by assumption))))))))))) | with_reducible exact And.left (And.right (And.right (And.right (And.right (And.right (And.right (And.right (And.right (And.right (And.right (And.right (by assumption)))))))))))) | with_reducible exact And.left (And.right (And.right (And.right (And.right (And.right (And.right (And.right (And.right (And.right (And.right (And.right (And.right (by assumption))))))))))))) | with_reducible exact And.left (And.right (And.right (And.right (And.right (And.right (And.right (And.right (And.right (And.right (And.right (And.right (And.right (And.right (by assumption)))))))))))))) | with_reducible exact And.left (And.right (And.right (And.right (And.right (And.right (And.right (And.right (And.right (And.right (And.right (And.right (And.right (And.right (And.right (by assumption))))))))))))))) | with_reducible exact And.left (And.right (And.right (And.right (And.right (And.right (And.right (And.right (And.right (And.right (And.right (And.right (And.right (And.right (And.right (And.right (by assumption)))))))))))))))) | with_reducible exact And.right (by assumption) | with_reducible exact And.right (And.right (by assumption)) | with_reducible exact And.right (And.right (And.right (by assumption))) | with_reducible exact And.right (And.right (And.right (And.right (by assumption)))) | with_reducible exact And.right (And.right (And.right (And.right (And.right (by assumption))))) | with_reducible exact And.right (And.right (And.right (And.right (And.right (And.right (by assumption)))))) | with_reducible exact And.right (And.right (And.right (And.right (And.right (And.right (And.right (by assumption))))))) | with_reducible exact And.right (And.right (And.right (And.right (And.right (And.right (And.right (And.right (by assumption)))))))) | with_reducible exact And.right (And.right (And.right (And.right (And.right (And.right (And.right (And.right (And.right (by assumption))))))))))
  k_with "nes" => (first | with_reducible exact And.left (by assumption) | with_reducible exact And.left (And.right (by assumption)) | with_reducible exact And.left (And.right (And.right (by assumption))) | with_reducible exact And.left (And.right (And.right (And.right (by assumption)))) | with_reducible exact And.left (And.right (And.right (And.right (And.right (by assumption))))) | with_reducible exact And.left (And.right (And.right (And.right (And.right (And.right (by assumption)))))) | with_reducible exact And.right (by assumption) | with_reducible exact And.right (And.right (by assumption)) | with_reducible exact And.right (And.right (And.right (by assumption))) | with_reducible exact And.right (And.right (And.right (And.right (by assumption)))) | with_reducible exact And.right (And.right (And.right (And.right (And.right (by assumption))))))
  k_with "subscriptTail" => ((k_here; (with_reducible show wpAny _ _ (subscriptTail _ _ (Value.ref _) (Value.int 0 _)) _ _ _); k_dflt (refine' tup_head ?Nz472 ?mz472 ?_; (case Nz472 => k_asm); (case mz472 => k_mem); k_whole)))
  k_with "call type:tuple" => ((k_here; (with_reducible show wpAny _ _ (call (Value.type "tuple") [Value.ref _]) _ _ _); k_dflt (refine' tuple_ofM ?Fz473 ?Nz473 ?mz473 ?zz473 ?_; (case Fz473 => k_asm); (case Nz473 => k_asm); (case mz473 => k_mem); (case zz473 => first | assumption | (simp only [List.length_cons, List.length_nil]; omega)); k_whole); intro Dw hw Fw Nw l1w; (try k_lt l1w); (try k_sweep)))
  k_with "call type:list" => ((k_here; (with_reducible show wpAny _ _ (call (Value.type "list") [Value.ref _]) _ _ _); k_dflt (refine' list_ofTupM ?Fz474 ?Nz474 ?mz474 ?zz474 ?_; (case Fz474 => k_asm); (case Nz474 => k_asm); (case mz474 => k_mem); (case zz474 => first | assumption | (simp only [List.length_cons, List.length_nil]; omega)); k_whole); intro Dw kw hw Fw Nw l1w; (try k_lt l1w); (try k_sweep)))
  k_with "subscriptTail Name Slice ref ref" => ((k_here; (with_reducible show wpAny _ _ (subscriptTail _ (PySem.Expr.Slice (some _) none none _) (Value.ref _) (Value.ref _)) _ _ _); k_dflt (refine' slice_tupM ?Fz475 ?Nz475 ?mz475 ?zz475 ?_ ?sz475 ?tz475; (case Fz475 => k_asm); (case Nz475 => k_asm); (case mz475 => k_mem); (case zz475 => first | assumption | (simp only [List.length_cons, List.length_nil]; omega)); (case sz475 => with_unfolding_all rfl); (case tz475 => kmk_pure)); intro Dw hw Fw Nw l1w; (try k_lt l1w); (try k_sweep)))
  k_with "compareOp Eq ref none" => ((k_here; (with_reducible show wpAny _ _ (compareOp CmpOp.Eq (Value.ref _) Value.none) _ _ _); k_dflt (refine' eq_tup_none ?Nz476 ?mz476 ?uz476 ?_; (case Nz476 => k_asm); (case mz476 => k_mem); (case uz476 => k_units); k_whole)))
  k_with "compareOp Eq ref" => ((k_here; (with_reducible show wpAny _ _ (compareOp CmpOp.Eq (Value.ref _) Value.none) _ _ _); k_dflt (refine' eq_tup_none ?Nz477 ?mz477 ?uz477 ?_; (case Nz477 => k_asm); (case mz477 => k_mem); (case uz477 => k_units); k_whole)))
  k_with "k_mem" => (((repeat (first | exact List.Mem.head _ | assumption | refine' List.Mem.tail _ ?_ | exact List.mem_append_left _ (by assumption) | exact List.mem_append_left _ (List.Mem.head _) | refine' List.mem_append_right _ ?_)); done))
  k_with "binaryOp Add ref ref" => ((k_here; (with_reducible show wpAny _ _ (binaryOp Operator.Add (Value.ref _) (Value.ref _)) _ _ _); k_dflt (refine' add_tupM ?Fz479 ?Nz479 ?mz479 ?nz479 ?zz479 ?az479 ?bz479; (case Fz479 => k_asm); (case Nz479 => k_asm); (case mz479 => k_mem); (case nz479 => k_mem); (case zz479 => first | assumption | (simp only [List.length_cons, List.length_nil]; omega)); (case' az479 => intro e1w); (case' bz479 => (intro e1w Dw hw Fw Nw l1w; (try k_lt l1w); (try k_sweep))))))
  k_with "kqd_sub" => (((repeat (refine List.forall_mem_cons.mpr ⟨by k_mem, ?_⟩)); first | exact List.forall_mem_nil _ | (intro p9 h9; k_mem)))
  k_with "ktr_rel" => (first | assumption | exact tb_ltOf (by first | assumption | exact (And.right (by assumption)) | exact (And.right (And.right (by assumption))) | exact (And.right (And.right (And.right (by assumption)))) | exact (And.right (And.right (And.right (And.right (by assumption))))) | exact (And.right (And.right (And.right (And.right (And.right (by assumption)))))) | exact (And.right (And.right (And.right (And.right (And.right (And.right (by assumption))))))) | exact (And.right (And.right (And.right (And.right (And.right (And.right (And.right (by assumption)))))))) | exact (And.right (And.right (And.right (And.right (And.right (And.right (And.right (And.right (by assumption))))))))) | exact (And.right (And.right (And.right (And.right (And.right (And.right (And.right (And.right (And.right (by assumption)))))))))) | exact (And.right (And.right (And.right (And.right (And.right (And.right (And.right (And.right (And.right (And.right (by assumption)))))))))))))
  k_with "getMethod ref" => ((k_here; (with_reducible show wpAny _ _ (getMethod (Value.ref _) (Str.ofString "get") _) _ _ _); k_dflt (refine kdg_method (knd := PySem.intKind Pr _) (by k_asm) (by k_mem) (by k_asm) ?_)))
  k_with "call builtin:dict.get" => ((k_here; (try dsimp only [List.nil_append, List.cons_append]); (with_reducible show wpAny _ _ (call (Value.builtin _) [Value.ref _, Value.int _ _, _]) _ _ _); k_dflt (refine kdg_get2 (knd := PySem.intKind Pr _) (by k_asm) (by k_mem) (by k_asm) (by k_asm) (intKind_is _ _ _ _) _ (by assumption) ?_); (try dsimp only [Option.getD])))
  k_with "subscriptTail" => ((k_here; (with_reducible show wpAny _ _ (subscriptTail _ _ (Value.ref _) (Value.int _ _)) _ _ _); k_dflt (refine' list_itemM ?Nz484 ?mz484 ?xz484 ?kz484 ?zz484 ?_; (case Nz484 => k_asm); (case mz484 => k_mem); (case xz484 => assumption); (case kz484 => omega); (case zz484 => first | assumption | omega); k_whole)))
  k_with "call builtin:len" => ((k_here; (with_reducible show wpAny _ _ (call (Value.builtin "len") [Value.ref _]) _ _ _); k_dflt (refine' len_listM ?Nz485 ?mz485 ?zz485 ?_; (case Nz485 => k_asm); (case mz485 => k_mem); (case zz485 => first | assumption | omega); k_whole)))
  k_with "tb_rel" => (first | assumption | (refine' LV.mono ?hz486 ?sz486; (case hz486 => assumption); (case sz486 => kqd_sub)) | (refine' RowsIn.mono ?sz486 ?hz486; (case hz486 => assumption); (case sz486 => kqd_sub)) | (refine' LispAt.mono ?hz486 ?sz486; (case hz486 => assumption); (case sz486 => kqd_sub)) | (refine' RulesAt.mono ?hz486 ?sz486; (case hz486 => assumption); (case sz486 => kqd_sub)) | (refine' IntDict.mono ?hz486 ?sz486; (case hz486 => assumption); (case sz486 => kqd_sub)) | (refine' PlistsIn.mono ?hz486 ?sz486; (case hz486 => assumption); (case sz486 => kqd_sub)) | (refine' DatAll.mono ?sz486 ?hz486; (case hz486 => assumption); (case sz486 => kqd_sub)))
  k_with "subscriptTail" => ((k_here; (with_reducible show wpAny _ _ (subscriptTail _ (PySem.Expr.Slice none (some _) none _) (Value.ref _) (Value.ref _)) _ _ _); k_dflt (refine' list_uptoM (s := ⟨_, _, _, _, _⟩) ?Fz487 ?Nz487 ?mz487 ?xz487 ?zz487 ?_ ?sz487 ?tz487; (case Fz487 => k_asm); (case Nz487 => k_asm); (case mz487 => k_mem); (case xz487 => omega); (case zz487 => first | assumption | omega | (simp only [List.length_cons, List.length_nil] <;> omega)); (case sz487 => with_unfolding_all rfl); (case tz487 => kmk_pure)); intro Dw hw Fw Nw l1w; (try k_lt l1w); (try k_sweep)))
  k_with "subscriptTail Name Slice ref ref" => ((k_here; (with_reducible show wpAny _ _ (subscriptTail _ (PySem.Expr.Slice none (some _) none _) (Value.ref _) (Value.ref _)) _ _ _); k_dflt (refine' list_uptoM (s := ⟨_, _, _, _, _⟩) ?Fz488 ?Nz488 ?mz488 ?xz488 ?zz488 ?_ ?sz488 ?tz488; (case Fz488 => k_asm); (case Nz488 => k_asm); (case mz488 => k_mem); (case xz488 => omega); (case zz488 => first | assumption | omega | (simp only [List.length_cons, List.length_nil] <;> omega)); (case sz488 => with_unfolding_all rfl); (case tz488 => kmk_pure)); intro Dw hw Fw Nw l1w; (try k_lt l1w); (try k_sweep)))
  k_with "binaryOp Add ref ref" => ((k_here; (with_reducible show wpAny _ _ (binaryOp Operator.Add (Value.ref _) (Value.ref _)) _ _ _); k_dflt (refine' list_addM ?Fz489 ?Nz489 ?mz489 ?nz489 ?zz489 ?_; (case Fz489 => k_asm); (case Nz489 => k_asm); (case mz489 => k_mem); (case nz489 => k_mem); (case zz489 => first | assumption | omega | (simp only [List.length_cons, List.length_nil, List.length_take, List.length_append] <;> omega)); k_whole); (intro Dw hw Fw Nw l1w; (try k_lt l1w); (try k_sweep))))
  k_with "call ref" => ((k_here; (with_reducible show wpAny _ _ (call (Value.ref 172) [Value.ref _, Value.int _ _]) _ _ _); k_dflt (refine' draw_use ?dkz490 ?mz490 ?m2z490 ?Uz490 ?Bz490 ?Fz490 ?Xz490 ?Nz490 ?Tz490 ?hz490 ?dpz490 ?uz490 ?Az490 ?fz490 ?kz490 ?_; (case Nz490 => k_asm); (case Uz490 => k_updF); (case dkz490 => assumption); (case mz490 => omega); (case m2z490 => omega); (case Bz490 => k_asm); (case Fz490 => k_asm); (case Xz490 => k_asm); (case Tz490 => k_asm); (case hz490 => exact rfl); (case dpz490 => exact Nat.le_of_ble_eq_true rfl); (case uz490 => exact Nat.le_of_ble_eq_true rfl); (case Az490 => exact rfl); (case fz490 => exact rfl); (case kz490 => exact rfl); k_whole); (intro xw uw vsw nw hw tkw low hiw dkw Fw Nw); (try dsimp only at Nw); (try k_sweep); (try k_fold)))
  k_with "call ref" => ((k_here; (with_reducible show wpAny _ _ (call (Value.ref 177) [Value.ref _, Value.ref _]) _ _ _); k_dflt (refine' value_use ?lz491 ?dkz491 ?Uz491 ?Bz491 ?Fz491 ?Xz491 ?Nz491 ?Tz491 ?hz491 ?dpz491 ?uz491 ?Az491 ?fz491 ?kz491 ?_; (case Nz491 => k_asm); (case Uz491 => k_updF); (case lz491 => first | tb_rel | exact ⟨_, _, _, _, _, _, by k_mem, by k_mem⟩); (case dkz491 => assumption); (case Bz491 => k_asm); (case Fz491 => k_asm); (case Xz491 => k_asm); (case Tz491 => k_asm); (case hz491 => exact rfl); (case dpz491 => exact Nat.le_of_ble_eq_true rfl); (case uz491 => exact Nat.le_of_ble_eq_true rfl); (case Az491 => exact rfl); (case fz491 => exact rfl); (case kz491 => exact rfl); k_whole); (intro rw vsw nw morew dw hw tkw dkw frw lvw Fw Nw); (try dsimp only at Nw); (try k_sweep); (try k_fold)))
  k_with "compareOp In ref ref" => ((k_here; (with_reducible show wpAny _ _ (compareOp CmpOp.In (Value.ref _) (Value.ref _)) _ _ _); k_dflt (refine' in_symsM ?Nz492 ?mz492 ?Sz492 ?tz492 ?uz492 ?_; (case Nz492 => k_asm); (case mz492 => k_mem); (case tz492 => k_mem); (case Sz492 => refine' SymsIn.mono ?sz492 ?hz492; (case hz492 => assumption); (case sz492 => kqd_sub)); (case uz492 => ke_room); k_whole)))
  trivial
set_option maxHeartbeats 4000000 in
theorem lap_C {w : World} {mean : ExcName → Option Value} {mg mb : Str → Option Value} {h₀ : Heap} {d : Scope} {L fa : Addr} {cdv : Value} {E : Value → Shared → Prop} {Q : Flow → Shared → Prop} {s : Shared} {I pd dd dk li ru : Addr} {it o1 o2 oc : Obj} {fi : Int} {kvs1 : List (Int × Value)} {pl : Int → List (Int × Dat)} {m : Str → Option Value} {bag : List (Addr × Obj)} {vs : List Value} {n : Nat}
    (K0 : Below callerA h₀ [] h₀) (X : (Mine.hd.heap_39 w.params).In h₀) (T : TopOk mean mg mb h₀)
    (F : Fr h₀ L s.heap (fun y => if y = (Str.ofString "deck") then some (.ref dk) else if y = (Str.ofString "rules") then some (.ref ru) else m y))
    (N : News h₀ L s.heap ((I, it) :: (pd, o1) :: (dd, o2) :: (dk, listOf vs.toArray n) :: bag)) (Bg : Bag w I pd dd dk li ru (L + 1) fi oc kvs1 pl bag) (hoc : oc.data = .cell (some (.ref li))) (hdk : DeckOk vs) (ap : Apart I pd dd dk) (hf0 : 0 ≤ fi) (hf1 : fi < 40) :
    wpAny (model Pr w) (callerA.deeper (lawEnv w.params d L fa cdv)) (execs (((lapBody w.params).drop 4).take 3) (lawEnv w.params d L fa cdv)) (CutPost (MidV w h₀ L s I pd dd dk li ru (L + 1) it o1 o2 oc fi kvs1 pl m) Q) (fun _ _ => False) s := by
  have e1 : lapBody w.params = lapBody w.params := rfl
  conv at e1 => rhs; whnf
  have e2 : scopeOf w.params 197 d = scopeOf w.params 197 d := rfl
  conv at e2 => rhs; whnf
  rw [e1]
  unfold lawEnv
  rw [e2]
  clear e1 e2
  simp only [List.take_succ_cons, List.take_zero, List.drop_succ_cons, List.drop_zero]
  obtain ⟨q1, q2, q3, q4, q5, q6, q7, q8⟩ := Bg
  obtain ⟨ap1, ap2, ap3, ap4, ap5, ap6⟩ := ap
  have w1 := q2
  have w2 := q3
  obtain ⟨dl8, tl1, tl2, tl3, tl4, tl5, w3, w4⟩ := w1
  obtain ⟨dr8, tr8, w5, w6⟩ := w2
  try k_fold
  k_steps
  rename LV _ _ _ => lv9
  have lv8 := lv9
  cases lv9
  case' lst => rename SymsIn _ _ _ _ => g2; have hz1 := lst_len g2 (by assumption); have hz2 := Nat.le_trans hz1 (show 4 ≤ 1000 by decide)
  all_goals k_steps
  · rename ∀ (p : Addr × Obj), p ∈ _ → ∀ q : Addr × Obj, q ∈ _ → p.1 ≠ q.1 => fr9
    refine cut_next ?_
    refine ⟨_, _, [_, _, _] ++ (_ ++ bag), _, _, _, _, _, _, _, rfl, fr_twice (by assumption), pull (front := [_, _, _]) (by assumption), Bag.grow ⟨q1, q2, q3, q4, q5, q6, q7, q8⟩ (fun p hp => List.mem_append_right _ (List.mem_append_right _ hp)) ?h1 ?h2 ?h3 ?h4, by assumption,
      LV.mono lv8 (fun p hp => List.mem_append_right _ (List.mem_append_left _ hp)), by omega, by omega, .inr (.inl ⟨_, _, rfl, rfl⟩)⟩
    case h1 => dsimp only [List.cons_append, List.nil_append]; k_all
    case h2 => dsimp only [List.cons_append, List.nil_append]; k_all
    case h3 => dsimp only [List.cons_append, List.nil_append]; k_all
    case h4 => dsimp only [List.cons_append, List.nil_append]; k_all
  · rename ∀ (p : Addr × Obj), p ∈ _ → ∀ q : Addr × Obj, q ∈ _ → p.1 ≠ q.1 => fr9
    refine cut_next ?_
    refine ⟨_, _, [_] ++ (_ ++ bag), _, _, _, _, _, _, _, rfl, by assumption, pull (front := [_]) (by assumption), Bag.grow ⟨q1, q2, q3, q4, q5, q6, q7, q8⟩ (fun p hp => List.mem_append_right _ (List.mem_append_right _ hp)) ?h1 ?h2 ?h3 ?h4, by assumption,
      LV.mono lv8 (fun p hp => List.mem_append_right _ (List.mem_append_left _ hp)), by omega, by omega, .inl ⟨rfl, rfl⟩⟩
    case h1 => dsimp only [List.cons_append, List.nil_append]; k_all
    case h2 => dsimp only [List.cons_append, List.nil_append]; k_all
    case h3 => dsimp only [List.cons_append, List.nil_append]; k_all
    case h4 => dsimp only [List.cons_append, List.nil_append]; k_all
  · rename ∀ (p : Addr × Obj), p ∈ _ → ∀ q : Addr × Obj, q ∈ _ → p.1 ≠ q.1 => fr9
    refine cut_next ?_
    refine ⟨_, _, [_] ++ (_ ++ bag), _, _, _, _, _, _, _, rfl, by assumption, pull (front := [_]) (by assumption), Bag.grow ⟨q1, q2, q3, q4, q5, q6, q7, q8⟩ (fun p hp => List.mem_append_right _ (List.mem_append_right _ hp)) ?h1 ?h2 ?h3 ?h4, by assumption,
      LV.mono lv8 (fun p hp => List.mem_append_right _ (List.mem_append_left _ hp)), by omega, by omega, .inr (.inr ⟨fun e => by simp [symD] at e, fun _ _ => symD_ne_lstD, rfl⟩)⟩
    case h1 => dsimp only [List.cons_append, List.nil_append]; k_all
    case h2 => dsimp only [List.cons_append, List.nil_append]; k_all
    case h3 => dsimp only [List.cons_append, List.nil_append]; k_all
    case h4 => dsimp only [List.cons_append, List.nil_append]; k_all
  · rename ∀ (p : Addr × Obj), p ∈ _ → ∀ q : Addr × Obj, q ∈ _ → p.1 ≠ q.1 => fr9
    refine cut_next ?_
    refine ⟨_, _, [_] ++ (_ ++ bag), _, _, _, _, _, _, _, rfl, by assumption, pull (front := [_]) (by assumption), Bag.grow ⟨q1, q2, q3, q4, q5, q6, q7, q8⟩ (fun p hp => List.mem_append_right _ (List.mem_append_right _ hp)) ?h1 ?h2 ?h3 ?h4, by assumption,
      LV.mono lv8 (fun p hp => List.mem_append_right _ (List.mem_append_left _ hp)), by omega, by omega, .inr (.inr ⟨fun e => by simp at e, fun _ _ => tru_ne_lstD, rfl⟩)⟩
    case h1 => dsimp only [List.cons_append, List.nil_append]; k_all
    case h2 => dsimp only [List.cons_append, List.nil_append]; k_all
    case h3 => dsimp only [List.cons_append, List.nil_append]; k_all
    case h4 => dsimp only [List.cons_append, List.nil_append]; k_all
  · rename ∀ (p : Addr × Obj), p ∈ _ → ∀ q : Addr × Obj, q ∈ _ → p.1 ≠ q.1 => fr9
    refine cut_next ?_
    refine ⟨_, _, [_] ++ (_ ++ bag), _, _, _, _, _, _, _, rfl, by assumption, pull (front := [_]) (by assumption), Bag.grow ⟨q1, q2, q3, q4, q5, q6, q7, q8⟩ (fun p hp => List.mem_append_right _ (List.mem_append_right _ hp)) ?h1 ?h2 ?h3 ?h4, by assumption,
      LV.mono lv8 (fun p hp => List.mem_append_right _ (List.mem_append_left _ hp)), by omega, by omega, .inr (.inr ⟨fun e => by simp at e, fun _ _ => int_ne_lstD, rfl⟩)⟩
    case h1 => dsimp only [List.cons_append, List.nil_append]; k_all
    case h2 => dsimp only [List.cons_append, List.nil_append]; k_all
    case h3 => dsimp only [List.cons_append, List.nil_append]; k_all
    case h4 => dsimp only [List.cons_append, List.nil_append]; k_all
  · rename ∀ (p : Addr × Obj), p ∈ _ → ∀ q : Addr × Obj, q ∈ _ → p.1 ≠ q.1 => fr9
    refine cut_next ?_
    refine ⟨_, _, [_] ++ (_ ++ bag), _, _, _, _, _, _, _, rfl, by assumption, pull (front := [_]) (by assumption), Bag.grow ⟨q1, q2, q3, q4, q5, q6, q7, q8⟩ (fun p hp => List.mem_append_right _ (List.mem_append_right _ hp)) ?h1 ?h2 ?h3 ?h4, by assumption,
      LV.mono lv8 (fun p hp => List.mem_append_right _ (List.mem_append_left _ hp)), by omega, by omega, .inr (.inr ⟨fun e => by simp [prD] at e, fun _ _ => prD_ne_lstD, rfl⟩)⟩
    case h1 => dsimp only [List.cons_append, List.nil_append]; k_all
    case h2 => dsimp only [List.cons_append, List.nil_append]; k_all
    case h3 => dsimp only [List.cons_append, List.nil_append]; k_all
    case h4 => dsimp only [List.cons_append, List.nil_append]; k_all
end
section
local macro_rules | `(tactic| k_all) => `(tactic| assumption)
local macro_rules | `(tactic| k_all) => `(tactic| first | assumption | exact List.forall_mem_nil _ | (refine' List.forall_mem_cons.mpr ⟨?a, ?b⟩; (case a => k_ne); (case b => k_all)) | (refine' List.forall_mem_append.mpr ⟨?a, ?b⟩; (case a => exact frq (by assumption) (by k_mem)); (case b => k_all)) | exact frq (by assumption) (by k_mem))
theorem words_LD_1 : True := by
  k_with_none
  k_with "k_enter" => (first | (refine' code_def ?k1z522 ?k2z522 ?k3z522 ?k4z522 ?k5z522 ?kAz522 ?kFz522 ?kKz522 ?k6z522 ?k7z522 ?k8z522 ?k9z522 ?kBz522 ?_ ?c2z522 ?c3z522 ?c4z522 ?c5z522; (case kAz522 => exact rfl); (case kFz522 => first | exact rfl | assumption); (case kKz522 => first | exact rfl | assumption); (case k1z522 => k_asm); (case k2z522 => k_asm); (case k3z522 => k_asm); (case k4z522 => k_asm); (case k5z522 => k_asm); (case k6z522 => k_is); (case k7z522 => k_is); (case k8z522 => k_room); (case k9z522 => first | exact BindsTo.of_eq rfl | exact binds_K (by k_in) rfl (by k_is) rfl rfl rfl | fail "k_enter: no rule for these arguments"); (case c5z522 => decide); (case kBz522 => exact locs rfl); (case c2z522 => exact rfl); (case c3z522 => exact rfl); (case c4z522 => exact rfl); k_whole; intro gw Lw hw FGw Fw Nw Bw Xw Tw; (try dsimp only); (try k_lift Bw); (try k_fold)) | (refine' code_defC ?k1z522 ?k2z522 ?k3z522 ?k4z522 ?k5z522 ?kAz522 ?kFz522 ?kKz522 ?k6z522 ?k7z522 ?k8z522 ?k9z522 ?kBz522 ?kDz522 ?_ ?c2z522 ?c3z522 ?c4z522; (case kAz522 => exact rfl); (case kFz522 => first | exact rfl | assumption); (case kKz522 => first | exact rfl | assumption); (case k1z522 => k_asm); (case k2z522 => k_asm); (case k3z522 => k_asm); (case k4z522 => k_asm); (case k5z522 => k_asm); (case k6z522 => k_is); (case k7z522 => k_is); (case k8z522 => k_room); (case k9z522 => first | exact BindsTo.of_eq rfl | exact binds_K (by k_in) rfl (by k_is) rfl rfl rfl | fail "k_enter: no rule for these arguments"); (case kBz522 => exact rfl); (case kDz522 => decide +kernel); (case c2z522 => exact rfl); (case c3z522 => exact rfl); (case c4z522 => exact rfl); k_whole; intro gw Lw hw tkw cellsw FGw Fw Nw Yw Bw Xw Tw l1w; (try k_lt l1w); k_cells Yw; (try simp only [List.cons_append, List.nil_append] at Nw); (try dsimp only); (try k_lift Bw); (try k_fold)))
  k_with "k_ne" => (refine neN ?_; (try dsimp only); first | with_reducible assumption | with_reducible exact Ne.symm (by assumption) | exact (by k_extra "nes") | exact Ne.symm (by k_extra "nes") | exact Nat.ne_of_lt (by k_extra "lt") | exact Nat.ne_of_gt (by k_extra "lt") | omega)
  k_with "lt" => (first | with_reducible assumption | with_reducible exact And.left (by assumption) | with_reducible exact And.left (And.right (by assumption)) | with_reducible exact And.left (And.right (And.right (by assumption))) | with_reducible exact And.left (And.right (And.right (And.right (by assumption)))) | with_reducible exact And.left (And.right (And.right (And.right (And.right (by assumption))))) | with_reducible exact And.left (And.right (And.right (And.right (And.right (And.right (by assumption)))))) | with_reducible exact And.left (And.right (And.right (And.right (And.right (And.right (And.right (by assumption))))))) | with_reducible exact And.left (And.right (And.right (And.right (And.right (And.right (And.right (And.right (by assumption)))))))) | with_reducible exact And.left (And.right (And.right (And.right (And.right (And.right (And.right (And.right (And.right (by assumption))))))))) | with_reducible exact And.left (And.right (And.right (And.right (And.right (And.right (And.right (And.right (And.right (And.right (by assumption)))))))))) | with_reducible exact And.left (And.right (And.right (And.right (And.right (And.right (And.right (And.right (And.right (And.right (And.right (by assumption))))))))))) | with_reducible exact And.left (And.right (And.right (And.right (And.right (And.right (And.right (And.right (And.right (And.right (And.right (And.right (by assumption)))))))))))) | with_reducible exact And.left (And.right (And.right (And.right (And.right (And.right (And.right (And.right (And.right (And.right (And.right (And.right (And.right (by assumption))))))))))))) | with_reducible exact And.left (And.right (And.right (And.right (And.right (And.right (And.right (And.right (And.right (And.right (And.right (And.right (And.right (And.right (by assumption)))))))))))))) | with_reducible exact And.left (And.right (And.right (And.right (And.right (And.right (And.right (And.right (And.right (And.right (And.right (And.right (And.right (And.right (And.right (by assumption))))))))))))))) | with_reducible exact And.left (And.right (And.right (And.right (And.right (And.right (And.right (And.right (And.right (And.right (And.right (And.right (And.right (And.right (And.right (And.right (by assumption)))))))))))))))) | with_reducible exact And.right (by assumption) | with_reducible exact And.right (And.right (by assumption)) | with_reducible exact And.right (And.right (And.right (by assumption))) | with_reducible exact And.right (And.right (And.right (And.right (by assumption)))) | with_reducible exact And.right (And.right (And.right (And.right (And.right (by assumption))))) | with_reducible exact And.right (And.right (And.right (And.right (And.right (And.right (by assumption)))))) | with_reducible exact And.right (And.right (And.right (And.right (And.right (And.right (And.right (by assumption))))))) | with_reducible exact And.right (And.right (And.right (And.right (And.right (And.right (And.right (And.right (by assumption)))))))) | with_reducible exact And.right (And.right (And.right (And.right (And.right (And.right (And.right (And.right (And.right (by assumption))))))))))
  k_with "nes" => (first | with_reducible exact And.left (by assumption) | with_reducible exact And.left (And.right (by assumption)) | with_reducible exact And.left (And.right (And.right (by assumption))) | with_reducible exact And.left (And.right (And.right (And.right (by assumption)))) | with_reducible exact And.left (And.right (And.right (And.right (And.right (by assumption))))) | with_reducible exact And.left (And.right (And.right (And.right (And.right (And.right (by assumption)))))) | with_reducible exact And.right (by assumption) | with_reducible exact And.right (And.right (by assumption)) | with_reducible exact And.right (And.right (And.right (by assumption))) | with_reducible exact And.right (And.right (And.right (And.right (by assumption)))) | with_reducible exact And.right (And.right (And.right (And.right (And.right (by assumption))))))
  k_with "subscriptTail" => ((k_here; (with_reducible show wpAny _ _ (subscriptTail _ _ (Value.ref _) (Value.int 0 _)) _ _ _); k_dflt (refine' tup_head ?Nz494 ?mz494 ?_; (case Nz494 => k_asm); (case mz494 => k_mem); k_whole)))
  k_with "call type:tuple" => ((k_here; (with_reducible show wpAny _ _ (call (Value.type "tuple") [Value.ref _]) _ _ _); k_dflt (refine' tuple_ofM ?Fz495 ?Nz495 ?mz495 ?zz495 ?_; (case Fz495 => k_asm); (case Nz495 => k_asm); (case mz495 => k_mem); (case zz495 => first | assumption | (simp only [List.length_cons, List.length_nil]; omega)); k_whole); intro Dw hw Fw Nw l1w; (try k_lt l1w); (try k_sweep)))
  k_with "call type:list" => ((k_here; (with_reducible show wpAny _ _ (call (Value.type "list") [Value.ref _]) _ _ _); k_dflt (refine' list_ofTupM ?Fz496 ?Nz496 ?mz496 ?zz496 ?_; (case Fz496 => k_asm); (case Nz496 => k_asm); (case mz496 => k_mem); (case zz496 => first | assumption | (simp only [List.length_cons, List.length_nil]; omega)); k_whole); intro Dw kw hw Fw Nw l1w; (try k_lt l1w); (try k_sweep)))
  k_with "subscriptTail Name Slice ref ref" => ((k_here; (with_reducible show wpAny _ _ (subscriptTail _ (PySem.Expr.Slice (some _) none none _) (Value.ref _) (Value.ref _)) _ _ _); k_dflt (refine' slice_tupM ?Fz497 ?Nz497 ?mz497 ?zz497 ?_ ?sz497 ?tz497; (case Fz497 => k_asm); (case Nz497 => k_asm); (case mz497 => k_mem); (case zz497 => first | assumption | (simp only [List.length_cons, List.length_nil]; omega)); (case sz497 => with_unfolding_all rfl); (case tz497 => kmk_pure)); intro Dw hw Fw Nw l1w; (try k_lt l1w); (try k_sweep)))
  k_with "compareOp Eq ref none" => ((k_here; (with_reducible show wpAny _ _ (compareOp CmpOp.Eq (Value.ref _) Value.none) _ _ _); k_dflt (refine' eq_tup_none ?Nz498 ?mz498 ?uz498 ?_; (case Nz498 => k_asm); (case mz498 => k_mem); (case uz498 => k_units); k_whole)))
  k_with "compareOp Eq ref" => ((k_here; (with_reducible show wpAny _ _ (compareOp CmpOp.Eq (Value.ref _) Value.none) _ _ _); k_dflt (refine' eq_tup_none ?Nz499 ?mz499 ?uz499 ?_; (case Nz499 => k_asm); (case mz499 => k_mem); (case uz499 => k_units); k_whole)))
  k_with "k_mem" => (((repeat (first | exact List.Mem.head _ | assumption | refine' List.Mem.tail _ ?_ | exact List.mem_append_left _ (by assumption) | exact List.mem_append_left _ (List.Mem.head _) | refine' List.mem_append_right _ ?_)); done))
  k_with "binaryOp Add ref ref" => ((k_here; (with_reducible show wpAny _ _ (binaryOp Operator.Add (Value.ref _) (Value.ref _)) _ _ _); k_dflt (refine' add_tupM ?Fz501 ?Nz501 ?mz501 ?nz501 ?zz501 ?az501 ?bz501; (case Fz501 => k_asm); (case Nz501 => k_asm); (case mz501 => k_mem); (case nz501 => k_mem); (case zz501 => first | assumption | (simp only [List.length_cons, List.length_nil]; omega)); (case' az501 => intro e1w); (case' bz501 => (intro e1w Dw hw Fw Nw l1w; (try k_lt l1w); (try k_sweep))))))
  k_with "kqd_sub" => (((repeat (refine List.forall_mem_cons.mpr ⟨by k_mem, ?_⟩)); first | exact List.forall_mem_nil _ | (intro p9 h9; k_mem)))
  k_with "ktr_rel" => (first | assumption | exact tb_ltOf (by first | assumption | exact (And.right (by assumption)) | exact (And.right (And.right (by assumption))) | exact (And.right (And.right (And.right (by assumption)))) | exact (And.right (And.right (And.right (And.right (by assumption))))) | exact (And.right (And.right (And.right (And.right (And.right (by assumption)))))) | exact (And.right (And.right (And.right (And.right (And.right (And.right (by assumption))))))) | exact (And.right (And.right (And.right (And.right (And.right (And.right (And.right (by assumption)))))))) | exact (And.right (And.right (And.right (And.right (And.right (And.right (And.right (And.right (by assumption))))))))) | exact (And.right (And.right (And.right (And.right (And.right (And.right (And.right (And.right (And.right (by assumption)))))))))) | exact (And.right (And.right (And.right (And.right (And.right (And.right (And.right (And.right (And.right (And.right (by assumption)))))))))))))
  k_with "getMethod ref" => ((k_here; (with_reducible show wpAny _ _ (getMethod (Value.ref _) (Str.ofString "get") _) _ _ _); k_dflt (refine kdg_method (knd := PySem.intKind Pr _) (by k_asm) (by k_mem) (by k_asm) ?_)))
  k_with "call builtin:dict.get" => ((k_here; (try dsimp only [List.nil_append, List.cons_append]); (with_reducible show wpAny _ _ (call (Value.builtin _) [Value.ref _, Value.int _ _, _]) _ _ _); k_dflt (refine kdg_get2 (knd := PySem.intKind Pr _) (by k_asm) (by k_mem) (by k_asm) (by k_asm) (intKind_is _ _ _ _) _ (by assumption) ?_); (try dsimp only [Option.getD])))
  k_with "subscriptTail" => ((k_here; (with_reducible show wpAny _ _ (subscriptTail _ _ (Value.ref _) (Value.int _ _)) _ _ _); k_dflt (refine' list_itemM ?Nz506 ?mz506 ?xz506 ?kz506 ?zz506 ?_; (case Nz506 => k_asm); (case mz506 => k_mem); (case xz506 => assumption); (case kz506 => omega); (case zz506 => first | assumption | omega); k_whole)))
  k_with "call builtin:len" => ((k_here; (with_reducible show wpAny _ _ (call (Value.builtin "len") [Value.ref _]) _ _ _); k_dflt (refine' len_listM ?Nz507 ?mz507 ?zz507 ?_; (case Nz507 => k_asm); (case mz507 => k_mem); (case zz507 => first | assumption | omega); k_whole)))
  k_with "tb_rel" => (first | assumption | (refine' LV.mono ?hz508 ?sz508; (case hz508 => assumption); (case sz508 => kqd_sub)) | (refine' RowsIn.mono ?sz508 ?hz508; (case hz508 => assumption); (case sz508 => kqd_sub)) | (refine' LispAt.mono ?hz508 ?sz508; (case hz508 => assumption); (case sz508 => kqd_sub)) | (refine' RulesAt.mono ?hz508 ?sz508; (case hz508 => assumption); (case sz508 => kqd_sub)) | (refine' IntDict.mono ?hz508 ?sz508; (case hz508 => assumption); (case sz508 => kqd_sub)) | (refine' PlistsIn.mono ?hz508 ?sz508; (case hz508 => assumption); (case sz508 => kqd_sub)) | (refine' DatAll.mono ?sz508 ?hz508; (case hz508 => assumption); (case sz508 => kqd_sub)))
  k_with "subscriptTail" => ((k_here; (with_reducible show wpAny _ _ (subscriptTail _ (PySem.Expr.Slice none (some _) none _) (Value.ref _) (Value.ref _)) _ _ _); k_dflt (refine' list_uptoM (s := ⟨_, _, _, _, _⟩) ?Fz509 ?Nz509 ?mz509 ?xz509 ?zz509 ?_ ?sz509 ?tz509; (case Fz509 => k_asm); (case Nz509 => k_asm); (case mz509 => k_mem); (case xz509 => omega); (case zz509 => first | assumption | omega | (simp only [List.length_cons, List.length_nil] <;> omega)); (case sz509 => with_unfolding_all rfl); (case tz509 => kmk_pure)); intro Dw hw Fw Nw l1w; (try k_lt l1w); (try k_sweep)))
  k_with "subscriptTail Name Slice ref ref" => ((k_here; (with_reducible show wpAny _ _ (subscriptTail _ (PySem.Expr.Slice none (some _) none _) (Value.ref _) (Value.ref _)) _ _ _); k_dflt (refine' list_uptoM (s := ⟨_, _, _, _, _⟩) ?Fz510 ?Nz510 ?mz510 ?xz510 ?zz510 ?_ ?sz510 ?tz510; (case Fz510 => k_asm); (case Nz510 => k_asm); (case mz510 => k_mem); (case xz510 => omega); (case zz510 => first | assumption | omega | (simp only [List.length_cons, List.length_nil] <;> omega)); (case sz510 => with_unfolding_all rfl); (case tz510 => kmk_pure)); intro Dw hw Fw Nw l1w; (try k_lt l1w); (try k_sweep)))
  k_with "binaryOp Add ref ref" => ((k_here; (with_reducible show wpAny _ _ (binaryOp Operator.Add (Value.ref _) (Value.ref _)) _ _ _); k_dflt (refine' list_addM ?Fz511 ?Nz511 ?mz511 ?nz511 ?zz511 ?_; (case Fz511 => k_asm); (case Nz511 => k_asm); (case mz511 => k_mem); (case nz511 => k_mem); (case zz511 => first | assumption | omega | (simp only [List.length_cons, List.length_nil, List.length_take, List.length_append] <;> omega)); k_whole); (intro Dw hw Fw Nw l1w; (try k_lt l1w); (try k_sweep))))
  k_with "call ref" => ((k_here; (with_reducible show wpAny _ _ (call (Value.ref 172) [Value.ref _, Value.int _ _]) _ _ _); k_dflt (refine' draw_use ?dkz512 ?mz512 ?m2z512 ?Uz512 ?Bz512 ?Fz512 ?Xz512 ?Nz512 ?Tz512 ?hz512 ?dpz512 ?uz512 ?Az512 ?fz512 ?kz512 ?_; (case Nz512 => k_asm); (case Uz512 => k_updF); (case dkz512 => assumption); (case mz512 => omega); (case m2z512 => omega); (case Bz512 => k_asm); (case Fz512 => k_asm); (case Xz512 => k_asm); (case Tz512 => k_asm); (case hz512 => exact rfl); (case dpz512 => exact Nat.le_of_ble_eq_true rfl); (case uz512 => exact Nat.le_of_ble_eq_true rfl); (case Az512 => exact rfl); (case fz512 => exact rfl); (case kz512 => exact rfl); k_whole); (intro xw uw vsw nw hw tkw low hiw dkw Fw Nw); (try dsimp only at Nw); (try k_sweep); (try k_fold)))
  k_with "call ref" => ((k_here; (with_reducible show wpAny _ _ (call (Value.ref 192) [Value.ref _, _]) _ _ _); k_dflt (refine' ctr_useV (right_ok ?lz513 ?vz513) ?Bz513 ?Fz513 ?Xz513 ?Nz513 ?Tz513 ?hz513 ?dpz513 ?uz513 ?Az513 ?fz513 ?kz513 ?_; (case Nz513 => k_asm); (case lz513 => tb_rel); (case vz513 => tb_rel); (case Bz513 => k_asm); (case Fz513 => k_asm); (case Xz513 => k_asm); (case Tz513 => k_asm); (case hz513 => exact rfl); (case dpz513 => exact Nat.le_of_ble_eq_true rfl); (case uz513 => exact Nat.le_of_ble_eq_true rfl); (case Az513 => exact rfl); (case fz513 => exact rfl); (case kz513 => exact rfl); k_whole); (intro hw tkw Fw Nw); (try k_sweep); (try k_fold)))
  k_with "call ref" => ((k_here; (with_reducible show wpAny _ _ (call (Value.ref 146) [Value.ref _, Value.int _ _, _]) _ _ _); k_dflt (refine' member_use ?rz514 ?lz514 ?vz514 ?koz514 ?duz514 ?Bz514 ?Fz514 ?Xz514 ?Nz514 ?Tz514 ?hz514 ?dpz514 ?uz514 ?Az514 ?fz514 ?kz514 ?_; (case Nz514 => k_asm); (case rz514 => tb_rel); (case lz514 => tb_rel); (case vz514 => tb_rel); (case koz514 => assumption); (case duz514 => assumption); (case Bz514 => k_asm); (case Fz514 => k_asm); (case Xz514 => k_asm); (case Tz514 => k_asm); (case hz514 => exact rfl); (case dpz514 => exact Nat.le_of_ble_eq_true rfl); (case uz514 => exact Nat.le_of_ble_eq_true rfl); (case Az514 => exact rfl); (case fz514 => exact rfl); (case kz514 => exact rfl); k_whole); (intro hw tkw Fw Nw); (try k_sweep); (try k_fold)))
  k_with "call ref" => ((k_here; (with_reducible show wpAny _ _ (call (Value.ref 153) [Value.ref _, Value.int _ _]) _ _ _); k_dflt (refine' ctr_useV (is_loose_ok ?rz515 ?dz515 ?xz515) ?Bz515 ?Fz515 ?Xz515 ?Nz515 ?Tz515 ?hz515 ?dpz515 ?uz515 ?Az515 ?fz515 ?kz515 ?_; (case Nz515 => k_asm); (case rz515 => tb_rel); (case dz515 => exact ⟨_, by k_mem, by assumption, by assumption⟩); (case xz515 => first | exact Or.inr ⟨_, stored_at⟩ | exact Or.inl ⟨dflt_none (DfltOk.set (by assumption) (by assumption)) (by decide), rfl⟩); (case Bz515 => k_asm); (case Fz515 => k_asm); (case Xz515 => k_asm); (case Tz515 => k_asm); (case hz515 => exact rfl); (case dpz515 => exact Nat.le_of_ble_eq_true rfl); (case uz515 => exact Nat.le_of_ble_eq_true rfl); (case Az515 => exact rfl); (case fz515 => exact rfl); (case kz515 => exact rfl); k_whole); (intro hw tkw Fw Nw); (try k_sweep); (try k_fold)))
  k_with "call ref" => ((k_here; (with_reducible show wpAny _ _ (call (Value.ref 160) [Value.ref _, Value.int _ _]) _ _ _); k_dflt (refine' ctr_useV (is_tight_ok ?rz516 ?dz516 ?xz516) ?Bz516 ?Fz516 ?Xz516 ?Nz516 ?Tz516 ?hz516 ?dpz516 ?uz516 ?Az516 ?fz516 ?kz516 ?_; (case Nz516 => k_asm); (case rz516 => tb_rel); (case dz516 => exact ⟨_, by k_mem, by assumption, by assumption⟩); (case xz516 => first | exact Or.inr ⟨_, stored_at⟩ | exact Or.inl ⟨dflt_none (DfltOk.set (by assumption) (by assumption)) (by decide), rfl⟩); (case Bz516 => k_asm); (case Fz516 => k_asm); (case Xz516 => k_asm); (case Tz516 => k_asm); (case hz516 => exact rfl); (case dpz516 => exact Nat.le_of_ble_eq_true rfl); (case uz516 => exact Nat.le_of_ble_eq_true rfl); (case Az516 => exact rfl); (case fz516 => exact rfl); (case kz516 => exact rfl); k_whole); (intro hw tkw Fw Nw); (try k_sweep); (try k_fold)))
  k_with "call ref" => ((k_here; (with_reducible show wpAny _ _ (call (Value.ref 78) [Value.ref _, _, Value.int _ _]) _ _ _); k_dflt (refine' ctr_useV (symp_none ?lz517 ?dz517 ?pz517 ?vz517 ?jz517) ?Bz517 ?Fz517 ?Xz517 ?Nz517 ?Tz517 ?hz517 ?dpz517 ?uz517 ?Az517 ?fz517 ?kz517 ?_; (case Nz517 => k_asm); (case lz517 => tb_rel); (case dz517 => exact ⟨_, by k_mem, by assumption, by assumption⟩); (case pz517 => tb_rel); (case vz517 => exact LV.sym (by k_mem) ⟨by decide, by decide⟩); (case jz517 => assumption); (case Bz517 => k_asm); (case Fz517 => k_asm); (case Xz517 => k_asm); (case Tz517 => k_asm); (case hz517 => exact rfl); (case dpz517 => exact Nat.le_of_ble_eq_true rfl); (case uz517 => exact Nat.le_of_ble_eq_true rfl); (case Az517 => exact rfl); (case fz517 => exact rfl); (case kz517 => exact rfl); k_whole); (intro hw tkw Fw Nw); (try k_sweep); (try k_fold)))
  k_with "compareOp NotEq bool bool" => ((k_here; (with_reducible show wpAny _ _ (compareOp CmpOp.NotEq (Value.bool _) (Value.bool _)) _ _ _); with_reducible refine ne_bool_same ?_))
  k_with "setItem ref int" => ((k_here; (with_reducible show wpAny _ _ (setItem (Value.ref _) (Value.int _ _) _) _ _ _); k_dflt (refine' kda_set (knd := PySem.intKind Pr _) ?Fz519 ?Nz519 ?Uz519 ?dz519 (intKind_is _ _ _ _) ?zz519 ?_; (case Fz519 => k_asm); (case Nz519 => k_asm); (case Uz519 => k_updF); (case dz519 => assumption); (case zz519 => (rw [sizeLine_eq]; first | omega | exact Nat.le_trans stored_len1 (by omega) | exact Nat.le_trans stored_len1 (Nat.le_trans (Nat.succ_le_succ stored_len1) (by simp)) | (simp; done)))); (intro hw ow Fw Nw hdw); (try dsimp only at Nw); (try k_sweep); (try k_fold)))
  k_with "compareOp NotEq ref ref" => ((k_here; (with_reducible show wpAny _ _ (compareOp CmpOp.NotEq (Value.ref _) (Value.ref _)) _ _ _); k_dflt (refine' ne_bools ?Nz520 ?az520 ?bz520 ?xz520 ?yz520 ?uz520 ?_; (case Nz520 => k_asm); (case az520 => k_mem); (case bz520 => k_mem); (case xz520 => (rw [Bool.eq_iff_iff]; simp only [decide_eq_true_eq, beq_iff_eq]; omega)); (case yz520 => (rw [Bool.eq_iff_iff]; simp only [decide_eq_true_eq, beq_iff_eq]; omega)); (case uz520 => k_units); k_whole)))
  k_with "subscriptTail" => ((k_here; (with_reducible show wpAny _ _ (subscriptTail _ _ (Value.ref _) (Value.int _ _)) _ _ _); k_dflt (refine' kda_itemA (knd := PySem.intKind Pr _) ?Nz521 ?pz521 ?dz521 ?yz521 ?lz521 ?_; (case Nz521 => k_asm); (case pz521 => k_mem); (case dz521 => assumption); (case yz521 => exact intKind_is _ _ _ _); (case lz521 => exact stored_at); k_whole)))
  trivial
set_option maxHeartbeats 4000000 in
theorem lap_D {w : World} {mean : ExcName → Option Value} {mg mb : Str → Option Value} {h₀ : Heap} {d : Scope} {L fa : Addr} {cdv : Value} {E : Value → Shared → Prop} {Q : Flow → Shared → Prop} {s : Shared} {I pd dd dk li ru : Addr} {it o1 o2 oc : Obj} {fi : Int} {kvs1 : List (Int × Value)} {pl : Int → List (Int × Dat)} {m : Str → Option Value} {bag : List (Addr × Obj)} {vs : List Value} {n : Nat} {v : Value} {dv : Dat} {k : Int} {t : Tok} {b : Bool} {kvs2 : List (Int × Value)}
    (K0 : Below callerA h₀ [] h₀) (X : (Mine.hd.heap_39 w.params).In h₀) (T : TopOk mean mg mb h₀)
    (F : Fr h₀ L s.heap (fun y => if y = (Str.ofString "due") then some (.bool b) else if y = (Str.ofString "value") then some v else if y = (Str.ofString "number") then some (.int k t) else if y = (Str.ofString "deck") then some (.ref dk) else if y = (Str.ofString "rules") then some (.ref ru) else m y))
    (N : News h₀ L s.heap ((I, it) :: (pd, o1) :: (dd, o2) :: (dk, listOf vs.toArray n) :: bag)) (Bg : Bag w I pd dd dk li ru (L + 1) fi oc kvs1 pl bag) (hoc : oc.data = .cell (some (.ref li))) (hdk : DeckOk vs) (ap : Apart I pd dd dk) (hf0 : 0 ≤ fi) (hf1 : fi < 40)
    (hD1 : o1.IsDictOf (PySem.intKind Pr w) kvs1) (hs1 : (pd == sysModules) = false) (hD2 : o2.IsDictOf (PySem.intKind Pr w) kvs2) (hs2 : (dd == sysModules) = false) (hdf : DfltOk kvs2) (hkz : kvs2.length ≤ 3) (hpl : pl 109 = [])
    (hv : LV bag v dv) (hk0 : 100 ≤ k) (hk1 : k < 106) (hdu : Due dv k b) :
    wpAny (model Pr w) (callerA.deeper (lawEnv w.params d L fa cdv)) (execs ((lapBody w.params).drop 7) (lawEnv w.params d L fa cdv)) (CutPost (MidD w h₀ L s I pd dd dk li ru (L + 1) it o1 oc fi kvs1 pl (kvs2.length + 1) m) Q) (fun _ _ => False) s := by
  have e1 : lapBody w.params = lapBody w.params := rfl
  conv at e1 => rhs; whnf
  have e2 : scopeOf w.params 197 d = scopeOf w.params 197 d := rfl
  conv at e2 => rhs; whnf
  rw [e1]
  unfold lawEnv
  rw [e2]
  clear e1 e2
  simp only [List.take_succ_cons, List.take_zero, List.drop_succ_cons, List.drop_zero]
  obtain ⟨q1, q2, q3, q4, q5, q6, q7, q8⟩ := Bg
  obtain ⟨ap1, ap2, ap3, ap4, ap5, ap6⟩ := ap
  have w1 := q2
  have w2 := q3
  obtain ⟨dl8, tl1, tl2, tl3, tl4, tl5, w3, w4⟩ := w1
  obtain ⟨dr8, tr8, w5, w6⟩ := w2
  try k_fold
  have hko : KeyOk k := ⟨hk0, by omega⟩
  k_steps
  refine cut_next ?_
  refine ⟨_, _, _, [_, _, _] ++ bag, _, _, _, _, rfl, by assumption, Upto.set (by decide +kernel) (Upto.set (by decide +kernel) (Upto.set (by decide +kernel) (Upto.refl _ _))), pull (front := [_, _, _]) (by assumption), Bag.grow ⟨q1, q2, q3, q4, q5, q6, q7, q8⟩ (fun p hp => List.mem_append_right _ hp) ?h1 ?h2 ?h3 ?h4, by assumption, by assumption, DfltOk.set hdf hk1, stored_len1⟩
  case h1 => dsimp only [List.cons_append, List.nil_append]; k_all
  case h2 => dsimp only [List.cons_append, List.nil_append]; k_all
  case h3 => dsimp only [List.cons_append, List.nil_append]; k_all
  case h4 => dsimp only [List.cons_append, List.nil_append]; k_all
end
section
theorem topM_self {dk ru : Addr} {m : Str → Option Value} (h1 : m (Str.ofString "deck") = some (.ref dk)) (h2 : m (Str.ofString "rules") = some (.ref ru)) : topM dk ru m = m := by
  funext y
  unfold topM
  by_cases e1 : y = (Str.ofString "deck")
  · rw [if_pos e1, e1, h1]
  · rw [if_neg e1]
    by_cases e2 : y = (Str.ofString "rules")
    · rw [if_pos e2, e2, h2]
    · rw [if_neg e2]
theorem topM_upto {dk ru : Addr} {m₀ m : Str → Option Value} (h1 : m₀ (Str.ofString "deck") = some (.ref dk)) (h2 : m₀ (Str.ofString "rules") = some (.ref ru)) (h : Upto lapN m₀ m) : Upto lapN m₀ (topM dk ru m) :=
  Upto.top h1 (Upto.top h2 h)
theorem topM_deck {dk ru : Addr} {m : Str → Option Value} : topM dk ru m (Str.ofString "deck") = some (.ref dk) := if_pos rfl
theorem topM_rules {dk ru : Addr} {m : Str → Option Value} : topM dk ru m (Str.ofString "rules") = some (.ref ru) := (if_neg (by decide +kernel)).trans (if_pos rfl)
set_option maxHeartbeats 4000000 in
theorem lap_ok {w : World} {mean : ExcName → Option Value} {mg mb : Str → Option Value} {h₀ : Heap} {d : Scope} {L fa : Addr} {cdv : Value} {E : Value → Shared → Prop} {Q : Flow → Shared → Prop} {s : Shared} {I pd dd dk li ru : Addr} {it o1 o2 oc : Obj} {fi : Int} {kvs1 kvs2 : List (Int × Value)} {pl : Int → List (Int × Dat)} {m : Str → Option Value} {bag : List (Addr × Obj)} {vs : List Value} {n : Nat}
    (K0 : Below callerA h₀ [] h₀) (X : (Mine.hd.heap_39 w.params).In h₀) (T : TopOk mean mg mb h₀)
    (F : Fr h₀ L s.heap (topM dk ru m))
    (N : News h₀ L s.heap ((I, it) :: (pd, o1) :: (dd, o2) :: (dk, listOf vs.toArray n) :: bag)) (Bg : Bag w I pd dd dk li ru (L + 1) fi oc kvs1 pl bag) (hoc : oc.data = .cell (some (.ref li))) (hdk : DeckOk vs) (ap : Apart I pd dd dk) (hf0 : 0 ≤ fi) (hf1 : fi < 40)
    (hD1 : o1.IsDictOf (PySem.intKind Pr w) kvs1) (hs1 : (pd == sysModules) = false) (hD2 : o2.IsDictOf (PySem.intKind Pr w) kvs2) (hs2 : (dd == sysModules) = false) (hdf : DfltOk kvs2) (hkz : kvs2.length ≤ 3) (hpl : pl 109 = []) :
    wpAny (model Pr w) (callerA.deeper (lawEnv w.params d L fa cdv)) (execs (lapBody w.params) (lawEnv w.params d L fa cdv)) (CutPost (MidD w h₀ L s I pd dd dk li ru (L + 1) it o1 oc fi kvs1 pl (kvs2.length + 1) m) Q) E s := by
  refine wpAny_noRaise ?_
  refine cut_at 2 (MidC w h₀ L s I pd dd dk li ru (L + 1) it o1 o2 oc fi kvs1 pl m) (lap_A1 K0 X T F N Bg hoc hdk ap hf0 hf1) ?_
  rintro s1 ⟨h5, tk5, bag5, vs5, n5, o5, c5, wo5, wc5, ko5, kc5, ro5, rc5, rfl, F5, N5, B5, d5, a1, a2, a3, a4, a5, a6, a7⟩
  refine cut_at 1 (MidA w h₀ L { s with heap := h5, toks := tk5 } I pd dd dk li ru (L + 1) it o1 o2 oc fi kvs1 pl m) (lap_A2 K0 X T F5 N5 B5 hoc d5 ap hf0 hf1 a1 a2 a3 a4 a5 a6 a7) ?_
  rintro s2 ⟨h6, tk6, bag6, vs6, n6, o6, c6, p6, wo6, wc6, wp6, ko6, kc6, kp6, ro6, rc6, rp6, rfl, F6, N6, B6, d6, b1, b2, b3, b4, b5, b6, b7, b8, b9, b10⟩
  rw [List.drop_drop, show 2 + 1 = 3 from rfl]
  refine cut_at 1 (MidB h₀ L { s with heap := h6, toks := tk6 } dk ru m ((I, it) :: (pd, o1) :: (dd, o2) :: (dk, listOf vs6.toArray n6) :: bag6)) (lap_B (E := fun _ _ => False) (s := { s with heap := h6, toks := tk6 }) K0 X T F6 N6 B6 hoc d6 ap hf0 hf1 hD1 hs1 b1 b2 b3 b4 b5 b6 b7 b8 b9 b10) ?_
  rintro s3 ⟨h7, tk7, m7, rfl, F7, U7, N7⟩
  rw [List.drop_drop, show 3 + 1 = 4 from rfl]
  refine cut_at 3 (MidV w h₀ L { s with heap := h7, toks := tk7 } I pd dd dk li ru (L + 1) it o1 o2 oc fi kvs1 pl m7) (lap_C (E := fun _ _ => False) (s := { s with heap := h7, toks := tk7 }) K0 X T F7 N7 B6 hoc d6 ap hf0 hf1) ?_
  rintro s4 ⟨h8, tk8, bag8, vs8, n8, v8, d8, k8, t8, c8, rfl, F8, N8, B8, e8, lv8, k80, k81, du8⟩
  rw [List.drop_drop, show 4 + 3 = 7 from rfl]
  refine wpAny_mono (lap_D (E := fun _ _ => False) (s := { s with heap := h8, toks := tk8 }) (Q := Q) K0 X T F8 N8 B8 hoc e8 ap hf0 hf1 hD1 hs1 hD2 hs2 hdf hkz hpl lv8 k80 k81 du8) (fun f s5 q => ?_) fun _ _ e => e
  cases f with
  | next =>
    obtain ⟨h9, tk9, m9, bag9, vs9, n9, o9, kvs9, rfl, F9, U9, r1, r2, r3, r4, r5, r6⟩ := q
    exact ⟨h9, tk9, m9, bag9, vs9, n9, o9, kvs9, rfl, F9, Upto.trans (topM_upto topM_deck topM_rules U7) U9, r1, r2, r3, r4, r5, r6⟩
  | ret v => exact q
  | brk => exact q
  | cont => exact q
set_option maxHeartbeats 4000000 in
theorem lap_turn {w : World} {mean : ExcName → Option Value} {mg mb : Str → Option Value} {h₀ : Heap} {d : Scope} {L fa : Addr} {cdv : Value} {E : Value → Shared → Prop} {Q : Flow → Shared → Prop} {s : Shared} {I pd dd dk li ru : Addr} {it : Obj} {fi : Int} {pl : Int → List (Int × Dat)} {m₀ m : Str → Option Value} {lv : Option Value} {news : List (Addr × Obj)} {i : Nat}
    (K0 : Below callerA h₀ [] h₀) (X : (Mine.hd.heap_39 w.params).In h₀) (T : TopOk mean mg mb h₀) (hi : i < 4) (hL : LapLed w li ru pd dd dk (L + 1) fi pl i news) (hI : ∀ p ∈ news, p.1 ≠ I) (hm : Upto lapN m₀ m)
    (e1 : m₀ (Str.ofString "deck") = some (.ref dk)) (e2 : m₀ (Str.ofString "rules") = some (.ref ru)) (F : Fr h₀ L s.heap (fun y => if y = (Str.ofString "lap") then lv else m y)) (N : News h₀ L s.heap ((I, it) :: news))
    (ap4 : @Ne Nat pd dd) (ap5 : @Ne Nat pd dk) (ap6 : @Ne Nat dd dk) (hf0 : 0 ≤ fi) (hf1 : fi < 40) (hs1 : (pd == sysModules) = false) (hs2 : (dd == sysModules) = false) (hpl : pl 109 = []) :
    wpAny (model Pr w) (callerA.deeper (lawEnv w.params d L fa cdv)) (execs (lapBody w.params) (lawEnv w.params d L fa cdv)) (UnrPost h₀ L s I it (fun m' news' => LapLed w li ru pd dd dk (L + 1) fi pl (i + 1) news' ∧ Upto lapN m₀ m') Q) E s := by
  obtain ⟨bag, o1, o2, oc, kvs1, kvs2, vs, n, q1, q2, q3, q4, q5, q6, q7, q8, q9, q10, q11, q12, q13, q14⟩ := hL
  have U : Upto lapN m₀ (fun y => if y = (Str.ofString "lap") then lv else m y) := Upto.set (.head _) hm
  have f1 : (fun y => if y = (Str.ofString "lap") then lv else m y) (Str.ofString "deck") = some (.ref dk) := (U _ (by decide +kernel)).trans e1
  have f2 : (fun y => if y = (Str.ofString "lap") then lv else m y) (Str.ofString "rules") = some (.ref ru) := (U _ (by decide +kernel)).trans e2
  have F' : Fr h₀ L s.heap (topM dk ru (fun y => if y = (Str.ofString "lap") then lv else m y)) := by rw [topM_self (m := fun y => if y = (Str.ofString "lap") then lv else m y) f1 f2]; exact F
  have N' := cb_drop (news := (I, it) :: (pd, o1) :: (dd, o2) :: (dk, listOf vs.toArray n) :: bag) N (List.forall_mem_cons.mpr ⟨.head _, fun p hp => .tail _ (q1 p hp)⟩)
  have B : Bag w I pd dd dk li ru (L + 1) fi oc kvs1 pl bag := ⟨q3, q8, q9, q10, fun p hp => hI p (q1 p (.tail _ (.tail _ (.tail _ hp)))), q12, q13, q14⟩
  have z1 : @Ne Nat pd I := hI _ (q1 _ (.head _))
  have z2 : @Ne Nat dd I := hI _ (q1 _ (.tail _ (.head _)))
  have z3 : @Ne Nat dk I := hI _ (q1 _ (.tail _ (.tail _ (.head _))))
  refine wpAny_mono (lap_ok (d := d) (fa := fa) (cdv := cdv) (Q := UnrPost h₀ L s I it (fun m' news' => LapLed w li ru pd dd dk (L + 1) fi pl (i + 1) news' ∧ Upto lapN m₀ m') Q) K0 X T F' N' B q11 q7 ⟨z1.symm, z2.symm, z3.symm, ap4, ap5, ap6⟩ hf0 hf1 q2 hs1 q4 hs2 q5 (by omega) hpl) (fun f s' q => ?_) fun _ _ e => e
  cases f with
  | next =>
    obtain ⟨h9, tk9, m9, bag9, vs9, n9, o9, kvs9, rfl, F9, U9, N9, B9, d9, r1, r2, r3⟩ := q
    refine ⟨h9, tk9, m9, (pd, o1) :: (dd, o9) :: (dk, listOf vs9.toArray n9) :: bag9, rfl, F9, N9, List.forall_mem_cons.mpr ⟨z1, List.forall_mem_cons.mpr ⟨z2, List.forall_mem_cons.mpr ⟨z3, B9.offI⟩⟩⟩, ⟨bag9, o1, o9, oc, kvs1, kvs9, vs9, n9, fun p hp => hp, q2, B9.plists, r1, r2, by omega, d9, B9.lisp, B9.rules, B9.cell, q11, B9.offp, B9.offd, B9.offk⟩, ?_⟩
    exact Upto.trans (topM_upto e1 e2 U) U9
  | ret v => exact q
  | brk => exact q
  | cont => exact q
end
section
theorem words_LR2_1 : True := by
  k_with_none
  k_with "k_enter" => (first | (refine' code_def ?k1z545 ?k2z545 ?k3z545 ?k4z545 ?k5z545 ?kAz545 ?kFz545 ?kKz545 ?k6z545 ?k7z545 ?k8z545 ?k9z545 ?kBz545 ?_ ?c2z545 ?c3z545 ?c4z545 ?c5z545; (case kAz545 => exact rfl); (case kFz545 => first | exact rfl | assumption); (case kKz545 => first | exact rfl | assumption); (case k1z545 => k_asm); (case k2z545 => k_asm); (case k3z545 => k_asm); (case k4z545 => k_asm); (case k5z545 => k_asm); (case k6z545 => k_is); (case k7z545 => k_is); (case k8z545 => k_room); (case k9z545 => first | exact BindsTo.of_eq rfl | exact binds_K (by k_in) rfl (by k_is) rfl rfl rfl | fail "k_enter: no rule for these arguments"); (case c5z545 => decide); (case kBz545 => exact locs rfl); (case c2z545 => exact rfl); (case c3z545 => exact rfl); (case c4z545 => exact rfl); k_whole; intro gw Lw hw FGw Fw Nw Bw Xw Tw; (try dsimp only); (try k_lift Bw); (try k_fold)) | (refine' code_defC ?k1z545 ?k2z545 ?k3z545 ?k4z545 ?k5z545 ?kAz545 ?kFz545 ?kKz545 ?k6z545 ?k7z545 ?k8z545 ?k9z545 ?kBz545 ?kDz545 ?_ ?c2z545 ?c3z545 ?c4z545; (case kAz545 => exact rfl); (case kFz545 => first | exact rfl | assumption); (case kKz545 => first | exact rfl | assumption); (case k1z545 => k_asm); (case k2z545 => k_asm); (case k3z545 => k_asm); (case k4z545 => k_asm); (case k5z545 => k_asm); (case k6z545 => k_is); (case k7z545 => k_is); (case k8z545 => k_room); (case k9z545 => first | exact BindsTo.of_eq rfl | exact binds_K (by k_in) rfl (by k_is) rfl rfl rfl | fail "k_enter: no rule for these arguments"); (case kBz545 => exact rfl); (case kDz545 => decide +kernel); (case c2z545 => exact rfl); (case c3z545 => exact rfl); (case c4z545 => exact rfl); k_whole; intro gw Lw hw tkw cellsw FGw Fw Nw Yw Bw Xw Tw l1w; (try k_lt l1w); k_cells Yw; (try simp only [List.cons_append, List.nil_append] at Nw); (try dsimp only); (try k_lift Bw); (try k_fold)))
  k_with "k_ne" => (refine neN ?_; (try dsimp only); first | with_reducible assumption | with_reducible exact Ne.symm (by assumption) | exact (by k_extra "nes") | exact Ne.symm (by k_extra "nes") | exact Nat.ne_of_lt (by k_extra "lt") | exact Nat.ne_of_gt (by k_extra "lt") | omega)
  k_with "lt" => (first | with_reducible assumption | with_reducible exact And.left (by assumption) | with_reducible exact And.left (And.right (by assumption)) | with_reducible exact And.left (And.right (And.right (by assumption))) | with_reducible exact And.left (And.right (And.right (And.right (by assumption)))) | with_reducible exact And.left (And.right (And.right (And.right (And.right (by assumption))))) | with_reducible exact And.left (And.right (And.right (And.right (And.right (And.right (by assumption)))))) | with_reducible exact And.left (And.right (And.right (And.right (And.right (And.right (And.right (by assumption))))))) | with_reducible exact And.left (And.right (And.right (And.right (And.right (And.right (And.right (And.right (by assumption)))))))) | with_reducible exact And.left (And.right (And.right (And.right (And.right (And.right (And.right (And.right (And.right (by assumption))))))))) | with_reducible exact And.left (And.right (And.right (And.right (And.right (And.right (And.right (And.right (And.right (And.right (by assumption)))))))))) | with_reducible exact And.left (And.right (And.right (And.right (And.right (And.right (And.right (And.right (And.right (And.right (And.right (by assumption))))))))))) | with_reducible exact And.left (And.right (And.right (And.right (And.right (And.right (And.right (And.right (And.right (And.right (And.right (And.right (by assumption)))))))))))) | with_reducible exact And.left (And.right (And.right (And.right (And.right (And.right (And.right (And.right (And.right (And.right (And.right (And.right (And.right (by assumption))))))))))))) | with_reducible exact And.left (And.right (And.right (And.right (And.right (And.right (And.right (And.right (And.right (And.right (And.right (And.right (And.right (And.right (by assumption)))))))))))))) | with_reducible exact And.left (And.right (And.right (And.right (And.right (And.right (And.right (And.right (And.right (And.right (And.right (And.right (And.right (And.right (And.right (by assumption))))))))))))))) | with_reducible exact And.left (And.right (And.right (And.right (And.right (And.right (And.right (And.right (And.right (And.right (And.right (And.right (And.right (And.right (And.right (And.right (by assumption)))))))))))))))) | with_reducible exact And.right (by assumption) | with_reducible exact And.right (And.right (by assumption)) | with_reducible exact And.right (And.right (And.right (by assumption))) | with_reducible exact And.right (And.right (And.right (And.right (by assumption)))) | with_reducible exact And.right (And.right (And.right (And.right (And.right (by assumption))))) | with_reducible exact And.right (And.right (And.right (And.right (And.right (And.right (by assumption)))))) | with_reducible exact And.right (And.right (And.right (And.right (And.right (And.right (And.right (by assumption))))))) | with_reducible exact And.right (And.right (And.right (And.right (And.right (And.right (And.right (And.right (by assumption)))))))) | with_reducible exact And.right (And.right (And.right (And.right (And.right (And.right (And.right (And.right (And.right (by assumption))))))))))
  k_with "nes" => (first | with_reducible exact And.left (by assumption) | with_reducible exact And.left (And.right (by assumption)) | with_reducible exact And.left (And.right (And.right (by assumption))) | with_reducible exact And.left (And.right (And.right (And.right (by assumption)))) | with_reducible exact And.left (And.right (And.right (And.right (And.right (by assumption))))) | with_reducible exact And.left (And.right (And.right (And.right (And.right (And.right (by assumption)))))) | with_reducible exact And.right (by assumption) | with_reducible exact And.right (And.right (by assumption)) | with_reducible exact And.right (And.right (And.right (by assumption))) | with_reducible exact And.right (And.right (And.right (And.right (by assumption)))) | with_reducible exact And.right (And.right (And.right (And.right (And.right (by assumption))))))
  k_with "subscriptTail" => ((k_here; (with_reducible show wpAny _ _ (subscriptTail _ _ (Value.ref _) (Value.int 0 _)) _ _ _); k_dflt (refine' tup_head ?Nz523 ?mz523 ?_; (case Nz523 => k_asm); (case mz523 => k_mem); k_whole)))
  k_with "call type:tuple" => ((k_here; (with_reducible show wpAny _ _ (call (Value.type "tuple") [Value.ref _]) _ _ _); k_dflt (refine' tuple_ofM ?Fz524 ?Nz524 ?mz524 ?zz524 ?_; (case Fz524 => k_asm); (case Nz524 => k_asm); (case mz524 => k_mem); (case zz524 => first | assumption | (simp only [List.length_cons, List.length_nil]; omega)); k_whole); intro Dw hw Fw Nw l1w; (try k_lt l1w); (try k_sweep)))
  k_with "call type:list" => ((k_here; (with_reducible show wpAny _ _ (call (Value.type "list") [Value.ref _]) _ _ _); k_dflt (refine' list_ofTupM ?Fz525 ?Nz525 ?mz525 ?zz525 ?_; (case Fz525 => k_asm); (case Nz525 => k_asm); (case mz525 => k_mem); (case zz525 => first | assumption | (simp only [List.length_cons, List.length_nil]; omega)); k_whole); intro Dw kw hw Fw Nw l1w; (try k_lt l1w); (try k_sweep)))
  k_with "subscriptTail Name Slice ref ref" => ((k_here; (with_reducible show wpAny _ _ (subscriptTail _ (PySem.Expr.Slice (some _) none none _) (Value.ref _) (Value.ref _)) _ _ _); k_dflt (refine' slice_tupM ?Fz526 ?Nz526 ?mz526 ?zz526 ?_ ?sz526 ?tz526; (case Fz526 => k_asm); (case Nz526 => k_asm); (case mz526 => k_mem); (case zz526 => first | assumption | (simp only [List.length_cons, List.length_nil]; omega)); (case sz526 => with_unfolding_all rfl); (case tz526 => kmk_pure)); intro Dw hw Fw Nw l1w; (try k_lt l1w); (try k_sweep)))
  k_with "compareOp Eq ref none" => ((k_here; (with_reducible show wpAny _ _ (compareOp CmpOp.Eq (Value.ref _) Value.none) _ _ _); k_dflt (refine' eq_tup_none ?Nz527 ?mz527 ?uz527 ?_; (case Nz527 => k_asm); (case mz527 => k_mem); (case uz527 => k_units); k_whole)))
  k_with "compareOp Eq ref" => ((k_here; (with_reducible show wpAny _ _ (compareOp CmpOp.Eq (Value.ref _) Value.none) _ _ _); k_dflt (refine' eq_tup_none ?Nz528 ?mz528 ?uz528 ?_; (case Nz528 => k_asm); (case mz528 => k_mem); (case uz528 => k_units); k_whole)))
  k_with "k_mem" => (((repeat (first | exact List.Mem.head _ | assumption | refine' List.Mem.tail _ ?_ | exact List.mem_append_left _ (by assumption) | exact List.mem_append_left _ (List.Mem.head _) | refine' List.mem_append_right _ ?_)); done))
  k_with "binaryOp Add ref ref" => ((k_here; (with_reducible show wpAny _ _ (binaryOp Operator.Add (Value.ref _) (Value.ref _)) _ _ _); k_dflt (refine' add_tupM ?Fz530 ?Nz530 ?mz530 ?nz530 ?zz530 ?az530 ?bz530; (case Fz530 => k_asm); (case Nz530 => k_asm); (case mz530 => k_mem); (case nz530 => k_mem); (case zz530 => first | assumption | (simp only [List.length_cons, List.length_nil]; omega)); (case' az530 => intro e1w); (case' bz530 => (intro e1w Dw hw Fw Nw l1w; (try k_lt l1w); (try k_sweep))))))
  k_with "kqd_sub" => (((repeat (refine List.forall_mem_cons.mpr ⟨by k_mem, ?_⟩)); first | exact List.forall_mem_nil _ | (intro p9 h9; k_mem)))
  k_with "ktr_rel" => (first | assumption | exact tb_ltOf (by first | assumption | exact (And.right (by assumption)) | exact (And.right (And.right (by assumption))) | exact (And.right (And.right (And.right (by assumption)))) | exact (And.right (And.right (And.right (And.right (by assumption))))) | exact (And.right (And.right (And.right (And.right (And.right (by assumption)))))) | exact (And.right (And.right (And.right (And.right (And.right (And.right (by assumption))))))) | exact (And.right (And.right (And.right (And.right (And.right (And.right (And.right (by assumption)))))))) | exact (And.right (And.right (And.right (And.right (And.right (And.right (And.right (And.right (by assumption))))))))) | exact (And.right (And.right (And.right (And.right (And.right (And.right (And.right (And.right (And.right (by assumption)))))))))) | exact (And.right (And.right (And.right (And.right (And.right (And.right (And.right (And.right (And.right (And.right (by assumption)))))))))))))
  k_with "getMethod ref" => ((k_here; (with_reducible show wpAny _ _ (getMethod (Value.ref _) (Str.ofString "get") _) _ _ _); k_dflt (refine kdg_method (knd := PySem.intKind Pr _) (by k_asm) (by k_mem) (by k_asm) ?_)))
  k_with "call builtin:dict.get" => ((k_here; (try dsimp only [List.nil_append, List.cons_append]); (with_reducible show wpAny _ _ (call (Value.builtin _) [Value.ref _, Value.int _ _, _]) _ _ _); k_dflt (refine kdg_get2 (knd := PySem.intKind Pr _) (by k_asm) (by k_mem) (by k_asm) (by k_asm) (intKind_is _ _ _ _) _ (by assumption) ?_); (try dsimp only [Option.getD])))
  k_with "subscriptTail" => ((k_here; (with_reducible show wpAny _ _ (subscriptTail _ _ (Value.ref _) (Value.int _ _)) _ _ _); k_dflt (refine' list_itemM ?Nz535 ?mz535 ?xz535 ?kz535 ?zz535 ?_; (case Nz535 => k_asm); (case mz535 => k_mem); (case xz535 => assumption); (case kz535 => omega); (case zz535 => first | assumption | omega); k_whole)))
  k_with "call builtin:len" => ((k_here; (with_reducible show wpAny _ _ (call (Value.builtin "len") [Value.ref _]) _ _ _); k_dflt (refine' len_listM ?Nz536 ?mz536 ?zz536 ?_; (case Nz536 => k_asm); (case mz536 => k_mem); (case zz536 => first | assumption | omega); k_whole)))
  k_with "tb_rel" => (first | assumption | (refine' LV.mono ?hz537 ?sz537; (case hz537 => assumption); (case sz537 => kqd_sub)) | (refine' RowsIn.mono ?sz537 ?hz537; (case hz537 => assumption); (case sz537 => kqd_sub)) | (refine' LispAt.mono ?hz537 ?sz537; (case hz537 => assumption); (case sz537 => kqd_sub)) | (refine' RulesAt.mono ?hz537 ?sz537; (case hz537 => assumption); (case sz537 => kqd_sub)) | (refine' IntDict.mono ?hz537 ?sz537; (case hz537 => assumption); (case sz537 => kqd_sub)) | (refine' PlistsIn.mono ?hz537 ?sz537; (case hz537 => assumption); (case sz537 => kqd_sub)) | (refine' DatAll.mono ?sz537 ?hz537; (case hz537 => assumption); (case sz537 => kqd_sub)))
  k_with "eval ListComp" => ((k_here; (with_reducible show wpAny _ _ (eval (PySem.Expr.ListComp _ [⟨PySem.Expr.Name _ _, _, [], _⟩] _ _) _) _ _ _); k_dflt (refine LCg.ListComp_U (F₀ := by k_asm) (by with_unfolding_all rfl) (by decide) (by rfl) (by decide) (by rfl) ?_); k_dflt lcg_toSrc))
  k_with "CompSrc" => ((k_here; k_dflt (refine LCg.CompSrc.ledger (by rfl) (by k_asm) (by k_asm) (by k_mem) (by simp only [List.size_toArray, sizeLine_eq]; first | omega | (rename IntsAre _ _ => hq9; rw [hq9.length]; omega)) ?_); intro gw))
  k_with "CompSrc" => ((k_here; (rename IsRange _ _ _ _ _ _ _ _ => lRw); k_dflt (refine LCg.CompSrc.range (by rfl) (by k_asm) (by k_asm) lRw (small_one (by omega) (by omega) (by omega) (by omega)) (rangeSize_nat _ _) (by simp only [sizeLine_eq]; omega) ?_); clear lRw; intro gw))
  k_with "call ref" => ((k_here; (with_reducible show wpAny _ _ (call (Value.ref 36) [Value.ref _, Value.str _ _]) _ _ _); k_dflt (refine' ctr_useT (number_ok ?lz541 ?jz541) ?Bz541 ?Fz541 ?Xz541 ?Nz541 ?Tz541 ?hz541 ?dpz541 ?uz541 ?Az541 ?fz541 ?kz541 ?_; (case Nz541 => k_asm); (case lz541 => first | tb_rel | exact ⟨_, _, _, _, _, _, by k_mem, by k_mem⟩); (case jz541 => with_reducible (first | exact names0 | exact names1 | exact names2 | exact names3 | exact names4 | assumption)); (case Bz541 => k_asm); (case Fz541 => k_asm); (case Xz541 => k_asm); (case Tz541 => k_asm); (case hz541 => exact rfl); (case dpz541 => exact Nat.le_of_ble_eq_true rfl); (case uz541 => exact Nat.le_of_ble_eq_true rfl); (case Az541 => exact rfl); (case fz541 => exact rfl); (case kz541 => exact rfl); k_whole); (intro tw hw tkw Fw Nw); (try k_sweep); (try k_fold)))
  k_with "eval ListComp" => ((k_here; (with_reducible show wpAny _ _ (eval (PySem.Expr.ListComp _ [⟨PySem.Expr.Name _ _, PySem.Expr.Name _ _, [], _⟩] _ _) _) _ _ _); k_dflt (refine ListComp_tup (_F₀ := by k_asm) (by with_unfolding_all rfl) (by decide) (by rfl) (by decide) (by rfl) ?_)))
  k_with "CompRest" => (refine stop_of ?_)
  k_with "compareOp NotEq ref ref" => ((k_here; (with_reducible show wpAny _ _ (compareOp CmpOp.NotEq (Value.ref _) (Value.ref _)) _ _ _); k_dflt (refine' ints_same ?Nz544 ?az544 ?bz544 ?xz544 ?yz544 ?uz544 ?_; (case Nz544 => k_asm); (case az544 => k_mem); (case bz544 => k_mem); (case xz544 => assumption); (case yz544 => assumption); (case uz544 => ke_room); k_whole)))
  trivial
set_option maxHeartbeats 4000000 in
theorem law_R2 {w : World} {mean : ExcName → Option Value} {mg mb : Str → Option Value} {h₀ : Heap} {d : Scope} {L fa : Addr} {cdv : Value} {Q : Flow → Shared → Prop} {s : Shared} {pd li : Addr} {oc : Obj} {fi : Int} {m : Str → Option Value} {led : List (Addr × Obj)}
    (K0 : Below callerA h₀ [] h₀) (X : (Mine.hd.heap_39 w.params).In h₀) (T : TopOk mean mg mb h₀) (F : Fr h₀ L s.heap m) (N : News h₀ L s.heap led)
    (q2 : LispAt w led li fi pd) (q4 : (L + 1, oc) ∈ led) (hoc : oc.data = .cell (some (.ref li))) :
    wpAny (model Pr w) (callerA.deeper (lawEnv w.params d L fa cdv)) (execs (((bodyAt w.params 197).drop 4).take 1) (lawEnv w.params d L fa cdv)) (CutPost (fun s' => ∃ (h : Heap) (tk : Nat), s' = { s with heap := h, toks := tk } ∧ Fr h₀ L h m ∧ News h₀ L h led) Q) (fun _ _ => False) s := by
  show wpAny _ (callerA.deeper (envOfC (Str.ofString "law") ⟨_, _, _, _, _⟩ L fa cdv)) (execs [_] (envOfC (Str.ofString "law") ⟨_, _, _, _, _⟩ L fa cdv)) _ _ _
  have w1 := q2
  obtain ⟨dl8, tl1, tl2, tl3, tl4, tl5, w3, w4⟩ := w1
  try k_fold
  k_steps
  k_dflt (refine TupSrc.intro (by rfl) (by k_asm) (by assumption) (tupK (by k_asm) (by k_is)) (by simp) ?_)
  intro g7
  refine compU_indK (fun i ys => ys.length = i ∧ IntsAre ys (upFrom fi i)) ⟨rfl, .nil⟩ ?_ ?_
  · rintro i ys v I9 oI9 C9 oC9 D9 m9 h9 tk9 E9 hi ⟨hl9, hI9⟩ hv9 hC9 hx9 F9 N9 off9 ne9
    obtain ⟨nm9, t9, rfl, hj9⟩ := strs_at (xs := namesL) (.cons _ _ (.cons _ _ (.cons _ _ (.cons _ _ (.cons _ _ .nil))))) i v hv9
    k_steps
    refine compEnd_same (by assumption) (by assumption) (fun _ h => h) off9 trivial ⟨by simp [hl9], ?_⟩
    rw [upFrom_succ]
    exact ints_snoc _ _ hI9
  · rintro ys ⟨hl9, hI9⟩
    k_steps
    unfold Stop
    refine compU_indK (fun i zs => zs.length = i ∧ IntsAre zs (upFrom fi i)) ⟨rfl, .nil⟩ ?_ ?_
    · rintro i zs v I8 oI8 C8 oC8 D8 m8 h8 tk8 E8 hi ⟨hl8, hI8⟩ ⟨t8, rfl⟩ hC8 hx8 F8 N8 off8 ne8
      k_steps
      refine compEnd_same (by assumption) (by assumption) (fun _ h => h) off8 trivial ⟨by simp [hl8], ?_⟩
      rw [upFrom_succ]
      have e8 : fi + (i : Int) = fi + (0 + (i : Int)) := by omega
      rw [e8]
      exact ints_snoc _ _ hI8
    · rintro zs ⟨hl8, hI8⟩
      have hI9 : IntsAre ys (upFrom fi 5) := hI9
      have hI8 : IntsAre zs (upFrom fi 5) := by
        have q := hI8
        simpa using q
      k_steps
      exact cut_next ⟨_, _, rfl, by assumption, cb_drop (by assumption) (fun p hp => by k_mem)⟩
end
section
/-- behind the three stored rows -/
inductive MidR (w : World) (h₀ : Heap) (L : Addr) (s₁ : Shared) (pd dd dk li ru : Addr) (o2 oc : Obj) (fi : Int) (s : Shared) : Prop where
  | mk (h : Heap) (tk : Nat) (m : Str → Option Value) (bag : List (Addr × Obj)) (vs : List Value) (n : Nat) (o1 : Obj) (kvs1 : List (Int × Value)) (r1 r2 r3 : List (Int × Dat)) : (s = { s₁ with heap := h, toks := tk }) →
    (Fr h₀ L h (topM dk ru m)) →
    (News h₀ L h ((pd, o1) :: (dd, o2) :: (dk, listOf vs.toArray n) :: bag)) →
    (DeckOk vs) →
    (o1.IsDictOf (PySem.intKind Pr w) kvs1) →
    (PlistsIn bag kvs1 (rows3 r1 r2 r3)) →
    (LispAt w bag li fi pd) →
    (RulesAt w bag ru li fi dd) →
    ((L + 1, oc) ∈ bag) →
    (∀ p ∈ bag, p.1 ≠ pd) →
    (∀ p ∈ bag, p.1 ≠ dd) →
    (∀ p ∈ bag, p.1 ≠ dk) → MidR w h₀ L s₁ pd dd dk li ru o2 oc fi s
/-- the law's end -/
inductive RetTrue (h₀ : Heap) (L : Addr) (s : Shared) (f : Flow) (s' : Shared) : Prop where
  | mk (h : Heap) (tk : Nat) (m' : Str → Option Value) (news : List (Addr × Obj)) : (f = .ret (.bool true)) →
    (s' = { s with heap := h, toks := tk }) →
    (Fr h₀ L h m') →
    (News h₀ L h news) → RetTrue h₀ L s f s'
theorem RetTrue.intro {h₀ h : Heap} {L : Addr} {s : Shared} {tk : Nat} {m' : Str → Option Value} {news : List (Addr × Obj)} (F : Fr h₀ L h m') (N : News h₀ L h news) : RetTrue h₀ L s (.ret (.bool true)) { s with heap := h, toks := tk } := ⟨h, tk, m', news, rfl, rfl, F, N⟩
theorem fr_top {h₀ h : Heap} {L dk ru : Addr} {M : Str → Option Value} (F : Fr h₀ L h M) (h1 : M (Str.ofString "deck") = some (.ref dk)) (h2 : M (Str.ofString "rules") = some (.ref ru)) : Fr h₀ L h (topM dk ru M) := by
  rw [topM_self h1 h2]; exact F
theorem pull3 {h₀ h : Heap} {L : Addr} {front back : List (Addr × Obj)} {a b c : Addr × Obj} (N : News h₀ L h (front ++ (a :: b :: c :: back))) : News h₀ L h (a :: b :: c :: (front ++ back)) := cb_drop N fun p hp => by
  simp only [List.mem_cons, List.mem_append] at hp ⊢
  rcases hp with hp | hp | hp | hp | hp <;> simp [hp]
local macro_rules | `(tactic| k_all) => `(tactic| assumption)
local macro_rules | `(tactic| k_updF) => `(tactic| first | (refine' UpdE.head ?a; (case a => k_all)) | (refine' UpdE.tail ?a ?b; (case a => k_ne); (case b => k_updF)))
local macro_rules | `(tactic| k_all) => `(tactic| first | assumption | exact List.forall_mem_nil _ | (refine' List.forall_mem_cons.mpr ⟨?a, ?b⟩; (case a => k_ne); (case b => k_all)) | (refine' List.forall_mem_append.mpr ⟨?a, ?b⟩; (case a => exact frq (by assumption) (by k_mem)); (case b => k_all)) | exact frq (by assumption) (by k_mem))
theorem words_LR_1 : True := by
  k_with_none
  k_with "k_enter" => (first | (refine' code_def ?k1z566 ?k2z566 ?k3z566 ?k4z566 ?k5z566 ?kAz566 ?kFz566 ?kKz566 ?k6z566 ?k7z566 ?k8z566 ?k9z566 ?kBz566 ?_ ?c2z566 ?c3z566 ?c4z566 ?c5z566; (case kAz566 => exact rfl); (case kFz566 => first | exact rfl | assumption); (case kKz566 => first | exact rfl | assumption); (case k1z566 => k_asm); (case k2z566 => k_asm); (case k3z566 => k_asm); (case k4z566 => k_asm); (case k5z566 => k_asm); (case k6z566 => k_is); (case k7z566 => k_is); (case k8z566 => k_room); (case k9z566 => first | exact BindsTo.of_eq rfl | exact binds_K (by k_in) rfl (by k_is) rfl rfl rfl | fail "k_enter: no rule for these arguments"); (case c5z566 => decide); (case kBz566 => exact locs rfl); (case c2z566 => exact rfl); (case c3z566 => exact rfl); (case c4z566 => exact rfl); k_whole; intro gw Lw hw FGw Fw Nw Bw Xw Tw; (try dsimp only); (try k_lift Bw); (try k_fold)) | (refine' code_defC ?k1z566 ?k2z566 ?k3z566 ?k4z566 ?k5z566 ?kAz566 ?kFz566 ?kKz566 ?k6z566 ?k7z566 ?k8z566 ?k9z566 ?kBz566 ?kDz566 ?_ ?c2z566 ?c3z566 ?c4z566; (case kAz566 => exact rfl); (case kFz566 => first | exact rfl | assumption); (case kKz566 => first | exact rfl | assumption); (case k1z566 => k_asm); (case k2z566 => k_asm); (case k3z566 => k_asm); (case k4z566 => k_asm); (case k5z566 => k_asm); (case k6z566 => k_is); (case k7z566 => k_is); (case k8z566 => k_room); (case k9z566 => first | exact BindsTo.of_eq rfl | exact binds_K (by k_in) rfl (by k_is) rfl rfl rfl | fail "k_enter: no rule for these arguments"); (case kBz566 => exact rfl); (case kDz566 => decide +kernel); (case c2z566 => exact rfl); (case c3z566 => exact rfl); (case c4z566 => exact rfl); k_whole; intro gw Lw hw tkw cellsw FGw Fw Nw Yw Bw Xw Tw l1w; (try k_lt l1w); k_cells Yw; (try simp only [List.cons_append, List.nil_append] at Nw); (try dsimp only); (try k_lift Bw); (try k_fold)))
  k_with "k_ne" => (refine neN ?_; (try dsimp only); first | with_reducible assumption | with_reducible exact Ne.symm (by assumption) | exact (by k_extra "nes") | exact Ne.symm (by k_extra "nes") | exact Nat.ne_of_lt (by k_extra "lt") | exact Nat.ne_of_gt (by k_extra "lt") | omega)
  k_with "lt" => (first | with_reducible assumption | with_reducible exact And.left (by assumption) | with_reducible exact And.left (And.right (by assumption)) | with_reducible exact And.left (And.right (And.right (by assumption))) | with_reducible exact And.left (And.right (And.right (And.right (by assumption)))) | with_reducible exact And.left (And.right (And.right (And.right (And.right (by assumption))))) | with_reducible exact And.left (And.right (And.right (And.right (And.right (And.right (by assumption)))))) | with_reducible exact And.left (And.right (And.right (And.right (And.right (And.right (And.right (by assumption))))))) | with_reducible exact And.left (And.right (And.right (And.right (And.right (And.right (And.right (And.right (by assumption)))))))) | with_reducible exact And.left (And.right (And.right (And.right (And.right (And.right (And.right (And.right (And.right (by assumption))))))))) | with_reducible exact And.left (And.right (And.right (And.right (And.right (And.right (And.right (And.right (And.right (And.right (by assumption)))))))))) | with_reducible exact And.left (And.right (And.right (And.right (And.right (And.right (And.right (And.right (And.right (And.right (And.right (by assumption))))))))))) | with_reducible exact And.left (And.right (And.right (And.right (And.right (And.right (And.right (And.right (And.right (And.right (And.right (And.right (by assumption)))))))))))) | with_reducible exact And.left (And.right (And.right (And.right (And.right (And.right (And.right (And.right (And.right (And.right (And.right (And.right (And.right (by assumption))))))))))))) | with_reducible exact And.left (And.right (And.right (And.right (And.right (And.right (And.right (And.right (And.right (And.right (And.right (And.right (And.right (And.right (by assumption)))))))))))))) | with_reducible exact And.left (And.right (And.right (And.right (And.right (And.right (And.right (And.right (And.right (And.right (And.right (And.right (And.right (And.right (And.right (by assumption))))))))))))))) | with_reducible exact And.left (And.right (And.right (And.right (And.right (And.right (And.right (And.right (And.right (And.right (And.right (And.right (And.right (And.right (And.right (And.right (by assumption)))))))))))))))) | with_reducible exact And.right (by assumption) | with_reducible exact And.right (And.right (by assumption)) | with_reducible exact And.right (And.right (And.right (by assumption))) | with_reducible exact And.right (And.right (And.right (And.right (by assumption)))) | with_reducible exact And.right (And.right (And.right (And.right (And.right (by assumption))))) | with_reducible exact And.right (And.right (And.right (And.right (And.right (And.right (by assumption)))))) | with_reducible exact And.right (And.right (And.right (And.right (And.right (And.right (And.right (by assumption))))))) | with_reducible exact And.right (And.right (And.right (And.right (And.right (And.right (And.right (And.right (by assumption)))))))) | with_reducible exact And.right (And.right (And.right (And.right (And.right (And.right (And.right (And.right (And.right (by assumption))))))))))
  k_with "nes" => (first | with_reducible exact And.left (by assumption) | with_reducible exact And.left (And.right (by assumption)) | with_reducible exact And.left (And.right (And.right (by assumption))) | with_reducible exact And.left (And.right (And.right (And.right (by assumption)))) | with_reducible exact And.left (And.right (And.right (And.right (And.right (by assumption))))) | with_reducible exact And.left (And.right (And.right (And.right (And.right (And.right (by assumption)))))) | with_reducible exact And.right (by assumption) | with_reducible exact And.right (And.right (by assumption)) | with_reducible exact And.right (And.right (And.right (by assumption))) | with_reducible exact And.right (And.right (And.right (And.right (by assumption)))) | with_reducible exact And.right (And.right (And.right (And.right (And.right (by assumption))))))
  k_with "subscriptTail" => ((k_here; (with_reducible show wpAny _ _ (subscriptTail _ _ (Value.ref _) (Value.int 0 _)) _ _ _); k_dflt (refine' tup_head ?Nz546 ?mz546 ?_; (case Nz546 => k_asm); (case mz546 => k_mem); k_whole)))
  k_with "call type:tuple" => ((k_here; (with_reducible show wpAny _ _ (call (Value.type "tuple") [Value.ref _]) _ _ _); k_dflt (refine' tuple_ofM ?Fz547 ?Nz547 ?mz547 ?zz547 ?_; (case Fz547 => k_asm); (case Nz547 => k_asm); (case mz547 => k_mem); (case zz547 => first | assumption | (simp only [List.length_cons, List.length_nil]; omega)); k_whole); intro Dw hw Fw Nw l1w; (try k_lt l1w); (try k_sweep)))
  k_with "call type:list" => ((k_here; (with_reducible show wpAny _ _ (call (Value.type "list") [Value.ref _]) _ _ _); k_dflt (refine' list_ofTupM ?Fz548 ?Nz548 ?mz548 ?zz548 ?_; (case Fz548 => k_asm); (case Nz548 => k_asm); (case mz548 => k_mem); (case zz548 => first | assumption | (simp only [List.length_cons, List.length_nil]; omega)); k_whole); intro Dw kw hw Fw Nw l1w; (try k_lt l1w); (try k_sweep)))
  k_with "subscriptTail Name Slice ref ref" => ((k_here; (with_reducible show wpAny _ _ (subscriptTail _ (PySem.Expr.Slice (some _) none none _) (Value.ref _) (Value.ref _)) _ _ _); k_dflt (refine' slice_tupM ?Fz549 ?Nz549 ?mz549 ?zz549 ?_ ?sz549 ?tz549; (case Fz549 => k_asm); (case Nz549 => k_asm); (case mz549 => k_mem); (case zz549 => first | assumption | (simp only [List.length_cons, List.length_nil]; omega)); (case sz549 => with_unfolding_all rfl); (case tz549 => kmk_pure)); intro Dw hw Fw Nw l1w; (try k_lt l1w); (try k_sweep)))
  k_with "compareOp Eq ref none" => ((k_here; (with_reducible show wpAny _ _ (compareOp CmpOp.Eq (Value.ref _) Value.none) _ _ _); k_dflt (refine' eq_tup_none ?Nz550 ?mz550 ?uz550 ?_; (case Nz550 => k_asm); (case mz550 => k_mem); (case uz550 => k_units); k_whole)))
  k_with "compareOp Eq ref" => ((k_here; (with_reducible show wpAny _ _ (compareOp CmpOp.Eq (Value.ref _) Value.none) _ _ _); k_dflt (refine' eq_tup_none ?Nz551 ?mz551 ?uz551 ?_; (case Nz551 => k_asm); (case mz551 => k_mem); (case uz551 => k_units); k_whole)))
  k_with "k_mem" => (((repeat (first | exact List.Mem.head _ | assumption | refine' List.Mem.tail _ ?_ | exact List.mem_append_left _ (by assumption) | exact List.mem_append_left _ (List.Mem.head _) | refine' List.mem_append_right _ ?_)); done))
  k_with "binaryOp Add ref ref" => ((k_here; (with_reducible show wpAny _ _ (binaryOp Operator.Add (Value.ref _) (Value.ref _)) _ _ _); k_dflt (refine' add_tupM ?Fz553 ?Nz553 ?mz553 ?nz553 ?zz553 ?az553 ?bz553; (case Fz553 => k_asm); (case Nz553 => k_asm); (case mz553 => k_mem); (case nz553 => k_mem); (case zz553 => first | assumption | (simp only [List.length_cons, List.length_nil]; omega)); (case' az553 => intro e1w); (case' bz553 => (intro e1w Dw hw Fw Nw l1w; (try k_lt l1w); (try k_sweep))))))
  k_with "kqd_sub" => (((repeat (refine List.forall_mem_cons.mpr ⟨by k_mem, ?_⟩)); first | exact List.forall_mem_nil _ | (intro p9 h9; k_mem)))
  k_with "ktr_rel" => (first | assumption | exact tb_ltOf (by first | assumption | exact (And.right (by assumption)) | exact (And.right (And.right (by assumption))) | exact (And.right (And.right (And.right (by assumption)))) | exact (And.right (And.right (And.right (And.right (by assumption))))) | exact (And.right (And.right (And.right (And.right (And.right (by assumption)))))) | exact (And.right (And.right (And.right (And.right (And.right (And.right (by assumption))))))) | exact (And.right (And.right (And.right (And.right (And.right (And.right (And.right (by assumption)))))))) | exact (And.right (And.right (And.right (And.right (And.right (And.right (And.right (And.right (by assumption))))))))) | exact (And.right (And.right (And.right (And.right (And.right (And.right (And.right (And.right (And.right (by assumption)))))))))) | exact (And.right (And.right (And.right (And.right (And.right (And.right (And.right (And.right (And.right (And.right (by assumption)))))))))))))
  k_with "getMethod ref" => ((k_here; (with_reducible show wpAny _ _ (getMethod (Value.ref _) (Str.ofString "get") _) _ _ _); k_dflt (refine kdg_method (knd := PySem.intKind Pr _) (by k_asm) (by k_mem) (by k_asm) ?_)))
  k_with "call builtin:dict.get" => ((k_here; (try dsimp only [List.nil_append, List.cons_append]); (with_reducible show wpAny _ _ (call (Value.builtin _) [Value.ref _, Value.int _ _, _]) _ _ _); k_dflt (refine kdg_get2 (knd := PySem.intKind Pr _) (by k_asm) (by k_mem) (by k_asm) (by k_asm) (intKind_is _ _ _ _) _ (by assumption) ?_); (try dsimp only [Option.getD])))
  k_with "subscriptTail" => ((k_here; (with_reducible show wpAny _ _ (subscriptTail _ _ (Value.ref _) (Value.int _ _)) _ _ _); k_dflt (refine' list_itemM ?Nz558 ?mz558 ?xz558 ?kz558 ?zz558 ?_; (case Nz558 => k_asm); (case mz558 => k_mem); (case xz558 => assumption); (case kz558 => omega); (case zz558 => first | assumption | omega); k_whole)))
  k_with "call builtin:len" => ((k_here; (with_reducible show wpAny _ _ (call (Value.builtin "len") [Value.ref _]) _ _ _); k_dflt (refine' len_listM ?Nz559 ?mz559 ?zz559 ?_; (case Nz559 => k_asm); (case mz559 => k_mem); (case zz559 => first | assumption | omega); k_whole)))
  k_with "tb_rel" => (first | assumption | (refine' LV.mono ?hz560 ?sz560; (case hz560 => assumption); (case sz560 => kqd_sub)) | (refine' RowsIn.mono ?sz560 ?hz560; (case hz560 => assumption); (case sz560 => kqd_sub)) | (refine' LispAt.mono ?hz560 ?sz560; (case hz560 => assumption); (case sz560 => kqd_sub)) | (refine' RulesAt.mono ?hz560 ?sz560; (case hz560 => assumption); (case sz560 => kqd_sub)) | (refine' IntDict.mono ?hz560 ?sz560; (case hz560 => assumption); (case sz560 => kqd_sub)) | (refine' PlistsIn.mono ?hz560 ?sz560; (case hz560 => assumption); (case sz560 => kqd_sub)) | (refine' DatAll.mono ?sz560 ?hz560; (case hz560 => assumption); (case sz560 => kqd_sub)))
  k_with "call ref" => ((k_here; (with_reducible show wpAny _ _ (call (Value.ref 172) [Value.ref _, Value.int _ _]) _ _ _); k_dflt (refine' draw_use ?dkz561 ?mz561 ?m2z561 ?Uz561 ?Bz561 ?Fz561 ?Xz561 ?Nz561 ?Tz561 ?hz561 ?dpz561 ?uz561 ?Az561 ?fz561 ?kz561 ?_; (case Nz561 => k_asm); (case Uz561 => k_updF); (case dkz561 => assumption); (case mz561 => omega); (case m2z561 => omega); (case Bz561 => k_asm); (case Fz561 => k_asm); (case Xz561 => k_asm); (case Tz561 => k_asm); (case hz561 => exact rfl); (case dpz561 => exact Nat.le_of_ble_eq_true rfl); (case uz561 => exact Nat.le_of_ble_eq_true rfl); (case Az561 => exact rfl); (case fz561 => exact rfl); (case kz561 => exact rfl); k_whole); (intro xw uw vsw nw hw tkw low hiw dkw Fw Nw); (try dsimp only at Nw); (try k_sweep); (try k_fold)))
  k_with "call ref" => ((k_here; (with_reducible show wpAny _ _ (call (Value.ref 182) [Value.ref _, Value.ref _, Value.int _ _]) _ _ _); k_dflt (refine' rows_use ?lz562 ?dkz562 ?m1z562 ?m2z562 ?Uz562 ?Bz562 ?Fz562 ?Xz562 ?Nz562 ?Tz562 ?hz562 ?dpz562 ?uz562 ?Az562 ?fz562 ?kz562 ?_; (case Nz562 => k_asm); (case Uz562 => k_updF); (case lz562 => first | tb_rel | exact ⟨_, _, _, _, _, _, by k_mem, by k_mem⟩); (case dkz562 => assumption); (case m1z562 => omega); (case m2z562 => omega); (case Bz562 => k_asm); (case Fz562 => k_asm); (case Xz562 => k_asm); (case Tz562 => k_asm); (case hz562 => exact rfl); (case dpz562 => exact Nat.le_of_ble_eq_true rfl); (case uz562 => exact Nat.le_of_ble_eq_true rfl); (case Az562 => exact rfl); (case fz562 => exact rfl); (case kz562 => exact rfl); k_whole); (rintro rw vsw nw morew Dw wsw kw rowsw hw tkw e1w dkw frw ⟨hmw, hrw, hlw, hkw⟩ Fw Nw); subst e1w; (have hz9 := rows_len hrw hlw); (try dsimp only at Nw); (try k_sweep); (try k_fold)))
  k_with "setItem ref int" => ((k_here; (with_reducible show wpAny _ _ (setItem (Value.ref _) (Value.int _ _) _) _ _ _); k_dflt (refine' kda_set (knd := PySem.intKind Pr _) ?Fz563 ?Nz563 ?Uz563 ?dz563 (intKind_is _ _ _ _) ?zz563 ?_; (case Fz563 => k_asm); (case Nz563 => k_asm); (case Uz563 => k_updF); (case dz563 => assumption); (case zz563 => (rw [sizeLine_eq]; first | omega | exact Nat.le_trans stored_len1 (by omega) | exact Nat.le_trans stored_len1 (Nat.le_trans (Nat.succ_le_succ stored_len1) (by simp)) | (simp; done)))); (intro hw ow Fw Nw hdw); (try dsimp only at Nw); (try k_sweep); (try k_fold)))
  k_with "UnrEndW" => ((refine ⟨_, _, _, _, rfl, by assumption, by assumption, off_all1 (by k_all), ?sz564, ?_⟩; (case sz564 => (repeat (first | exact trivial | exact And.intro (by k_mem) trivial | refine And.intro (by k_mem) ?_)))))
  k_with "pyIter ref" => ((k_here; (with_reducible show wpAny _ _ (pyIter (Value.ref _)) (fun it s₂ => TurnsAt _ _ _ _ _ _ _ _ _ it s₂) _ _); k_dflt (refine' iter_tupTurns ?hz565 ?Fz565 ?Nz565 ?mz565 ?cz565 ?dz565 ?_; (case hz565 => exact rfl); (case Fz565 => k_asm); (case Nz565 => k_asm); (case mz565 => k_mem); (case cz565 => exact rfl); (case dz565 => exact rfl)); intro iw l1w; (try k_lt l1w)))
  trivial
set_option maxHeartbeats 4000000 in
theorem law_R1 {w : World} {mean : ExcName → Option Value} {mg mb : Str → Option Value} {h₀ : Heap} {d : Scope} {L fa : Addr} {cdv : Value} {Q : Flow → Shared → Prop} {s : Shared} {pd dd dk li ru : Addr} {o1 o2 oc : Obj} {fi : Int} {m : Str → Option Value} {bag : List (Addr × Obj)} {vs : List Value} {n : Nat}
    (K0 : Below callerA h₀ [] h₀) (X : (Mine.hd.heap_39 w.params).In h₀) (T : TopOk mean mg mb h₀) (F : Fr h₀ L s.heap (topM dk ru m)) (N : News h₀ L s.heap ((pd, o1) :: (dd, o2) :: (dk, listOf vs.toArray n) :: bag))
    (q2 : LispAt w bag li fi pd) (q3 : RulesAt w bag ru li fi dd) (q4 : (L + 1, oc) ∈ bag) (hoc : oc.data = .cell (some (.ref li))) (q6 : ∀ p ∈ bag, p.1 ≠ pd) (q7 : ∀ p ∈ bag, p.1 ≠ dd) (q8 : ∀ p ∈ bag, p.1 ≠ dk) (hdk : DeckOk vs)
    (ap4 : @Ne Nat pd dd) (ap5 : @Ne Nat pd dk) (ap6 : @Ne Nat dd dk) (hD1 : o1.IsDictOf (PySem.intKind Pr w) []) (hs1 : (pd == sysModules) = false) :
    wpAny (model Pr w) (callerA.deeper (lawEnv w.params d L fa cdv)) (execs (((bodyAt w.params 197).drop 3).take 1) (lawEnv w.params d L fa cdv)) (CutPost (MidR w h₀ L s pd dd dk li ru o2 oc fi) Q) (fun _ _ => False) s := by
  show wpAny _ (callerA.deeper (envOfC (Str.ofString "law") ⟨_, _, _, _, _⟩ L fa cdv)) (execs [_] (envOfC (Str.ofString "law") ⟨_, _, _, _, _⟩ L fa cdv)) _ _ _
  have w1 := q2
  have w2 := q3
  obtain ⟨dl8, tl1, tl2, tl3, tl4, tl5, w3, w4⟩ := w1
  obtain ⟨dr8, tr8, w5, w6⟩ := w2
  try k_fold
  k_steps
  refine cut_next ?_
  refine' ⟨_, _, _, [_] ++ (_ ++ (_ ++ (_ ++ bag))), _, _, _, _, _, _, _, rfl, ?F, pull3 (front := [_]) (by assumption), by assumption, by assumption, ?P, q2.mono fun p hp => ?s1, q3.mono fun p hp => ?s2, ?s3, ?h2, ?h3, ?h4⟩
  case F =>
    refine' fr_top ?a ?b ?c
    case a => assumption
    case b => exact rfl
    case c => exact rfl
  case P => exact plists3 (by assumption) (by assumption) (by assumption) (by assumption) (by assumption) (by assumption) (by assumption) (by assumption) (by assumption) (fun p hp => by k_mem) (fun p hp => by k_mem) (fun p hp => by k_mem)
  case s1 => k_mem
  case s2 => k_mem
  case s3 => k_mem
  case h2 => dsimp only [List.cons_append, List.nil_append]; k_all
  case h3 => dsimp only [List.cons_append, List.nil_append]; k_all
  case h4 => dsimp only [List.cons_append, List.nil_append]; k_all
theorem words_LR_2 : True := by
  k_with "RangeRest" => (refine stop_of ?_)
  trivial
set_option maxHeartbeats 4000000 in
theorem law_R3 {w : World} {mean : ExcName → Option Value} {mg mb : Str → Option Value} {h₀ : Heap} {d : Scope} {L fa : Addr} {cdv : Value} {s : Shared} {pd dd dk li ru : Addr} {o1 o2 oc : Obj} {fi : Int} {kvs1 : List (Int × Value)} {r1 r2 r3 : List (Int × Dat)} {m : Str → Option Value} {bag : List (Addr × Obj)} {vs : List Value} {n : Nat}
    (K0 : Below callerA h₀ [] h₀) (X : (Mine.hd.heap_39 w.params).In h₀) (T : TopOk mean mg mb h₀) (F : Fr h₀ L s.heap (topM dk ru m)) (N : News h₀ L s.heap ((pd, o1) :: (dd, o2) :: (dk, listOf vs.toArray n) :: bag))
    (q1 : PlistsIn bag kvs1 (rows3 r1 r2 r3)) (q2 : LispAt w bag li fi pd) (q3 : RulesAt w bag ru li fi dd) (q4 : (L + 1, oc) ∈ bag) (hoc : oc.data = .cell (some (.ref li))) (q6 : ∀ p ∈ bag, p.1 ≠ pd) (q7 : ∀ p ∈ bag, p.1 ≠ dd) (q8 : ∀ p ∈ bag, p.1 ≠ dk) (hdk : DeckOk vs)
    (ap4 : @Ne Nat pd dd) (ap5 : @Ne Nat pd dk) (ap6 : @Ne Nat dd dk) (hf0 : 0 ≤ fi) (hf1 : fi < 40) (hD1 : o1.IsDictOf (PySem.intKind Pr w) kvs1) (hs1 : (pd == sysModules) = false) (hD2 : o2.IsDictOf (PySem.intKind Pr w) []) (hs2 : (dd == sysModules) = false) :
    wpAny (model Pr w) (callerA.deeper (lawEnv w.params d L fa cdv)) (execs ((bodyAt w.params 197).drop 5) (lawEnv w.params d L fa cdv)) (RetTrue h₀ L s) (fun _ _ => False) s := by
  show wpAny _ (callerA.deeper (envOfC (Str.ofString "law") ⟨_, _, _, _, _⟩ L fa cdv)) (execs [_, _] (envOfC (Str.ofString "law") ⟨_, _, _, _, _⟩ L fa cdv)) _ _ _
  try k_fold
  k_steps
  unfold Stop
  refine range_lapI lapN (fun i news => LapLed w li ru pd dd dk (L + 1) fi (rows3 r1 r2 r3) i news) ⟨bag, o1, o2, oc, kvs1, [], vs, n, fun p hp => hp, hD1, q1, hD2, (fun k v e => by simp [valueAt] at e), Nat.le_refl _, hdk, q2, q3, q4, hoc, q6, q7, q8⟩ (lt_ne (by ktr_rel)) ?step ?done
  case done =>
    rintro m9 news9 hL9 hm9 h9 tk9 F9 N9
    k_steps
    exact RetTrue.intro F9 N9
  case step =>
    rintro i m9 news9 hi hL9 hI9 hm9 t9 h9 tk9 F9 N9
    exact lap_turn (d := d) K0 X T hi hL9 hI9 hm9 topM_deck topM_rules F9 N9 ap4 ap5 ap6 hf0 hf1 hs1 hs2 rfl
end
section
/-- behind the law's first three statements -/
inductive MidS (w : World) (h₀ : Heap) (L : Addr) (s₁ : Shared) (s : Shared) : Prop where
  | mk (h : Heap) (tk : Nat) (m : Str → Option Value) (bag : List (Addr × Obj)) (vs : List Value) (n : Nat) (pd dd dk li ru : Addr) (o1 o2 oc : Obj) (fi : Int) : (s = { s₁ with heap := h, toks := tk }) →
    (Fr h₀ L h (topM dk ru m)) →
    (News h₀ L h ((pd, o1) :: (dd, o2) :: (dk, listOf vs.toArray n) :: bag)) →
    (LispAt w bag li fi pd) →
    (RulesAt w bag ru li fi dd) →
    ((L + 1, oc) ∈ bag) →
    (oc.data = .cell (some (.ref li))) →
    (∀ p ∈ bag, p.1 ≠ pd) →
    (∀ p ∈ bag, p.1 ≠ dd) →
    (∀ p ∈ bag, p.1 ≠ dk) →
    (DeckOk vs) →
    (@Ne Nat pd dd ∧ @Ne Nat pd dk ∧ @Ne Nat dd dk) →
    (0 ≤ fi) →
    (fi < 40) →
    (o1.IsDictOf (PySem.intKind Pr w) []) →
    ((pd == sysModules) = false) →
    (o2.IsDictOf (PySem.intKind Pr w) []) →
    ((dd == sysModules) = false) → MidS w h₀ L s₁ s
theorem cutS {w : World} {A : Around} {E : Value → Shared → Prop} {s : Shared} {env : Env} {Q : Flow → Shared → Prop} {h₀ : Heap} {L : Addr} {m : Str → Option Value} {l : List Stmt} (_F : Fr h₀ L s.heap m)
    (h1 : wpAny (model Pr w) A (execs (l.take 3) env) (CutPost (MidS w h₀ L s) Q) E s) (h2 : ∀ s', MidS w h₀ L s s' → wpAny (model Pr w) A (execs (l.drop 3) env) Q E s') : wpAny (model Pr w) A (execs l env) Q E s := cut_at 3 _ h1 h2
theorem midS_intro {w : World} {h₀ h : Heap} {L : Addr} {s : Shared} {tk : Nat} {M : Str → Option Value} {li ru pd dd dk lc dl dr : Addr} {fi c0 c1 c2 c3 c4 : Int} {o1 o2 oc : Obj} {vs : List Value} {n : Nat} {t1 t2 t3 t4 tf u0 u1 u2 u3 u4 u5 u6 u7 u8 u9 u10 u11 u12 u13 : Tok} {news : List (Addr × Obj)}
    (F : Fr h₀ L h M) (N : News h₀ L h news) (hl : lc = L + 1) (m1 : M (Str.ofString "deck") = some (.ref dk)) (m2 : M (Str.ofString "rules") = some (.ref ru))
    (hd1 : o1.IsDictOf (PySem.intKind Pr w) []) (hd2 : o2.IsDictOf (PySem.intKind Pr w) []) (hd : DeckOk vs) (hc : oc.data = .cell (some (.ref li)))
    (h1 : (pd, o1) ∈ news) (h2 : (dd, o2) ∈ news) (h3 : (dk, listOf vs.toArray n) ∈ news) (h4 : (li, instObj 81 dl) ∈ news) (h5 : (dl, dictOf (lispEs w t1 t2 t3 t4 fi tf pd) 4) ∈ news) (h6 : (ru, instObj 130 dr) ∈ news) (h7 : (dr, dictOf [ent w "lisp" u0 (.ref li), ent w "nil" u1 .none, ent w "true" u2 (.bool true), ent w "category" u3 (.int c0 u4), ent w "front_sticky" u5 (.int c1 u6), ent w "rear_nonsticky" u7 (.int c2 u8), ent w "evaporate" u9 (.int c3 u10), ent w "priority" u11 (.int c4 u12), ent w "defaults" u13 (.ref dd)] 9) ∈ news)
    (hc0 : c0 = fi) (hc1 : c1 = fi + 1) (hc2 : c2 = fi + 2) (hc3 : c3 = fi + 3) (hc4 : c4 = fi + 4)
    (h8 : (lc, oc) ∈ news)
    (e1 : ∀ p ∈ (li, instObj 81 dl) :: (dl, dictOf (lispEs w t1 t2 t3 t4 fi tf pd) 4) :: (ru, instObj 130 dr) :: (dr, dictOf [ent w "lisp" u0 (.ref li), ent w "nil" u1 .none, ent w "true" u2 (.bool true), ent w "category" u3 (.int c0 u4), ent w "front_sticky" u5 (.int c1 u6), ent w "rear_nonsticky" u7 (.int c2 u8), ent w "evaporate" u9 (.int c3 u10), ent w "priority" u11 (.int c4 u12), ent w "defaults" u13 (.ref dd)] 9) :: (lc, oc) :: [], p.1 ≠ pd)
    (e2 : ∀ p ∈ (li, instObj 81 dl) :: (dl, dictOf (lispEs w t1 t2 t3 t4 fi tf pd) 4) :: (ru, instObj 130 dr) :: (dr, dictOf [ent w "lisp" u0 (.ref li), ent w "nil" u1 .none, ent w "true" u2 (.bool true), ent w "category" u3 (.int c0 u4), ent w "front_sticky" u5 (.int c1 u6), ent w "rear_nonsticky" u7 (.int c2 u8), ent w "evaporate" u9 (.int c3 u10), ent w "priority" u11 (.int c4 u12), ent w "defaults" u13 (.ref dd)] 9) :: (lc, oc) :: [], p.1 ≠ dd)
    (e3 : ∀ p ∈ (li, instObj 81 dl) :: (dl, dictOf (lispEs w t1 t2 t3 t4 fi tf pd) 4) :: (ru, instObj 130 dr) :: (dr, dictOf [ent w "lisp" u0 (.ref li), ent w "nil" u1 .none, ent w "true" u2 (.bool true), ent w "category" u3 (.int c0 u4), ent w "front_sticky" u5 (.int c1 u6), ent w "rear_nonsticky" u7 (.int c2 u8), ent w "evaporate" u9 (.int c3 u10), ent w "priority" u11 (.int c4 u12), ent w "defaults" u13 (.ref dd)] 9) :: (lc, oc) :: [], p.1 ≠ dk)
    (ap4 : @Ne Nat pd dd) (ap5 : @Ne Nat pd dk) (ap6 : @Ne Nat dd dk) (hf0 : 0 ≤ fi) (hf1 : fi < 40) (hs1 : (pd == sysModules) = false) (hs2 : (dd == sysModules) = false) :
    MidS w h₀ L s { s with heap := h, toks := tk } := by
  subst hc0 hc1 hc2 hc3 hc4 hl
  refine ⟨h, tk, M, _, vs, n, pd, dd, dk, li, ru, o1, o2, oc, _, rfl, fr_top F m1 m2, cb_drop N fun p hp => ?_, ⟨dl, t1, t2, t3, t4, tf, .head _, .tail _ (.head _)⟩,
    ⟨dr, fun n => ([u0, u1, u2, u3, u4, u5, u6, u7, u8, u9, u10, u11, u12, u13] : List Tok).getD n u13, .tail _ (.tail _ (.head _)), .tail _ (.tail _ (.tail _ (.head _)))⟩, .tail _ (.tail _ (.tail _ (.tail _ (.head _)))), hc, e1, e2, e3, hd, ⟨ap4, ap5, ap6⟩, hf0, hf1, hd1, hs1, hd2, hs2⟩
  simp only [List.mem_cons, List.not_mem_nil, or_false] at hp
  rcases hp with rfl | rfl | rfl | rfl | rfl | rfl | rfl | rfl <;> assumption
theorem law_rest {w : World} {mean : ExcName → Option Value} {mg mb : Str → Option Value} {h₀ : Heap} {d : Scope} {L fa : Addr} {cdv : Value} {E : Value → Shared → Prop} {s s' : Shared}
    (K0 : Below callerA h₀ [] h₀) (X : (Mine.hd.heap_39 w.params).In h₀) (T : TopOk mean mg mb h₀) (H : MidS w h₀ L s s') :
    wpAny (model Pr w) (callerA.deeper (lawEnv w.params d L fa cdv)) (execs ((bodyAt w.params 197).drop 3) (lawEnv w.params d L fa cdv)) (RetTrue h₀ L s) E s' := by
  obtain ⟨h, tk, m, bag, vs, n, pd, dd, dk, li, ru, o1, o2, oc, fi, rfl, F, N, q2, q3, q4, hoc, q6, q7, q8, hdk, ⟨ap4, ap5, ap6⟩, hf0, hf1, hD1, hs1, hD2, hs2⟩ := H
  refine wpAny_noRaise ?_
  refine cut_at 1 (MidR w h₀ L { s with heap := h, toks := tk } pd dd dk li ru o2 oc fi) (law_R1 (s := { s with heap := h, toks := tk }) K0 X T F N q2 q3 q4 hoc q6 q7 q8 hdk ap4 ap5 ap6 hD1 hs1) ?_
  rintro s1 ⟨h1, tk1, mm1, bag1, vs1, n1, p1, kvs1, r1, r2, r3, rfl, F1, N1, d1, D1, P1, q21, q31, q41, q61, q71, q81⟩
  rw [List.drop_drop, show 3 + 1 = 4 from rfl]
  refine cut_at 1 _ (law_R2 (s := { s with heap := h1, toks := tk1 }) K0 X T F1 N1 (q21.mono fun p hp => .tail _ (.tail _ (.tail _ hp))) (.tail _ (.tail _ (.tail _ q41))) hoc) ?_
  rintro s2 ⟨h2, tk2, rfl, F2, N2⟩
  rw [List.drop_drop, show 4 + 1 = 5 from rfl]
  refine wpAny_mono (law_R3 (s := { s with heap := h2, toks := tk2 }) K0 X T F2 N2 P1 q21 q31 q41 hoc q61 q71 q81 d1 ap4 ap5 ap6 hf0 hf1 D1 hs1 hD2 hs2) (fun f s3 q => ?_) fun _ _ e => e
  obtain ⟨h3, tk3, m3, news3, rfl, rfl, F3, N3⟩ := q
  exact RetTrue.intro F3 N3
end
section
local macro_rules | `(tactic| k_all) => `(tactic| assumption)
local macro_rules | `(tactic| k_all) => `(tactic| first | assumption | exact List.forall_mem_nil _ | (refine' List.forall_mem_cons.mpr ⟨?a, ?b⟩; (case a => k_ne); (case b => k_all)) | (refine' List.forall_mem_append.mpr ⟨?a, ?b⟩; (case a => exact frq (by assumption) (by k_mem)); (case b => k_all)) | exact frq (by assumption) (by k_mem))
theorem words_D20_1 : True := by
  k_with_none
  k_with "k_enter" => (first | (refine' code_def ?k1z586 ?k2z586 ?k3z586 ?k4z586 ?k5z586 ?kAz586 ?kFz586 ?kKz586 ?k6z586 ?k7z586 ?k8z586 ?k9z586 ?kBz586 ?_ ?c2z586 ?c3z586 ?c4z586 ?c5z586; (case kAz586 => exact rfl); (case kFz586 => first | exact rfl | assumption); (case kKz586 => first | exact rfl | assumption); (case k1z586 => k_asm); (case k2z586 => k_asm); (case k3z586 => k_asm); (case k4z586 => k_asm); (case k5z586 => k_asm); (case k6z586 => k_is); (case k7z586 => k_is); (case k8z586 => k_room); (case k9z586 => first | exact BindsTo.of_eq rfl | exact binds_K (by k_in) rfl (by k_is) rfl rfl rfl | fail "k_enter: no rule for these arguments"); (case c5z586 => decide); (case kBz586 => exact locs rfl); (case c2z586 => exact rfl); (case c3z586 => exact rfl); (case c4z586 => exact rfl); k_whole; intro gw Lw hw FGw Fw Nw Bw Xw Tw; (try dsimp only); (try k_lift Bw); (try k_fold)) | (refine' code_defC ?k1z586 ?k2z586 ?k3z586 ?k4z586 ?k5z586 ?kAz586 ?kFz586 ?kKz586 ?k6z586 ?k7z586 ?k8z586 ?k9z586 ?kBz586 ?kDz586 ?_ ?c2z586 ?c3z586 ?c4z586; (case kAz586 => exact rfl); (case kFz586 => first | exact rfl | assumption); (case kKz586 => first | exact rfl | assumption); (case k1z586 => k_asm); (case k2z586 => k_asm); (case k3z586 => k_asm); (case k4z586 => k_asm); (case k5z586 => k_asm); (case k6z586 => k_is); (case k7z586 => k_is); (case k8z586 => k_room); (case k9z586 => first | exact BindsTo.of_eq rfl | exact binds_K (by k_in) rfl (by k_is) rfl rfl rfl | fail "k_enter: no rule for these arguments"); (case kBz586 => exact rfl); (case kDz586 => decide +kernel); (case c2z586 => exact rfl); (case c3z586 => exact rfl); (case c4z586 => exact rfl); k_whole; intro gw Lw hw tkw cellsw FGw Fw Nw Yw Bw Xw Tw l1w; (try k_lt l1w); k_cells Yw; (try simp only [List.cons_append, List.nil_append] at Nw); (try dsimp only); (try k_lift Bw); (try k_fold)))
  k_with "k_ne" => (refine neN ?_; (try dsimp only); first | with_reducible assumption | with_reducible exact Ne.symm (by assumption) | exact (by k_extra "nes") | exact Ne.symm (by k_extra "nes") | exact Nat.ne_of_lt (by k_extra "lt") | exact Nat.ne_of_gt (by k_extra "lt") | omega)
  k_with "lt" => (first | with_reducible assumption | with_reducible exact And.left (by assumption) | with_reducible exact And.left (And.right (by assumption)) | with_reducible exact And.left (And.right (And.right (by assumption))) | with_reducible exact And.left (And.right (And.right (And.right (by assumption)))) | with_reducible exact And.left (And.right (And.right (And.right (And.right (by assumption))))) | with_reducible exact And.left (And.right (And.right (And.right (And.right (And.right (by assumption)))))) | with_reducible exact And.left (And.right (And.right (And.right (And.right (And.right (And.right (by assumption))))))) | with_reducible exact And.left (And.right (And.right (And.right (And.right (And.right (And.right (And.right (by assumption)))))))) | with_reducible exact And.left (And.right (And.right (And.right (And.right (And.right (And.right (And.right (And.right (by assumption))))))))) | with_reducible exact And.left (And.right (And.right (And.right (And.right (And.right (And.right (And.right (And.right (And.right (by assumption)))))))))) | with_reducible exact And.left (And.right (And.right (And.right (And.right (And.right (And.right (And.right (And.right (And.right (And.right (by assumption))))))))))) | with_reducible exact And.left (And.right (And.right (And.right (And.right (And.right (And.right (And.right (And.right (And.right (And.right (And.right (by assumption)))))))))))) | with_reducible exact And.left (And.right (And.right (And.right (And.right (And.right (And.right (And.right (And.right (And.right (And.right (And.right (And.right (by assumption))))))))))))) | with_reducible exact And.left (And.right (And.right (And.right (And.right (And.right (And.right (And.right (And.right (And.right (And.right (And.right (And.right (And.right (by assumption)))))))))))))) | with_reducible exact And.left (And.right (And.right (And.right (And.right (And.right (And.right (And.right (And.right (And.right (And.right (And.right (And.right (And.right (And.right (by assumption))))))))))))))) | with_reducible exact And.left (And.right (And.right (And.right (And.right (And.right (And.right (And.right (And.right (And.right (And.right (And.right (And.right (And.right (And.right (And.right (by assumption)))))))))))))))) | with_reducible exact And.right (by assumption) | with_reducible exact And.right (And.right (by assumption)) | with_reducible exact And.right (And.right (And.right (by assumption))) | with_reducible exact And.right (And.right (And.right (And.right (by assumption)))) | with_reducible exact And.right (And.right (And.right (And.right (And.right (by assumption))))) | with_reducible exact And.right (And.right (And.right (And.right (And.right (And.right (by assumption)))))) | with_reducible exact And.right (And.right (And.right (And.right (And.right (And.right (And.right (by assumption))))))) | with_reducible exact And.right (And.right (And.right (And.right (And.right (And.right (And.right (And.right (by assumption)))))))) | with_reducible exact And.right (And.right (And.right (And.right (And.right (And.right (And.right (And.right (And.right (by assumption))))))))))
  k_with "nes" => (first | with_reducible exact And.left (by assumption) | with_reducible exact And.left (And.right (by assumption)) | with_reducible exact And.left (And.right (And.right (by assumption))) | with_reducible exact And.left (And.right (And.right (And.right (by assumption)))) | with_reducible exact And.left (And.right (And.right (And.right (And.right (by assumption))))) | with_reducible exact And.left (And.right (And.right (And.right (And.right (And.right (by assumption)))))) | with_reducible exact And.right (by assumption) | with_reducible exact And.right (And.right (by assumption)) | with_reducible exact And.right (And.right (And.right (by assumption))) | with_reducible exact And.right (And.right (And.right (And.right (by assumption)))) | with_reducible exact And.right (And.right (And.right (And.right (And.right (by assumption))))))
  k_with "subscriptTail" => ((k_here; (with_reducible show wpAny _ _ (subscriptTail _ _ (Value.ref _) (Value.int 0 _)) _ _ _); k_dflt (refine' tup_head ?Nz568 ?mz568 ?_; (case Nz568 => k_asm); (case mz568 => k_mem); k_whole)))
  k_with "call type:tuple" => ((k_here; (with_reducible show wpAny _ _ (call (Value.type "tuple") [Value.ref _]) _ _ _); k_dflt (refine' tuple_ofM ?Fz569 ?Nz569 ?mz569 ?zz569 ?_; (case Fz569 => k_asm); (case Nz569 => k_asm); (case mz569 => k_mem); (case zz569 => first | assumption | (simp only [List.length_cons, List.length_nil]; omega)); k_whole); intro Dw hw Fw Nw l1w; (try k_lt l1w); (try k_sweep)))
  k_with "call type:list" => ((k_here; (with_reducible show wpAny _ _ (call (Value.type "list") [Value.ref _]) _ _ _); k_dflt (refine' list_ofTupM ?Fz570 ?Nz570 ?mz570 ?zz570 ?_; (case Fz570 => k_asm); (case Nz570 => k_asm); (case mz570 => k_mem); (case zz570 => first | assumption | (simp only [List.length_cons, List.length_nil]; omega)); k_whole); intro Dw kw hw Fw Nw l1w; (try k_lt l1w); (try k_sweep)))
  k_with "subscriptTail Name Slice ref ref" => ((k_here; (with_reducible show wpAny _ _ (subscriptTail _ (PySem.Expr.Slice (some _) none none _) (Value.ref _) (Value.ref _)) _ _ _); k_dflt (refine' slice_tupM ?Fz571 ?Nz571 ?mz571 ?zz571 ?_ ?sz571 ?tz571; (case Fz571 => k_asm); (case Nz571 => k_asm); (case mz571 => k_mem); (case zz571 => first | assumption | (simp only [List.length_cons, List.length_nil]; omega)); (case sz571 => with_unfolding_all rfl); (case tz571 => kmk_pure)); intro Dw hw Fw Nw l1w; (try k_lt l1w); (try k_sweep)))
  k_with "compareOp Eq ref none" => ((k_here; (with_reducible show wpAny _ _ (compareOp CmpOp.Eq (Value.ref _) Value.none) _ _ _); k_dflt (refine' eq_tup_none ?Nz572 ?mz572 ?uz572 ?_; (case Nz572 => k_asm); (case mz572 => k_mem); (case uz572 => k_units); k_whole)))
  k_with "compareOp Eq ref" => ((k_here; (with_reducible show wpAny _ _ (compareOp CmpOp.Eq (Value.ref _) Value.none) _ _ _); k_dflt (refine' eq_tup_none ?Nz573 ?mz573 ?uz573 ?_; (case Nz573 => k_asm); (case mz573 => k_mem); (case uz573 => k_units); k_whole)))
  k_with "k_mem" => (((repeat (first | exact List.Mem.head _ | assumption | refine' List.Mem.tail _ ?_ | exact List.mem_append_left _ (by assumption) | exact List.mem_append_left _ (List.Mem.head _) | refine' List.mem_append_right _ ?_)); done))
  k_with "binaryOp Add ref ref" => ((k_here; (with_reducible show wpAny _ _ (binaryOp Operator.Add (Value.ref _) (Value.ref _)) _ _ _); k_dflt (refine' add_tupM ?Fz575 ?Nz575 ?mz575 ?nz575 ?zz575 ?az575 ?bz575; (case Fz575 => k_asm); (case Nz575 => k_asm); (case mz575 => k_mem); (case nz575 => k_mem); (case zz575 => first | assumption | (simp only [List.length_cons, List.length_nil]; omega)); (case' az575 => intro e1w); (case' bz575 => (intro e1w Dw hw Fw Nw l1w; (try k_lt l1w); (try k_sweep))))))
  k_with "kqd_sub" => (((repeat (refine List.forall_mem_cons.mpr ⟨by k_mem, ?_⟩)); first | exact List.forall_mem_nil _ | (intro p9 h9; k_mem)))
  k_with "ktr_rel" => (first | assumption | exact tb_ltOf (by first | assumption | exact (And.right (by assumption)) | exact (And.right (And.right (by assumption))) | exact (And.right (And.right (And.right (by assumption)))) | exact (And.right (And.right (And.right (And.right (by assumption))))) | exact (And.right (And.right (And.right (And.right (And.right (by assumption)))))) | exact (And.right (And.right (And.right (And.right (And.right (And.right (by assumption))))))) | exact (And.right (And.right (And.right (And.right (And.right (And.right (And.right (by assumption)))))))) | exact (And.right (And.right (And.right (And.right (And.right (And.right (And.right (And.right (by assumption))))))))) | exact (And.right (And.right (And.right (And.right (And.right (And.right (And.right (And.right (And.right (by assumption)))))))))) | exact (And.right (And.right (And.right (And.right (And.right (And.right (And.right (And.right (And.right (And.right (by assumption)))))))))))))
  k_with "getMethod ref" => ((k_here; (with_reducible show wpAny _ _ (getMethod (Value.ref _) (Str.ofString "get") _) _ _ _); k_dflt (refine kdg_method (knd := PySem.intKind Pr _) (by k_asm) (by k_mem) (by k_asm) ?_)))
  k_with "call builtin:dict.get" => ((k_here; (try dsimp only [List.nil_append, List.cons_append]); (with_reducible show wpAny _ _ (call (Value.builtin _) [Value.ref _, Value.int _ _, _]) _ _ _); k_dflt (refine kdg_get2 (knd := PySem.intKind Pr _) (by k_asm) (by k_mem) (by k_asm) (by k_asm) (intKind_is _ _ _ _) _ (by assumption) ?_); (try dsimp only [Option.getD])))
  k_with "subscriptTail" => ((k_here; (with_reducible show wpAny _ _ (subscriptTail _ _ (Value.ref _) (Value.int _ _)) _ _ _); k_dflt (refine' list_itemM ?Nz580 ?mz580 ?xz580 ?kz580 ?zz580 ?_; (case Nz580 => k_asm); (case mz580 => k_mem); (case xz580 => assumption); (case kz580 => omega); (case zz580 => first | assumption | omega); k_whole)))
  k_with "call builtin:len" => ((k_here; (with_reducible show wpAny _ _ (call (Value.builtin "len") [Value.ref _]) _ _ _); k_dflt (refine' len_listM ?Nz581 ?mz581 ?zz581 ?_; (case Nz581 => k_asm); (case mz581 => k_mem); (case zz581 => first | assumption | omega); k_whole)))
  k_with "tb_rel" => (first | assumption | (refine' LV.mono ?hz582 ?sz582; (case hz582 => assumption); (case sz582 => kqd_sub)) | (refine' RowsIn.mono ?sz582 ?hz582; (case hz582 => assumption); (case sz582 => kqd_sub)) | (refine' LispAt.mono ?hz582 ?sz582; (case hz582 => assumption); (case sz582 => kqd_sub)) | (refine' RulesAt.mono ?hz582 ?sz582; (case hz582 => assumption); (case sz582 => kqd_sub)) | (refine' IntDict.mono ?hz582 ?sz582; (case hz582 => assumption); (case sz582 => kqd_sub)) | (refine' PlistsIn.mono ?hz582 ?sz582; (case hz582 => assumption); (case sz582 => kqd_sub)) | (refine' DatAll.mono ?sz582 ?hz582; (case hz582 => assumption); (case sz582 => kqd_sub)))
  k_with "call ref" => ((k_here; (with_reducible show wpAny _ _ (call (Value.ref 172) [Value.ref _, Value.int _ _]) _ _ _); k_dflt (refine' draw_use ?dkz583 ?mz583 ?m2z583 ?Uz583 ?Bz583 ?Fz583 ?Xz583 ?Nz583 ?Tz583 ?hz583 ?dpz583 ?uz583 ?Az583 ?fz583 ?kz583 ?_; (case Nz583 => k_asm); (case Uz583 => k_updF); (case dkz583 => assumption); (case mz583 => omega); (case m2z583 => omega); (case Bz583 => k_asm); (case Fz583 => k_asm); (case Xz583 => k_asm); (case Tz583 => k_asm); (case hz583 => exact rfl); (case dpz583 => exact Nat.le_of_ble_eq_true rfl); (case uz583 => exact Nat.le_of_ble_eq_true rfl); (case Az583 => exact rfl); (case fz583 => exact rfl); (case kz583 => exact rfl); k_whole); (intro xw uw vsw nw hw tkw low hiw dkw Fw Nw); (try dsimp only at Nw); (try k_sweep); (try k_fold)))
  k_with "call ref" => ((k_here; (with_reducible show wpAny _ _ (call (Value.ref 165) [Value.ref _]) _ _ _); k_dflt (refine' deck_use ?iz584 ?zz584 ?Hz584 ?Bz584 ?Fz584 ?Xz584 ?Nz584 ?Tz584 ?hz584 ?dpz584 ?uz584 ?Az584 ?fz584 ?kz584 ?_; (case Nz584 => k_asm); (case Hz584 => assumption); (case iz584 => assumption); (case zz584 => omega); (case Bz584 => k_asm); (case Fz584 => k_asm); (case Xz584 => k_asm); (case Tz584 => k_asm); (case hz584 => exact rfl); (case dpz584 => exact Nat.le_of_ble_eq_true rfl); (case uz584 => exact Nat.le_of_ble_eq_true rfl); (case Az584 => exact rfl); (case fz584 => exact rfl); (case kz584 => exact rfl); k_whole); (intro Dw vsw nw hw tkw dkw l1w Fw Nw); (have l2w : @Ne Nat _ _ := l1w _ (List.Mem.head _)); (try dsimp only at l2w); (try k_sweep); (try k_fold)))
  k_with "call ref" => ((k_here; (with_reducible show wpAny _ _ (call (Value.ref 36) [Value.ref _, Value.str _ _]) _ _ _); k_dflt (refine' ctr_useT (number_ok ?lz585 ?jz585) ?Bz585 ?Fz585 ?Xz585 ?Nz585 ?Tz585 ?hz585 ?dpz585 ?uz585 ?Az585 ?fz585 ?kz585 ?_; (case Nz585 => k_asm); (case lz585 => first | tb_rel | exact ⟨_, _, _, _, _, _, by k_mem, by k_mem⟩); (case jz585 => with_reducible (first | exact names0 | exact names1 | exact names2 | exact names3 | exact names4 | assumption)); (case Bz585 => k_asm); (case Fz585 => k_asm); (case Xz585 => k_asm); (case Tz585 => k_asm); (case hz585 => exact rfl); (case dpz585 => exact Nat.le_of_ble_eq_true rfl); (case uz585 => exact Nat.le_of_ble_eq_true rfl); (case Az585 => exact rfl); (case fz585 => exact rfl); (case kz585 => exact rfl); k_whole); (intro tw hw tkw Fw Nw); (try k_sweep); (try k_fold)))
  trivial
set_option maxHeartbeats 8000000 in
theorem law_ok : PySem.Challenge.rw_ok0048_01.Holds := hd (by
  k_go0
  (all_goals try k_fold)
  dsimp only
  refine cutS (by assumption) ?_ ?_
  · simp only [List.take_succ_cons, List.take_zero]
    try k_fold
    k_steps
    refine cut_next ?_
    refine' midS_intro ?zzF ?zzN ?zzhl ?zzm1 ?zzm2 ?zzd1 ?zzd2 ?zzdk ?zzhc ?zzh1 ?zzh2 ?zzh3 ?zzh4 ?zzh5 ?zzh6 ?zzh7 ?zzc0 ?zzc1 ?zzc2 ?zzc3 ?zzc4 ?zzh8 ?zze1 ?zze2 ?zze3 ?zzp4 ?zzp5 ?zzp6 ?zzf0 ?zzf1 ?zzs1 ?zzs2
    case zzF => assumption
    case zzN => assumption
    case zzm1 => exact rfl
    case zzm2 => exact rfl
    case zzhl => exact rfl
    case zzh8 => k_mem
    case zzhc => assumption
    case zzh4 => k_mem
    case zzh5 => k_mem
    case zzh6 => k_mem
    case zzh7 => k_mem
    case zzh1 => k_mem
    case zzh2 => k_mem
    case zzdk => assumption
    case zzh3 => k_mem
    case zzd1 => assumption
    case zzd2 => assumption
    case zzc0 => omega
    case zzc1 => omega
    case zzc2 => omega
    case zzc3 => omega
    case zzc4 => omega
    case zze1 => k_all
    case zze2 => k_all
    case zze3 => k_all
    case zzp4 => k_ne
    case zzp5 => k_ne
    case zzp6 => k_ne
    case zzf0 => omega
    case zzf1 => omega
    case zzs1 => assumption
    case zzs2 => assumption
  · rintro s5 H5
    refine wpAny_mono (law_rest (d := ⟨.function, [], false, false, []⟩) (by assumption) (by k_asm) (by assumption) H5) (fun f s6 q6 => ?_) fun _ _ e => e
    obtain ⟨h6, tk6, m6, news6, rfl, rfl, F6, N6⟩ := q6
    k_steps)
end
end Mine
theorem PySem.Challenge.cw_ok0048_01_holds : PySem.Challenge.rw_ok0048_01.Holds := by
  exact Mine.law_ok
