import PyProof.Rows.All
import Wide.All
import OpenK.AllK
import Wide.FinOn
import PySem.Challenge.RW_pc0019_01
set_option Elab.async false
set_option compiler.extract_closed false
set_option genInjectivity false
set_option genSizeOf false
set_option genSizeOfSpec false
set_option linter.unusedVariables false
set_option autoImplicit false
open PySem PySem.W PyProof.Rows

section
set_option genSizeOf false
set_option genSizeOfSpec false
set_option genInjectivity false
namespace Mine
noncomputable section
noncomputable abbrev Sh (s : Shared) (h : Heap) (tk : Nat) : Shared := { s with heap := h, toks := tk }
/-- abstract values -/
inductive V where
  | none | bool (b : Bool) | int (i : Int) | str (s : Str) | tup (vs : List V)
  | obj (i : Nat) | st (a : Addr) | bi (s : String) | ty (s : String) | meth (f : Addr) (i : Nat)
/-- abstract mutable objects -/
inductive O where
  | list (vs : List V) | idict (es : List (Int × V)) | sdict (es : List (Str × V)) | inst (C : Addr) (d : Nat) | attrs (fs : List (Str × V))
  | cell (v : Option V) | iter (r : Nat) (k : Nat) | range (a b : Int) | riter (a left : Int) | raw (o : Obj) | ns (fs : Str → Option V) | titer (vs : List V) (k : Nat) | exc (C : Addr) (d : Option Nat) | xd (y : Str) (v : V) | held (C : Addr) (d : Nat) | junk
structure Hp where
  o : Nat → O
  n : Nat
noncomputable def Hp.set (H : Hp) (i : Nat) (x : O) : Hp := ⟨fun j => if j = i then x else H.o j, H.n⟩
noncomputable def Hp.new (H : Hp) (x : O) : Hp := ⟨fun j => if j = H.n then x else H.o j, H.n + 1⟩
noncomputable abbrev Loc := Str → Option V
noncomputable def Loc.set (l : Loc) (x : Str) (v : V) : Loc := fun y => if y = x then some v else l y
structure Cx where
  prog : Program
  w : World
  K : Frag
  p : Program
  loose : List Str
  mean : ExcName → Option Value
  mg : Str → Option Value
  mb : Str → Option Value
structure FrS where
  qual : Str
  scope : Scope
  f : Addr
  cdv : Value
  cells : List (Str × Nat)
  q : Bool
  top : Bool := false
  scr : List (Addr × List Int) := []
/-- where the abstract objects lie -/
structure Wd where
  ρ : Nat → Addr
  n : Nat
  news : List (Addr × Obj)
noncomputable abbrev tupObj (items : List Value) : Obj := { cls := .type "tuple", data := .seq items.toArray }
noncomputable def Imm (o : Obj) : Prop := (∃ its, o = tupObj its) ∨ ∃ f v, o = methodObj f v
mutual
noncomputable def RV (ω : Wd) : V → Value → Prop
  | .none, r => r = .none
  | .bool b, r => r = .bool b
  | .int i, r => ∃ t, r = .int i t
  | .str s, r => ∃ t, r = .str s t
  | .tup vs, r => ∃ b items, r = .ref b ∧ (b, tupObj items) ∈ ω.news ∧ RVs ω vs items
  | .obj i, r => i < ω.n ∧ r = .ref (ω.ρ i)
  | .st a, r => r = .ref a
  | .bi s, r => r = .builtin s
  | .ty s, r => r = .type s
  | .meth f i, r => i < ω.n ∧ ∃ q, r = .ref q ∧ (q, methodObj (.ref f) (.ref (ω.ρ i))) ∈ ω.news
noncomputable def RVs (ω : Wd) : List V → List Value → Prop
  | [], rs => rs = []
  | v :: vs, rs => ∃ r rs', rs = r :: rs' ∧ RV ω v r ∧ RVs ω vs rs'
end
noncomputable def RK {κ : Type} (ω : Wd) : List (κ × V) → List (κ × Value) → Prop
  | [], rs => rs = []
  | (k, v) :: vs, rs => ∃ r rs', rs = (k, r) :: rs' ∧ RV ω v r ∧ RK ω vs rs'
noncomputable def RA (ω : Wd) : List (Str × V) → List DictEntry → Prop
  | [], rs => rs = []
  | (k, v) :: vs, rs => ∃ e rs' t, rs = e :: rs' ∧ e.key = .str k t ∧ RV ω v e.val ∧ RA ω vs rs'
structure Ext (ω ω' : Wd) : Prop where
  le : ω.n ≤ ω'.n
  ρ : ∀ i, i < ω.n → ω'.ρ i = ω.ρ i
  imm : ∀ q ∈ ω.news, Imm q.2 → q ∈ ω'.news
theorem Ext.refl (ω : Wd) : Ext ω ω := ⟨Nat.le_refl _, fun _ _ => rfl, fun _ h _ => h⟩
theorem Ext.trans {a b c : Wd} (x : Ext a b) (y : Ext b c) : Ext a c :=
  ⟨Nat.le_trans x.le y.le, fun i hi => (y.ρ i (Nat.lt_of_lt_of_le hi x.le)).trans (x.ρ i hi), fun q h i => y.imm q (x.imm q h i) i⟩
mutual
theorem RV.mono {ω ω' : Wd} (x : Ext ω ω') : ∀ {v : V} {r : Value}, RV ω v r → RV ω' v r
  | .none, _, h => by unfold RV at *; exact h
  | .bool _, _, h => by unfold RV at *; exact h
  | .int _, _, h => by unfold RV at *; exact h
  | .str _, _, h => by unfold RV at *; exact h
  | .st _, _, h => by unfold RV at *; exact h
  | .bi _, _, h => by unfold RV at *; exact h
  | .ty _, _, h => by unfold RV at *; exact h
  | .obj i, _, h => by unfold RV at *; exact ⟨Nat.lt_of_lt_of_le h.1 x.le, by rw [x.ρ i h.1]; exact h.2⟩
  | .meth f i, _, h => by
    unfold RV at *
    obtain ⟨h1, q, h2, h3⟩ := h
    exact ⟨Nat.lt_of_lt_of_le h1 x.le, q, h2, by rw [x.ρ i h1]; exact x.imm _ h3 (.inr ⟨_, _, rfl⟩)⟩
  | .tup vs, _, h => by
    unfold RV at *
    obtain ⟨b, items, h1, h2, h3⟩ := h
    exact ⟨b, items, h1, x.imm _ h2 (.inl ⟨_, rfl⟩), RVs.mono x h3⟩
theorem RVs.mono {ω ω' : Wd} (x : Ext ω ω') : ∀ {vs : List V} {rs : List Value}, RVs ω vs rs → RVs ω' vs rs
  | [], _, h => by unfold RVs at *; exact h
  | v :: vs, _, h => by
    unfold RVs at *
    obtain ⟨r, rs', h1, h2, h3⟩ := h
    exact ⟨r, rs', h1, RV.mono x h2, RVs.mono x h3⟩
end
theorem RK.mono {κ : Type} {ω ω' : Wd} (x : Ext ω ω') : ∀ {vs : List (κ × V)} {rs : List (κ × Value)}, RK ω vs rs → RK ω' vs rs
  | [], _, h => h
  | (_, _) :: _, _, ⟨r, rs', h1, h2, h3⟩ => ⟨r, rs', h1, h2.mono x, RK.mono x h3⟩
theorem RA.mono {ω ω' : Wd} (x : Ext ω ω') : ∀ {vs : List (Str × V)} {rs : List DictEntry}, RA ω vs rs → RA ω' vs rs
  | [], _, h => h
  | (_, _) :: _, _, ⟨e, rs', t, h1, h2, h3, h4⟩ => ⟨e, rs', t, h1, h2, h3.mono x, RA.mono x h4⟩
noncomputable def RO (c : Cx) (ω : Wd) (a : Addr) : O → Obj → Prop
  | .list vs, ob => ∃ items e, ob = W.listOf (List.toArray items) e ∧ RVs ω vs items
  | .idict es, ob => (a == sysModules) = false ∧ ob.cls = .type "dict" ∧ ∃ kvs, Obj.IsDictOf (PySem.intKind c.prog c.w) ob kvs ∧ RK ω es kvs
  | .sdict es, ob => (a == sysModules) = false ∧ ob.cls = .type "dict" ∧ ∃ kvs, Obj.IsDictOf (PySem.strKind c.prog c.w) ob kvs ∧ RK ω es kvs
  | .inst C d, ob => d < ω.n ∧ ob = instObj C (ω.ρ d)
  | .attrs fs, ob => ∃ es e, ob = dictOf es e ∧ RA ω fs es
  | .cell v, ob => match v with | some v => ∃ r, ob.data = .cell (some r) ∧ RV ω v r | none => ob.data = .cell none
  | .iter r k, ob => r < ω.n ∧ ob.cls = .type "list_iterator" ∧ ob.data = .fields #[.ref (ω.ρ r), .int (k : Nat) 0]
  | .range a b, ob => ∃ t u v, ob = { cls := .type "range", data := .fields #[.int a t, .int b u, .int 1 v] }
  | .riter a n, ob => ob = { cls := .type "range_iterator", data := .fields #[rawInt a, rawInt n, rawInt 1] }
  | .raw o, ob => ¬ Imm o ∧ ob = o
  | .ns fs, ob => ∃ (m' : Str → Option Value) (es : Array DictEntry) (ep : Nat), ob.data = .dict es ep ∧ StrKeys es ∧ (∀ name, nsFind es name = m' name) ∧ ∀ y v, fs y = some v → ∃ r, m' y = some r ∧ RV ω v r
  | .titer vs k, ob => ob.cls = .type "tuple_iterator" ∧ ∃ b items, ob.data = .fields #[.ref b, .int (k : Nat) 0] ∧ (b, tupObj items) ∈ ω.news ∧ RVs ω vs items
  | .exc C d, ob => (∀ j, d = some j → j < ω.n) ∧ ∃ t, ob = { cls := .ref C, dict := d.map ω.ρ, data := .fields #[.ref t, .none, .none, .none, .bool false, .none] }
  | .xd y v, ob => ∃ r, lookIn y ob = some (some r) ∧ RV ω v r
  | .held C d, ob => d < ω.n ∧ ∃ vs sl, ob = { cls := .ref C, dict := some (ω.ρ d), data := .fields vs, slots := sl }
  | .junk, _ => True
structure Rel (c : Cx) (ω : Wd) (H : Hp) : Prop where
  n : H.n = ω.n
  at_ : ∀ i, i < ω.n → H.o i ≠ .junk → ∃ ob, (ω.ρ i, ob) ∈ ω.news ∧ ¬ Imm ob ∧ RO c ω (ω.ρ i) (H.o i) ob
  inj : ∀ i j, i < ω.n → j < ω.n → H.o i ≠ .junk → H.o j ≠ .junk → ω.ρ i = ω.ρ j → i = j
structure Fx where
  A : Around
  A₀ : Around
  base : Heap
  h₀ : Heap
  outer : List Env
  cl : List (Str × Addr)
  L : Addr
noncomputable abbrev Fx.env (x : Fx) (fr : FrS) : Env := envX fr.qual fr.scope x.L fr.f fr.cdv x.cl
structure Ok (c : Cx) (n : Nat) (fr : FrS) (ω : Wd) (H : Hp) (l : Loc) (x : Fx) (m : Str → Option Value) (s : Shared) : Prop where
  B : Below x.A₀ x.base x.outer x.h₀
  X : c.K.In x.h₀
  T : Top c.p c.loose c.mean c.mg c.mb x.h₀
  fk : fr.scope.kind = .function
  hh : fr.q = true → x.A.handled = none
  tp : fr.top = true → x.h₀ = x.base ∧ x.outer = [] ∧ ∀ p ∈ fr.scr, ∃ rs : List Value, x.h₀.IsList p.1 rs.toArray ∧ IntsAre rs p.2
  hfr : x.A.frames = some (x.env fr :: x.outer)
  hd : x.A.depth + 4 * n + 4 < recursionLimit
  hu : x.A.units + 16 * n + 16 < cLine
  F : Fr x.h₀ x.L s.heap m
  N : News x.h₀ x.L s.heap ω.news
  R : Rel c ω H
  l : ∀ y v, l y = some v → ∃ r, m y = some r ∧ RV ω v r
  cl : ∀ y i, (y, i) ∈ fr.cells → i < ω.n ∧ x.cl.lookup y = some (ω.ρ i)
/-- the tree ends well, from H, l to H', l', with a value that R tells of -/
noncomputable def At (c : Cx) (n : Nat) (fr : FrS) (x : Fx) (ω : Wd) {α : Type} (t : Sem α) (H : Hp) (l : Loc) (R : Wd → α → Prop) (H' : Hp) (l' : Loc) : Prop :=
  ∀ m s (Q : α → Shared → Prop) (E : Value → Shared → Prop), Ok c n fr ω H l x m s →
    (∀ a ω' m' h' tk', Ok c n fr ω' H' l' x m' (Sh s h' tk') → Ext ω ω' → R ω' a → Q a (Sh s h' tk')) →
    wpAny (model c.prog c.w) x.A t Q E s
noncomputable def Do (c : Cx) (n : Nat) (fr : FrS) {α : Type} (t : Env → Sem α) (H : Hp) (l : Loc) (R : Wd → α → Prop) (H' : Hp) (l' : Loc) : Prop :=
  ∀ x ω, At c n fr x ω (t (x.env fr)) H l R H' l'
/-- an expression's value -/
noncomputable abbrev Ev (c : Cx) (n : Nat) (fr : FrS) (e : Expr) (H : Hp) (l : Loc) (v : V) (H' : Hp) : Prop :=
  Do c n fr (eval e) H l (fun ω r => RV ω v r) H' l
/-- a test's outcome -/
noncomputable abbrev Te (c : Cx) (n : Nat) (fr : FrS) (e : Expr) (H : Hp) (l : Loc) (b : Bool) (H' : Hp) : Prop :=
  Do c n fr (fun env => PySem.isTrue e env (eval e env)) H l (fun _ r => r = b) H' l
inductive Fl where
  | next | ret (v : V) | brk | cont
noncomputable def RFl (ω : Wd) : Fl → Flow → Prop
  | .next, f => f = .next
  | .brk, f => f = .brk
  | .cont, f => f = .cont
  | .ret v, f => ∃ r, f = .ret r ∧ RV ω v r
noncomputable abbrev Ex (c : Cx) (n : Nat) (fr : FrS) (t : Stmt) (H : Hp) (l : Loc) (f : Fl) (H' : Hp) (l' : Loc) : Prop :=
  Do c n fr (exec t) H l (fun ω r => RFl ω f r) H' l'
noncomputable abbrev Exs (c : Cx) (n : Nat) (fr : FrS) (t : List Stmt) (H : Hp) (l : Loc) (f : Fl) (H' : Hp) (l' : Loc) : Prop :=
  Do c n fr (execs t) H l (fun ω r => RFl ω f r) H' l'
/-! ## the ledger's moves -/
section
variable {c : Cx} {n : Nat} {fr : FrS} {ω : Wd} {H : Hp} {l : Loc} {x : Fx} {m : Str → Option Value} {s : Shared}
theorem Ok.toks (k : Ok c n fr ω H l x m s) (tk : Nat) : Ok c n fr ω H l x m (Sh s s.heap tk) := ⟨k.B, k.X, k.T, k.fk, k.hh, k.tp, k.hfr, k.hd, k.hu, k.F, k.N, k.R, k.l, k.cl⟩
/-- a fresh immutable -/
noncomputable def Wd.imm (ω : Wd) (a : Addr) (ob : Obj) : Wd := { ω with news := (a, ob) :: ω.news }
theorem Wd.imm_ext (ω : Wd) (a : Addr) (ob : Obj) : Ext ω (ω.imm a ob) := ⟨Nat.le_refl _, fun _ _ => rfl, fun _ h _ => .tail _ h⟩
theorem RO.mono {ω' : Wd} {a : Addr} {ob : Obj} (x : Ext ω ω') {o : O} (h : RO c ω a o ob) : RO c ω' a o ob := by
  cases o with
  | list _ => obtain ⟨items, e, h, r⟩ := h; exact ⟨items, e, h, r.mono x⟩
  | idict _ => obtain ⟨h0, h1, kvs, h2, r⟩ := h; exact ⟨h0, h1, kvs, h2, r.mono x⟩
  | sdict _ => obtain ⟨h0, h1, kvs, h2, r⟩ := h; exact ⟨h0, h1, kvs, h2, r.mono x⟩
  | inst _ d => obtain ⟨h, r⟩ := h; exact ⟨Nat.lt_of_lt_of_le h x.le, by rw [x.ρ d h]; exact r⟩
  | attrs _ => obtain ⟨es, e, h, r⟩ := h; exact ⟨es, e, h, r.mono x⟩
  | cell v =>
    cases v with
    | none => exact h
    | some _ => obtain ⟨r, h2, r2⟩ := h; exact ⟨r, h2, r2.mono x⟩
  | iter r k => obtain ⟨h, e, d⟩ := h; exact ⟨Nat.lt_of_lt_of_le h x.le, e, by rw [x.ρ r h]; exact d⟩
  | range _ _ => exact h
  | riter _ _ => exact h
  | raw _ => exact h
  | ns _ => obtain ⟨m', es, ep, h1, h2, h3, h4⟩ := h; exact ⟨m', es, ep, h1, h2, h3, fun y v e => let ⟨r, a, b⟩ := h4 y v e; ⟨r, a, b.mono x⟩⟩
  | titer _ _ => obtain ⟨h, b, items, h1, h2, h3⟩ := h; exact ⟨h, b, items, h1, x.imm _ h2 (.inl ⟨_, rfl⟩), h3.mono x⟩
  | exc C d =>
    cases d with
    | none => obtain ⟨h, t, r⟩ := h; exact ⟨fun j e => (by cases e), t, r⟩
    | some j => obtain ⟨h, t, r⟩ := h; exact ⟨fun i e => Nat.lt_of_lt_of_le (h i e) x.le, t, by rw [r]; show Obj.mk _ (some (ω.ρ j)) _ _ = Obj.mk _ (some (ω'.ρ j)) _ _; rw [x.ρ j (h j rfl)]⟩
  | xd _ _ => obtain ⟨r, h1, h2⟩ := h; exact ⟨r, h1, h2.mono x⟩
  | held _ d => obtain ⟨h, vs, sl, r⟩ := h; exact ⟨Nat.lt_of_lt_of_le h x.le, vs, sl, by rw [x.ρ d h]; exact r⟩
  | junk => trivial
theorem Rel.imm (R : Rel c ω H) (a : Addr) (ob : Obj) : Rel c (ω.imm a ob) H :=
  ⟨R.n, fun i hi hj => let ⟨o', h1, h2, h3⟩ := R.at_ i hi hj; ⟨o', .tail _ h1, h2, h3.mono (ω.imm_ext a ob)⟩, R.inj⟩
/-- the same frame at another heap -/
theorem Ok.at_ (k : Ok c n fr ω H l x m s) {ω' : Wd} {H' : Hp} {h' : Heap} {tk : Nat} (e : Ext ω ω') (F : Fr x.h₀ x.L h' m) (N : News x.h₀ x.L h' ω'.news) (R : Rel c ω' H') :
    Ok c n fr ω' H' l x m (Sh s h' tk) :=
  ⟨k.B, k.X, k.T, k.fk, k.hh, k.tp, k.hfr, k.hd, k.hu, F, N, R, fun y v hy => let ⟨r, h1, h2⟩ := k.l y v hy; ⟨r, h1, h2.mono e⟩, fun y i hy => let ⟨h1, h2⟩ := k.cl y i hy; ⟨Nat.lt_of_lt_of_le h1 e.le, by rw [e.ρ i h1]; exact h2⟩⟩
/-- a fresh mutable -/
noncomputable def Wd.add (ω : Wd) (a : Addr) (ob : Obj) : Wd := ⟨fun i => if i = ω.n then a else ω.ρ i, ω.n + 1, (a, ob) :: ω.news⟩
theorem Wd.add_ext (ω : Wd) (a : Addr) (ob : Obj) : Ext ω (ω.add a ob) := ⟨Nat.le_succ _, fun i hi => if_neg (Nat.ne_of_lt hi), fun _ h _ => .tail _ h⟩
theorem Wd.add_here (ω : Wd) (a : Addr) (ob : Obj) : (ω.add a ob).ρ ω.n = a := if_pos rfl
theorem Wd.add_old (ω : Wd) (a : Addr) (ob : Obj) {i : Nat} (h : i ≠ ω.n) : (ω.add a ob).ρ i = ω.ρ i := if_neg h
theorem Hp.new_old (H : Hp) (o : O) {i : Nat} (h : i ≠ H.n) : (H.new o).o i = H.o i := if_neg h
theorem Hp.new_here (H : Hp) (o : O) : (H.new o).o H.n = o := if_pos rfl
theorem Hp.set_here (H : Hp) (i : Nat) (o : O) : (H.set i o).o i = o := if_pos rfl
theorem Hp.set_old (H : Hp) (i : Nat) (o : O) {j : Nat} (h : j ≠ i) : (H.set i o).o j = H.o j := if_neg h
theorem Rel.add (R : Rel c ω H) {a : Addr} {ob : Obj} {o : O} (hlt : ∀ p ∈ ω.news, p.1 < a) (hi : ¬ Imm ob) (ho : RO c (ω.add a ob) a o ob) : Rel c (ω.add a ob) (H.new o) := by
  have nn : ω.n = H.n := R.n.symm
  have lt : ∀ k, k < ω.n → H.o k ≠ .junk → ω.ρ k ≠ a := fun k hk hj e => let ⟨_, h, _⟩ := R.at_ k hk hj; Nat.lt_irrefl a (by have := hlt _ h; rw [e] at this; exact this)
  refine ⟨congrArg (· + 1) R.n, fun i hi' hj => ?_, fun i j h1 h2 j1 j2 e => ?_⟩
  · by_cases q : i = ω.n
    · subst q
      rw [ω.add_here, nn, H.new_here]
      exact ⟨ob, .head _, hi, ho⟩
    · rw [H.new_old o (nn ▸ q)] at hj ⊢
      rw [ω.add_old a ob q]
      obtain ⟨o', h1, h2, h3⟩ := R.at_ i (Nat.lt_of_le_of_ne (Nat.le_of_lt_succ hi') q) hj
      exact ⟨o', .tail _ h1, h2, h3.mono (ω.add_ext a ob)⟩
  · by_cases q1 : i = ω.n
    · by_cases q2 : j = ω.n
      · rw [q1, q2]
      · rw [q1, ω.add_here, ω.add_old a ob q2] at e
        rw [H.new_old o (nn ▸ q2)] at j2
        exact absurd e.symm (lt j (Nat.lt_of_le_of_ne (Nat.le_of_lt_succ h2) q2) j2)
    · rw [H.new_old o (nn ▸ q1)] at j1
      by_cases q2 : j = ω.n
      · rw [q2, ω.add_here, ω.add_old a ob q1] at e
        exact absurd e (lt i (Nat.lt_of_le_of_ne (Nat.le_of_lt_succ h1) q1) j1)
      · rw [H.new_old o (nn ▸ q2)] at j2
        rw [ω.add_old a ob q1, ω.add_old a ob q2] at e
        exact R.inj i j (Nat.lt_of_le_of_ne (Nat.le_of_lt_succ h1) q1) (Nat.lt_of_le_of_ne (Nat.le_of_lt_succ h2) q2) j1 j2 e
/-- a mutable changed -/
noncomputable def Wd.put (ω : Wd) (a : Addr) (ob : Obj) : Wd := { ω with news := (a, ob) :: ω.news.filter (fun p => decide (p.1 ≠ a)) }
theorem Wd.put_ext {ob₀ : Obj} {a : Addr} {h₀ h : Heap} {L : Addr} (N : News h₀ L h ω.news) (hm : (a, ob₀) ∈ ω.news) (hi : ¬ Imm ob₀) (ob : Obj) : Ext ω (ω.put a ob) :=
  ⟨Nat.le_refl _, fun _ _ => rfl, fun q hq iq => .tail _ (List.mem_filter.mpr ⟨hq, decide_eq_true fun e => by
    have h1 := N.get hm
    have h2 := (N q hq).1
    rw [e, h1] at h2
    exact hi (Option.some.inj h2 ▸ iq)⟩)⟩
theorem Rel.put (R : Rel c ω H) {i : Nat} {ob ob₀ : Obj} {o : O} {h₀ h : Heap} {L : Addr} (N : News h₀ L h ω.news) (hn : i < ω.n) (hj : H.o i ≠ .junk) (hm : (ω.ρ i, ob₀) ∈ ω.news) (hi₀ : ¬ Imm ob₀) (hi : ¬ Imm ob)
    (ho : RO c (ω.put (ω.ρ i) ob) (ω.ρ i) o ob) : Rel c (ω.put (ω.ρ i) ob) (H.set i o) := by
  have nj : ∀ k, (H.set i o).o k ≠ .junk → H.o k ≠ .junk := fun k hk => by
    by_cases q : k = i
    · rw [q]; exact hj
    · rw [H.set_old i o q] at hk; exact hk
  refine ⟨R.n, fun j hjn hjj => ?_, fun a b h1 h2 j1 j2 e => R.inj a b h1 h2 (nj a j1) (nj b j2) e⟩
  by_cases q : j = i
  · subst q
    rw [H.set_here]
    exact ⟨ob, .head _, hi, ho⟩
  · rw [H.set_old i o q]
    obtain ⟨o', h1, h2, h3⟩ := R.at_ j hjn (nj j hjj)
    exact ⟨o', .tail _ (List.mem_filter.mpr ⟨h1, decide_eq_true fun e => q (R.inj j i hjn hn (nj j hjj) hj e)⟩), h2, h3.mono (Wd.put_ext N hm hi₀ ob)⟩
/-- a mutable forgotten -/
noncomputable def Wd.drop (ω : Wd) (a : Addr) : Wd := { ω with news := ω.news.filter (fun p => decide (p.1 ≠ a)) }
theorem Wd.drop_ext {ob₀ : Obj} {a : Addr} {h₀ h : Heap} {L : Addr} (N : News h₀ L h ω.news) (hm : (a, ob₀) ∈ ω.news) (hi : ¬ Imm ob₀) : Ext ω (ω.drop a) :=
  ⟨Nat.le_refl _, fun _ _ => rfl, fun q hq iq => List.mem_filter.mpr ⟨hq, decide_eq_true fun e => by
    have h1 := N.get hm
    have h2 := (N q hq).1
    rw [e, h1] at h2
    exact hi (Option.some.inj h2 ▸ iq)⟩⟩
theorem Rel.drop (R : Rel c ω H) {i : Nat} {ob₀ : Obj} {h₀ h : Heap} {L : Addr} (N : News h₀ L h ω.news) (hn : i < ω.n) (hj : H.o i ≠ .junk) (hm : (ω.ρ i, ob₀) ∈ ω.news) (hi₀ : ¬ Imm ob₀) : Rel c (ω.drop (ω.ρ i)) (H.set i .junk) := by
  have nj : ∀ k, (H.set i .junk).o k ≠ .junk → k ≠ i ∧ H.o k ≠ .junk := fun k hk => by
    by_cases q : k = i
    · rw [q, H.set_here] at hk; exact absurd rfl hk
    · rw [H.set_old i .junk q] at hk; exact ⟨q, hk⟩
  refine ⟨R.n, fun j hjn hjj => ?_, fun a b h1 h2 j1 j2 e => R.inj a b h1 h2 (nj a j1).2 (nj b j2).2 e⟩
  have q := (nj j hjj).1
  rw [H.set_old i .junk q]
  obtain ⟨o', h1, h2, h3⟩ := R.at_ j hjn (nj j hjj).2
  exact ⟨o', List.mem_filter.mpr ⟨h1, decide_eq_true fun e => q (R.inj j i hjn hn (nj j hjj).2 hj e)⟩, h2, h3.mono (Wd.drop_ext N hm hi₀)⟩
theorem News.front {h₀ h : Heap} {L a : Addr} {ob : Obj} {news : List (Addr × Obj)} (N : News h₀ L h news) (hm : (a, ob) ∈ news) : News h₀ L h ((a, ob) :: news.filter (fun p => decide (p.1 ≠ a))) := fun p hp => by
  rcases List.mem_cons.mp hp with rfl | hp
  · exact N _ hm
  · exact N _ (List.mem_filter.mp hp).1
theorem front_ne {a : Addr} {news : List (Addr × Obj)} : ∀ p ∈ news.filter (fun p => decide (p.1 ≠ a)), p.1 ≠ a := fun p hp => of_decide_eq_true (List.mem_filter.mp hp).2
end
end
end Mine
end

section
namespace Mine
section
variable {c : Cx} {n : Nat} {fr : FrS} {ω : Wd} {H H₁ H₂ H₃ : Hp} {l l₁ l₂ : Loc} {x : Fx} {m : Str → Option Value} {s : Shared}
theorem Ok.put (k : Ok c n fr ω H l x m s) {i : Nat} {ob₀ ob : Obj} {o : O} {h' : Heap} {tk : Nat} (hi : i < ω.n) (hj : H.o i ≠ .junk) (hm : (ω.ρ i, ob₀) ∈ ω.news) (n0 : ¬ Imm ob₀) (n1 : ¬ Imm ob)
    (hs : Heap.SameBut (ω.ρ i) s.heap h') (ho : h'.get? (ω.ρ i) = some ob) (r : RO c (ω.put (ω.ρ i) ob) (ω.ρ i) o ob) :
    Ok c n fr (ω.put (ω.ρ i) ob) (H.set i o) l x m (Sh s h' tk) ∧ Ext ω (ω.put (ω.ρ i) ob) := by
  have z := k.N _ hm
  have e := Wd.put_ext k.N hm n0 ob
  refine ⟨k.at_ e (k.F.change hs z.2.1 z.2.2) (fun p hp => ?_) (k.R.put k.N hi hj hm n0 n1 r), e⟩
  rcases List.mem_cons.mp hp with rfl | hp
  · exact ⟨ho, z.2⟩
  · have z' := k.N _ (List.mem_filter.mp hp).1
    exact ⟨(hs.2 _ (of_decide_eq_true (List.mem_filter.mp hp).2)).trans z'.1, z'.2⟩
theorem Ok.add (k : Ok c n fr ω H l x m s) {a : Addr} {ob : Obj} {o : O} {h' : Heap} {tk : Nat} (F : Fr x.h₀ x.L h' m) (N : News x.h₀ x.L h' ((a, ob) :: ω.news)) (lt : ∀ p ∈ ω.news, p.1 < a) (n1 : ¬ Imm ob)
    (r : RO c (ω.add a ob) a o ob) : Ok c n fr (ω.add a ob) (H.new o) l x m (Sh s h' tk) ∧ Ext ω (ω.add a ob) ∧ RV (ω.add a ob) (.obj H.n) (.ref a) := by
  have e := ω.add_ext a ob
  refine ⟨k.at_ e F N (k.R.add lt n1 r), e, ?_⟩
  unfold RV
  have q : ω.n = H.n := k.R.n.symm
  exact ⟨by show H.n < ω.n + 1; lia, by show Value.ref a = .ref (if H.n = ω.n then a else ω.ρ H.n); rw [if_pos q.symm]⟩
theorem Ok.imm (k : Ok c n fr ω H l x m s) {a : Addr} {ob : Obj} {h' : Heap} {tk : Nat} (F : Fr x.h₀ x.L h' m) (N : News x.h₀ x.L h' ((a, ob) :: ω.news)) :
    Ok c n fr (ω.imm a ob) H l x m (Sh s h' tk) := k.at_ (ω.imm_ext a ob) F N (k.R.imm a ob)
theorem Ok.tr (k : Ok c n fr ω H l x m s) : TopRead c.p c.loose c.mg c.mb x.h₀ := topRead_of k.T
theorem Ok.lst (k : Ok c n fr ω H l x m s) {i : Nat} {vs : List V} {r : Value} (hr : RV ω (.obj i) r) (h : H.o i = .list vs) :
    i < ω.n ∧ r = .ref (ω.ρ i) ∧ ∃ items e, (ω.ρ i, W.listOf (List.toArray items) e) ∈ ω.news ∧ RVs ω vs items := by
  unfold RV at hr
  obtain ⟨h1, h2⟩ := hr
  obtain ⟨ob, h3, h4, h5⟩ := k.R.at_ i h1 (by rw [h]; intro q; cases q)
  rw [h] at h5
  obtain ⟨items, e, rfl, h6⟩ := h5
  exact ⟨h1, h2, items, e, h3, h6⟩
theorem notImm_cls {o : Obj} {t : String} (h : o.cls = .type t) (h1 : t ≠ "tuple") (h2 : t ≠ "method") : ¬ Imm o := fun q => by
  rcases q with ⟨_, q⟩ | ⟨_, _, q⟩
  · rw [q] at h; exact h1 (Value.type.inj h).symm
  · rw [q] at h; exact h2 (Value.type.inj h).symm
theorem notImm_list {its : Array Value} {e : Nat} : ¬ Imm (W.listOf its e) := notImm_cls rfl (by decide) (by decide)
theorem notImm_dict {es : List DictEntry} {e : Nat} : ¬ Imm (dictOf es e) := notImm_cls rfl (by decide) (by decide)
theorem notImm_inst {C d : Addr} : ¬ Imm (instObj C d) := fun h => by rcases h with ⟨_, h⟩ | ⟨_, _, h⟩ <;> cases h
theorem RVs.len {ω : Wd} : ∀ {vs : List V} {rs : List Value}, RVs ω vs rs → rs.length = vs.length
  | [], _, h => by unfold RVs at h; subst h; rfl
  | _ :: _, _, h => by unfold RVs at h; obtain ⟨r, rs', rfl, _, h⟩ := h; simp [RVs.len h]
theorem RVs.get {ω : Wd} : ∀ {vs : List V} {rs : List Value}, RVs ω vs rs → ∀ {k : Nat} {v : V}, vs[k]? = some v → ∃ r, rs[k]? = some r ∧ RV ω v r
  | [], _, h, k, v, e => by simp at e
  | v :: vs, _, h, k, u, e => by
    unfold RVs at h; obtain ⟨r, rs', rfl, h1, h⟩ := h
    cases k with
    | zero => simp at e; subst e; exact ⟨r, rfl, h1⟩
    | succ k => simpa using RVs.get h (by simpa using e)
theorem RVs.app {ω : Wd} : ∀ {vs us : List V} {rs ts : List Value}, RVs ω vs rs → RVs ω us ts → RVs ω (vs ++ us) (rs ++ ts)
  | [], _, _, _, h, h2 => by unfold RVs at h; subst h; exact h2
  | v :: vs, _, _, _, h, h2 => by
    unfold RVs at h; obtain ⟨r, rs', rfl, h1, h⟩ := h
    show RVs ω (v :: (vs ++ _)) (r :: (rs' ++ _))
    unfold RVs
    exact ⟨r, _, rfl, h1, RVs.app h h2⟩
theorem RVs.nil {ω : Wd} : RVs ω [] [] := by unfold RVs; rfl
theorem RVs.cons {ω : Wd} {v : V} {r : Value} {vs : List V} {rs : List Value} (h : RV ω v r) (hs : RVs ω vs rs) : RVs ω (v :: vs) (r :: rs) := by unfold RVs; exact ⟨r, rs, rfl, h, hs⟩
theorem RVs.one {ω : Wd} {v : V} {r : Value} (h : RV ω v r) : RVs ω [v] [r] := .cons h .nil
/-! eliminators: they keep the proofs' terms small -/
@[elab_as_elim] theorem RV.int_e {P : Value → Prop} {i : Int} {r : Value} (hr : RV ω (.int i) r) (g : ∀ t, P (.int i t)) : P r := by
  unfold RV at hr
  obtain ⟨t, rfl⟩ := hr
  exact g t
@[elab_as_elim] theorem RV.str_e {P : Value → Prop} {i : Str} {r : Value} (hr : RV ω (.str i) r) (g : ∀ t, P (.str i t)) : P r := by
  unfold RV at hr
  obtain ⟨t, rfl⟩ := hr
  exact g t
@[elab_as_elim] theorem Ok.lst_e {P : Value → Prop} {i : Nat} {vs : List V} {r : Value} (k : Ok c n fr ω H l x m s) (h : H.o i = .list vs) (hr : RV ω (.obj i) r)
    (g : ∀ items e, i < ω.n → (ω.ρ i, W.listOf (List.toArray items) e) ∈ ω.news → RVs ω vs items → items.length = vs.length → P (.ref (ω.ρ i))) : P r := by
  obtain ⟨h1, rfl, items, e, h2, h3⟩ := k.lst hr h
  exact g items e h1 h2 h3 h3.len
/-- a value on the spot -/
theorem At.now {α : Type} {t : Sem α} {R : Wd → α → Prop} (g : ∀ m s (Q : α → Shared → Prop) (E : Value → Shared → Prop), Ok c n fr ω H l x m s → (∀ a tk, R ω a → Q a (Sh s s.heap tk)) → wpAny (model c.prog c.w) x.A t Q E s) : At c n fr x ω t H l R H l :=
  fun m s Q E k ret => g m s Q E k fun a tk h => ret a ω m s.heap tk (k.toks tk) (Ext.refl ω) h
theorem RV.iI {ω : Wd} {i : Int} {t : Tok} : RV ω (.int i) (.int i t) := by unfold RV; exact ⟨t, rfl⟩
theorem RV.sI {ω : Wd} {i : Str} {t : Tok} : RV ω (.str i) (.str i t) := by unfold RV; exact ⟨t, rfl⟩
theorem RV.none {ω : Wd} : RV ω .none .none := by unfold RV; rfl
theorem RV.bool {ω : Wd} {b : Bool} : RV ω (.bool b) (.bool b) := by unfold RV; rfl
theorem RV.st {ω : Wd} {a : Addr} : RV ω (.st a) (.ref a) := by unfold RV; rfl
/-! names, constants -/
theorem ev_local {y : Str} {pos : Pos} {v : V} (h : l y = some v) (hx : fr.scope.names.lookup y = some .local) (hd : (y == ("__debug__" : Str)) = false := by rfl) : Ev c n fr (.Name y pos) H l v H := by
  intro x ω m s Q E k ret
  obtain ⟨r, hm, hv⟩ := k.l _ _ h
  exact nameX_L k.F hm (ret r ω m s.heap s.toks k (Ext.refl _) hv) k.fk hx hd
theorem ev_cell {y : Str} {pos : Pos} {v : V} {i : Nat} (hi : (y, i) ∈ fr.cells) (h : H.o i = .cell (some v)) (hx : fr.scope.names.lookup y = some .cell) (hd : (y == ("__debug__" : Str)) = false := by rfl) : Ev c n fr (.Name y pos) H l v H := by
  intro x ω m s Q E k ret
  obtain ⟨h1, h2⟩ := k.cl _ _ hi
  obtain ⟨ob, h3, _, h5⟩ := k.R.at_ i h1 (by rw [h]; intro q; cases q)
  rw [h] at h5
  obtain ⟨r, h6, h7⟩ := h5
  exact nameX_C k.N h2 h3 h6 (ret r ω m s.heap s.toks k (Ext.refl _) h7) k.fk hx hd
theorem ev_glob {y : Str} {pos : Pos} {a : Addr} (h : nsIn c.K mainGlobals y = some (some (.ref a))) (hx : fr.scope.names.lookup y = some .globalImplicit) (hd : (y == ("__debug__" : Str)) = false := by rfl) : Ev c n fr (.Name y pos) H l (.st a) H := by
  intro x ω m s Q E k ret
  exact nameX_K k.F k.X k.tr h (ret _ ω m s.heap s.toks k (Ext.refl _) (by unfold RV; rfl)) k.fk hx hd
theorem ev_bi {y : Str} {pos : Pos} {t : String} (h : nsIn c.K mainGlobals y = some none) (hb : bootBuiltins y = some (.builtin t)) (hx : fr.scope.names.lookup y = some .globalImplicit) (hn : y ≠ "__name__") (hd : (y == ("__debug__" : Str)) = false := by rfl) :
    Ev c n fr (.Name y pos) H l (.bi t) H := by
  intro x ω m s Q E k ret
  exact nameX_B k.F k.X k.tr h hb hn (ret _ ω m s.heap s.toks k (Ext.refl _) (by unfold RV; rfl)) k.fk hx hd
theorem ev_ty {y : Str} {pos : Pos} {t : String} (h : nsIn c.K mainGlobals y = some none) (hb : bootBuiltins y = some (.type t)) (hx : fr.scope.names.lookup y = some .globalImplicit) (hn : y ≠ "__name__") (hd : (y == ("__debug__" : Str)) = false := by rfl) :
    Ev c n fr (.Name y pos) H l (.ty t) H := by
  intro x ω m s Q E k ret
  exact nameX_B k.F k.X k.tr h hb hn (ret _ ω m s.heap s.toks k (Ext.refl _) (by unfold RV; rfl)) k.fk hx hd
theorem ev_int {i : Int} {k₀ : Nat} {pos : Pos} : Ev c n fr (.Constant (.int i) k₀ pos) H l (.int i) H :=
  fun x ω => At.now fun m s Q E k ret => wpAny_Constant_int (ret _ _ RV.iI)
theorem ev_str {i : Str} {k₀ : Nat} {pos : Pos} : Ev c n fr (.Constant (.str i) k₀ pos) H l (.str i) H :=
  fun x ω => At.now fun m s Q E k ret => PySem.Calls.Constant_str (ret _ _ RV.sI)
theorem ev_bool {i : Bool} {k₀ : Nat} {pos : Pos} : Ev c n fr (.Constant (.bool i) k₀ pos) H l (.bool i) H :=
  fun x ω => At.now fun m s Q E k ret => Constant_bool (ret _ s.toks RV.bool)
theorem ev_none {k₀ : Nat} {pos : Pos} : Ev c n fr (.Constant .none k₀ pos) H l .none H :=
  fun x ω => At.now fun m s Q E k ret => Constant_none (ret _ s.toks RV.none)
/-! operators -/
theorem ev_binop {e₁ e₂ : Expr} {op : Operator} {pos : Pos} {a b v : V} (h₁ : Ev c n fr e₁ H l a H₁) (h₂ : Ev c n fr e₂ H₁ l b H₂)
    (ho : ∀ x ω ra rb, RV ω a ra → RV ω b rb → At c n fr x ω (binaryOp op ra rb) H₂ l (fun ω r => RV ω v r) H₃ l) : Ev c n fr (.BinOp e₁ op e₂ pos) H l v H₃ := by
  intro x ω m s Q E k ret
  refine wpAny_BinOp (h₁ x ω m s _ _ k fun ra ω₁ m₁ h tk k₁ x₁ r₁ => h₂ x ω₁ m₁ _ _ _ k₁ fun rb ω₂ m₂ h' tk' k₂ x₂ r₂ => ho x ω₂ ra rb (r₁.mono x₂) r₂ m₂ _ _ _ k₂ fun rv ω₃ m₃ h'' tk'' k₃ x₃ r₃ => ?_)
  exact ret rv ω₃ m₃ h'' tk'' k₃ ((x₁.trans x₂).trans x₃) r₃
theorem op_add {a b : Int} : ∀ x ω ra rb, RV ω (.int a) ra → RV ω (.int b) rb → At c n fr x ω (binaryOp .Add ra rb) H l (fun ω r => RV ω (.int (a + b)) r) H l :=
  fun x ω ra rb h1 h2 => RV.int_e h1 fun t => RV.int_e h2 fun u => At.now fun m s Q E k ret => add_int (ret _ _ RV.iI)
theorem op_sub {a b : Int} : ∀ x ω ra rb, RV ω (.int a) ra → RV ω (.int b) rb → At c n fr x ω (binaryOp .Sub ra rb) H l (fun ω r => RV ω (.int (a - b)) r) H l :=
  fun x ω ra rb h1 h2 => RV.int_e h1 fun t => RV.int_e h2 fun u => At.now fun m s Q E k ret => sub_int (ret _ _ RV.iI)
theorem op_mod {a b : Int} (hb : b ≠ 0) : ∀ x ω ra rb, RV ω (.int a) ra → RV ω (.int b) rb → At c n fr x ω (binaryOp .Mod ra rb) H l (fun ω r => RV ω (.int (a.fmod b)) r) H l :=
  fun x ω ra rb h1 h2 => RV.int_e h1 fun t => RV.int_e h2 fun u => At.now fun m s Q E k ret => mod_int' hb (ret _ _ RV.iI)
theorem ev_add {e₁ e₂ : Expr} {pos : Pos} {a b : Int} (h₁ : Ev c n fr e₁ H l (.int a) H₁) (h₂ : Ev c n fr e₂ H₁ l (.int b) H₂) : Ev c n fr (.BinOp e₁ .Add e₂ pos) H l (.int (a + b)) H₂ := ev_binop h₁ h₂ op_add
theorem ev_sub {e₁ e₂ : Expr} {pos : Pos} {a b : Int} (h₁ : Ev c n fr e₁ H l (.int a) H₁) (h₂ : Ev c n fr e₂ H₁ l (.int b) H₂) : Ev c n fr (.BinOp e₁ .Sub e₂ pos) H l (.int (a - b)) H₂ := ev_binop h₁ h₂ op_sub
theorem ev_mod {e₁ e₂ : Expr} {pos : Pos} {a b : Int} (h₁ : Ev c n fr e₁ H l (.int a) H₁) (h₂ : Ev c n fr e₂ H₁ l (.int b) H₂) (hb : b ≠ 0) : Ev c n fr (.BinOp e₁ .Mod e₂ pos) H l (.int (a.fmod b)) H₂ := ev_binop h₁ h₂ (op_mod hb)
/-! tests -/
/-- a comparison's outcome -/
noncomputable abbrev Cmp (c : Cx) (n : Nat) (fr : FrS) (op : CmpOp) (a b : V) (H : Hp) (l : Loc) (r : Bool) : Prop :=
  ∀ x ω ra rb, RV ω a ra → RV ω b rb → At c n fr x ω (compareOp op ra rb) H l (fun _ v => v = .bool r) H l
theorem te_cmp {e₁ e₂ : Expr} {op : CmpOp} {pos : Pos} {a b : V} {r : Bool} (h₁ : Ev c n fr e₁ H l a H₁) (h₂ : Ev c n fr e₂ H₁ l b H₂) (ho : Cmp c n fr op a b H₂ l r) (hm : behindInMarks op e₂ = false := by rfl) :
    Te c n fr (.Compare e₁ [op] [e₂] pos) H l r H₂ := by
  intro x ω m s Q E k ret
  refine wpAny_isTrue_Compare1 (h₁ x ω m s _ _ k fun ra ω₁ m₁ h tk k₁ x₁ r₁ => h₂ x ω₁ m₁ _ _ _ k₁ fun rb ω₂ m₂ h' tk' k₂ x₂ r₂ => ho x ω₂ ra rb (r₁.mono x₂) r₂ m₂ _ _ _ k₂ fun rv ω₃ m₃ h'' tk'' k₃ x₃ r₃ => ?_) hm
  subst r₃
  exact wpAny_truthy_bool (ret r ω₃ m₃ h'' tk'' k₃ ((x₁.trans x₂).trans x₃) rfl)
theorem cmp_eq_int {a b : Int} : Cmp c n fr .Eq (.int a) (.int b) H l (a == b) :=
  fun x ω ra rb h1 h2 => RV.int_e h1 fun t => RV.int_e h2 fun u => At.now fun m s Q E k ret => PyProof.Rows.eq_int (ret _ s.toks rfl)
theorem cmp_ne_int {a b : Int} : Cmp c n fr .NotEq (.int a) (.int b) H l (a != b) :=
  fun x ω ra rb h1 h2 => RV.int_e h1 fun t => RV.int_e h2 fun u => At.now fun m s Q E k ret => PyProof.Rows.ne_int (ret _ s.toks rfl)
theorem cmp_lt_int {a b : Int} : Cmp c n fr .Lt (.int a) (.int b) H l (decide (a < b)) :=
  fun x ω ra rb h1 h2 => RV.int_e h1 fun t => RV.int_e h2 fun u => At.now fun m s Q E k ret => PyProof.Rows.lt_int (ret _ s.toks rfl)
theorem cmp_gt_int {a b : Int} : Cmp c n fr .Gt (.int a) (.int b) H l (decide (b < a)) :=
  fun x ω ra rb h1 h2 => RV.int_e h1 fun t => RV.int_e h2 fun u => At.now fun m s Q E k ret => PyProof.Rows.gt_int (ret _ s.toks rfl)
theorem cmp_le_int {a b : Int} : Cmp c n fr .LtE (.int a) (.int b) H l (decide (a ≤ b)) :=
  fun x ω ra rb h1 h2 => RV.int_e h1 fun t => RV.int_e h2 fun u => At.now fun m s Q E k ret => PyProof.Rows.le_int (ret _ s.toks rfl)
theorem cmp_eq_str {a b : Str} : Cmp c n fr .Eq (.str a) (.str b) H l (a == b) :=
  fun x ω ra rb h1 h2 => RV.str_e h1 fun t => RV.str_e h2 fun u => At.now fun m s Q E k ret => PyProof.Rows.eq_str (ret _ s.toks rfl)
theorem cmp_ne_str {a b : Str} : Cmp c n fr .NotEq (.str a) (.str b) H l (a != b) :=
  fun x ω ra rb h1 h2 => RV.str_e h1 fun t => RV.str_e h2 fun u => At.now fun m s Q E k ret => PyProof.Rows.ne_str (ret _ s.toks rfl)
theorem te_not {e : Expr} {pos : Pos} {b : Bool} (h : Te c n fr e H l b H₁) : Te c n fr (.UnaryOp .Not e pos) H l (!b) H₁ := by
  intro x ω m s Q E k ret
  exact isTrue_not (h x ω m s _ _ k fun r ω₁ m₁ h' tk k₁ x₁ r₁ => ret _ ω₁ m₁ h' tk k₁ x₁ (by rw [r₁]))
/-- a list of tests, all but the last passed on -/
noncomputable def Tes (c : Cx) (n : Nat) (fr : FrS) (op : BoolOp) (es : List Expr) (pos : Pos) (H : Hp) (l : Loc) (b : Bool) (H' : Hp) : Prop :=
  ∀ whole : Env → Sem Value, Do c n fr (fun env => PySem.isTrue (.BoolOp op es pos) env (whole env)) H l (fun _ r => r = b) H' l
theorem tes_and_t {e : Expr} {es : List Expr} {pos : Pos} {b : Bool} (h : Te c n fr e H l true H₁) (hr : Tes c n fr .And es pos H₁ l b H₂) : Tes c n fr .And (e :: es) pos H l b H₂ := by
  intro whole x ω m s Q E k ret
  refine isTrue_and (h x ω m s _ _ k fun r ω₁ m₁ h' tk k₁ x₁ r₁ => ?_)
  subst r₁
  exact hr whole x ω₁ m₁ _ _ _ k₁ fun r ω₂ m₂ h'' tk' k₂ x₂ r₂ => ret r ω₂ m₂ h'' tk' k₂ (x₁.trans x₂) r₂
theorem tes_or_f {e : Expr} {es : List Expr} {pos : Pos} {b : Bool} (h : Te c n fr e H l false H₁) (hr : Tes c n fr .Or es pos H₁ l b H₂) : Tes c n fr .Or (e :: es) pos H l b H₂ := by
  intro whole x ω m s Q E k ret
  refine isTrue_or (h x ω m s _ _ k fun r ω₁ m₁ h' tk k₁ x₁ r₁ => ?_)
  subst r₁
  exact hr whole x ω₁ m₁ _ _ _ k₁ fun r ω₂ m₂ h'' tk' k₂ x₂ r₂ => ret r ω₂ m₂ h'' tk' k₂ (x₁.trans x₂) r₂
theorem tes_and_f {e : Expr} {es : List Expr} {pos : Pos} (h : Te c n fr e H l false H₁) : Tes c n fr .And (e :: es) pos H l false H₁ := by
  intro whole x ω m s Q E k ret
  refine isTrue_and (h x ω m s _ _ k fun r ω₁ m₁ h' tk k₁ x₁ r₁ => ?_)
  subst r₁
  exact ret _ ω₁ m₁ h' tk k₁ x₁ rfl
theorem tes_or_t {e : Expr} {es : List Expr} {pos : Pos} (h : Te c n fr e H l true H₁) : Tes c n fr .Or (e :: es) pos H l true H₁ := by
  intro whole x ω m s Q E k ret
  refine isTrue_or (h x ω m s _ _ k fun r ω₁ m₁ h' tk k₁ x₁ r₁ => ?_)
  subst r₁
  exact ret _ ω₁ m₁ h' tk k₁ x₁ rfl
theorem tes_and_n {pos : Pos} : Tes c n fr .And [] pos H l true H := by
  intro whole x ω m s Q E k ret
  exact isTrue_and_nil (ret _ ω m s.heap s.toks k (Ext.refl _) rfl)
theorem tes_or_n {pos : Pos} : Tes c n fr .Or [] pos H l false H := by
  intro whole x ω m s Q E k ret
  exact isTrue_or_nil (ret _ ω m s.heap s.toks k (Ext.refl _) rfl)
theorem te_bools {op : BoolOp} {es : List Expr} {pos : Pos} {b : Bool} (h : Tes c n fr op es pos H l b H₁) : Te c n fr (.BoolOp op es pos) H l b H₁ := h (fun env => eval (.BoolOp op es pos) env)
/-- a value's truth -/
noncomputable abbrev Tr (c : Cx) (n : Nat) (fr : FrS) (v : V) (H : Hp) (l : Loc) (b : Bool) : Prop := ∀ x ω r, RV ω v r → At c n fr x ω (truthy r) H l (fun _ z => z = b) H l
theorem te_val {e : Expr} {v : V} {b : Bool} (h : Ev c n fr e H l v H₁) (ht : Tr c n fr v H₁ l b) (he : ∀ env, PySem.isTrue e env (eval e env) = (do let v ← eval e env; standAt e.pos; holding [v] (truthy v)) := by intro _; rfl) :
    Te c n fr e H l b H₁ := by
  intro x ω m s Q E k ret
  refine isTrue_plain (h x ω m s _ _ k fun r ω₁ m₁ h' tk k₁ x₁ r₁ => ht x ω₁ r r₁ m₁ _ _ _ k₁ fun b' ω₂ m₂ h'' tk' k₂ x₂ r₂ => ?_) (he _)
  exact ret b' ω₂ m₂ h'' tk' k₂ (x₁.trans x₂) r₂
theorem tr_bool {b : Bool} : Tr c n fr (.bool b) H l b := by
  intro x ω r hr m s Q E k ret
  unfold RV at hr; subst hr
  exact wpAny_truthy_bool (ret _ ω m s.heap s.toks k (Ext.refl _) rfl)
/-! choice, sequence -/
theorem ev_if {t a b : Expr} {pos : Pos} {q : Bool} {v : V} (h : Te c n fr t H l q H₁) (h₂ : Ev c n fr (if q then a else b) H₁ l v H₂) : Ev c n fr (.IfExp t a b pos) H l v H₂ := by
  intro x ω m s Q E k ret
  refine IfExp_ (h x ω m s _ _ k fun r ω₁ m₁ h' tk k₁ x₁ r₁ => ?_)
  subst r₁
  cases r
  · exact h₂ x ω₁ m₁ _ _ _ k₁ fun r ω₂ m₂ h'' tk' k₂ x₂ r₂ => ret r ω₂ m₂ h'' tk' k₂ (x₁.trans x₂) r₂
  · exact h₂ x ω₁ m₁ _ _ _ k₁ fun r ω₂ m₂ h'' tk' k₂ x₂ r₂ => ret r ω₂ m₂ h'' tk' k₂ (x₁.trans x₂) r₂
theorem ex_if {t : Expr} {a b : List Stmt} {pos : Pos} {q : Bool} {f : Fl} (h : Te c n fr t H l q H₁) (h₂ : Exs c n fr (if q then a else b) H₁ l f H₂ l₁) : Ex c n fr (.If t a b pos) H l f H₂ l₁ := by
  intro x ω m s Q E k ret
  refine wpAny_If (h x ω m s _ _ k fun r ω₁ m₁ h' tk k₁ x₁ r₁ => ?_)
  subst r₁
  cases r
  · exact h₂ x ω₁ m₁ _ _ _ k₁ fun r ω₂ m₂ h'' tk' k₂ x₂ r₂ => ret r ω₂ m₂ h'' tk' k₂ (x₁.trans x₂) r₂
  · exact h₂ x ω₁ m₁ _ _ _ k₁ fun r ω₂ m₂ h'' tk' k₂ x₂ r₂ => ret r ω₂ m₂ h'' tk' k₂ (x₁.trans x₂) r₂
theorem exs_nil : Exs c n fr [] H l .next H l := by
  intro x ω m s Q E k ret
  exact wpAny_execs_nil (ret _ ω m s.heap s.toks k (Ext.refl _) rfl)
theorem exs_cons {t : Stmt} {ts : List Stmt} {f : Fl} (h : Ex c n fr t H l .next H₁ l₁) (h₂ : Exs c n fr ts H₁ l₁ f H₂ l₂) : Exs c n fr (t :: ts) H l f H₂ l₂ := by
  intro x ω m s Q E k ret
  refine wpAny_execs_cons (h x ω m s _ _ k fun r ω₁ m₁ h' tk k₁ x₁ r₁ => ?_)
  have r₁ : r = .next := r₁
  subst r₁
  exact h₂ x ω₁ m₁ _ _ _ k₁ fun r ω₂ m₂ h'' tk' k₂ x₂ r₂ => ret r ω₂ m₂ h'' tk' k₂ (x₁.trans x₂) r₂
theorem exs_ret {t : Stmt} {ts : List Stmt} {v : V} (h : Ex c n fr t H l (.ret v) H₁ l₁) : Exs c n fr (t :: ts) H l (.ret v) H₁ l₁ := by
  intro x ω m s Q E k ret
  refine wpAny_execs_cons (h x ω m s _ _ k fun r ω₁ m₁ h' tk k₁ x₁ r₁ => ?_)
  obtain ⟨rv, rfl, hv⟩ := r₁
  exact ret _ ω₁ m₁ h' tk k₁ x₁ ⟨rv, rfl, hv⟩
theorem ex_return {e : Expr} {pos : Pos} {v : V} (h : Ev c n fr e H l v H₁) : Ex c n fr (.Return (some e) pos) H l (.ret v) H₁ l := by
  intro x ω m s Q E k ret
  exact wpAny_Return_some (h x ω m s _ _ k fun r ω₁ m₁ h' tk k₁ x₁ r₁ => ret _ ω₁ m₁ h' tk k₁ x₁ ⟨r, rfl, r₁⟩)
end
end Mine
end

section
namespace Mine
section
variable {c : Cx} {n : Nat} {fr : FrS} {ω : Wd} {H H₁ H₂ H₃ : Hp} {l l₁ l₂ : Loc} {x : Fx} {m : Str → Option Value} {s : Shared}
/-! arguments, displays -/
noncomputable def Eas (c : Cx) (n : Nat) (fr : FrS) (es : List Expr) (H : Hp) (l : Loc) (vs : List V) (H' : Hp) : Prop :=
  ∀ pos, Do c n fr (fun env => spliced (backTo pos (starEach es env))) H l (fun ω rs => RVs ω vs rs) H' l
theorem eas_nil : Eas c n fr [] H l [] H := by
  intro pos x ω m s Q E k ret
  exact args_nil (ret _ ω m s.heap s.toks k (Ext.refl _) .nil)
theorem eas_cons {e : Expr} {es : List Expr} {v : V} {vs : List V} (h : Ev c n fr e H l v H₁) (hs : Eas c n fr es H₁ l vs H₂) (he : ∀ env, starEach (e :: es) env = (false, eval e env) :: starEach es env := by intro _; rfl) : Eas c n fr (e :: es) H l (v :: vs) H₂ := by
  intro pos x ω m s Q E k ret
  refine args_cons (h x ω m s _ _ k fun r ω₁ m₁ h' tk k₁ x₁ r₁ => hs pos x ω₁ m₁ _ _ _ k₁ fun rs ω₂ m₂ h'' tk' k₂ x₂ r₂ => ?_) (he _)
  exact ret _ ω₂ m₂ h'' tk' k₂ (x₁.trans x₂) (.cons (r₁.mono x₂) r₂)
theorem ev_list {es : List Expr} {vs : List V} {pos : Pos} (h : Eas c n fr es H l vs H₁) (hz : vs.length ≤ 1000 := by exact Nat.le_of_ble_eq_true rfl) : Ev c n fr (.List es pos) H l (.obj H₁.n) (H₁.new (.list vs)) := by
  intro x ω m s Q E k ret
  refine List_ (h pos x ω m s _ _ k fun rs ω₁ m₁ h' tk k₁ x₁ r₁ => newList_K k₁.F k₁.N (fun a h'' F N lt => ?_) ?_)
  · obtain ⟨k₂, x₂, r₂⟩ := k₁.add (o := .list vs) (tk := tk) F N lt notImm_list ⟨rs, 0, rfl, r₁.mono (Wd.add_ext ..)⟩
    exact ret _ _ m₁ h'' tk k₂ (x₁.trans x₂) r₂
  · rw [r₁.len, sizeLine_eq]; lia
theorem ev_tuple {es : List Expr} {vs : List V} {k₀ : Nat} {pos : Pos} (h : Eas c n fr es H l vs H₁) (hz : vs.length ≤ 1000 := by exact Nat.le_of_ble_eq_true rfl) : Ev c n fr (.Tuple es k₀ pos) H l (.tup vs) H₁ := by
  intro x ω m s Q E k ret
  refine Tuple_ (h pos x ω m s _ _ k fun rs ω₁ m₁ h' tk k₁ x₁ r₁ => kup_newTuple k₁.F k₁.N (fun a h'' F N lt => ?_) ?_)
  · refine ret _ _ m₁ h'' tk (k₁.imm (tk := tk) F N) (x₁.trans (Wd.imm_ext ..)) ?_
    unfold RV
    exact ⟨a, rs, rfl, .head _, r₁.mono (Wd.imm_ext ..)⟩
  · rw [r₁.len, sizeLine_eq]; lia
theorem ev_dict0 {pos : Pos} : Ev c n fr (.Dict [] [] pos) H l (.obj H.n) (H.new (.idict [])) := by
  intro x ω m s Q E k ret
  refine newDict_K k.F k.N k.T.nolimit fun a h'' o F N lt lo _ _ d _ => ?_
  have hcls : o.cls = .type "dict" := let ⟨_, _, e, _⟩ := d; e.1
  obtain ⟨k₂, x₂, r₂⟩ := k.add (o := .idict []) (tk := s.toks) F N lt (notImm_cls hcls (by decide) (by decide)) ⟨lo, hcls, [], d, rfl⟩
  exact ret _ _ m h'' s.toks k₂ x₂ r₂
/-! attributes -/
noncomputable def plainV : V → Bool
  | .bi _ => false
  | _ => true
theorem handed_of {v : V} {r : Value} (h : plainV v = true) (hr : RV ω v r) : handedIn r = true := by
  cases v <;> unfold RV at hr <;> (try cases h) <;> (try (obtain ⟨_, rfl⟩ := hr)) <;> (try subst hr) <;> (try rfl)
  · obtain ⟨_, _, rfl, _⟩ := hr; rfl
  · obtain ⟨_, _, rfl, _⟩ := hr; rfl
noncomputable def fget (fs : List (Str × V)) (y : Str) : Option V := match fs with
  | [] => none
  | (k, v) :: r => if k == y then some v else fget r y
noncomputable def fput (fs : List (Str × V)) (y : Str) (v : V) : List (Str × V) := match fs with
  | [] => [(y, v)]
  | (k, u) :: r => if k == y then (k, v) :: r else (k, u) :: fput r y v
theorem RA.get {ω : Wd} {y : Str} : ∀ {fs : List (Str × V)} {es : List DictEntry}, RA ω fs es → (∀ v, fget fs y = some v → ∃ r, getL y es = some (some r) ∧ RV ω v r) ∧ (fget fs y = none → getL y es = some none) ∧ es.any (·.refKey) = false
  | [], _, h => by
    have h : _ = [] := h
    subst h
    exact ⟨fun v e => (nomatch e), fun _ => rfl, rfl⟩
  | (k, u) :: fs, _, ⟨e, rs', t, h1, h2, h3, h4⟩ => by
    subst h1
    obtain ⟨i1, i2, i3⟩ := RA.get (y := y) h4
    have hr : e.refKey = false := by
      obtain ⟨eh, ek, ev⟩ := e
      simp only at h2
      subst h2; rfl
    have hs : e.key.isStr y = (k == y) := by rw [h2]; rfl
    have any : (e :: rs').any (·.refKey) = false := by rw [List.any_cons, hr, i3]; rfl
    refine ⟨fun v q => ?_, fun q => ?_, any⟩
    · unfold fget at q
      unfold getL
      rw [List.find?_cons, hs]
      cases hk : (k == y)
      · rw [hk] at q
        obtain ⟨r, g1, g2⟩ := i1 v q
        refine ⟨r, ?_, g2⟩
        unfold getL at g1
        rw [any]
        rw [i3] at g1
        exact g1
      · rw [hk] at q
        cases q
        exact ⟨e.val, rfl, h3⟩
    · unfold fget at q
      unfold getL
      rw [List.find?_cons, hs]
      cases hk : (k == y)
      · rw [hk] at q
        have g1 := i2 q
        unfold getL at g1
        rw [any]
        rw [i3] at g1
        exact g1
      · rw [hk] at q; cases q
theorem RA.put {ω : Wd} {y : Str} {v : V} {r : Value} {hsh : Int} {t : Tok} (hr : RV ω v r) : ∀ {fs : List (Str × V)} {es : List DictEntry}, RA ω fs es → RA ω (fput fs y v) (putL y hsh (.str y t) r es)
  | [], _, h => by
    have h : _ = [] := h
    subst h
    exact ⟨_, [], t, rfl, rfl, hr, rfl⟩
  | (k, u) :: fs, _, ⟨e, rs', t', h1, h2, h3, h4⟩ => by
    subst h1
    have hs : e.key.isStr y = (k == y) := by rw [h2]; rfl
    unfold fput putL
    rw [hs]
    cases hk : (k == y)
    · exact ⟨e, _, t', rfl, h2, h3, RA.put hr h4⟩
    · exact ⟨_, rs', t', rfl, h2, hr, h4⟩
theorem RA.len {ω : Wd} : ∀ {fs : List (Str × V)} {es : List DictEntry}, RA ω fs es → es.length = fs.length
  | [], _, h => by have h : _ = [] := h; subst h; rfl
  | _ :: _, _, ⟨_, _, _, h1, _, _, h4⟩ => by subst h1; simp [RA.len h4]
/-- what the written part says of a class: instances are plain -/
structure Plain (K : Frag) (C : Addr) : Prop where
  dict : hasDictIn K C = true
  set : findIn K (.ref C) "__setattr__" = some (some (.builtin "object.__setattr__"))
  over : plainOver K C = true
structure Inst (H : Hp) (i : Nat) (C : Addr) (d : Nat) (fs : List (Str × V)) : Prop where
  i : H.o i = .inst C d
  d : H.o d = .attrs fs
theorem Ok.inst (k : Ok c n fr ω H l x m s) {i d : Nat} {C : Addr} {fs : List (Str × V)} {r : Value} (hr : RV ω (.obj i) r) (I : Inst H i C d fs) :
    r = .ref (ω.ρ i) ∧ i < ω.n ∧ d < ω.n ∧ ∃ es e, (ω.ρ i, instObj C (ω.ρ d)) ∈ ω.news ∧ (ω.ρ d, dictOf es e) ∈ ω.news ∧ RA ω fs es := by
  unfold RV at hr
  obtain ⟨h1, h2⟩ := hr
  obtain ⟨ob, h3, h4, h5⟩ := k.R.at_ i h1 (by rw [I.i]; intro q; cases q)
  rw [I.i] at h5
  obtain ⟨hd, rfl⟩ := h5
  obtain ⟨ob, h6, h7, h8⟩ := k.R.at_ d hd (by rw [I.d]; intro q; cases q)
  rw [I.d] at h8
  obtain ⟨es, e, rfl, h9⟩ := h8
  exact ⟨h2, h1, hd, es, e, h3, h6, h9⟩
theorem Ok.instAt (k : Ok c n fr ω H l x m s) {i d : Nat} {C : Addr} {es : List DictEntry} {e : Nat} (h1 : (ω.ρ i, instObj C (ω.ρ d)) ∈ ω.news) (h2 : (ω.ρ d, dictOf es e) ∈ ω.news) :
    W.InstAt s.heap (ω.ρ i) (instObj C (ω.ρ d)) C (some (dictOf es e)) := W.InstAt.of_news k.N h1 h2
theorem ev_attr {o : Expr} {name : Str} {pos : Pos} {i d : Nat} {C : Addr} {fs : List (Str × V)} {v : V} (ho : Ev c n fr o H l (.obj i) H₁) (I : Inst H₁ i C d fs) (hv : fget fs name = some v) (hp : plainV v = true)
    (P : Plain c.K C) (hg : plainGet c.K C name = true) (ha : findIn c.K (.ref C) name = some none)
    (he : ∀ env, eval (.Attribute o name pos) env = (do
      let v ← eval o env
      standAt pos.atName
      let r ← holding [v] (getAttr v name true)
      letTemporaryGo o v r
      pure r) := by intro _; rfl) : Ev c n fr (.Attribute o name pos) H l v H₁ := by
  intro x ω m s Q E k ret
  refine Attribute_any_ (ho x ω m s _ _ k fun r ω₁ m₁ h' tk k₁ x₁ r₁ => ?_) (he _)
  obtain ⟨rfl, _, _, es, e, h1, h2, h3⟩ := k₁.inst r₁ I
  obtain ⟨r, g1, g2⟩ := h3.get.1 _ hv
  exact get_own k₁.F k₁.X (k₁.instAt h1 h2) hg P.dict ha rfl g1 (handed_of hp g2) (ret _ ω₁ m₁ h' (tk + 1) (k₁.toks _) x₁ g2)
theorem ex_setattr {o e : Expr} {name : Str} {apos pos : Pos} {i d : Nat} {C : Addr} {fs : List (Str × V)} {v : V} (hv : Ev c n fr e H l v H₁) (ho : Ev c n fr o H₁ l (.obj i) H₂) (I : Inst H₂ i C d fs)
    (P : Plain c.K C) (ht : takerIn c.K C name = some none) (hz : fs.length < 900)
    (hw : ∀ env, swapsWith e (some (.Attribute o name apos)) pos.line env = pure false := by intro _; rfl) :
    Ex c n fr (.Assign [.Attribute o name apos] e pos) H l .next (H₂.set d (.attrs (fput fs name v))) l := by
  intro x ω m s Q E k ret
  refine plainObj_wpAny_Assign_Attribute (hv x ω m s _ _ k fun rv ω₁ m₁ h' tk k₁ x₁ r₁ => ho x ω₁ m₁ _ _ _ k₁ fun ro ω₂ m₂ h'' tk' k₂ x₂ r₂ => ?_) (hw _)
  obtain ⟨rfl, hi, hd, es, e, h1, h2, h3⟩ := k₂.inst r₂ I
  have hl : (getL name es).isSome = true := by
    cases q : fget fs name with
    | none => rw [h3.get.2.1 q]; rfl
    | some u => obtain ⟨_, g, _⟩ := h3.get.1 _ q; rw [g]; rfl
  refine set_dict k₂.F k₂.X (Mine.News.front k₂.N h2) (k₂.instAt h1 h2) rfl P.set P.over ht P.dict hl rfl (Upd.head front_ne) ?_ fun h₃ F N => ?_
  · have a := (h3.put (y := name) (v := v) (hsh := PyData.keyHash c.w.params name) (t := tk' + 1) (r₁.mono x₂)).len
    have b : (fput fs name v).length ≤ fs.length + 1 := by
      clear a hl h3 h2 h1 k₂ r₂ ho hv ret I hz
      induction fs with
      | nil => exact Nat.le_refl _
      | cons p fs ih => unfold fput; split <;> simp only [List.length_cons] <;> lia
    exact Nat.le_trans (Nat.le_of_eq a) (by lia)
  · have e₃ := Wd.put_ext k₂.N h2 notImm_dict (dictOf (putL name (PyData.keyHash c.w.params name) (.str name (tk' + 1)) rv es) (putN name es e))
    refine ret _ (ω₂.put (ω₂.ρ d) _) m₂ h₃ (tk' + 2) (k₂.at_ e₃ F N (k₂.R.put k₂.N hd (by rw [I.d]; intro q; cases q) h2 notImm_dict notImm_dict ?_)) ((x₁.trans x₂).trans e₃) rfl
    exact ⟨_, _, rfl, (h3.mono e₃).put ((r₁.mono x₂).mono e₃)⟩
end
end Mine
end

section
namespace Mine
section
variable {c : Cx} {n : Nat} {fr : FrS} {ω : Wd} {H H₁ H₂ H₃ : Hp} {l l₁ l₂ : Loc} {x : Fx} {m : Str → Option Value} {s : Shared}
/-! items -/
noncomputable def vget {κ : Type} [DecidableEq κ] (es : List (κ × V)) (k : κ) : Option V := match es with
  | [] => none
  | (j, v) :: r => if j = k then some v else vget r k
noncomputable def vput {κ : Type} [DecidableEq κ] (es : List (κ × V)) (k : κ) (v : V) : List (κ × V) := match es with
  | [] => [(k, v)]
  | (j, u) :: r => if j = k then (j, v) :: r else (j, u) :: vput r k v
theorem RK.get {κ : Type} [DecidableEq κ] {ω : Wd} {k : κ} : ∀ {es : List (κ × V)} {rs : List (κ × Value)}, RK ω es rs → (∀ v, vget es k = some v → ∃ r, valueAt rs k = some r ∧ RV ω v r) ∧ (vget es k = none → valueAt rs k = none)
  | [], _, h => by have h : _ = [] := h; subst h; exact ⟨fun v e => (nomatch e), fun _ => rfl⟩
  | (j, u) :: es, _, ⟨r, rs', h1, h2, h3⟩ => by
    subst h1
    obtain ⟨i1, i2⟩ := RK.get (k := k) h3
    unfold vget valueAt
    by_cases q : j = k
    · simp only [q, if_true, List.find?_cons, decide_true]
      exact ⟨fun v e => ⟨r, rfl, by cases e; exact h2⟩, fun e => (nomatch e)⟩
    · simp only [if_neg q, List.find?_cons, decide_eq_false q]
      exact ⟨i1, i2⟩
theorem RK.keys {κ : Type} {ω : Wd} : ∀ {es : List (κ × V)} {rs : List (κ × Value)}, RK ω es rs → rs.map (·.1) = es.map (·.1)
  | [], _, h => by have h : _ = [] := h; subst h; rfl
  | (j, u) :: es, _, ⟨r, rs', h1, h2, h3⟩ => by subst h1; simp [RK.keys h3]
theorem stored_cons {κ : Type} [DecidableEq κ] {k : κ} {v : Value} {j : κ} {u : Value} {rs : List (κ × Value)} (nd : ((j, u) :: rs).map (·.1) |>.Nodup) :
    stored ((j, u) :: rs) k v = if j = k then (j, v) :: rs else (j, u) :: stored rs k v := by
  unfold stored
  by_cases q : j = k
  · subst q
    have hno : ∀ p ∈ rs, p.1 ≠ j := fun p hp e => by
      have := (List.nodup_cons.mp nd).1
      exact this (List.mem_map.mpr ⟨p, hp, e⟩)
    have hm : rs.map (fun kv => if kv.1 = j then (kv.1, v) else kv) = rs := by
      conv => rhs; rw [← List.map_id rs]
      exact List.map_congr_left fun p hp => if_neg (hno p hp)
    simp [hm]
  · simp only [List.any_cons, decide_eq_false q, Bool.false_or, if_neg q, List.map_cons]
    split <;> simp
theorem RK.put {κ : Type} [DecidableEq κ] {ω : Wd} {k : κ} {v : V} {r : Value} (hr : RV ω v r) : ∀ {es : List (κ × V)} {rs : List (κ × Value)}, (rs.map (·.1)).Nodup → RK ω es rs → RK ω (vput es k v) (stored rs k r)
  | [], _, _, h => by have h : _ = [] := h; subst h; exact ⟨r, [], rfl, hr, rfl⟩
  | (j, u) :: es, _, nd, ⟨r', rs', h1, h2, h3⟩ => by
    subst h1
    rw [stored_cons nd]
    unfold vput
    by_cases q : j = k
    · rw [if_pos q, if_pos q]; exact ⟨r, rs', rfl, hr, h3⟩
    · rw [if_neg q, if_neg q]; exact ⟨r', _, rfl, h2, RK.put hr (List.nodup_cons.mp nd).2 h3⟩
theorem RK.len {κ : Type} {ω : Wd} {es : List (κ × V)} {rs : List (κ × Value)} (h : RK ω es rs) : rs.length = es.length := by have := congrArg List.length h.keys; simpa using this
theorem ev_subs {o i : Expr} {pos : Pos} {a b v : V} (ho : Ev c n fr o H l a H₁) (hi : Ev c n fr i H₁ l b H₂) (hg : ∀ x ω ra rb, RV ω a ra → RV ω b rb → At c n fr x ω (subscriptTail o i ra rb) H₂ l (fun ω r => RV ω v r) H₃ l) :
    Ev c n fr (.Subscript o i pos) H l v H₃ :=
  fun x ω m s Q E k ret => Subscript_ (ho x ω m s _ _ k fun ra ω₁ m₁ h tk k₁ x₁ r₁ => hi x ω₁ m₁ _ _ _ k₁ fun rb ω₂ m₂ h' tk' k₂ x₂ r₂ => hg x ω₂ ra rb (r₁.mono x₂) r₂ m₂ _ _ _ k₂ fun rv ω₃ m₃ h'' tk'' k₃ x₃ r₃ =>
    ret rv ω₃ m₃ h'' tk'' k₃ ((x₁.trans x₂).trans x₃) r₃)
/-- the index is no slice -/
noncomputable def PlainIx (i : Expr) : Prop := ∀ o k, subscripted i false o k = operate [o, k] (getItem o k)
theorem seqIx {k n₀ : Nat} (h : k < n₀) : seqIndex? (k : Int) n₀ = some k := by
  unfold seqIndex?
  simp only [show ¬ ((k : Int) < 0) by lia, if_false]
  rw [if_pos (by simp only [Bool.and_eq_true, decide_eq_true_eq]; lia)]
  rfl
theorem getLt {α : Type} {xs : List α} {k : Nat} {v : α} (h : xs[k]? = some v) : k < xs.length := (List.getElem?_eq_some_iff.mp h).1
theorem lastAt {ω : Wd} {vs : List V} {v : V} {items : List Value} (hit : RVs ω (vs ++ [v]) items) : ∃ r, (List.toArray items)[((-1 : Int) + (List.toArray items).size).toNat]? = some r ∧ RV ω v r ∧ -((List.toArray items).size : Int) ≤ -1 := by
  obtain ⟨r, g1, g2⟩ := hit.get (k := vs.length) (v := v) (by simp)
  have hlen := hit.len
  rw [List.length_append, List.length_singleton] at hlen
  refine ⟨r, ?_, g2, by simp only [List.size_toArray]; lia⟩
  simp only [List.size_toArray, hlen]
  rw [show ((-1 : Int) + ((vs.length + 1 : Nat) : Int)).toNat = vs.length by lia]
  simpa using g1
@[elab_as_elim] theorem Ok.tup_e {P : Value → Prop} {vs : List V} {r : Value} (hr : RV ω (.tup vs) r) (g : ∀ b items, (b, tupObj items) ∈ ω.news → RVs ω vs items → P (.ref b)) : P r := by
  unfold RV at hr
  obtain ⟨b, items, rfl, hm, hit⟩ := hr
  exact g b items hm hit
/-! dicts, by the kind of their keys -/
structure DK (c : Cx) (κ : Type) [DecidableEq κ] where
  knd : PySem.KeyKind c.prog c.w κ
  key : κ → V
  obj : List (κ × V) → O
  is : ∀ {ω : Wd} {k : κ} {r : Value}, RV ω (key k) r → knd.is k r = true
  nj : ∀ es, obj es ≠ .junk
  ro : ∀ {ω : Wd} {a : Addr} {es : List (κ × V)} {ob : Obj}, RO c ω a (obj es) ob ↔ (a == sysModules) = false ∧ ob.cls = .type "dict" ∧ ∃ kvs, Obj.IsDictOf knd ob kvs ∧ RK ω es kvs
noncomputable abbrev dI (c : Cx) : DK c Int := ⟨PySem.intKind c.prog c.w, .int, .idict, fun h => RV.int_e h fun _ => PySem.intKind_is _ _ _ _, (fun _ q => by cases q), Iff.rfl⟩
noncomputable abbrev dS (c : Cx) : DK c Str := ⟨PySem.strKind c.prog c.w, .str, .sdict, fun h => RV.str_e h fun _ => PySem.strKind_is _ _ _ _, (fun _ q => by cases q), Iff.rfl⟩
variable {κ : Type} [DecidableEq κ]
theorem isDict_cls {knd : PySem.KeyKind c.prog c.w κ} {o : Obj} {kvs : List (κ × Value)} (d : Obj.IsDictOf knd o kvs) : o.cls = .type "dict" := let ⟨_, _, e, _⟩ := d; e.1
theorem isDict_nodup {knd : PySem.KeyKind c.prog c.w κ} {o : Obj} {kvs : List (κ × Value)} (d : Obj.IsDictOf knd o kvs) : (kvs.map (·.1)).Nodup := let ⟨_, _, _, _, _, _, e⟩ := d; e
theorem notImm_d {ob : Obj} (h : ob.cls = .type "dict") : ¬ Imm ob := notImm_cls h (by decide) (by decide)
@[elab_as_elim] theorem Ok.dict_e {P : Value → Prop} {D : DK c κ} {a : Nat} {es : List (κ × V)} {r : Value} (k : Ok c n fr ω H l x m s) (h : H.o a = D.obj es) (hr : RV ω (.obj a) r)
    (g : ∀ ob kvs, a < ω.n → (ω.ρ a, ob) ∈ ω.news → ob.cls = .type "dict" → (ω.ρ a == sysModules) = false → Obj.IsDictOf D.knd ob kvs → RK ω es kvs → P (.ref (ω.ρ a))) : P r := by
  unfold RV at hr
  obtain ⟨h1, rfl⟩ := hr
  obtain ⟨ob, h3, h4, h5⟩ := k.R.at_ a h1 (by rw [h]; exact D.nj es)
  rw [h, D.ro] at h5
  obtain ⟨lo, hc, kvs, h6, h7⟩ := h5
  exact g ob kvs h1 h3 hc lo h6 h7
theorem set_dict' (D : DK c κ) {a : Nat} {k : κ} {es : List (κ × V)} {v : V} (h : H.o a = D.obj es) (hz : es.length ≤ 1000) :
    ∀ x ω ra rb rv, RV ω (.obj a) ra → RV ω (D.key k) rb → RV ω v rv → At c n fr x ω (setItem ra rb rv) H l (fun _ _ => True) (H.set a (D.obj (vput es k v))) l :=
  fun x ω ra rb rv hr hb hv m s Q E k₀ ret => k₀.dict_e h hr fun ob kvs hn hm hc lo hd hk =>
    kda_set k₀.F (Mine.News.front k₀.N hm) (UpdF.head front_ne) hd (D.is hb) (by rw [hk.len, sizeLine_eq]; lia) fun h' o' F N d' =>
      have e := Wd.put_ext k₀.N hm (notImm_d hc) o'
      ret () _ m h' _ (k₀.at_ e F N (k₀.R.put k₀.N hn (h ▸ D.nj es) hm (notImm_d hc) (notImm_d (isDict_cls d')) (D.ro.mpr ⟨lo, isDict_cls d', _, d', RK.put (hv.mono e) (isDict_nodup hd) (hk.mono e)⟩))) e trivial
theorem ex_setitem {e o i : Expr} {ipos pos : Pos} {a b v : V} {H₄ : Hp} (hv : Ev c n fr e H l v H₁) (ho : Ev c n fr o H₁ l a H₂) (hi : Ev c n fr i H₂ l b H₃)
    (hs : ∀ x ω ra rb rv, RV ω a ra → RV ω b rb → RV ω v rv → At c n fr x ω (setItem ra rb rv) H₃ l (fun _ _ => True) H₄ l)
    (hw : ∀ env, swapsWith e (some (.Subscript o i ipos)) pos.line env = pure false := by intro _; rfl) : Ex c n fr (.Assign [.Subscript o i ipos] e pos) H l .next H₄ l :=
  fun x ω m s Q E k ret => wpAny_Assign_Subscript (hv x ω m s _ _ k fun rv ω₁ m₁ h tk k₁ x₁ r₁ => ho x ω₁ m₁ _ _ _ k₁ fun ra ω₂ m₂ h' tk' k₂ x₂ r₂ => hi x ω₂ m₂ _ _ _ k₂ fun rb ω₃ m₃ h'' tk'' k₃ x₃ r₃ =>
    hs x ω₃ ra rb rv (r₂.mono x₃) r₃ ((r₁.mono x₂).mono x₃) m₃ _ _ _ k₃ fun _ ω₄ m₄ h₃ tk₃ k₄ x₄ _ => ret _ ω₄ m₄ h₃ tk₃ k₄ (((x₁.trans x₂).trans x₃).trans x₄) rfl) (hw _)
theorem Ok.store (k : Ok c n fr ω H l x m s) {y : Str} {v : V} {r : Value} {h' : Heap} {tk : Nat} (hv : RV ω v r) (F : Fr x.h₀ x.L h' (fun z => if z = y then some r else m z)) (N : News x.h₀ x.L h' ω.news) :
    Ok c n fr ω H (l.set y v) x (fun z => if z = y then some r else m z) (Sh s h' tk) := by
  refine ⟨k.B, k.X, k.T, k.fk, k.hh, k.tp, k.hfr, k.hd, k.hu, F, N, k.R, fun z u hz => ?_, k.cl⟩
  unfold Loc.set at hz
  by_cases q : z = y
  · rw [if_pos q] at hz ⊢; cases hz; exact ⟨r, rfl, hv⟩
  · rw [if_neg q] at hz ⊢; exact k.l z u hz
theorem store_local {y : Str} {v : V} (hx : fr.scope.names.lookup y = some .local) : ∀ x ω r, RV ω v r → At c n fr x ω (storeName (x.env fr) y r) H l (fun _ _ => True) H (l.set y v) :=
  fun x ω r hr m s Q E k ret => storeX_L k.F k.N (fun h' F N => ret () ω _ h' _ (k.store hr F N) (Ext.refl _) trivial) k.fk hx
theorem ex_assign {y : Str} {e : Expr} {npos pos : Pos} {v : V} (h : Ev c n fr e H l v H₁) (hx : fr.scope.names.lookup y = some .local) (hw : ∀ env, swapsWith e (some (.Name y npos)) pos.line env = pure false := by intro _; rfl) :
    Ex c n fr (.Assign [.Name y npos] e pos) H l .next H₁ (l.set y v) :=
  fun x ω m s Q E k ret => wpAny_Assign_Name (h x ω m s _ _ k fun r ω₁ m₁ h' tk k₁ x₁ r₁ => store_local hx x ω₁ r r₁ m₁ _ _ _ k₁ fun _ ω₂ m₂ h'' tk' k₂ x₂ _ => ret _ ω₂ m₂ h'' tk' k₂ (x₁.trans x₂) rfl) (hw _)
/-! lists -/
theorem Ok.putList (k : Ok c n fr ω H l x m s) {a : Nat} {vs us : List V} {its : Array Value} {e e' : Nat} {items' : List Value} {h' : Heap} {tk : Nat} (hh : H.o a = .list us) (hn : a < ω.n) (hm : (ω.ρ a, W.listOf its e) ∈ ω.news)
    (F : Fr x.h₀ x.L h' m) (N : News x.h₀ x.L h' ((ω.ρ a, W.listOf (List.toArray items') e') :: ω.news.filter (fun p => decide (p.1 ≠ ω.ρ a)))) (r : RVs ω vs items')
    {R : Wd → Value → Prop} {Q : Value → Shared → Prop} {v : Value} (ret : ∀ (a_1 : Value) (ω' : Wd) (m' : Str → Option Value) (h' : Heap) (tk' : Nat), Ok c n fr ω' (H.set a (.list vs)) l x m' (Sh s h' tk') → Ext ω ω' → R ω' a_1 → Q a_1 (Sh s h' tk'))
    (hv : ∀ ω', Ext ω ω' → R ω' v) : Q v (Sh s h' tk) :=
  have x₁ := Wd.put_ext k.N hm notImm_list (W.listOf (List.toArray items') e')
  ret v _ m h' tk (k.at_ x₁ F N (k.R.put k.N hn (by rw [hh]; intro q; cases q) hm notImm_list notImm_list ⟨items', e', rfl, r.mono x₁⟩)) x₁ (hv _ x₁)
/-- a built-in's call, by its arguments' number -/
noncomputable abbrev Bi1 (c : Cx) (n : Nat) (fr : FrS) (t : String) (u : V) (H : Hp) (l : Loc) (v : V) (H' : Hp) : Prop :=
  ∀ x ω r, RV ω u r → At c n fr x ω (call (.builtin t) [r]) H l (fun ω r => RV ω v r) H' l
noncomputable abbrev Bi2 (c : Cx) (n : Nat) (fr : FrS) (t : String) (u u' : V) (H : Hp) (l : Loc) (v : V) (H' : Hp) : Prop :=
  ∀ x ω r r', RV ω u r → RV ω u' r' → At c n fr x ω (call (.builtin t) [r, r']) H l (fun ω r => RV ω v r) H' l
theorem bi_append {a : Nat} {vs : List V} {v : V} (h : H.o a = .list vs) (hz : vs.length ≤ 1000) : Bi2 c n fr "list.append" (.obj a) v H l .none (H.set a (.list (vs ++ [v]))) :=
  fun x ω r r2 h1 h2 m s Q E k ret => k.lst_e h h1 fun items e hn hm hit hl =>
    append_K k.F (Mine.News.front k.N hm) (Upd.head front_ne) (fun h' F N => k.putList (items' := items ++ [r2]) (tk := s.toks) h hn hm F (by rw [← List.push_toArray]; exact N) (hit.app (.one h2)) ret fun _ _ => RV.none)
      (by rw [List.size_toArray, hl, sizeLine_eq]; lia)
theorem kl_cut_app (y : Value) (q : List Value) : ∀ p : List Value, kl_cut (p ++ y :: q) p.length = some (p, y, q)
  | [] => rfl
  | x :: p => by
    show (match kl_cut (p ++ y :: q) p.length with | some (p', y', q') => some (x :: p', y', q') | none => none) = some (x :: p, y, q)
    rw [kl_cut_app y q p]
theorem RVs.cut {ω : Wd} {v : V} {us : List V} (vs : List V) : ∀ (rs : List Value), RVs ω (vs ++ v :: us) rs → ∃ ps r qs, rs = ps ++ r :: qs ∧ RVs ω vs ps ∧ RV ω v r ∧ RVs ω us qs := by
  induction vs with
  | nil =>
    intro rs h
    rw [List.nil_append] at h
    unfold RVs at h
    obtain ⟨r, qs, rfl, h1, h⟩ := h
    exact ⟨[], r, qs, rfl, .nil, h1, h⟩
  | cons u vs ih =>
    intro rs h
    rw [List.cons_append] at h
    unfold RVs at h
    obtain ⟨r, rs', rfl, h1, h⟩ := h
    obtain ⟨ps, r', qs, rfl, h2, h3⟩ := ih _ h
    exact ⟨r :: ps, r', qs, rfl, .cons h1 h2, h3⟩
theorem RVs.nil_e {ω : Wd} {rs : List Value} (h : RVs ω [] rs) : rs = [] := by unfold RVs at h; exact h
@[elab_as_elim] theorem RVs.cut_e {P : List Value → Prop} {v : V} {us vs : List V} {rs : List Value} (h : RVs ω (vs ++ v :: us) rs) (g : ∀ ps r qs, RVs ω vs ps → RV ω v r → RVs ω us qs → ps.length = vs.length → qs.length = us.length → P (ps ++ r :: qs)) : P rs := by
  obtain ⟨ps, r, qs, rfl, h1, h2, h3⟩ := RVs.cut vs rs h
  exact g ps r qs h1 h2 h3 h1.len h3.len
theorem bi_pop {a : Nat} {vs : List V} {v : V} (h : H.o a = .list (vs ++ [v])) (hz : vs.length ≤ 1000) : Bi1 c n fr "list.pop" (.obj a) H l v (H.set a (.list vs)) :=
  fun x ω r h1 m s Q E k ret => k.lst_e h h1 fun items e hn hm hit _ => by
    revert hm
    refine RVs.cut_e hit fun ps r qs h2 h3 h4 hl _ hm => ?_
    obtain rfl := h4.nil_e
    exact kl_pop k.F (Mine.News.front k.N hm) (kpa_last r ps) (Upd.head front_ne) (by rw [List.length_append, hl, List.length_singleton, sizeLine_eq]; lia) fun h' F N => k.putList (tk := s.toks) h hn hm F N h2 ret fun _ e => h3.mono e
theorem bi_popAt {a : Nat} {vs us : List V} {v : V} {k : Int} (h : H.o a = .list (vs ++ v :: us)) (hz : vs.length + us.length ≤ 1000) (hk : k = vs.length) : Bi2 c n fr "list.pop" (.obj a) (.int k) H l v (H.set a (.list (vs ++ us))) :=
  fun x ω r r' h1 h2 => RV.int_e h2 fun t m s Q E k₀ ret => k₀.lst_e h h1 fun items e hn hm hit _ => by
    revert hm
    refine RVs.cut_e hit fun ps r qs h2 h3 h4 hl hl' hm => ?_
    refine kl_popAt k₀.F (Mine.News.front k₀.N hm) (k := ps.length) ?_ ?_ (kl_cut_app r qs ps) (Upd.head front_ne) (by rw [List.length_append, List.length_cons, sizeLine_eq]; lia) fun h' F N => k₀.putList (tk := s.toks) h hn hm F N (h2.app h4) ret fun _ e => h3.mono e
    · unfold Builtin.List.listFitsIndex
      simp only [Bool.and_eq_true, decide_eq_true_eq]; lia
    · rw [hk, ← hl]
      exact seqIx (by rw [List.size_toArray, List.length_append, List.length_cons]; lia)
theorem bi_extend {a b : Nat} {vs us : List V} (h : H.o a = .list vs) (hb : H.o b = .list us) (hz : vs.length + us.length ≤ 1000) : Bi2 c n fr "list.extend" (.obj a) (.obj b) H l .none (H.set a (.list (vs ++ us))) :=
  fun x ω r r2 h1 h2 m s Q E k ret => k.lst_e h h1 fun items e hn hm hit hl => k.lst_e hb h2 fun items' e' hn' hm' hit' hl' => by
    have z := k.N _ hm
    refine call_meets PySem.F.slot_list_extend ⟨_, z.1, rfl⟩ PySem.F.entry_list_extend (PySem.F.args_list_extend_2 _ _) (PySem.AutoSeq1.list_extend_list_list_0 (ω.ρ a) (List.toArray items) e (ω.ρ b) (List.toArray items') e' ?_ ?_ ?_) ⟨z.1, (k.N _ hm').1, ?_⟩
    · unfold Builtin.List.listTooLong
      simp only [List.size_toArray, sizeLine_eq, Bool.and_eq_true, decide_eq_true_eq, not_and]
      intro _; lia
    · simp only [List.size_toArray, sizeLine_eq]; lia
    · simp only [List.size_toArray, sizeLine_eq]; lia
    · have x₁ := k.put (o := .list (vs ++ us)) (tk := s.toks) hn (by rw [h]; intro q; cases q) hm notImm_list notImm_list (Heap.SameBut.update ..) (PySem.IsL.update z.1 (fun x => x ++ List.toArray items')) ⟨items ++ items', _, by rw [List.append_toArray], (hit.app hit').mono (Wd.put_ext k.N hm notImm_list _)⟩
      exact ret _ _ m _ s.toks x₁.1 x₁.2 RV.none
theorem bi_len {a : Nat} {vs : List V} (h : H.o a = .list vs) (hz : vs.length ≤ 1000) : Bi1 c n fr "len" (.obj a) H l (.int vs.length) H :=
  fun x ω r h1 => At.now fun m s Q E k ret => k.lst_e h h1 fun items e hn hm hit hl =>
    PyProof.Rows.len_list (k.N.isList hm) (by rw [List.size_toArray]; lia) (ret _ _ (by rw [List.size_toArray, hl]; exact RV.iI))
theorem bi_get1 (D : DK c κ) {a : Nat} {es : List (κ × V)} {k : κ} {v : V} (h : H.o a = D.obj es) (hv : (vget es k).getD .none = v) : Bi2 c n fr "dict.get" (.obj a) (D.key k) H l v H :=
  fun x ω r r2 h1 h2 => At.now fun m s Q E k₀ ret => k₀.dict_e h h1 fun ob kvs hn hm hc lo hd hk =>
    kdg_get1 k₀.N hm hd lo (D.is h2) _ rfl (ret _ _ (by
      subst hv
      cases q : vget es k with
      | none => rw [hk.get.2 q]; exact RV.none
      | some u => obtain ⟨r, g1, g2⟩ := hk.get.1 _ q; rw [g1]; exact g2))
theorem bi_get2 (D : DK c κ) {a : Nat} {es : List (κ × V)} {k : κ} {v u : V} (h : H.o a = D.obj es) (hv : (vget es k).getD u = v) : ∀ x ω r r' r'', RV ω (.obj a) r → RV ω (D.key k) r' → RV ω u r'' → At c n fr x ω (call (.builtin "dict.get") [r, r', r'']) H l (fun ω r => RV ω v r) H l :=
  fun x ω r r2 r3 h1 h2 h3 => At.now fun m s Q E k₀ ret => k₀.dict_e h h1 fun ob kvs hn hm hc lo hd hk =>
    kdg_get2 k₀.N hm hd lo (D.is h2) _ rfl (ret _ _ (by
      subst hv
      cases q : vget es k with
      | none => rw [hk.get.2 q]; exact h3
      | some u => obtain ⟨r, g1, g2⟩ := hk.get.1 _ q; rw [g1]; exact g2))
end
end Mine
end

section
namespace Mine
section
variable {c : Cx} {n : Nat} {fr : FrS} {ω : Wd} {H H₁ H₂ H₃ : Hp} {l l₁ l₂ : Loc} {x : Fx} {m : Str → Option Value} {s : Shared}
/-- a def of the text, called: whatever frame it is called from -/
noncomputable def Fn (c : Cx) (n : Nat) (a : Addr) (vs : List V) (H : Hp) (v : V) (H' : Hp) : Prop :=
  ∀ fr l x ω rs m s (R : Result → Shared → Prop), fr.q = true → Ok c n fr ω H l x m s → RVs ω vs rs →
    (∀ rv ω' h' tk', Ok c n fr ω' H' l x m (Sh s h' tk') → Ext ω ω' → RV ω' v rv → R (.ok (.ret rv)) (Sh s h' tk')) → codeAny (model c.prog c.w) x.A (.call (.ref a) ⟨rs, []⟩) R s
theorem Fn.call {a : Addr} {vs : List V} {v : V} (f : Fn c n a vs H v H₁) (hq : fr.q = true) : ∀ x ω rs, RVs ω vs rs → At c n fr x ω (call (.ref a) rs) H l (fun ω r => RV ω v r) H₁ l :=
  fun x ω rs hrs m s Q E k ret => wpAny_call (f fr l x ω rs m s _ hq k hrs fun rv ω' h' tk' k' x' r' => ret rv ω' m h' tk' k' x' r')
/-- the parameters' values -/
noncomputable def bindV (names : List Str) (vs : List V) : Loc := fun y => (names.zip vs).reverse.lookup y
theorem bindV_ok {names : List Str} {vs : List V} {rs : List Value} (h : RVs ω vs rs) {y : Str} {v : V} : (names.zip vs).reverse.lookup y = some v → ∃ r, (names.zip rs).reverse.lookup y = some r ∧ RV ω v r := by
  suffices key : ∀ (names : List Str) (vs : List V) (rs : List Value), RVs ω vs rs → ∀ (as : List (Str × V)) (bs : List (Str × Value)), (∀ v, as.lookup y = some v → ∃ r, bs.lookup y = some r ∧ RV ω v r) → (as.lookup y = none → bs.lookup y = none) →
      (∀ v, ((names.zip vs).reverse ++ as).lookup y = some v → ∃ r, ((names.zip rs).reverse ++ bs).lookup y = some r ∧ RV ω v r) by
    intro q
    have := key names vs rs h [] [] (fun v e => (nomatch e)) (fun _ => rfl) v
    simp only [List.append_nil] at this
    exact this q
  intro names
  induction names with
  | nil => intro vs rs h as bs g1 g2; exact g1
  | cons z names ih =>
    intro vs rs h as bs g1 g2
    cases vs with
    | nil => have := h.nil_e; subst this; exact g1
    | cons u vs =>
      unfold RVs at h
      obtain ⟨r, rs', rfl, h1, h2⟩ := h
      simp only [List.zip_cons_cons, List.reverse_cons, List.append_assoc, List.singleton_append]
      refine ih vs rs' h2 _ _ (fun v q => ?_) fun q => ?_
      · rw [List.lookup_cons] at q ⊢
        cases e : (y == z) <;> rw [e] at q
        · exact g1 v q
        · cases q; exact ⟨r, rfl, h1⟩
      · rw [List.lookup_cons] at q ⊢
        cases e : (y == z) <;> rw [e] at q
        · exact g2 q
        · cases q
noncomputable def Fl.val : Fl → V
  | .ret v => v
  | _ => .none
noncomputable def flowV : Flow → Value
  | .ret v => v
  | _ => .none
theorem RFl.val {f : Fl} {r : Flow} (h : RFl ω f r) : RV ω f.val (flowV r) := by
  cases f with
  | ret v => obtain ⟨r, rfl, h⟩ := h; exact h
  | next => cases h; exact RV.none
  | brk => cases h; exact RV.none
  | cont => cases h; exact RV.none
theorem RV.objI {a : Nat} (h : a < ω.n) : RV ω (.obj a) (.ref (ω.ρ a)) := by unfold RV; exact ⟨h, rfl⟩
/-- what the written part says of a def -/
structure DefAt (K : Frag) (a : Addr) (params : Arguments) (body : List Stmt) (fr : FrS) (names : List Str) : Prop where
  at_ : ∃ oc od name dV kV doc pm an ct osl, K.lookup a = some ⟨oc, od, .func (fnOf name fr.qual params body fr.scope dV kV doc pm an fr.cdv ct), osl⟩ ∧
    ∀ rs, rs.length = names.length → bindArgs (fnOf name fr.qual params body fr.scope dV kV doc pm an fr.cdv ct) ⟨rs, []⟩ = pure (names.zip rs)
  f : fr.f = a
  cells : fr.cells = []
  q : fr.q = true
  cd : codeIn K fr.cdv fr.qual = true
  loc : ∀ y ∈ names, fr.scope.names.lookup y = some .local
  co : fr.scope.isCoroutine = false
  gen : fr.scope.isGenerator = false
  kind : fr.scope.kind = .function
  nocell : ∀ y ∈ fr.scope.names, y.2 ≠ .cell
  top : fr.top = false
/-- the callee's frame -/
theorem Ok.enter (k : Ok c (n + 1) fr ω H l x m s) (hq : fr.q = true) {fr' : FrS} {names : List Str} {vs : List V} {rs : List Value} {g h₁ : Heap} {L' : Addr} {tk : Nat} (hk : fr'.scope.kind = .function) (ht : fr'.top = false) (hc : fr'.cells = []) (hrs : RVs ω vs rs)
    (F : Fr g L' h₁ (fun y => (names.zip rs).reverse.lookup y)) (N : News g L' h₁ ω.news) (B : Below x.A x.base (x.env fr :: x.outer) g) (X : c.K.In g) (T : Top c.p c.loose c.mean c.mg c.mb g) :
    Ok c n fr' ω H (bindV names vs) { A := x.A.deeper (envX fr'.qual fr'.scope L' fr'.f fr'.cdv []), A₀ := x.A, base := x.base, h₀ := g, outer := x.env fr :: x.outer, cl := [], L := L' } (fun y => (names.zip rs).reverse.lookup y) (Sh s h₁ tk) :=
  ⟨B, X, T, hk, fun _ => k.hh hq, fun e => absurd (ht.symm.trans e) (by decide), by show x.A.frames.map _ = _; rw [k.hfr]; rfl, by have := k.hd; show x.A.depth + 1 + 4 * n + 4 < _; lia, by have := k.hu; show x.A.units + 3 + 16 * n + 16 < _; lia, F, N, k.R, fun y v e => bindV_ok hrs e, fun y i h => by rw [hc] at h; cases h⟩
theorem fn_def {a : Addr} {params : Arguments} {body : List Stmt} {fr' : FrS} {names : List Str} {vs : List V} {f : Fl} (D : DefAt c.K a params body fr' names) (hl : vs.length = names.length)
    (h : Exs c n fr' body H (bindV names vs) f H₁ l₁) : Fn c (n + 1) a vs H f.val H₁ := by
  intro fr l x ω rs m s R hq k hrs ret
  obtain ⟨oc, od, name, dV, kV, doc, pm, an, ct, osl, hK, hb⟩ := D.at_
  have hb := hb rs (hrs.len.trans hl)
  have ef := D.f
  subst ef
  refine code_def k.B k.F k.X k.N k.T k.hfr rfl k.fk hK D.cd (by have := k.hd; lia) (BindsTo.of_eq hb) (fun y hy => D.loc _ (List.of_mem_zip (a := y.1) (b := y.2) hy).1) (fun g L' h₁ FG F N B X T => ?_) D.co D.gen D.kind D.nocell
  refine h _ ω _ _ _ _ (k.enter hq (tk := s.toks + (names.zip rs).length) D.kind D.top D.cells hrs F N B X T) fun rf ω₁ m₁ h' tk' k₁ x₁ r₁ => ?_
  exact leaveK_ k₁.F k₁.N fun F' N' => ret (flowV rf) ω₁ h' tk' (k.at_ x₁ F' N' k₁.R) x₁ r₁.val
/-! calls as expressions -/
theorem ev_call_st {fe e : Expr} {es : List Expr} {pos : Pos} {a : Addr} {vs : List V} {v : V} (hf : Ev c n fr fe H l (.st a) H₁) (ha : Eas c n fr (e :: es) H₁ l vs H₂) (hk : keepIn c.K (.ref a) = true)
    (hc : ∀ x ω rs, RVs ω vs rs → At c n fr x ω (call (.ref a) rs) H₂ l (fun ω r => RV ω v r) H₃ l)
    (he : ∀ env, eval (.Call fe (e :: es) [] pos) env = (do callWith pos (← eval fe env) [] (backTo pos (starEach (e :: es) env)) (backToKw pos (keywordEach [] env))) := by intro _; rfl)
    (h1 : ∀ env, starEach (e :: es) env = (false, eval e env) :: starEach es env := by intro _; rfl) (h2 : ∀ env, (backTo pos (starEach es env)).any (·.1) = false := by intro _; rfl) :
    Ev c n fr (.Call fe (e :: es) [] pos) H l v H₃ :=
  fun x ω m s Q E k ret => Call_ (hf x ω m s _ _ k fun rf ω₁ m₁ h' tk k₁ x₁ r₁ => by
    unfold RV at r₁
    subst r₁
    exact callWith_K k₁.X hk (ha pos x ω₁ m₁ _ _ _ k₁ fun rs ω₂ m₂ h'' tk' k₂ x₂ r₂ => ⟨k₂.X.keeps k₂.F.keep, hc x ω₂ rs r₂ m₂ _ _ _ k₂ fun rv ω₃ m₃ h₃ tk₃ k₃ x₃ r₃ => ret rv ω₃ m₃ h₃ tk₃ k₃ ((x₁.trans x₂).trans x₃) r₃⟩) (h1 _) (h2 _)) (he _)
theorem ev_call_st0 {fe : Expr} {pos : Pos} {a : Addr} {v : V} (hf : Ev c n fr fe H l (.st a) H₁) (hk : keepIn c.K (.ref a) = true)
    (hc : ∀ x ω, At c n fr x ω (call (.ref a) []) H₁ l (fun ω r => RV ω v r) H₂ l)
    (he : ∀ env, eval (.Call fe [] [] pos) env = (do callWith pos (← eval fe env) [] (backTo pos (starEach [] env)) (backToKw pos (keywordEach [] env))) := by intro _; rfl) :
    Ev c n fr (.Call fe [] [] pos) H l v H₂ :=
  fun x ω m s Q E k ret => Call_ (hf x ω m s _ _ k fun rf ω₁ m₁ h' tk k₁ x₁ r₁ => by
    unfold RV at r₁
    subst r₁
    exact callWith_K0 (k₁.X.keeps k₁.F.keep) hk (hc x ω₁ m₁ _ _ _ k₁ fun rv ω₃ m₃ h₃ tk₃ k₃ x₃ r₃ => ret rv ω₃ m₃ h₃ tk₃ k₃ (x₁.trans x₃) r₃)) (he _)
theorem ev_call_bi1 {fe e : Expr} {pos : Pos} {t : String} {u v : V} (hf : Ev c n fr fe H l (.bi t) H₁) (ha : Ev c n fr e H₁ l u H₂) (hc : Bi1 c n fr t u H₂ l v H₃)
    (he : ∀ env, eval (.Call fe [e] [] pos) env = (do callWith pos (← eval fe env) [] (backTo pos (starEach [e] env)) (backToKw pos (keywordEach [] env))) := by intro _; rfl)
    (h1 : ∀ env, starEach [e] env = (false, eval e env) :: starEach [] env := by intro _; rfl) (h2 : ∀ env, (backTo pos (starEach [] env)).any (·.1) = false := by intro _; rfl) :
    Ev c n fr (.Call fe [e] [] pos) H l v H₃ :=
  fun x ω m s Q E k ret => Call_ (hf x ω m s _ _ k fun rf ω₁ m₁ h' tk k₁ x₁ r₁ => by
    unfold RV at r₁
    subst r₁
    exact PyProof.Rows.callWith_builtin1 (args_cons (ha x ω₁ m₁ _ _ _ k₁ fun r ω₂ m₂ h'' tk' k₂ x₂ r₂ => args_nil (hc x ω₂ r r₂ m₂ _ _ _ k₂ fun rv ω₃ m₃ h₃ tk₃ k₃ x₃ r₃ => ret rv ω₃ m₃ h₃ tk₃ k₃ ((x₁.trans x₂).trans x₃) r₃)) (h1 _)) (h1 _) (h2 _)) (he _)
theorem ev_call_bi2 {fe e e' : Expr} {pos : Pos} {t : String} {u u' v : V} {H₄ : Hp} (hf : Ev c n fr fe H l (.bi t) H₁) (ha : Ev c n fr e H₁ l u H₂) (ha' : Ev c n fr e' H₂ l u' H₃) (hc : Bi2 c n fr t u u' H₃ l v H₄)
    (he : ∀ env, eval (.Call fe [e, e'] [] pos) env = (do callWith pos (← eval fe env) [] (backTo pos (starEach [e, e'] env)) (backToKw pos (keywordEach [] env))) := by intro _; rfl)
    (h1 : ∀ env, starEach [e, e'] env = (false, eval e env) :: starEach [e'] env := by intro _; rfl) (h1' : ∀ env, starEach [e'] env = (false, eval e' env) :: starEach [] env := by intro _; rfl) (h2 : ∀ env, (backTo pos (starEach [e'] env)).any (·.1) = false := by intro _; rfl) :
    Ev c n fr (.Call fe [e, e'] [] pos) H l v H₄ :=
  fun x ω m s Q E k ret => Call_ (hf x ω m s _ _ k fun rf ω₁ m₁ h' tk k₁ x₁ r₁ => by
    unfold RV at r₁
    subst r₁
    exact PyProof.Rows.callWith_builtin1 (args_cons (ha x ω₁ m₁ _ _ _ k₁ fun r ω₂ m₂ h'' tk' k₂ x₂ r₂ => args_cons (ha' x ω₂ m₂ _ _ _ k₂ fun r' ω₃ m₃ h₃ tk₃ k₃ x₃ r₃ => args_nil (hc x ω₃ r r' (r₂.mono x₃) r₃ m₃ _ _ _ k₃ fun rv ω₄ m₄ h₄ tk₄ k₄ x₄ r₄ =>
      ret rv ω₄ m₄ h₄ tk₄ k₄ (((x₁.trans x₂).trans x₃).trans x₄) r₄)) (h1' _)) (h1 _)) (h1 _) (h2 _)) (he _)
/-! methods -/
/-- a method's call, as the machine spells it -/
noncomputable def MethCall (o : Expr) (name : Str) (apos pos : Pos) (es : List Expr) (pl : Env → Sem Bool) : Prop :=
  ∀ env, eval (.Call (.Attribute o name apos) es [] pos) env = (do
      let ov ← eval o env
      standAt apos.atName
      let (f, first) ← holding [ov] (getMethod ov name (pl env))
      callWith pos f first (backTo pos (starEach es env)) [])
theorem ev_meth {o e : Expr} {es : List Expr} {name : Str} {apos pos : Pos} {pl : Env → Sem Bool} {i d : Nat} {C f : Addr} {fs : List (Str × V)} {vs : List V} {v : V} (ho : Ev c n fr o H l (.obj i) H₁) (I : Inst H₁ i C d fs) (hno : fget fs name = none)
    (hg : plainGet c.K C name = true) (hf : findIn c.K (.ref C) name = some (some (.ref f))) (ht : isFn c.K (.ref f) = true) (hk : keepIn c.K (.ref f) = true)
    (ha : Eas c n fr (e :: es) H₁ l vs H₂) (hc : ∀ x ω rs, RVs ω (.obj i :: vs) rs → At c n fr x ω (call (.ref f) rs) H₂ l (fun ω r => RV ω v r) H₃ l)
    (he : MethCall o name apos pos (e :: es) pl := by intro _; rfl)
    (h1 : ∀ env, starEach (e :: es) env = (false, eval e env) :: starEach es env := by intro _; rfl) (h2 : ∀ env, (backTo pos (starEach es env)).any (·.1) = false := by intro _; rfl) :
    Ev c n fr (.Call (.Attribute o name apos) (e :: es) [] pos) H l v H₃ :=
  fun x ω m s Q E k ret => MethodCall_ (ho x ω m s _ _ k fun ro ω₁ m₁ h' tk k₁ x₁ r₁ => by
    have hr := r₁
    obtain ⟨rfl, hn, hd, es', e', g1, g2, g3⟩ := k₁.inst r₁ I
    exact method_inst k₁.F k₁.X (k₁.instAt g1 g2) hg hf ht (g3.get.2.1 hno) (callWith_K k₁.X hk (ha pos x ω₁ m₁ _ _ _ k₁ fun rs ω₂ m₂ h'' tk' k₂ x₂ r₂ => ⟨k₂.X.keeps k₂.F.keep, hc x ω₂ _ (.cons (RV.mono x₂ hr) r₂) m₂ _ _ _ k₂ fun rv ω₃ m₃ h₃ tk₃ k₃ x₃ r₃ =>
      ret rv ω₃ m₃ h₃ tk₃ k₃ ((x₁.trans x₂).trans x₃) r₃⟩) (h1 _) (h2 _))) (he _)
theorem ev_meth0 {o : Expr} {name : Str} {apos pos : Pos} {pl : Env → Sem Bool} {i d : Nat} {C f : Addr} {fs : List (Str × V)} {v : V} (ho : Ev c n fr o H l (.obj i) H₁) (I : Inst H₁ i C d fs) (hno : fget fs name = none)
    (hg : plainGet c.K C name = true) (hf : findIn c.K (.ref C) name = some (some (.ref f))) (ht : isFn c.K (.ref f) = true) (hk : keepIn c.K (.ref f) = true)
    (hc : ∀ x ω rs, RVs ω [.obj i] rs → At c n fr x ω (call (.ref f) rs) H₁ l (fun ω r => RV ω v r) H₂ l)
    (he : MethCall o name apos pos [] pl := by intro _; rfl) :
    Ev c n fr (.Call (.Attribute o name apos) [] [] pos) H l v H₂ :=
  fun x ω m s Q E k ret => MethodCall_ (ho x ω m s _ _ k fun ro ω₁ m₁ h' tk k₁ x₁ r₁ => by
    have hr := r₁
    obtain ⟨rfl, hn, hd, es', e', g1, g2, g3⟩ := k₁.inst r₁ I
    exact method_inst k₁.F k₁.X (k₁.instAt g1 g2) hg hf ht (g3.get.2.1 hno) (callWith_K0 (k₁.X.keeps k₁.F.keep) hk (hc x ω₁ _ (.one hr) m₁ _ _ _ k₁ fun rv ω₃ m₃ h₃ tk₃ k₃ x₃ r₃ => ret rv ω₃ m₃ h₃ tk₃ k₃ (x₁.trans x₃) r₃))) (he _)
/-- a built-in's method: the object's kind hands it on -/
noncomputable abbrev Gm (c : Cx) (n : Nat) (fr : FrS) (u : V) (name : Str) (t : String) (H : Hp) (l : Loc) : Prop :=
  ∀ x ω r pl, RV ω u r → At c n fr x ω (getMethod r name pl) H l (fun ω z => ∃ r', z = (.builtin t, [r']) ∧ RV ω u r') H l
theorem gm_list {a : Nat} {vs : List V} {name : Str} {t : String} (h : H.o a = .list vs) (slot : Slot "list" name t) (hty : typeOf (.builtin t) = pure (.type "method_descriptor")) : Gm c n fr (.obj a) name t H l :=
  fun x ω r pl h1 => At.now fun m s Q E k ret => k.lst_e h h1 fun items e hn hm hit hl => kl_method k.N hm slot hty (ret _ s.toks ⟨_, rfl, RV.objI hn⟩)
theorem gm_get {κ : Type} [DecidableEq κ] (D : DK c κ) {a : Nat} {es : List (κ × V)} (h : H.o a = D.obj es) : Gm c n fr (.obj a) "get" "dict.get" H l :=
  fun x ω r pl h1 => At.now fun m s Q E k ret => k.dict_e h h1 fun ob kvs hn hm hc lo hd hk => kdg_method k.N hm hd (ret _ s.toks ⟨_, rfl, RV.objI hn⟩)
theorem ev_bm0 {o : Expr} {name : Str} {apos pos : Pos} {pl : Env → Sem Bool} {t : String} {u v : V} (ho : Ev c n fr o H l u H₁) (hg : Gm c n fr u name t H₁ l) (hc : Bi1 c n fr t u H₁ l v H₂)
    (he : MethCall o name apos pos [] pl := by intro _; rfl) : Ev c n fr (.Call (.Attribute o name apos) [] [] pos) H l v H₂ :=
  fun x ω m s Q E k ret => MethodCall_ (ho x ω m s _ _ k fun ro ω₁ m₁ h' tk k₁ x₁ r₁ => hg x ω₁ ro _ r₁ m₁ _ _ _ k₁ fun z ω₂ m₂ h'' tk' k₂ x₂ r₂ => by
    obtain ⟨ro, rfl, r₂⟩ := r₂
    exact callWith_method0 (hc x ω₂ ro r₂ m₂ _ _ _ k₂ fun rv ω₃ m₃ h₃ tk₃ k₃ x₃ r₃ => ret rv ω₃ m₃ h₃ tk₃ k₃ ((x₁.trans x₂).trans x₃) r₃)) (he _)
theorem ev_bm1 {o e : Expr} {name : Str} {apos pos : Pos} {pl : Env → Sem Bool} {t : String} {u u' v : V} (ho : Ev c n fr o H l u H₁) (hg : Gm c n fr u name t H₁ l) (ha : Ev c n fr e H₁ l u' H₂) (hc : Bi2 c n fr t u u' H₂ l v H₃)
    (he : MethCall o name apos pos [e] pl := by intro _; rfl) (h1 : ∀ env, starEach [e] env = (false, eval e env) :: starEach [] env := by intro _; rfl) (h2 : ∀ env, (backTo pos (starEach [] env)).any (·.1) = false := by intro _; rfl) :
    Ev c n fr (.Call (.Attribute o name apos) [e] [] pos) H l v H₃ :=
  fun x ω m s Q E k ret => MethodCall_ (ho x ω m s _ _ k fun ro ω₁ m₁ h' tk k₁ x₁ r₁ => hg x ω₁ ro _ r₁ m₁ _ _ _ k₁ fun z ω₂ m₂ h'' tk' k₂ x₂ r₂ => by
    obtain ⟨ro, rfl, r₂⟩ := r₂
    exact callWith_method1 (args_cons (ha x ω₂ m₂ _ _ _ k₂ fun r ω₃ m₃ h₃ tk₃ k₃ x₃ r₃ => args_nil (hc x ω₃ ro r (r₂.mono x₃) r₃ m₃ _ _ _ k₃ fun rv ω₄ m₄ h₄ tk₄ k₄ x₄ r₄ =>
      ret rv ω₄ m₄ h₄ tk₄ k₄ (((x₁.trans x₂).trans x₃).trans x₄) r₄)) (h1 _)) (h1 _) (h2 _)) (he _)
theorem ev_bm2 {o e e' : Expr} {name : Str} {apos pos : Pos} {pl : Env → Sem Bool} {t : String} {u u' u'' v : V} {H₄ : Hp} (ho : Ev c n fr o H l u H₁) (hg : Gm c n fr u name t H₁ l) (ha : Ev c n fr e H₁ l u' H₂) (ha' : Ev c n fr e' H₂ l u'' H₃)
    (hc : ∀ x ω r r' r'', RV ω u r → RV ω u' r' → RV ω u'' r'' → At c n fr x ω (call (.builtin t) [r, r', r'']) H₃ l (fun ω r => RV ω v r) H₄ l)
    (he : MethCall o name apos pos [e, e'] pl := by intro _; rfl) (h1 : ∀ env, starEach [e, e'] env = (false, eval e env) :: starEach [e'] env := by intro _; rfl) (h1' : ∀ env, starEach [e'] env = (false, eval e' env) :: starEach [] env := by intro _; rfl)
    (h2 : ∀ env, (backTo pos (starEach [e'] env)).any (·.1) = false := by intro _; rfl) :
    Ev c n fr (.Call (.Attribute o name apos) [e, e'] [] pos) H l v H₄ :=
  fun x ω m s Q E k ret => MethodCall_ (ho x ω m s _ _ k fun ro ω₁ m₁ h' tk k₁ x₁ r₁ => hg x ω₁ ro _ r₁ m₁ _ _ _ k₁ fun z ω₂ m₂ h'' tk' k₂ x₂ r₂ => by
    obtain ⟨ro, rfl, r₂⟩ := r₂
    exact callWith_method1 (args_cons (ha x ω₂ m₂ _ _ _ k₂ fun r ω₃ m₃ h₃ tk₃ k₃ x₃ r₃ => args_cons (ha' x ω₃ m₃ _ _ _ k₃ fun r' ω₄ m₄ h₄ tk₄ k₄ x₄ r₄ => args_nil (hc x ω₄ ro r r' ((r₂.mono x₃).mono x₄) (r₃.mono x₄) r₄ m₄ _ _ _ k₄ fun rv ω₅ m₅ h₅ tk₅ k₅ x₅ r₅ =>
      ret rv ω₅ m₅ h₅ tk₅ k₅ ((((x₁.trans x₂).trans x₃).trans x₄).trans x₅) r₅)) (h1' _)) (h1 _)) (h1 _) (h2 _)) (he _)
theorem ex_expr {e : Expr} {pos : Pos} {v : V} (h : Ev c n fr e H l v H₁) (hw : ∀ env, swapsWith e none pos.line env = pure false := by intro _; rfl) : Ex c n fr (.Expr e pos) H l .next H₁ l :=
  fun x ω m s Q E k ret => wpAny_Expr_any (h x ω m s _ _ k fun r ω₁ m₁ h' tk k₁ x₁ r₁ => ret _ ω₁ m₁ h' tk k₁ x₁ rfl) (by unfold interactive; rw [show (x.env fr).scope.kind = .function from k.fk]; rfl) (hw _)
/-! making an object -/
theorem fn_init {C fI : Addr} {vs : List V} (hm : makesIn c.K C = true) (hi : findIn c.K (.ref C) "__init__" = some (some (.ref fI))) (hf : isFn c.K (.ref fI) = true) (hq : fr.q = true)
    (h : Fn c n fI (.obj (H.n + 1) :: vs) ((H.new (.attrs [])).new (.inst C H.n)) .none H₁) :
    ∀ x ω rs, RVs ω vs rs → At c (n + 1) fr x ω (call (.ref C) rs) H l (fun ω r => RV ω (.obj (H.n + 1)) r) H₁ l := by
  intro x ω rs hrs m s Q E k ret
  refine call_cls k.F k.X k.N hm hi hf fun xa dx h' F N lt ltd => ?_
  have R1 : Rel c (ω.add dx (dictOf [] 0)) (H.new (.attrs [])) := k.R.add lt notImm_dict ⟨[], 0, rfl, rfl⟩
  have nn := k.R.n
  have R2 : Rel c ((ω.add dx (dictOf [] 0)).add xa (instObj C dx)) ((H.new (.attrs [])).new (.inst C H.n)) := R1.add (fun p hp => by
    rcases List.mem_cons.mp hp with rfl | hp
    · exact ltd
    · exact Nat.lt_trans (lt p hp) ltd) notImm_inst ⟨by show H.n < ω.n + 1 + 1; lia, by
      rw [Wd.add_old _ _ _ (by show H.n ≠ ω.n + 1; lia), nn, Wd.add_here]⟩
  have e : Ext ω ((ω.add dx (dictOf [] 0)).add xa (instObj C dx)) := (Wd.add_ext ..).trans (Wd.add_ext ..)
  have k' : Ok c (n + 1) fr ((ω.add dx (dictOf [] 0)).add xa (instObj C dx)) ((H.new (.attrs [])).new (.inst C H.n)) l x m (Sh s h' s.toks) := k.at_ e F N R2
  have hx : RV ((ω.add dx (dictOf [] 0)).add xa (instObj C dx)) (.obj (H.n + 1)) (.ref xa) := by
    unfold RV
    refine ⟨by show H.n + 1 < ω.n + 1 + 1; lia, ?_⟩
    rw [show H.n + 1 = (ω.add dx (dictOf [] 0)).n from by show H.n + 1 = ω.n + 1; lia, Wd.add_here]
  refine h fr l { x with A := x.A.under (.builtin "type.__call__" ⟨.ref C :: rs, []⟩) } _ _ m (Sh s h' s.toks) _ hq ?_ (.cons hx (RVs.mono e hrs)) fun rv ω' h'' tk' k₁ x₁ r₁ => ?_
  · exact ⟨k'.B, k'.X, k'.T, k'.fk, k'.hh, k'.tp, by have := k'.hfr; exact this, by have := k'.hd; show x.A.depth + 1 + 4 * n + 4 < _; lia, by have := k'.hu; show x.A.units + 1 + 16 * n + 16 < _; lia, k'.F, k'.N, k'.R, k'.l, k'.cl⟩
  · unfold RV at r₁
    exact ⟨r₁, ret _ ω' m h'' tk' (k'.at_ x₁ k₁.F k₁.N k₁.R) (e.trans x₁) (RV.mono x₁ hx)⟩
end
end Mine
end

section
namespace Mine
section
variable {c : Cx} {n : Nat} {fr : FrS} {ω : Wd} {H H₁ H₂ H₃ : Hp} {l l₁ l₂ l₃ : Loc} {x : Fx} {m : Str → Option Value} {s : Shared}
/-! o[::-1] -/
theorem ev_rev {o e : Expr} {spos pos : Pos} {a : Nat} {vs : List V} (ho : Ev c n fr o H l (.obj a) H₁) (h : H₁.o a = .list vs) (hz : vs.length ≤ 1000) (he : Ev c n fr e H₁ l (.int (-1)) H₁)
    (hs : ∀ p q, ∃ ops, subscripted (.Slice none none (some e) spos) false (.ref p) (.ref q) = operate ops (getItem (.ref p) (.ref q)) := by intro _ _; exact ⟨_, rfl⟩) :
    Ev c n fr (.Subscript o (.Slice none none (some e) spos) pos) H l (.obj H₁.n) (H₁.new (.list vs.reverse)) :=
  fun x ω m s Q E k ret => Subscript_ (ho x ω m s _ _ k fun ra ω₁ m₁ h₁ tk k₁ x₁ r₁ => wpAny_Slice (PySem.evalPart_none_step (PySem.evalPart_none_step (PySem.evalPart_some_step (he x ω₁ m₁ _ _ _ k₁ fun re ω₂ m₂ h₂ tk₂ k₂ x₂ r₂ => by
    refine k₂.lst_e h (r₁.mono x₂) fun items ep hn hm hit hl => ?_
    refine RV.int_e r₂ fun t => ?_
    obtain ⟨ops, hs⟩ := hs (ω₂.ρ a) h₂.objs.size
    have hL := k₂.N.isList hm
    refine tail_any (Heap.IsList.typeIs (hL.push _)) slot_list_getitem.lookup (wpAny_getItem_list_slice (hL.push _) (Heap.IsSliceOf.new ..) .none .none (.int (-1) t) (by decide) ?_ (by rw [List.size_toArray, hl, sizeLine_eq]; lia)) hs
    rw [krv_pick]
    have F := (k₂.F.push { cls := .type "slice", data := .fields #[.none, .none, .int (-1) t] }).push (W.listOf (List.toArray items.reverse) 0)
    have N := News.push (k₂.F.push { cls := .type "slice", data := .fields #[.none, .none, .int (-1) t] }) (k₂.N.grown fun _ _ e => Heap.get?_push_of_some { cls := .type "slice", data := .fields #[.none, .none, .int (-1) t] } e) (W.listOf (List.toArray items.reverse) 0)
    obtain ⟨k₃, x₃, r₃⟩ := k₂.add (o := .list vs.reverse) (tk := tk₂) F N (fun p hp => by rw [Heap.size_push]; exact Nat.lt_succ_of_lt (Heap.lt_size (k₂.N p hp).1)) notImm_list ⟨items.reverse, 0, rfl, (RVs.rev hit).mono (Wd.add_ext ..)⟩
    exact ret _ _ m₂ _ tk₂ k₃ ((x₁.trans x₂).trans x₃) r₃)))))
where RVs.rev {ω : Wd} : ∀ {vs : List V} {rs : List Value}, RVs ω vs rs → RVs ω vs.reverse rs.reverse
  | [], _, h => by rw [h.nil_e]; exact .nil
  | v :: vs, _, h => by
    unfold RVs at h
    obtain ⟨r, rs', rfl, h1, h2⟩ := h
    rw [List.reverse_cons, List.reverse_cons]
    exact (RVs.rev h2).app (.one h1)
/-! targets -/
noncomputable abbrev As (c : Cx) (n : Nat) (fr : FrS) (t : Expr) (v : V) (H : Hp) (l : Loc) (H' : Hp) (l' : Loc) : Prop :=
  ∀ x ω r, RV ω v r → At c n fr x ω (assign t (x.env fr) r) H l (fun _ _ => True) H' l'
theorem as_name {y : Str} {pos : Pos} {v : V} (hx : fr.scope.names.lookup y = some .local) : As c n fr (.Name y pos) v H l H (l.set y v) :=
  fun x ω r hr m s Q E k ret => PyProof.Rows.assign_Name (store_local hx x ω r hr m s _ _ k ret)
theorem as_sub {o i : Expr} {pos : Pos} {a b v : V} (ho : Ev c n fr o H l a H₁) (hi : Ev c n fr i H₁ l b H₂)
    (hs : ∀ x ω ra rb rv, RV ω a ra → RV ω b rb → RV ω v rv → At c n fr x ω (setItem ra rb rv) H₂ l (fun _ _ => True) H₃ l) : As c n fr (.Subscript o i pos) v H l H₃ l :=
  fun x ω r hr m s Q E k ret => by
    rw [PySem.assign_Subscript]
    exact wpAny_bind (wpAny_holding (ho x ω m s _ _ k fun ra ω₁ m₁ h₁ tk₁ k₁ x₁ r₁ => wpAny_bind (wpAny_holding (hi x ω₁ m₁ _ _ _ k₁ fun rb ω₂ m₂ h₂ tk₂ k₂ x₂ r₂ => wpAny_bind (wpAny_standAt (wpAny_bind (wpAny_holding
      (hs x ω₂ ra rb r (r₁.mono x₂) r₂ ((hr.mono x₁).mono x₂) m₂ _ _ _ k₂ fun _ ω₃ m₃ h₃ tk₃ k₃ x₃ _ => wpAny_release' (ret () ω₃ m₃ h₃ tk₃ k₃ ((x₁.trans x₂).trans x₃) trivial)))))))))
noncomputable def AsL (c : Cx) (n : Nat) (fr : FrS) (ts : List Expr) (vs : List V) (H : Hp) (l : Loc) (H' : Hp) (l' : Loc) : Prop :=
  (∀ env, (assignEach ts env).length = vs.length ∧ (assignEach ts env).findIdx? (·.1) = none) ∧
    ∀ x ω rs, RVs ω vs rs → At c n fr x ω (assignInOrder ((assignEach ts (x.env fr)).map (·.2)) rs) H l (fun _ _ => True) H' l'
theorem asl_nil : AsL c n fr [] [] H l H l :=
  ⟨fun _ => ⟨rfl, rfl⟩, fun x ω rs hrs => At.now fun m s Q E k ret => assignInOrder_nil (ret () s.toks trivial)⟩
theorem asl_cons {t : Expr} {ts : List Expr} {v : V} {vs : List V} (h : As c n fr t v H l H₁ l₁) (hs : AsL c n fr ts vs H₁ l₁ H₂ l₂) (ht : ∀ env, assignEach (t :: ts) env = (false, assign t env) :: assignEach ts env := by intro _; rfl) : AsL c n fr (t :: ts) (v :: vs) H l H₂ l₂ :=
  ⟨fun env => by
    obtain ⟨a, b⟩ := hs.1 env
    rw [ht]
    exact ⟨congrArg (· + 1) a, by rw [List.findIdx?_cons, b]; rfl⟩, fun x ω rs hrs m s Q E k ret => by
    unfold RVs at hrs
    obtain ⟨r, rs', rfl, h1, h2⟩ := hrs
    rw [ht]
    exact assignInOrder_cons (h x ω r h1 m s _ _ k fun _ ω₁ m₁ h' tk k₁ x₁ _ => hs.2 x ω₁ rs' (h2.mono x₁) m₁ _ _ _ k₁ fun _ ω₂ m₂ h'' tk' k₂ x₂ _ => ret () ω₂ m₂ h'' tk' k₂ (x₁.trans x₂) trivial)⟩
theorem as_tup {ts : List Expr} {k₀ : Nat} {pos : Pos} {vs : List V} (hs : AsL c n fr ts vs H l H₁ l₁) (hq : fr.q = true) : As c n fr (.Tuple ts k₀ pos) (.tup vs) H l H₁ l₁ :=
  fun x ω r hr m s Q E k ret => Ok.tup_e hr fun b items hm hit => by
    refine assign_Tuple_tuple (k.hh hq) (k.N.isTup hm) (by rw [(hs.1 _).1, List.size_toArray, hit.len]) (hs.1 _).2 fun h' hx => ?_
    have k' : Ok c n fr ω H l x m (Sh s h' s.toks) := k.at_ (Ext.refl ω) (k.F.extBut hx (Nat.le_refl _)) (k.N.extBut hx (Nat.le_refl _)) k.R
    exact hs.2 x ω items hit m _ _ _ k' fun _ ω₁ m₁ h₁ tk₁ k₁ x₁ _ => ret () ω₁ m₁ h₁ tk₁ k₁ x₁ trivial
theorem ex_assign_tup {ts : List Expr} {k₀ : Nat} {tpos pos : Pos} {e : Expr} {vs : List V} (h : Ev c n fr e H l (.tup vs) H₁) (hs : AsL c n fr ts vs H₁ l H₂ l₁) (hq : fr.q = true)
    (h1 : ∀ env, swapsWithSole [.Tuple ts k₀ tpos] e pos.line env = pure false := by intro _; rfl) (h2 : ∀ x : Fx, swappedStores [.Tuple ts k₀ tpos] e (x.env fr) = pure none := by intro _; rfl) :
    Ex c n fr (.Assign [.Tuple ts k₀ tpos] e pos) H l .next H₂ l₁ :=
  fun x ω m s Q E k ret => Assign_Tuple (h x ω m s _ _ k fun r ω₁ m₁ h' tk k₁ x₁ r₁ => as_tup hs hq x ω₁ r r₁ m₁ _ _ _ k₁ fun _ ω₂ m₂ h'' tk' k₂ x₂ _ => ret _ ω₂ m₂ h'' tk' k₂ (x₁.trans x₂) rfl) (h1 _) (h2 x)
/-- a, b = (u, v): b is stored first -/
theorem ex_swap {y z : Str} {ts : List Expr} {k₀ : Nat} {tpos pos : Pos} {e : Expr} {u v : V} (h : Ev c n fr e H l (.tup [u, v]) H₁) (hy : fr.scope.names.lookup y = some .local) (hz : fr.scope.names.lookup z = some .local) (hq : fr.q = true)
    (h2 : ∀ x : Fx, swappedStores [.Tuple ts k₀ tpos] e (x.env fr) = pure (some [y, z]) := by intro _; rfl) (h1 : ∀ env, swapsWithSole [.Tuple ts k₀ tpos] e pos.line env = pure false := by intro _; rfl) :
    Ex c n fr (.Assign [.Tuple ts k₀ tpos] e pos) H l .next H₁ ((l.set z v).set y u) :=
  fun x ω m s Q E k ret => Assign_Tuple_swapped (h x ω m s _ _ k fun r ω₁ m₁ h' tk k₁ x₁ r₁ => by
    refine Ok.tup_e r₁ fun b items hm hit => ?_
    unfold RVs RVs RVs at hit
    obtain ⟨r1, _, rfl, g1, r2, _, rfl, g2, rfl⟩ := hit
    refine unpackItemsN_ k₁.F k₁.N (k₁.N.isTup hm) (k₁.hh hq) rfl fun h₂ F N => ?_
    have k₂ : Ok c n fr ω₁ H₁ l x m₁ (Sh s h₂ tk) := k₁.at_ (Ext.refl _) F N k₁.R
    refine assignInOrder_cons (bindName_ (store_local hz x ω₁ r2 g2 m₁ _ _ _ k₂ fun _ ω₃ m₃ h₃ tk₃ k₃ x₃ _ => ?_))
    refine assignInOrder_cons (bindName_ (store_local hy x ω₃ r1 (g1.mono x₃) m₃ _ _ _ k₃ fun _ ω₄ m₄ h₄ tk₄ k₄ x₄ _ => ?_))
    exact assignInOrder_nil (ret _ ω₄ m₄ h₄ tk₄ k₄ ((x₁.trans x₃).trans x₄) rfl)) (h1 _) (h2 x)
/-! loops -/
/-- a loop's code -/
noncomputable def Lp (c : Cx) (n : Nat) (fr : FrS) (code : Env → Code) (H : Hp) (l : Loc) (f : Fl) (H' : Hp) (l' : Loc) : Prop :=
  ∀ x ω m s (R : Result → Shared → Prop), Ok c n fr ω H l x m s → (∀ rf ω' m' h' tk', Ok c n fr ω' H' l' x m' (Sh s h' tk') → Ext ω ω' → RFl ω' f rf → R (.ok rf) (Sh s h' tk')) → codeAny (model c.prog c.w) x.A (code (x.env fr)) R s
theorem while_step {M : Model} {A : Around} {s : Shared} {env : Env} {test : Expr} {body orelse : List Stmt} {R : Result → Shared → Prop} {prog : Program} {w : World}
    (turn : wpAny (model prog w) A (PySem.isTrue test env (eval test env)) (fun b s₂ =>
        if b then wpAny (model prog w) A (execs body env) (fun f s₃ => match f with
            | .next | .cont => codeAny (model prog w) A (.whileLoop test body orelse env) R s₃
            | .brk => R (.ok .next) s₃
            | .ret v => R (.ok (.ret v)) s₃) (notedBy (model prog w) A env fun e s' => R (.error e) s') s₂
        else wpAny (model prog w) A (execs orelse env) (fun f s₃ => R (.ok f) s₃) (notedBy (model prog w) A env fun e s' => R (.error e) s') s₂)
        (notedBy (model prog w) A env fun e s' => R (.error e) s') s) : codeAny (model prog w) A (.whileLoop test body orelse env) R s := by
  refine codeAny_of_tree ?_
  show wpAny _ A ((whileTurn test body orelse env).onRaise (fun x => do noteFrame x env; theTreesLotGoes x)) _ _ s
  refine wpAny_noted ?_
  simp only [whileTurn]
  refine wpAny_bind (wpAny_mono turn (fun b s₂ h₂ => ?_) fun _ _ h' => h')
  cases b with
  | false =>
    simp only [Bool.false_eq_true, if_false] at h₂ ⊢
    exact wpAny_bind (wpAny_mono h₂ (fun f s₃ h₃ => wpAny_pure h₃) fun _ _ h' => h')
  | true =>
    simp only [if_true] at h₂ ⊢
    refine wpAny_bind (wpAny_mono h₂ (fun f s₃ h₃ => ?_) fun _ _ h' => h')
    cases f with
    | next => exact wpAny_pure ⟨rfl, h₃⟩
    | cont => exact wpAny_pure ⟨rfl, h₃⟩
    | brk => exact wpAny_pure h₃
    | ret v => exact wpAny_pure h₃
noncomputable abbrev Wl (c : Cx) (n : Nat) (fr : FrS) (test : Expr) (body : List Stmt) (H : Hp) (l : Loc) (f : Fl) (H' : Hp) (l' : Loc) : Prop := Lp c n fr (fun env => .whileLoop test body [] env) H l f H' l'
theorem wl_end {test : Expr} {body : List Stmt} (h : Te c n fr test H l false H₁) : Wl c n fr test body H l .next H₁ l :=
  fun x ω m s R k ret => while_step (M := model c.prog c.w) (h x ω m s _ _ k fun b ω₁ m₁ h' tk k₁ x₁ r₁ => by
    subst r₁
    exact wpAny_execs_nil (ret _ ω₁ m₁ h' tk k₁ x₁ rfl))
theorem wl_turn {test : Expr} {body : List Stmt} {f : Fl} (h : Te c n fr test H l true H₁) (hb : Exs c n fr body H₁ l .next H₂ l₂) (hr : Wl c n fr test body H₂ l₂ f H₃ l₃) : Wl c n fr test body H l f H₃ l₃ :=
  fun x ω m s R k ret => while_step (M := model c.prog c.w) (h x ω m s _ _ k fun b ω₁ m₁ h' tk k₁ x₁ r₁ => by
    subst r₁
    refine hb x ω₁ m₁ _ _ _ k₁ fun rf ω₂ m₂ h'' tk' k₂ x₂ r₂ => ?_
    have r₂ : rf = .next := r₂
    subst r₂
    exact hr x ω₂ m₂ _ _ k₂ fun rf ω₃ m₃ h₃ tk₃ k₃ x₃ r₃ => ret rf ω₃ m₃ h₃ tk₃ k₃ ((x₁.trans x₂).trans x₃) r₃)
theorem wl_ret {test : Expr} {body : List Stmt} {v : V} (h : Te c n fr test H l true H₁) (hb : Exs c n fr body H₁ l (.ret v) H₂ l₂) : Wl c n fr test body H l (.ret v) H₂ l₂ :=
  fun x ω m s R k ret => while_step (M := model c.prog c.w) (h x ω m s _ _ k fun b ω₁ m₁ h' tk k₁ x₁ r₁ => by
    subst r₁
    refine hb x ω₁ m₁ _ _ _ k₁ fun rf ω₂ m₂ h'' tk' k₂ x₂ r₂ => ?_
    obtain ⟨r, rfl, hv⟩ := r₂
    exact ret _ ω₂ m₂ h'' tk' k₂ (x₁.trans x₂) ⟨r, rfl, hv⟩)
theorem ex_while {test : Expr} {body : List Stmt} {pos : Pos} {f : Fl} (h : Wl c n fr test body H l f H₁ l₁) : Ex c n fr (.While test body [] pos) H l f H₁ l₁ :=
  fun x ω m s Q E k ret => wpAny_While (h x ω m s _ k ret)
theorem for_step {s : Shared} {env : Env} {target : Expr} {it : Value} {body orelse : List Stmt} {R : Result → Shared → Prop} {prog : Program} {w : World} {A : Around}
    (turn : wpAny (model prog w) A (pyNext it) (fun r s₁ => match r with
      | none => wpAny (model prog w) A (execs orelse env) (fun f s₃ => R (.ok f) s₃) (notedBy (model prog w) A env fun e s' => R (.error e) s') s₁
      | some v => wpAny (model prog w) A (letOwnedTupleGo target it v) (fun _ s₁' =>
          wpAny (model prog w) A (assign target env v) (fun _ s₂ => wpAny (model prog w) A (execs body env) (fun f s₃ => match f with
            | .next | .cont => codeAny (model prog w) A (.forLoop target it body orelse env) R s₃
            | .brk => R (.ok .next) s₃
            | .ret v => R (.ok (.ret v)) s₃) (notedBy (model prog w) A env fun e s' => R (.error e) s') s₂) (notedBy (model prog w) A env fun e s' => R (.error e) s') s₁') (notedBy (model prog w) A env fun e s' => R (.error e) s') s₁) (notedBy (model prog w) A env fun e s' => R (.error e) s') s) :
    codeAny (model prog w) A (.forLoop target it body orelse env) R s := by
  refine codeAny_of_tree ?_
  show wpAny _ A ((forTurn target it body orelse env).onRaise (fun x => do noteFrame x env; theTreesLotGoes x)) _ _ s
  refine wpAny_noted ?_
  simp only [forTurn]
  refine wpAny_bind (wpAny_standAt (wpAny_bind (wpAny_onRaise (wpAny_mono turn (fun r s₁ h₁ => ?_) fun _ _ h' => wpAny_standAt h'))))
  cases r with
  | none => exact wpAny_pure ⟨rfl, codeAny_block h₁⟩
  | some v =>
    refine wpAny_bind (wpAny_mono h₁ (fun _ s₁' h₁' => ?_) fun _ _ h' => h')
    refine wpAny_bind (wpAny_mono h₁' (fun _ s₂ h₂ => wpAny_bind (wpAny_mono h₂ (fun f s₃ h₃ => ?_) fun _ _ h' => h')) fun _ _ h' => h')
    cases f with
    | next => exact wpAny_pure ⟨rfl, h₃⟩
    | cont => exact wpAny_pure ⟨rfl, h₃⟩
    | brk => exact wpAny_pure h₃
    | ret v => exact wpAny_pure h₃
/-- a for over the list r, its iterator i -/
noncomputable def Fo (c : Cx) (n : Nat) (fr : FrS) (target : Expr) (body : List Stmt) (i : Nat) (H : Hp) (l : Loc) (f : Fl) (H' : Hp) (l' : Loc) : Prop :=
  ∀ x ω m s (R : Result → Shared → Prop), Ok c n fr ω H l x m s → i < ω.n → (∀ rf ω' m' h' tk', Ok c n fr ω' H' l' x m' (Sh s h' tk') → Ext ω ω' → RFl ω' f rf → R (.ok rf) (Sh s h' tk')) →
    codeAny (model c.prog c.w) x.A (.forLoop target (.ref (ω.ρ i)) body [] (x.env fr)) R s
theorem Ok.iter (k : Ok c n fr ω H l x m s) {i r j : Nat} {vs : List V} (hn : i < ω.n) (hi : H.o i = .iter r j) (hr : H.o r = .list vs) :
    ∃ ob items e, (ω.ρ i, ob) ∈ ω.news ∧ ¬ Imm ob ∧ s.heap.IsListIter (ω.ρ i) (ω.ρ r) j ∧ s.heap.IsList (ω.ρ r) (List.toArray items) ∧ RVs ω vs items ∧ items.length = vs.length ∧ r < ω.n ∧ (ω.ρ r, W.listOf (List.toArray items) e) ∈ ω.news := by
  obtain ⟨ob, h1, h2, h3⟩ := k.R.at_ i hn (by rw [hi]; intro q; cases q)
  rw [hi] at h3
  obtain ⟨g1, g2, g3⟩ := h3
  obtain ⟨_, _, items, e, g4, g5⟩ := k.lst (RV.objI g1) hr
  exact ⟨ob, items, e, h1, h2, ⟨ob, (k.N _ h1).1, g2, g3⟩, k.N.isList g4, g5, g5.len, g1, g4⟩
theorem fo_end {target : Expr} {body : List Stmt} {i r j : Nat} {vs : List V} (hi : H.o i = .iter r j) (hr : H.o r = .list vs) (hj : vs.length ≤ j) (hq : fr.q = true) : Fo c n fr target body i H l .next (H.set i .junk) l :=
  fun x ω m s R k hn ret => for_step (by
    obtain ⟨ob, items, e, h1, h2, h3, h4, h5, h6, h7, h8⟩ := k.iter hn hi hr
    refine wpAny_pyNext_list_end (k.hh hq) h3 h4 (by rw [Array.getElem?_eq_none]; rw [List.size_toArray]; lia) fun h' hx => ?_
    have z := k.N _ h1
    have x₁ := Wd.drop_ext k.N h1 h2
    refine wpAny_execs_nil (ret _ (ω.drop (ω.ρ i)) m h' s.toks (k.at_ x₁ ⟨k.F.ns.at' fun o e => hx _ _ (Ne.symm z.2.1) e, fun b o e => hx _ _ (fun q => by rw [q, z.2.2] at e; cases e) (k.F.keep b o e), k.F.above⟩ (fun p hp => ?_) (k.R.drop k.N hn (by rw [hi]; intro q; cases q) h1 h2)) x₁ rfl)
    have z' := k.N _ (List.mem_filter.mp hp).1
    exact ⟨hx _ _ (of_decide_eq_true (List.mem_filter.mp hp).2) z'.1, z'.2⟩)
theorem fo_next {target : Expr} {body : List Stmt} {i r j : Nat} {vs : List V} {v : V} (hi : H.o i = .iter r j) (hr : H.o r = .list vs) (hj : vs[j]? = some v)
    (hgo : ∀ x ω rv m s (Q : Unit → Shared → Prop) E, Ok c n fr ω (H.set i (.iter r (j + 1))) l x m s → s.heap.IsListIter (ω.ρ i) (ω.ρ r) (j + 1) → RV ω v rv → Q () s → wpAny (model c.prog c.w) x.A (letOwnedTupleGo target (.ref (ω.ρ i)) rv) Q E s)
    {R : Result → Shared → Prop} {P : Value → Shared → Prop} (x : Fx) (ω : Wd) (m : Str → Option Value) (s : Shared) (k : Ok c n fr ω H l x m s) (hn : i < ω.n)
    (g : ∀ rv ω' h' tk', Ok c n fr ω' (H.set i (.iter r (j + 1))) l x m (Sh s h' tk') → Ext ω ω' → RV ω' v rv → ω'.ρ i = ω.ρ i →
      wpAny (model c.prog c.w) x.A (assign target (x.env fr) rv) (fun _ s₂ => wpAny (model c.prog c.w) x.A (execs body (x.env fr)) (fun f s₃ => match f with
            | .next | .cont => codeAny (model c.prog c.w) x.A (.forLoop target (.ref (ω.ρ i)) body [] (x.env fr)) R s₃
            | .brk => R (.ok .next) s₃
            | .ret v => R (.ok (.ret v)) s₃) (notedBy (model c.prog c.w) x.A (x.env fr) fun e s' => R (.error e) s') s₂) (notedBy (model c.prog c.w) x.A (x.env fr) fun e s' => R (.error e) s') (Sh s h' tk')) :
    codeAny (model c.prog c.w) x.A (.forLoop target (.ref (ω.ρ i)) body [] (x.env fr)) R s := by
  refine for_step ?_
  obtain ⟨ob, items, e, h1, h2, h3, h4, h5, h6, h7, h8⟩ := k.iter hn hi hr
  obtain ⟨rv, g1, g2⟩ := h5.get hj
  refine wpAny_pyNext_list_item h3 h4 (by simpa using g1) fun h' hit hs => ?_
  obtain ⟨ob', o1, o2, o3⟩ := id hit
  obtain ⟨k₁, x₁⟩ := k.put (o := .iter r (j + 1)) (tk := s.toks) hn (by rw [hi]; intro q; cases q) h1 h2 (notImm_cls o2 (by decide) (by decide)) hs o1 ⟨h7, o2, o3⟩
  exact hgo x (ω.put (ω.ρ i) ob') rv m _ _ _ k₁ hit (g2.mono x₁) (g rv _ h' s.toks k₁ x₁ (g2.mono x₁) rfl)
/-- a target that takes no tuple apart, or does -/
noncomputable def Tgt (t : Expr) : Prop := (∀ it v, letOwnedTupleGo t it v = pure ()) ∨ ∃ ts k₀ pos, t = .Tuple ts k₀ pos
theorem tgt_go {t : Expr} (ht : Tgt t) {i r j : Nat} {v : V} (hv : (∃ vs, v = .tup vs) ∨ ∀ it v, letOwnedTupleGo t it v = pure ()) :
    ∀ x ω rv m s (Q : Unit → Shared → Prop) E, Ok c n fr ω H l x m s → s.heap.IsListIter (ω.ρ i) (ω.ρ r) j → RV ω v rv → Q () s → wpAny (model c.prog c.w) x.A (letOwnedTupleGo t (.ref (ω.ρ i)) rv) Q E s := by
  intro x ω rv m s Q E k hit hr hQ
  rcases ht with h | ⟨ts, k₀, pos, rfl⟩
  · rw [h]; exact wpAny_pure hQ
  · rcases hv with ⟨vs, rfl⟩ | h
    · exact Ok.tup_e hr fun b items _ _ => PySem.wpAny_letOwnedTupleGo_listiter hit hQ
    · rw [h]; exact wpAny_pure hQ
theorem fo_turn {target : Expr} {body : List Stmt} {i r j : Nat} {vs : List V} {v : V} {f : Fl} (hi : H.o i = .iter r j) (hr : H.o r = .list vs) (hj : vs[j]? = some v) (ht : Tgt target) (hv : (∃ vs, v = .tup vs) ∨ ∀ it v, letOwnedTupleGo target it v = pure ())
    (ha : As c n fr target v (H.set i (.iter r (j + 1))) l H₁ l₁) (hb : Exs c n fr body H₁ l₁ .next H₂ l₂) (hs : Fo c n fr target body i H₂ l₂ f H₃ l₃) : Fo c n fr target body i H l f H₃ l₃ :=
  fun x ω m s R k hn ret => fo_next hi hr hj (tgt_go ht hv) (P := fun _ _ => True) x ω m s k hn fun rv ω₁ h' tk k₁ x₁ r₁ e₁ => ha x ω₁ rv r₁ m _ _ _ k₁ fun _ ω₂ m₂ h₂ tk₂ k₂ x₂ _ => hb x ω₂ m₂ _ _ _ k₂ fun rf ω₃ m₃ h₃ tk₃ k₃ x₃ r₃ => by
    have r₃ : rf = .next := r₃
    subst r₃
    have X := (x₁.trans x₂).trans x₃
    have := hs x ω₃ m₃ _ R k₃ (Nat.lt_of_lt_of_le hn X.le) fun rf ω₄ m₄ h₄ tk₄ k₄ x₄ r₄ => ret rf ω₄ m₄ h₄ tk₄ k₄ (X.trans x₄) r₄
    rw [X.ρ i hn] at this
    exact this
theorem fo_ret {target : Expr} {body : List Stmt} {i r j : Nat} {vs : List V} {v u : V} (hi : H.o i = .iter r j) (hr : H.o r = .list vs) (hj : vs[j]? = some v) (ht : Tgt target) (hv : (∃ vs, v = .tup vs) ∨ ∀ it v, letOwnedTupleGo target it v = pure ())
    (ha : As c n fr target v (H.set i (.iter r (j + 1))) l H₁ l₁) (hb : Exs c n fr body H₁ l₁ (.ret u) H₂ l₂) : Fo c n fr target body i H l (.ret u) H₂ l₂ :=
  fun x ω m s R k hn ret => fo_next hi hr hj (tgt_go ht hv) (P := fun _ _ => True) x ω m s k hn fun rv ω₁ h' tk k₁ x₁ r₁ e₁ => ha x ω₁ rv r₁ m _ _ _ k₁ fun _ ω₂ m₂ h₂ tk₂ k₂ x₂ _ => hb x ω₂ m₂ _ _ _ k₂ fun rf ω₃ m₃ h₃ tk₃ k₃ x₃ r₃ => by
    obtain ⟨r, rfl, hu⟩ := r₃
    exact ret _ ω₃ m₃ h₃ tk₃ k₃ ((x₁.trans x₂).trans x₃) ⟨r, rfl, hu⟩
theorem ex_for {target iter : Expr} {body : List Stmt} {pos : Pos} {r : Nat} {vs : List V} {f : Fl} (he : Ev c n fr iter H l (.obj r) H₁) (hr : H₁.o r = .list vs) (h : Fo c n fr target body H₁.n (H₁.new (.iter r 0)) l f H₂ l₂)
    (hs : ∀ env x, foldedSetIterable iter env x = pure x := by intro _ _; rfl) : Ex c n fr (.For target iter body [] pos) H l f H₂ l₂ :=
  fun x ω m s Q E k ret => PySem.wpAny_For (he x ω m s _ _ k fun rv ω₁ m₁ h' tk k₁ x₁ r₁ => k₁.lst_e hr r₁ fun items e hn hm hit hl => by
    refine wpAny_pyIter_list (k₁.N.isList hm) ?_
    obtain ⟨k₂, x₂, r₂⟩ := k₁.add (o := .iter r 0) (tk := tk) (k₁.F.push { cls := .type "list_iterator", data := .fields #[.ref (ω₁.ρ r), .int 0 0] }) (News.push k₁.F k₁.N { cls := .type "list_iterator", data := .fields #[.ref (ω₁.ρ r), .int 0 0] }) (fun p hp => Heap.lt_size (k₁.N p hp).1) (notImm_cls rfl (by decide) (by decide))
      ⟨Nat.lt_succ_of_lt hn, rfl, by rw [Wd.add_old _ _ _ (Nat.ne_of_lt hn)]; rfl⟩
    have q : H₁.n = ω₁.n := k₁.R.n
    refine Eq.mp (congrArg (fun a => codeAny (model c.prog c.w) x.A (.forLoop target (.ref a) body [] (x.env fr)) _ _) (show (ω₁.add h'.objs.size _).ρ H₁.n = h'.objs.size by rw [q, Wd.add_here])) (h x _ m₁ _ _ k₂ (by show H₁.n < ω₁.n + 1; lia) fun rf ω₃ m₃ h₃ tk₃ k₃ x₃ r₃ => ?_)
    exact ret rf ω₃ m₃ h₃ tk₃ k₃ ((x₁.trans x₂).trans x₃) r₃) (hs _)
end
end Mine
end

section
namespace Mine
section
variable {c : Cx} {n : Nat} {fr : FrS} {ω : Wd} {H H₁ H₂ H₃ : Hp} {l l₁ l₂ l₃ : Loc} {x : Fx} {m : Str → Option Value} {s : Shared}
theorem ex_return0 {pos : Pos} : Ex c n fr (.Return none pos) H l (.ret .none) H l :=
  fun x ω m s Q E k ret => wpAny_Return_none (ret _ ω m s.heap s.toks k (Ext.refl _) ⟨_, rfl, RV.none⟩)
/-! a dict's display, its keys written strs -/
noncomputable def Eps (c : Cx) (n : Nat) (fr : FrS) (ks : List (Option Expr)) (es : List Expr) (H : Hp) (l : Loc) (ps : List (Str × V)) (H' : Hp) : Prop :=
  ∀ pos, Do c n fr (fun env => evalPairs (pairTrees ks es env pos)) H l (fun ω rs => ∃ ts : List ((Str × Value) × Tok), rs = ts.map (fun p : (Str × Value) × Tok => (.str p.1.1 p.2, p.1.2)) ∧ RK ω ps (ts.map (·.1))) H' l
theorem eps_nil : Eps c n fr [] [] H l [] H :=
  fun pos x ω => At.now fun m s Q E k ret => PySem.pairTrees_nil_walk (ret _ _ ⟨[], rfl, rfl⟩)
theorem eps_cons {y : Str} {k₀ : Nat} {kp : Pos} {e : Expr} {ks : List (Option Expr)} {es : List Expr} {v : V} {ps : List (Str × V)} (h : Ev c n fr e H l v H₁) (hs : Eps c n fr ks es H₁ l ps H₂) :
    Eps c n fr (some (.Constant (.str y) k₀ kp) :: ks) (e :: es) H l ((y, v) :: ps) H₂ :=
  fun pos x ω m s Q E k ret => PySem.pairTrees_cons_walk (ev_str (k₀ := k₀) (pos := kp) x ω m s _ _ k fun rk ω₀ m₀ h₀ tk₀ k₀ x₀ r₀ => RV.str_e r₀ fun t => h x ω₀ m₀ _ _ _ k₀ fun r ω₁ m₁ h' tk k₁ x₁ r₁ => hs pos x ω₁ m₁ _ _ _ k₁ fun rs ω₂ m₂ h'' tk' k₂ x₂ r₂ => by
    obtain ⟨ts, rfl, hk⟩ := r₂
    exact ret _ ω₂ m₂ h'' tk' k₂ ((x₀.trans x₁).trans x₂) ⟨((y, r), t) :: ts, rfl, r, _, rfl, r₁.mono x₂, hk⟩)
theorem strKeys_map : ∀ ts : List ((Str × Value) × Tok), PySem.allStrKeys (ts.map fun p => (.str p.1.1 p.2, p.1.2)) = true ∧ PySem.strPairs (ts.map fun p => (.str p.1.1 p.2, p.1.2)) = ts.map (·.1)
  | [] => ⟨rfl, rfl⟩
  | p :: ts => ⟨(strKeys_map ts).1, by show (p.1.1, p.1.2) :: PySem.strPairs _ = _; rw [(strKeys_map ts).2]; rfl⟩
theorem ev_dict {ks : List (Option Expr)} {es : List Expr} {pos : Pos} {ps : List (Str × V)} (h : Eps c n fr ks es (H.new (.sdict [])) l ps H₁) (hn : (ps.map (·.1)).Nodup) (hH : H₁.o H.n = .sdict []) (h0 : ks ≠ []) (hl : ks.length = es.length := by rfl) (hlen : ks.length ≤ 15 := by decide)
    (hall : ks.all (·.isSome) = true := by rfl) : Ev c n fr (.Dict ks es pos) H l (.obj H.n) (H₁.set H.n (.sdict ps)) := by
  intro x ω m s Q E k ret
  refine kdn_eval (knd := PySem.strKind c.prog c.w) k.F k.N k.T.nolimit hall hl h0 hlen fun d h' o F N lt lo hd => ?_
  have hcls : o.cls = .type "dict" := let ⟨_, _, e, _⟩ := hd; e.1
  obtain ⟨k₁, x₁, r₁⟩ := k.add (o := .sdict []) (tk := s.toks) F N lt (notImm_cls hcls (by decide) (by decide)) ⟨lo, hcls, [], hd, rfl⟩
  refine h pos x _ m _ _ _ k₁ fun rs ω₂ m₂ h₂ tk₂ k₂ x₂ r₂ => ?_
  obtain ⟨ts, rfl, hk⟩ := r₂
  have r₃ := RV.mono x₂ r₁
  unfold RV at r₃
  obtain ⟨hlt, hρ⟩ := r₃
  injection hρ with hρ
  obtain ⟨ob, g1, g2, g3⟩ := k₂.R.at_ H.n hlt (by rw [hH]; intro q; cases q)
  rw [hH] at g3
  obtain ⟨lo', hc', kvs, hd', hk'⟩ := g3
  have hk' : kvs = [] := hk'
  subst hk'
  rw [← hρ] at g1
  obtain ⟨a1, a2⟩ := strKeys_map ts
  refine kdn_made_str k₂.F (Mine.News.front k₂.N g1) (UpdF.head front_ne) hd' a1 (by rw [a2, hk.keys]; exact hn) fun h₃ o' F₃ N₃ hd₃ => ?_
  rw [a2] at hd₃
  rw [hρ] at N₃ g1 ⊢
  have hc₃ : o'.cls = .type "dict" := let ⟨_, _, e, _⟩ := hd₃; e.1
  have e₃ := Wd.put_ext k₂.N g1 g2 o'
  have k₃ := k₂.at_ (tk := tk₂ + (ts.map fun p : (Str × Value) × Tok => (Value.str p.1.1 p.2, p.1.2)).length) e₃ F₃ N₃ (k₂.R.put k₂.N hlt (by rw [hH]; intro q; cases q) g1 g2 (notImm_cls hc₃ (by decide) (by decide)) (o := .sdict ps) ⟨lo', hc₃, _, hd₃, hk.mono e₃⟩)
  exact ret _ _ m₂ h₃ _ k₃ ((x₁.trans x₂).trans e₃) (RV.objI hlt)
/-! data compared -/
mutual
noncomputable def dat : V → Option PyData
  | .none => some .none
  | .int i => some (.int i)
  | .str t => some (.str t)
  | .tup vs => (dats vs).map .tuple
  | _ => none
noncomputable def dats : List V → Option (List PyData)
  | [] => some []
  | v :: vs => match dat v, dats vs with
    | some d, some ds => some (d :: ds)
    | _, _ => none
end
mutual
theorem RV.reads {ω : Wd} {h₀ h : Heap} {L : Addr} (N : News h₀ L h ω.news) : ∀ {v : V} {r : Value} {d : PyData}, dat v = some d → RV ω v r → ∃ as, Reads h r d as
  | .none, r, d, e, hr => by unfold dat at e; cases e; unfold RV at hr; subst hr; exact ⟨_, .none⟩
  | .int i, r, d, e, hr => by unfold dat at e; cases e; unfold RV at hr; obtain ⟨t, rfl⟩ := hr; exact ⟨_, .int i t⟩
  | .str i, r, d, e, hr => by unfold dat at e; cases e; unfold RV at hr; obtain ⟨t, rfl⟩ := hr; exact ⟨_, .str i t⟩
  | .tup vs, r, d, e, hr => by
    unfold dat at e
    cases q : dats vs with
    | none => rw [q] at e; cases e
    | some ds =>
      rw [q] at e; cases e
      unfold RV at hr
      obtain ⟨b, items, rfl, hm, hit⟩ := hr
      obtain ⟨as, ha⟩ := RVs.reads N q hit
      exact ⟨as, reads_tuple_at (N.get hm) rfl rfl (by simpa using ha)⟩
  | .bool b, r, d, e, hr => by unfold dat at e; cases e
  | .obj b, r, d, e, hr => by unfold dat at e; cases e
  | .st b, r, d, e, hr => by unfold dat at e; cases e
  | .bi b, r, d, e, hr => by unfold dat at e; cases e
  | .ty b, r, d, e, hr => by unfold dat at e; cases e
  | .meth b _, r, d, e, hr => by unfold dat at e; cases e
theorem RVs.reads {ω : Wd} {h₀ h : Heap} {L : Addr} (N : News h₀ L h ω.news) : ∀ {vs : List V} {rs : List Value} {ds : List PyData}, dats vs = some ds → RVs ω vs rs → ∃ as, ReadsAll h rs ds as
  | [], rs, ds, e, hr => by unfold dats at e; cases e; rw [hr.nil_e]; exact ⟨_, .nil⟩
  | v :: vs, rs, ds, e, hr => by
    unfold dats at e
    cases q1 : dat v with
    | none => rw [q1] at e; cases e
    | some d =>
      cases q2 : dats vs with
      | none => rw [q1, q2] at e; cases e
      | some ds' =>
        rw [q1, q2] at e; cases e
        unfold RVs at hr
        obtain ⟨r, rs', rfl, h1, h2⟩ := hr
        obtain ⟨a, ha⟩ := RV.reads N q1 h1
        obtain ⟨b, hb⟩ := RVs.reads N q2 h2
        exact ⟨_, .cons ha hb⟩
end
mutual
theorem dat_eqv : ∀ {v : V} {d : PyData}, dat v = some d → PyData.eqv d d = true
  | .none, d, e => by unfold dat at e; cases e; rfl
  | .int i, d, e => by unfold dat at e; cases e; simp [PyData.eqv]
  | .str i, d, e => by unfold dat at e; cases e; simp [PyData.eqv]
  | .tup vs, d, e => by
    unfold dat at e
    cases q : dats vs with
    | none => rw [q] at e; cases e
    | some ds => rw [q] at e; cases e; simp [PyData.eqv, dats_eqv q]
  | .bool b, d, e => by unfold dat at e; cases e
  | .obj b, d, e => by unfold dat at e; cases e
  | .st b, d, e => by unfold dat at e; cases e
  | .bi b, d, e => by unfold dat at e; cases e
  | .ty b, d, e => by unfold dat at e; cases e
  | .meth b _, d, e => by unfold dat at e; cases e
theorem dats_eqv : ∀ {vs : List V} {ds : List PyData}, dats vs = some ds → PyData.eqvAll ds ds = true
  | [], ds, e => by unfold dats at e; cases e; rfl
  | v :: vs, ds, e => by
    unfold dats at e
    cases q1 : dat v with
    | none => rw [q1] at e; cases e
    | some d =>
      cases q2 : dats vs with
      | none => rw [q1, q2] at e; cases e
      | some ds' => rw [q1, q2] at e; cases e; simp [PyData.eqvAll, dat_eqv q1, dats_eqv q2]
end
/-- flat data: no tuple within a tuple -/
noncomputable def flat1 : V → Bool
  | .int _ => true
  | .str t => PyData.strOk t
  | _ => false
noncomputable def flat2 : V → Bool
  | .int _ => true
  | .str t => PyData.strOk t
  | .tup vs => vs.all flat1
  | _ => false
theorem flat1_dat : ∀ {v : V}, flat1 v = true → ∃ d, dat v = some d ∧ d.canLay0 = true ∧ d.depth = 0
  | .int i, _ => ⟨_, by unfold dat; rfl, by simp [PyData.canLay0], by simp [PyData.depth]⟩
  | .str i, h => ⟨_, by unfold dat; rfl, by have h : PyData.strOk i = true := h; simpa [PyData.canLay0] using h, by simp [PyData.depth]⟩
theorem flat1_dats : ∀ {vs : List V}, vs.all flat1 = true → ∃ ds, dats vs = some ds ∧ PyData.canLayAll0 ds = true ∧ PyData.depthAll ds = 0
  | [], _ => ⟨[], by unfold dats; rfl, by simp [PyData.canLayAll0], by simp [PyData.depthAll]⟩
  | v :: vs, h => by
    rw [List.all_cons, Bool.and_eq_true] at h
    obtain ⟨d, a1, a2, a3⟩ := flat1_dat h.1
    obtain ⟨ds, b1, b2, b3⟩ := flat1_dats h.2
    exact ⟨d :: ds, by unfold dats; rw [a1, b1], by simp [PyData.canLayAll0, a2, b2], by simp [PyData.depthAll, a3, b3]⟩
theorem flat2_dat : ∀ {v : V}, flat2 v = true → ∃ d, dat v = some d ∧ d.canLay0 = true ∧ d.depth ≤ 1
  | .int i, _ => ⟨_, by unfold dat; rfl, by simp [PyData.canLay0], by simp [PyData.depth]⟩
  | .str i, h => ⟨_, by unfold dat; rfl, by have h : PyData.strOk i = true := h; simpa [PyData.canLay0] using h, by simp [PyData.depth]⟩
  | .tup vs, h => by
    obtain ⟨ds, b1, b2, b3⟩ := flat1_dats (vs := vs) h
    exact ⟨_, by unfold dat; rw [b1]; rfl, by simp [PyData.canLay0, b2], by simp [PyData.depth, b3]⟩
theorem flat2_dats : ∀ {vs : List V}, vs.all flat2 = true → ∃ ds, dats vs = some ds ∧ PyData.canLayAll0 ds = true ∧ PyData.depthAll ds ≤ 1
  | [], _ => ⟨[], by unfold dats; rfl, by simp [PyData.canLayAll0], by simp [PyData.depthAll]⟩
  | v :: vs, h => by
    rw [List.all_cons, Bool.and_eq_true] at h
    obtain ⟨d, a1, a2, a3⟩ := flat2_dat h.1
    obtain ⟨ds, b1, b2, b3⟩ := flat2_dats h.2
    exact ⟨d :: ds, by unfold dats; rw [a1, b1], by simp [PyData.canLayAll0, a2, b2], by simp [PyData.depthAll]; lia⟩
/-- an equation of two data values: both are the same, or one is empty -/
theorem shaped_list {ds : List PyData} (h1 : PyData.canLayAll0 ds = true) (h2 : PyData.depthAll ds ≤ 1) : SeqAt.shaped (.list ds) = true := by
  simp [SeqAt.shaped, PyData.canLay0, PyData.depth, h1]; lia
theorem shaped_tup {ds : List PyData} (h1 : PyData.canLayAll0 ds = true) (h2 : PyData.depthAll ds ≤ 1) : SeqAt.shaped (.tuple ds) = true := by
  simp [SeqAt.shaped, PyData.canLay0, PyData.depth, h1]; lia
theorem Ok.room (k : Ok c n fr ω H l x m s) (hn : 3 ≤ n) : x.A.units + 64 < cLine := by have := k.hu; lia
theorem Ok.readsL (k : Ok c n fr ω H l x m s) {a : Nat} {vs : List V} {r : Value} {ds : List PyData} (h : H.o a = .list vs) (hr : RV ω (.obj a) r) (hd : dats vs = some ds) : ∃ as, Reads s.heap r (.list ds) as := by
  refine k.lst_e h hr fun items e hn hm hit hl => ?_
  obtain ⟨as, ha⟩ := RVs.reads k.N hd hit
  exact ⟨_, reads_list_at (k.N.get hm) rfl rfl (by simpa using ha)⟩
theorem cmp_eq_lists {a b : Nat} {vs : List V} (ha : H.o a = .list vs) (hb : H.o b = .list vs) (hf : vs.all flat2 = true) (hn : 3 ≤ n) : Cmp c n fr .Eq (.obj a) (.obj b) H l true :=
  fun x ω ra rb h1 h2 => At.now fun m s Q E k ret => by
    obtain ⟨ds, e1, e2, e3⟩ := flat2_dats hf
    obtain ⟨as, p⟩ := k.readsL ha h1 e1
    obtain ⟨bs, q⟩ := k.readsL hb h2 e1
    refine eq_dataH p q (shaped_list e2 e3) (shaped_list e2 e3) (k.room hn) ?_
    rw [show PyData.eqv (.list ds) (.list ds) = true by simp [PyData.eqv, dats_eqv e1]]
    exact ret _ s.toks rfl
theorem cmp_ne_lists {a b : Nat} {vs : List V} (ha : H.o a = .list vs) (hb : H.o b = .list vs) (hf : vs.all flat2 = true) (hn : 3 ≤ n) : Cmp c n fr .NotEq (.obj a) (.obj b) H l false :=
  fun x ω ra rb h1 h2 => At.now fun m s Q E k ret => by
    obtain ⟨ds, e1, e2, e3⟩ := flat2_dats hf
    obtain ⟨as, p⟩ := k.readsL ha h1 e1
    obtain ⟨bs, q⟩ := k.readsL hb h2 e1
    refine ne_dataH p q (shaped_list e2 e3) (shaped_list e2 e3) (k.room hn) ?_
    rw [show PyData.eqv (.list ds) (.list ds) = true by simp [PyData.eqv, dats_eqv e1]]
    exact ret _ s.toks rfl
theorem cmp_ne_nil {a b : Nat} {v : V} {vs : List V} (ha : H.o a = .list (v :: vs)) (hb : H.o b = .list []) (hf : (v :: vs).all flat2 = true) (hn : 3 ≤ n) : Cmp c n fr .NotEq (.obj a) (.obj b) H l true :=
  fun x ω ra rb h1 h2 => At.now fun m s Q E k ret => by
    obtain ⟨ds, e1, e2, e3⟩ := flat2_dats hf
    obtain ⟨as, p⟩ := k.readsL ha h1 e1
    obtain ⟨bs, q⟩ := k.readsL (vs := []) hb h2 (by unfold dats; rfl)
    refine ne_dataH p q (shaped_list e2 e3) (by decide) (k.room hn) ?_
    unfold dats at e1
    cases q1 : dat v with
    | none => rw [q1] at e1; cases e1
    | some d =>
      cases q2 : dats vs with
      | none => rw [q1, q2] at e1; cases e1
      | some ds' =>
        rw [q1, q2] at e1; cases e1
        rw [show PyData.eqv (.list (d :: ds')) (.list []) = false by simp [PyData.eqv, PyData.eqvAll]]
        exact ret _ s.toks rfl
theorem cmp_ne_tups {vs : List V} (hf : vs.all flat1 = true) (hn : 3 ≤ n) : Cmp c n fr .NotEq (.tup vs) (.tup vs) H l false :=
  fun x ω ra rb h1 h2 => At.now fun m s Q E k ret => by
    obtain ⟨ds, e1, e2, e3⟩ := flat1_dats hf
    have e : dat (.tup vs) = some (.tuple ds) := by unfold dat; rw [e1]; rfl
    obtain ⟨as, p⟩ := RV.reads k.N e h1
    obtain ⟨bs, q⟩ := RV.reads k.N e h2
    refine ne_dataH p q (shaped_tup e2 (by lia)) (shaped_tup e2 (by lia)) (k.room hn) ?_
    rw [dat_eqv e]
    exact ret _ s.toks rfl
theorem cmp_ne_tup0 {v : V} {vs : List V} (hf : (v :: vs).all flat1 = true) (hn : 3 ≤ n) : Cmp c n fr .NotEq (.tup (v :: vs)) (.tup []) H l true :=
  fun x ω ra rb h1 h2 => At.now fun m s Q E k ret => by
    obtain ⟨ds, e1, e2, e3⟩ := flat1_dats hf
    obtain ⟨as, p⟩ := RV.reads (d := .tuple ds) k.N (by unfold dat; rw [e1]; rfl) h1
    obtain ⟨bs, q⟩ := RV.reads (d := .tuple []) k.N (by unfold dat dats; rfl) h2
    refine ne_dataH p q (shaped_tup e2 (by lia)) (by decide) (k.room hn) ?_
    unfold dats at e1
    cases q1 : dat v with
    | none => rw [q1] at e1; cases e1
    | some d =>
      cases q2 : dats vs with
      | none => rw [q1, q2] at e1; cases e1
      | some ds' =>
        rw [q1, q2] at e1; cases e1
        rw [show PyData.eqv (.tuple (d :: ds')) (.tuple []) = false by simp [PyData.eqv, PyData.eqvAll]]
        exact ret _ s.toks rfl
/-! is None, truth, in, isinstance -/
theorem cmp_is_none {v : V} (hv : v ≠ .none) : Cmp c n fr .Is v .none H l false :=
  fun x ω ra rb h1 h2 => At.now fun m s Q E k ret => by
    unfold RV at h2; subst h2
    refine is_none_ne (fun e => hv ?_) (ret _ s.toks rfl)
    subst e
    cases v <;> unfold RV at h1
    case none => rfl
    case tup => obtain ⟨_, _, h1, _⟩ := h1; cases h1
    case meth => obtain ⟨_, _, h1, _⟩ := h1; cases h1
    case obj => cases h1.2
    case int => obtain ⟨_, h1⟩ := h1; cases h1
    case str => obtain ⟨_, h1⟩ := h1; cases h1
    all_goals cases h1
theorem tr_list {a : Nat} {vs : List V} (h : H.o a = .list vs) (hz : vs.length ≤ 1000) : Tr c n fr (.obj a) H l (!vs.isEmpty) :=
  fun x ω r h1 => At.now fun m s Q E k ret => k.lst_e h h1 fun items e hn hm hit hl => wpAny_truthy_list (k.N.isList hm) (by rw [List.size_toArray, hl]; lia) (ret _ _ (by
    cases vs <;> cases items <;> first | rfl | cases hl))
theorem cmp_in_strs {a : Addr} {ss : List Str} {y : Str} {dd : Option Addr} {rs : List Value} {n₀ : Nat} {sl : Array (Option Value)} (hK : c.K.lookup a = some ⟨.type "tuple", dd, .seq rs.toArray n₀, sl⟩) (hs : StrsAre rs ss) :
    Cmp c n fr .In (.str y) (.st a) H l (ss.any (· == y)) :=
  fun x ω ra rb h1 h2 => RV.str_e h1 fun t => At.now fun m s Q E k ret => by
    unfold RV at h2; subst h2
    exact in_tuple_strs ⟨_, k.F.keep _ _ (k.X _ _ hK), rfl, n₀, rfl⟩ hs (ret _ s.toks rfl)
theorem bi_isinst {vs : List V} : Bi2 c n fr "isinstance" (.tup vs) (.ty "tuple") H l (.bool true) H :=
  fun x ω r r' h1 h2 => At.now fun m s Q E k ret => by
    unfold RV at h2; subst h2
    refine Ok.tup_e h1 fun b items hm hit => ?_
    exact call_isinstance_yes (IsTup.typeIs (k.N.isTup hm)) PySem.F.isi_meta_tuple PySem.F.sub_tuple_tuple (ret _ s.toks RV.bool)
/-! strs, copies, sorts, removals -/
theorem op_str {a b : Str} (hz : a.length + b.length ≤ 1000) : ∀ x ω ra rb, RV ω (.str a) ra → RV ω (.str b) rb → At c n fr x ω (binaryOp .Add ra rb) H l (fun ω r => RV ω (.str (a ++ b)) r) H l :=
  fun x ω ra rb h1 h2 => RV.str_e h1 fun t => RV.str_e h2 fun u => At.now fun m s Q E k ret => PyProof.Rows.add_str (fun t' tk => ret _ _ RV.sI) (by rw [sizeLine_eq]; lia)
noncomputable abbrev Ty1 (c : Cx) (n : Nat) (fr : FrS) (t : String) (u : V) (H : Hp) (l : Loc) (v : V) (H' : Hp) : Prop :=
  ∀ x ω r, RV ω u r → At c n fr x ω (call (.type t) [r]) H l (fun ω r => RV ω v r) H' l
theorem ty_str {i : Int} (hi : 0 ≤ i) (hi' : i ≤ 1000) : Ty1 c n fr "str" (.int i) H l (.str (toString i)) H :=
  fun x ω r h1 => RV.int_e h1 fun t => At.now fun m s Q E k ret => str_of_int_fit (N := 1001) (by split <;> lia) (by decide) fun _ => ret _ _ RV.sI
theorem ty_list {a : Nat} {vs : List V} (h : H.o a = .list vs) (hz : vs.length ≤ 1000) : Ty1 c n fr "list" (.obj a) H l (.obj H.n) (H.new (.list vs)) :=
  fun x ω r h1 m s Q E k ret => k.lst_e h h1 fun items e hn hm hit hl => list_copyK k.F k.N (k.N.isList hm) (fun D c' h' F N lt => by
    obtain ⟨k₂, x₂, r₂⟩ := k.add (o := .list vs) (tk := s.toks) F N lt notImm_list ⟨items, c', rfl, hit.mono (Wd.add_ext ..)⟩
    exact ret _ _ m h' s.toks k₂ x₂ r₂) (by rw [List.size_toArray, hl, sizeLine_eq]; lia)
theorem nums_of : ∀ {vs : List Value} {ns : List Int}, IntsAre vs ns → kf_ints vs = true ∧ lks_nums vs = ns
  | _, _, .nil => ⟨rfl, rfl⟩
  | _, _, .cons a t h => ⟨(nums_of h).1, by show a :: lks_nums _ = _; rw [(nums_of h).2]⟩
theorem ints_of_vals (t : Nat → Tok) : ∀ (ns : List Int) (i : Nat), RVs ω (ns.map .int) (lks_vals ns i t)
  | [], _ => .nil
  | a :: ns, i => .cons RV.iI (ints_of_vals t ns (i + 1))
theorem keys_ints {kvs : List (Int × Value)} : ∀ {es : List (Int × V)} {vs : List Value}, RK ω es kvs → vs.length = kvs.length → (∀ (j : Nat) (v : Value), vs[j]? = some v → ∃ k x, kvs[j]? = some (k, x) ∧ (PySem.intKind c.prog c.w).is k v = true) →
    IntsAre vs (es.map (·.1)) := by
  induction kvs with
  | nil =>
    intro es vs hk hl hv
    cases es with
    | nil => cases vs with | nil => exact .nil | cons _ _ => cases hl
    | cons p es => obtain ⟨_, _, h, _⟩ := hk; cases h
  | cons p kvs ih =>
    intro es vs hk hl hv
    cases es with
    | nil => cases hk
    | cons q es =>
      obtain ⟨r, rs', h1, h2, h3⟩ := hk
      cases h1
      cases vs with
      | nil => cases hl
      | cons v vs =>
        obtain ⟨k, x, e1, e2⟩ := hv 0 v rfl
        cases e1
        obtain ⟨t, rfl⟩ := Value.isInt_shape e2
        exact .cons _ t (ih h3 (Nat.succ.inj hl) fun j v e => hv (j + 1) v e)
theorem bi_sorted {a : Nat} {es : List (Int × V)} (h : H.o a = .idict es) (hz : 0 < es.length ∧ es.length < 64) (hs : lks_asc (es.map (·.1)) = true) (hq : fr.q = true) : Bi1 c n fr "sorted" (.obj a) H l (.obj H.n) (H.new (.list (es.map fun p => .int p.1))) :=
  fun x ω r h1 m s Q E k ret => k.dict_e (D := dI c) h h1 fun ob kvs hn hm hc lo hd hk => by
    have hD := kda_dict k.N hm hd
    obtain ⟨ep, hat⟩ := hD.dictAt
    refine kdu_sorted (kdl_dict (knd := PySem.intKind c.prog c.w) (kvs := kvs) (ep := ep) lo) (k.hh hq) k.F k.N hat (by rw [hk.len, sizeLine_eq]; lia) fun D h' tk vs F N lt hl hv => ?_
    have hi := keys_ints (c := c) hk hl hv
    obtain ⟨n1, n2⟩ := nums_of hi
    have hlen : vs.length = es.length := by rw [hl, hk.len]
    refine lks_sort (q := es.map (·.1)) F N (fun t => Upd.head fun p hp => Nat.ne_of_lt (lt p hp)) n1 (by show ((lks_nums vs).isPerm _ && _) = true; rw [n2, hs, List.isPerm_iff.mpr (List.Perm.refl _)]; rfl) (by
      cases vs with
      | nil => rw [List.length_nil] at hlen; lia
      | cons _ _ => rfl) (by show vs.length < 64; lia) fun t h'' F' N' => ?_
    obtain ⟨k₂, x₂, r₂⟩ := k.add (o := .list (es.map fun p => .int p.1)) (tk := tk) F' N' lt notImm_list ⟨_, _, rfl, by
      have := ints_of_vals (ω := ω.add D (W.listOf (List.toArray (lks_vals (es.map (·.1)) 0 t)) 2)) t (es.map (·.1)) 0
      rw [List.map_map] at this
      exact this⟩
    exact ret _ _ m h'' tk k₂ x₂ r₂
end
end Mine
end

section
namespace Mine
section
variable {c : Cx} {n : Nat} {fr : FrS} {ω : Wd} {H H₁ H₂ H₃ : Hp} {l l₁ l₂ l₃ : Loc} {x : Fx} {m : Str → Option Value} {s : Shared}
/-! remove -/
noncomputable def eqB : Value → Value → Bool
  | .int a _, .int b _ => a == b
  | .str a _, .str b _ => a == b
  | _, _ => false
theorem gives_si (a : Str) (t : Tok) (b : Int) (u : Tok) : MeetsSeq.EqGives (.str a t) (.int b u) false := fun prog w A E s Q h => by
  unfold eqBool
  refine wpAny_holding ?_
  rw [if_neg (by simp)]
  exact wpAny_bind (EqMixed.eq_str_int (wpAny_truthy_bool h))
theorem gives_is (a : Int) (t : Tok) (b : Str) (u : Tok) : MeetsSeq.EqGives (.int a t) (.str b u) false := fun prog w A E s Q h => by
  unfold eqBool
  refine wpAny_holding ?_
  rw [if_neg (by simp)]
  exact wpAny_bind (EqMixed.eq_int_str (wpAny_truthy_bool h))
noncomputable def si : V → Bool
  | .int _ => true
  | .str _ => true
  | _ => false
theorem gives_B {v u : V} {r t : Value} (h1 : RV ω v r) (h2 : RV ω u t) (s1 : si v = true) (s2 : si u = true) : MeetsSeq.EqGives r t (eqB r t) := by
  cases v <;> cases s1 <;> cases u <;> cases s2
  · exact RV.int_e h1 fun _ => RV.int_e h2 fun _ => .int _ _ _ _
  · exact RV.int_e h1 fun _ => RV.str_e h2 fun _ => gives_is _ _ _ _
  · exact RV.str_e h1 fun _ => RV.int_e h2 fun _ => gives_si _ _ _ _
  · exact RV.str_e h1 fun _ => RV.str_e h2 fun _ => eqGives_str _ _ _ _
theorem eqB_iff {v u : V} {r t : Value} (h1 : RV ω v r) (h2 : RV ω u t) (s1 : si v = true) (s2 : si u = true) : eqB r t = true ↔ v = u := by
  cases v <;> cases s1 <;> cases u <;> cases s2
  · exact RV.int_e h1 fun _ => RV.int_e h2 fun _ => ⟨fun e => by have := eq_of_beq (show (_ == _) = true from e); rw [this], fun e => by cases e; exact beq_self_eq_true _⟩
  · exact RV.int_e h1 fun _ => RV.str_e h2 fun _ => ⟨fun e => (by cases e), fun e => (by cases e)⟩
  · exact RV.str_e h1 fun _ => RV.int_e h2 fun _ => ⟨fun e => (by cases e), fun e => (by cases e)⟩
  · exact RV.str_e h1 fun _ => RV.str_e h2 fun _ => ⟨fun e => by have := eq_of_beq (show (_ == _) = true from e); rw [this], fun e => by cases e; exact beq_self_eq_true _⟩
theorem RVs.at_ {vs : List V} : ∀ {rs : List Value}, RVs ω vs rs → ∀ {r : Value}, r ∈ rs → ∃ v ∈ vs, RV ω v r := by
  induction vs with
  | nil => intro rs h r hr; rw [h.nil_e] at hr; cases hr
  | cons v vs ih =>
    intro rs h r hr
    unfold RVs at h
    obtain ⟨r', rs', rfl, h1, h2⟩ := h
    rcases List.mem_cons.mp hr with rfl | hr
    · exact ⟨v, .head _, h1⟩
    · obtain ⟨u, h3, h4⟩ := ih h2 hr
      exact ⟨u, .tail _ h3, h4⟩
theorem bi_remove {a : Nat} {vs us : List V} {v : V} (h : H.o a = .list (vs ++ v :: us)) (hz : vs.length + us.length ≤ 1000) (hv : v ∉ vs) (hs : (vs ++ v :: us).all si = true) : Bi2 c n fr "list.remove" (.obj a) v H l .none (H.set a (.list (vs ++ us))) :=
  fun x ω r r2 h1 h2 m s Q E k ret => k.lst_e h h1 fun items e hn hm hit hl => by
    have z := k.N _ hm
    have sv : si v = true := List.all_eq_true.mp hs v (by simp)
    revert hm z
    refine RVs.cut_e hit fun ps p qs g1 g2 g3 l1 l2 hm z => ?_
    have hmem : ∀ y ∈ ps ++ p :: qs, MeetsSeq.EqGives y r2 (eqB y r2) := fun y hy => by
      have hit' : RVs ω (vs ++ v :: us) (ps ++ p :: qs) := g1.app (.cons g2 g3)
      obtain ⟨u, u1, u2⟩ := hit'.at_ hy
      exact gives_B u2 h2 (List.all_eq_true.mp hs u u1) sv
    have hg : (List.toArray (ps ++ p :: qs))[ps.length]? = some p := by simp
    have hsz : ps.length < (List.toArray (ps ++ p :: qs)).size := by simp
    refine call_meets PySem.F.slot_list_remove ⟨_, z.1, rfl⟩ PySem.F.entry_list_remove (PySem.F.args_list_remove_2 _ _) (MeetsSeq.list_remove (ω.ρ a) (List.toArray (ps ++ p :: qs)) e r2 (fun y => eqB y r2) (fun y hy => hmem y (by simpa using hy)) ps.length hsz ?_ ?_ ?_) ⟨z.1, ?_⟩
    · have : (List.toArray (ps ++ p :: qs))[ps.length] = p := by simp
      rw [this]; exact (eqB_iff g2 h2 sv sv).mpr rfl
    · intro j hj hlt
      have e1 : (List.toArray (ps ++ p :: qs))[j] = ps[j] := by simp [List.getElem_append_left hlt]
      rw [e1]
      obtain ⟨u, u1, u2⟩ := g1.at_ (List.getElem_mem hlt)
      cases q : eqB ps[j] r2 with
      | false => rfl
      | true => exact absurd ((eqB_iff u2 h2 (List.all_eq_true.mp hs u (List.mem_append_left _ u1)) sv).mp q ▸ u1) hv
    · rw [List.size_toArray, List.length_append, List.length_cons, sizeLine_eq]; lia
    · have x₁ := k.put (o := .list (vs ++ us)) (tk := s.toks) hn (by rw [h]; intro q; cases q) hm notImm_list notImm_list (Heap.SameBut.update ..) (PySem.IsL.update z.1 (fun x => x.eraseIdxIfInBounds ps.length)) ⟨ps ++ qs, _, by
        rw [show (List.toArray (ps ++ p :: qs)).eraseIdxIfInBounds ps.length = List.toArray (ps ++ qs) by simp [Array.eraseIdxIfInBounds, List.eraseIdx_append_of_length_le]], (g1.app g3).mono (Wd.put_ext k.N hm notImm_list _)⟩
      exact ret _ _ m _ s.toks x₁.1 x₁.2 RV.none
/-! range -/
theorem notImm_range {a b : Int} {t u v : Tok} : ¬ Imm { cls := .type "range", data := .fields #[.int a t, .int b u, .int 1 v] } := notImm_cls rfl (by decide) (by decide)
theorem ty_range {i : Int} : Ty1 c n fr "range" (.int i) H l (.obj H.n) (H.new (.range 0 i)) :=
  fun x ω r h1 m s Q E k ret => RV.int_e h1 fun t => call_range_1 (by
    obtain ⟨k₂, x₂, r₂⟩ := k.add (o := .range 0 i) (tk := s.toks + 1 + 1) (k.F.push _) (News.push k.F k.N _ rfl) (fun p hp => Heap.lt_size (k.N p hp).1) notImm_range ⟨_, _, _, rfl⟩
    exact ret _ _ m _ _ k₂ x₂ r₂)
theorem ty_range2 {i j : Int} : ∀ x ω r r', RV ω (.int i) r → RV ω (.int j) r' → At c n fr x ω (call (.type "range") [r, r']) H l (fun ω r => RV ω (.obj H.n) r) (H.new (.range i j)) l :=
  fun x ω r r' h1 h2 m s Q E k ret => RV.int_e h1 fun t => RV.int_e h2 fun u => call_range_2 (by
    obtain ⟨k₂, x₂, r₂⟩ := k.add (o := .range i j) (tk := s.toks + 1) (k.F.push _) (News.push k.F k.N _ rfl) (fun p hp => Heap.lt_size (k.N p hp).1) notImm_range ⟨_, _, _, rfl⟩
    exact ret _ _ m _ _ k₂ x₂ r₂)
theorem Ok.range (k : Ok c n fr ω H l x m s) {a : Nat} {i j : Int} {r : Value} (h : H.o a = .range i j) (hr : RV ω (.obj a) r) : ∃ t u v, r = .ref (ω.ρ a) ∧ a < ω.n ∧ IsRange s.heap (ω.ρ a) i j 1 t u v := by
  unfold RV at hr
  obtain ⟨h1, rfl⟩ := hr
  obtain ⟨ob, h3, h4, h5⟩ := k.R.at_ a h1 (by rw [h]; intro q; cases q)
  rw [h] at h5
  obtain ⟨t, u, v, rfl⟩ := h5
  exact ⟨t, u, v, rfl, h1, k.N.get h3⟩
theorem small_of {i j : Int} (hi : 0 ≤ i) (hj : j ≤ 1000) (hij : i ≤ 1000) (hj0 : -1000 ≤ j) : Builtin.Range.small i j 1 = true := by
  unfold Builtin.Range.small
  rw [rangeSize_nat]
  simp only [Builtin.Range.rangeFitsLong, Bool.and_eq_true, Bool.or_eq_true, decide_eq_true_eq]
  refine ⟨⟨⟨⟨?_, ?_⟩, ?_⟩, ?_⟩, .inr ?_⟩ <;> first | (simp; lia) | lia | decide
theorem ty_listRange {a : Nat} {i j : Int} (h : H.o a = .range i j) (hi : 0 ≤ i) (hj : j ≤ 1000) (hij : i ≤ 1000) (hj0 : -1000 ≤ j) (hq : fr.q = true) :
    Ty1 c n fr "list" (.obj a) H l (.obj H.n) (H.new (.list ((rangeInts i 1 (j - i).toNat).map .int))) :=
  fun x ω r h1 m s Q E k ret => by
    obtain ⟨t, u, v, rfl, hn, hr⟩ := k.range h h1
    refine call_list_range (k.hh hq) hr (small_of hi hj hij hj0) (rangeSize_nat i j) (by lia) fun h' tk acc' c' hk hS hacc => ?_
    obtain ⟨k₂, x₂, r₂⟩ := k.add (o := .list ((rangeInts i 1 (j - i).toNat).map .int)) (tk := tk) (k.F.keeps hk) (news_pushed k.F k.N hk hS rfl) (fun p hp => Heap.lt_size (k.N p hp).1) notImm_list ⟨acc'.toList, c', by rw [Array.toArray_toList], by
      have : ∀ (k : Nat) (acc : List Value) (i : Int), acc.length = k → (∀ (j : Nat) v, acc[j]? = some v → ∃ t, v = Value.int (i + (j : Int) * 1) t) → RVs (ω.add s.heap.objs.size (W.listOf acc' c')) ((rangeInts i 1 k).map V.int) acc := by
        intro k
        induction k with
        | zero => intro acc i e _; rw [List.length_eq_zero_iff.mp e]; exact .nil
        | succ k ih =>
          intro acc i e g
          cases acc with
          | nil => cases e
          | cons y ys =>
            obtain ⟨t, rfl⟩ := g 0 y rfl
            have e1 : rangeInts i 1 (k + 1) = (i + (0 : Nat) * 1) :: rangeInts (i + 1) 1 k := by
              unfold rangeInts
              rw [List.range_succ_eq_map, List.map_cons, List.map_map]
              congr 1
              refine List.map_congr_left fun z _ => ?_
              simp only [Function.comp]; push_cast; lia
            rw [e1, List.map_cons]
            refine .cons RV.iI (ih ys (i + 1) (Nat.succ.inj e) fun j v hv => ?_)
            obtain ⟨t, rfl⟩ := g (j + 1) v hv
            exact ⟨t, by rw [show i + ((j + 1 : Nat) : Int) * 1 = i + 1 + (j : Int) * 1 by push_cast; lia]⟩
      exact this _ acc'.toList i (by rw [Array.length_toList]; exact hacc.1) fun j v e => by
        have := hacc.2 j v (by rw [← Array.getElem?_toList]; exact e)
        exact this⟩
    exact ret _ _ m h' tk k₂ x₂ r₂
end
end Mine
end

section
namespace Mine
section
variable {c : Cx} {n : Nat} {fr : FrS} {ω : Wd} {H H₁ H₂ H₃ : Hp} {l l₁ l₂ l₃ : Loc} {x : Fx} {m : Str → Option Value} {s : Shared}
/-! for over a range -/
theorem notImm_riter {a b : Int} : ¬ Imm { cls := .type "range_iterator", data := .fields #[rawInt a, rawInt b, rawInt 1] } := notImm_cls rfl (by decide) (by decide)
theorem Ok.riter (k : Ok c n fr ω H l x m s) {i : Nat} {a j : Int} (hn : i < ω.n) (hi : H.o i = .riter a j) :
    (ω.ρ i, { cls := .type "range_iterator", data := .fields #[rawInt a, rawInt j, rawInt 1] }) ∈ ω.news ∧ IsRangeIter s.heap (ω.ρ i) a j 1 := by
  obtain ⟨ob, h1, h2, h3⟩ := k.R.at_ i hn (by rw [hi]; intro q; cases q)
  rw [hi] at h3
  have h3 : ob = _ := h3
  subst h3
  exact ⟨h1, k.N.get h1⟩
theorem rg_end {target : Expr} {body : List Stmt} {i : Nat} {a j : Int} (hi : H.o i = .riter a j) (hj : j ≤ 0) (hq : fr.q = true) : Fo c n fr target body i H l .next (H.set i .junk) l :=
  fun x ω m s R k hn ret => for_step (by
    obtain ⟨h1, h3⟩ := k.riter hn hi
    refine wpAny_pyNext_range_end (k.hh hq) h3 hj fun h' hx => ?_
    have z := k.N _ h1
    have x₁ := Wd.drop_ext k.N h1 notImm_riter
    refine wpAny_execs_nil (ret _ (ω.drop (ω.ρ i)) m h' s.toks (k.at_ x₁ ⟨k.F.ns.at' fun o e => hx _ _ (Ne.symm z.2.1) e, fun b o e => hx _ _ (fun q => by rw [q, z.2.2] at e; cases e) (k.F.keep b o e), k.F.above⟩ (fun p hp => ?_) (k.R.drop k.N hn (by rw [hi]; intro q; cases q) h1 notImm_riter)) x₁ rfl)
    have z' := k.N _ (List.mem_filter.mp hp).1
    exact ⟨hx _ _ (of_decide_eq_true (List.mem_filter.mp hp).2) z'.1, z'.2⟩)
theorem rg_turn {target : Expr} {body : List Stmt} {i : Nat} {a j : Int} {f : Fl} (hi : H.o i = .riter a j) (hj : 0 < j) (hv : ∀ it v, letOwnedTupleGo target it v = pure ())
    (ha : As c n fr target (.int a) (H.set i (.riter (a + 1) (j - 1))) l H₁ l₁) (hb : Exs c n fr body H₁ l₁ .next H₂ l₂) (hs : Fo c n fr target body i H₂ l₂ f H₃ l₃) : Fo c n fr target body i H l f H₃ l₃ :=
  fun x ω m s R k hn ret => for_step (by
    obtain ⟨h1, h3⟩ := k.riter hn hi
    refine wpAny_pyNext_range_item h3 hj fun h' hit hsb => ?_
    obtain ⟨k₁, x₁⟩ := k.put (o := .riter (a + 1) (j - 1)) (tk := s.toks + 1) hn (by rw [hi]; intro q; cases q) h1 notImm_riter notImm_riter hsb hit rfl
    show wpAny _ _ (letOwnedTupleGo _ _ _) _ _ _
    rw [hv]
    refine wpAny_pure (ha x _ _ RV.iI m _ _ _ k₁ fun _ ω₂ m₂ h₂ tk₂ k₂ x₂ _ => hb x ω₂ m₂ _ _ _ k₂ fun rf ω₃ m₃ h₃ tk₃ k₃ x₃ r₃ => ?_)
    have r₃ : rf = .next := r₃
    subst r₃
    have X := (x₁.trans x₂).trans x₃
    have := hs x ω₃ m₃ _ R k₃ (Nat.lt_of_lt_of_le hn X.le) fun rf ω₄ m₄ h₄ tk₄ k₄ x₄ r₄ => ret rf ω₄ m₄ h₄ tk₄ k₄ (X.trans x₄) r₄
    rw [X.ρ i hn] at this
    exact this)
theorem ex_forr {target iter : Expr} {body : List Stmt} {pos : Pos} {r : Nat} {a b : Int} {f : Fl} (he : Ev c n fr iter H l (.obj r) H₁) (hr : H₁.o r = .range a b) (hi : 0 ≤ a) (hb : b ≤ 1000) (hab : a ≤ 1000) (hb0 : -1000 ≤ b)
    (h : Fo c n fr target body H₁.n (H₁.new (.riter a ((b - a).toNat : Nat))) l f H₂ l₂)
    (hs : ∀ env x, foldedSetIterable iter env x = pure x := by intro _ _; rfl) : Ex c n fr (.For target iter body [] pos) H l f H₂ l₂ :=
  fun x ω m s Q E k ret => PySem.wpAny_For (he x ω m s _ _ k fun rv ω₁ m₁ h' tk k₁ x₁ r₁ => by
    obtain ⟨t, u, v, rfl, hn, hR⟩ := k₁.range hr r₁
    refine wpAny_pyIter_range hR (small_of hi hb hab hb0) ?_
    rw [rangeSize_nat]
    obtain ⟨k₂, x₂, r₂⟩ := k₁.add (o := .riter a ((b - a).toNat : Nat)) (tk := tk) (k₁.F.push _) (News.push k₁.F k₁.N { cls := .type "range_iterator", data := .fields #[rawInt a, rawInt ((b - a).toNat : Nat), rawInt 1] }) (fun p hp => Heap.lt_size (k₁.N p hp).1) notImm_riter rfl
    have q : H₁.n = ω₁.n := k₁.R.n
    refine Eq.mp (congrArg (fun a => codeAny (model c.prog c.w) x.A (.forLoop target (.ref a) body [] (x.env fr)) _ _) (show (ω₁.add h'.objs.size _).ρ H₁.n = h'.objs.size by rw [q, Wd.add_here])) (h x _ m₁ _ _ k₂ (by show H₁.n < ω₁.n + 1; lia) fun rf ω₃ m₃ h₃ tk₃ k₃ x₃ r₃ => ?_)
    exact ret rf ω₃ m₃ h₃ tk₃ k₃ ((x₁.trans x₂).trans x₃) r₃) (hs _)
/-- type calls as expressions: callees in K are fine, types and built-ins too -/
theorem ev_call_ty1 {fe e : Expr} {pos : Pos} {t : String} {u v : V} (hf : Ev c n fr fe H l (.ty t) H₁) (ha : Ev c n fr e H₁ l u H₂) (hc : Ty1 c n fr t u H₂ l v H₃)
    (he : ∀ env, eval (.Call fe [e] [] pos) env = (do callWith pos (← eval fe env) [] (backTo pos (starEach [e] env)) (backToKw pos (keywordEach [] env))) := by intro _; rfl)
    (h1 : ∀ env, starEach [e] env = (false, eval e env) :: starEach [] env := by intro _; rfl) (h2 : ∀ env, (backTo pos (starEach [] env)).any (·.1) = false := by intro _; rfl) :
    Ev c n fr (.Call fe [e] [] pos) H l v H₃ :=
  fun x ω m s Q E k ret => Call_ (hf x ω m s _ _ k fun rf ω₁ m₁ h' tk k₁ x₁ r₁ => by
    unfold RV at r₁
    subst r₁
    exact PyProof.Rows.callWith_type1 (args_cons (ha x ω₁ m₁ _ _ _ k₁ fun r ω₂ m₂ h'' tk' k₂ x₂ r₂ => args_nil (hc x ω₂ r r₂ m₂ _ _ _ k₂ fun rv ω₃ m₃ h₃ tk₃ k₃ x₃ r₃ => ret rv ω₃ m₃ h₃ tk₃ k₃ ((x₁.trans x₂).trans x₃) r₃)) (h1 _)) (h1 _) (h2 _)) (he _)
theorem ev_call_ty2 {fe e e' : Expr} {pos : Pos} {t : String} {u u' v : V} {H₄ : Hp} (hf : Ev c n fr fe H l (.ty t) H₁) (ha : Ev c n fr e H₁ l u H₂) (ha' : Ev c n fr e' H₂ l u' H₃) (hc : ∀ x ω r r', RV ω u r → RV ω u' r' → At c n fr x ω (call (.type t) [r, r']) H₃ l (fun ω r => RV ω v r) H₄ l)
    (he : ∀ env, eval (.Call fe [e, e'] [] pos) env = (do callWith pos (← eval fe env) [] (backTo pos (starEach [e, e'] env)) (backToKw pos (keywordEach [] env))) := by intro _; rfl)
    (h1 : ∀ env, starEach [e, e'] env = (false, eval e env) :: starEach [e'] env := by intro _; rfl) (h1' : ∀ env, starEach [e'] env = (false, eval e' env) :: starEach [] env := by intro _; rfl) (h2 : ∀ env, (backTo pos (starEach [e'] env)).any (·.1) = false := by intro _; rfl) :
    Ev c n fr (.Call fe [e, e'] [] pos) H l v H₄ :=
  fun x ω m s Q E k ret => Call_ (hf x ω m s _ _ k fun rf ω₁ m₁ h' tk k₁ x₁ r₁ => by
    unfold RV at r₁
    subst r₁
    exact PyProof.Rows.callWith_type1 (args_cons (ha x ω₁ m₁ _ _ _ k₁ fun r ω₂ m₂ h'' tk' k₂ x₂ r₂ => args_cons (ha' x ω₂ m₂ _ _ _ k₂ fun r' ω₃ m₃ h₃ tk₃ k₃ x₃ r₃ => args_nil (hc x ω₃ r r' (r₂.mono x₃) r₃ m₃ _ _ _ k₃ fun rv ω₄ m₄ h₄ tk₄ k₄ x₄ r₄ =>
      ret rv ω₄ m₄ h₄ tk₄ k₄ (((x₁.trans x₂).trans x₃).trans x₄) r₄)) (h1' _)) (h1 _)) (h1 _) (h2 _)) (he _)
/-! a method as a value -/
theorem ev_bound {o : Expr} {name : Str} {pos : Pos} {i d : Nat} {C f : Addr} {fs : List (Str × V)} (ho : Ev c n fr o H l (.obj i) H₁) (I : Inst H₁ i C d fs) (hno : fget fs name = none) (P : Plain c.K C) (hg : plainGet c.K C name = true)
    (ha : findIn c.K (.ref C) name = some (some (.ref f))) (hf : isFn c.K (.ref f) = true) (hgf : specialIn c.K (.ref f) "__get__" = some (some (.builtin "function.__get__"))) (ht : takesIn c.K (.ref f) = some false) (hcn : copiedNames.contains name = false)
    (he : ∀ env, eval (.Attribute o name pos) env = (do
      let v ← eval o env
      standAt pos.atName
      let r ← holding [v] (getAttr v name true)
      letTemporaryGo o v r
      pure r) := by intro _; rfl) : Ev c n fr (.Attribute o name pos) H l (.meth f i) H₁ := by
  intro x ω m s Q E k ret
  refine Attribute_any_ (ho x ω m s _ _ k fun r ω₁ m₁ h' tk k₁ x₁ r₁ => ?_) (he _)
  obtain ⟨rfl, hi, _, es, e, h1, h2, h3⟩ := k₁.inst r₁ I
  refine kbm_bound k₁.F k₁.X k₁.N (k₁.instAt h1 h2) hg P.dict ha hf hgf ht hcn (h3.get.2.1 hno) fun q h'' F N lt => ?_
  refine ret _ _ m₁ h'' (tk + 1) (k₁.imm (tk := tk + 1) F N) (x₁.trans (Wd.imm_ext ..)) ?_
  unfold RV
  exact ⟨hi, q, rfl, .head _⟩
end
end Mine
end

section
namespace Mine
/-- where a thing of the law's world lies -/
inductive Rl where
  | hp | hpd | things | hdy | ti (i : Nat) | td (i : Nat) | tf (i : Nat)
  | bk | kinds | rows | holders | weak | unow | state | bdy | rl (i : Nat) | hl (i : Nat)
  | hand | cells | tmp (k : Nat)
  deriving DecidableEq
noncomputable abbrev Lk := Str × Nat
/-- the law's world, plainly -/
structure St where
  nt : Nat
  kd : Nat → Str
  fl : Nat → List Lk
  sg : Nat → Int
  wk : Nat → Int
  un : Nat → Int
  st : Nat → Str
  dy : List Nat
  nk : Nat
  nr : Nat
  nh : Nat
  nw : Nat
  nu : Nat
  ns : Nat
  bk : Nat → Str
  rw : Nat → List Lk
  hd : Nat → List V
  bw : Nat → Int
  bu : Nat → Int
  bs : Nat → Str
  bd : List Nat
  cells : List Nat
  at_ : Nat
  tfa : Nat → Nat
  rla : Nat → Nat
  tmp : List (Nat × O)
noncomputable def upd {α : Type} (f : Nat → α) (i : Nat) (v : α) : Nat → α := fun j => if j = i then v else f j
theorem upd_here {α : Type} (f : Nat → α) (i : Nat) (v : α) : upd f i v i = v := if_pos rfl
theorem upd_old {α : Type} (f : Nat → α) {i j : Nat} (v : α) (h : j ≠ i) : upd f i v j = f j := if_neg h
noncomputable def tab {α : Type} (n : Nat) (f : Nat → α) : List (Int × α) := (List.range n).map fun i => (((i + 1 : Nat) : Int), f (i + 1))
noncomputable def wordOf (k : Str) : Str := if k = "object" then "ref" else if k = "box" then "box" else if k = "buffer" then "buf" else "fn"
noncomputable def linkV (kd : Nat → Str) (p : Lk) : V :=
  if p.1 = "strong" then (if wordOf (kd p.2) = "fn" then .tup [.str "fn", .str "f", .int p.2] else .tup [.str (wordOf (kd p.2)), .int p.2]) else .tup [.str p.1, .int p.2]
noncomputable def rowV (p : Lk) : V := .tup [.str p.1, .int p.2]
noncomputable def nameOf (i : Nat) : Str := "K" ++ Str.ofString (toString (i : Int))
noncomputable def adr (α : Rl → Nat) (σ : St) : Rl → Nat
  | .tf i => σ.tfa i
  | .rl i => σ.rla i
  | .tmp k => ((σ.tmp[k]?).map (·.1)).getD 0
  | r => α r
noncomputable def ok (σ : St) : Rl → Prop
  | .ti i => 1 ≤ i ∧ i ≤ σ.nt
  | .td i => 1 ≤ i ∧ i ≤ σ.nt
  | .tf i => 1 ≤ i ∧ i ≤ σ.nt
  | .rl i => 1 ≤ i ∧ i ≤ σ.nr
  | .hl i => 1 ≤ i ∧ i ≤ σ.nh
  | .tmp k => k < σ.tmp.length
  | _ => True
noncomputable def cHeap : Addr := 237
noncomputable def cThing : Addr := 97
noncomputable def cont (α : Rl → Nat) (σ : St) : Rl → O
  | .hp => .inst cHeap (α .hpd)
  | .hpd => .attrs [("things", .obj (α .things)), ("last", .int σ.nt), ("dying", .obj (α .hdy))]
  | .things => .idict (tab σ.nt fun i => .obj (α (.ti i)))
  | .hdy => .list (σ.dy.map fun i : Nat => V.int (i : Int))
  | .ti i => .inst cThing (α (.td i))
  | .td i => .attrs [("kind", .str (σ.kd i)), ("name", .str (nameOf i)), ("fields", .obj (σ.tfa i)), ("strong", .int (σ.sg i)), ("weak", .int (σ.wk i)), ("unowned", .int (σ.un i)), ("state", .str (σ.st i))]
  | .tf i => .list ((σ.fl i).map (linkV σ.kd))
  | .bk => .sdict [("kinds", .obj (α .kinds)), ("rows", .obj (α .rows)), ("holders", .obj (α .holders)), ("weak", .obj (α .weak)), ("unowned", .obj (α .unow)), ("state", .obj (α .state)), ("dying", .obj (α .bdy))]
  | .kinds => .idict (tab σ.nk fun i => .str (σ.bk i))
  | .rows => .idict (tab σ.nr fun i => .obj (σ.rla i))
  | .holders => .idict (tab σ.nh fun i => .obj (α (.hl i)))
  | .weak => .idict (tab σ.nw fun i => .int (σ.bw i))
  | .unow => .idict (tab σ.nu fun i => .int (σ.bu i))
  | .state => .idict (tab σ.ns fun i => .str (σ.bs i))
  | .bdy => .list (σ.bd.map fun i : Nat => V.int (i : Int))
  | .rl i => .list ((σ.rw i).map rowV)
  | .hl i => .list (σ.hd i)
  | .hand => .sdict [("cells", .obj (α .cells)), ("at", .int σ.at_)]
  | .cells => .list (σ.cells.map fun i : Nat => V.int (i : Int))
  | .tmp k => ((σ.tmp[k]?).map (·.2)).getD .junk
structure Rep (α : Rl → Nat) (σ : St) (H : Hp) : Prop where
  o : ∀ r, ok σ r → H.o (adr α σ r) = cont α σ r
  lt : ∀ r, ok σ r → adr α σ r < H.n
  inj : ∀ r r', ok σ r → ok σ r' → adr α σ r = adr α σ r' → r = r'
section
variable {α : Rl → Nat} {σ σ' : St} {H : Hp}
/-- one object's content turns -/
theorem Rep.set (R : Rep α σ H) (r : Rl) (hr : ok σ r) (hok : ∀ r', ok σ' r' → ok σ r') (ha : ∀ r', ok σ r' → adr α σ' r' = adr α σ r') (hc : ∀ r', ok σ r' → r' ≠ r → cont α σ' r' = cont α σ r') {o : O} (ho : o = cont α σ' r) :
    Rep α σ' (H.set (adr α σ r) o) := by
  subst ho
  refine ⟨fun r' h' => ?_, fun r' h' => ?_, fun r₁ r₂ h1 h2 e => ?_⟩
  · have h := hok r' h'
    rw [ha r' h]
    by_cases q : r' = r
    · subst q; rw [Hp.set_here]
    · rw [Hp.set_old _ _ _ (fun e => q (R.inj _ _ h hr e)), R.o r' h, hc r' h q]
  · have h := hok r' h'
    rw [ha r' h]; exact R.lt r' h
  · have h1 := hok _ h1
    have h2 := hok _ h2
    rw [ha _ h1, ha _ h2] at e
    exact R.inj _ _ h1 h2 e
/-- rubbish more -/
theorem Rep.grow (R : Rep α σ H) {H' : Hp} (hn : H.n ≤ H'.n) (h : ∀ a, a < H.n → H'.o a = H.o a) : Rep α σ H' :=
  ⟨fun r hr => by rw [h _ (R.lt r hr)]; exact R.o r hr, fun r hr => Nat.lt_of_lt_of_le (R.lt r hr) hn, R.inj⟩
theorem Rep.new (R : Rep α σ H) (o : O) : Rep α σ (H.new o) := R.grow (Nat.le_succ _) fun a ha => H.new_old o (Nat.ne_of_lt ha)
/-- a temporary is kept in sight -/
theorem Rep.push (R : Rep α σ H) {a : Nat} {o : O} (ha : a < H.n) (ho : H.o a = o) (hf : ∀ r, ok σ r → adr α σ r ≠ a) : Rep α { σ with tmp := σ.tmp ++ [(a, o)] } H := by
  have key : ∀ r, ok { σ with tmp := σ.tmp ++ [(a, o)] } r → (ok σ r ∧ adr α { σ with tmp := σ.tmp ++ [(a, o)] } r = adr α σ r ∧ cont α { σ with tmp := σ.tmp ++ [(a, o)] } r = cont α σ r) ∨
      (r = .tmp σ.tmp.length ∧ adr α { σ with tmp := σ.tmp ++ [(a, o)] } r = a ∧ cont α { σ with tmp := σ.tmp ++ [(a, o)] } r = o) := fun r hr => by
    cases r
    case tmp k =>
      have hr : k < (σ.tmp ++ [(a, o)]).length := hr
      rw [List.length_append, List.length_singleton] at hr
      by_cases q : k < σ.tmp.length
      · refine .inl ⟨q, ?_, ?_⟩
        · show (((σ.tmp ++ [(a, o)])[k]?).map (·.1)).getD 0 = ((σ.tmp[k]?).map (·.1)).getD 0
          rw [List.getElem?_append_left q]
        · show (((σ.tmp ++ [(a, o)])[k]?).map (·.2)).getD .junk = ((σ.tmp[k]?).map (·.2)).getD .junk
          rw [List.getElem?_append_left q]
      · obtain rfl : k = σ.tmp.length := by lia
        refine .inr ⟨rfl, ?_, ?_⟩
        · show (((σ.tmp ++ [(a, o)])[σ.tmp.length]?).map (·.1)).getD 0 = a
          simp
        · show (((σ.tmp ++ [(a, o)])[σ.tmp.length]?).map (·.2)).getD .junk = o
          simp
    all_goals exact .inl ⟨hr, rfl, rfl⟩
  refine ⟨fun r hr => ?_, fun r hr => ?_, fun r₁ r₂ h1 h2 e => ?_⟩
  · rcases key r hr with ⟨h, e1, e2⟩ | ⟨h, e1, e2⟩
    · rw [e1, e2]; exact R.o r h
    · rw [e1, e2]; exact ho
  · rcases key r hr with ⟨h, e1, e2⟩ | ⟨h, e1, e2⟩
    · rw [e1]; exact R.lt r h
    · rw [e1]; exact ha
  · rcases key _ h1 with ⟨h, e1, _⟩ | ⟨h, e1, _⟩ <;> rcases key _ h2 with ⟨g, e2, _⟩ | ⟨g, e2, _⟩
    · rw [e1, e2] at e; exact R.inj _ _ h g e
    · rw [e1, e2] at e; exact absurd e (hf _ h)
    · rw [e1, e2] at e; exact absurd e.symm (hf _ g)
    · rw [h, g]
/-- a fresh temporary -/
theorem Rep.tmp (R : Rep α σ H) (o : O) : Rep α { σ with tmp := σ.tmp ++ [(H.n, o)] } (H.new o) :=
  (R.new o).push (Nat.lt_succ_self _) (H.new_here o) fun r hr => Nat.ne_of_lt (R.lt r hr)
/-- temporaries forgotten -/
theorem Rep.forget (R : Rep α σ H) (k : Nat) : Rep α { σ with tmp := σ.tmp.take k } H := by
  have key : ∀ r, ok { σ with tmp := σ.tmp.take k } r → (ok σ r ∧ adr α { σ with tmp := σ.tmp.take k } r = adr α σ r ∧ cont α { σ with tmp := σ.tmp.take k } r = cont α σ r) := fun r hr => by
    cases r
    case tmp j =>
      have hr : j < (σ.tmp.take k).length := hr
      rw [List.length_take] at hr
      refine ⟨by show j < σ.tmp.length; lia, ?_, ?_⟩
      · show (((σ.tmp.take k)[j]?).map (·.1)).getD 0 = ((σ.tmp[j]?).map (·.1)).getD 0
        rw [List.getElem?_take_of_lt (by lia)]
      · show (((σ.tmp.take k)[j]?).map (·.2)).getD .junk = ((σ.tmp[j]?).map (·.2)).getD .junk
        rw [List.getElem?_take_of_lt (by lia)]
    all_goals exact ⟨hr, rfl, rfl⟩
  refine ⟨fun r hr => ?_, fun r hr => ?_, fun r₁ r₂ h1 h2 e => ?_⟩
  · obtain ⟨h, e1, e2⟩ := key r hr
    rw [e1, e2]; exact R.o r h
  · obtain ⟨h, e1, e2⟩ := key r hr
    rw [e1]; exact R.lt r h
  · obtain ⟨h, e1, _⟩ := key _ h1
    obtain ⟨g, e2, _⟩ := key _ h2
    rw [e1, e2] at e; exact R.inj _ _ h g e
theorem Rep.tmpAt (R : Rep α σ H) {k a : Nat} {o : O} (h : σ.tmp[k]? = some (a, o)) : H.o a = o ∧ a < H.n := by
  have hk : k < σ.tmp.length := (List.getElem?_eq_some_iff.mp h).1
  have h1 := R.o (.tmp k) hk
  have h2 := R.lt (.tmp k) hk
  have e1 : adr α σ (.tmp k) = a := by show ((σ.tmp[k]?).map (·.1)).getD 0 = a; rw [h]; rfl
  have e2 : cont α σ (.tmp k) = o := by show ((σ.tmp[k]?).map (·.2)).getD .junk = o; rw [h]; rfl
  rw [e1, e2] at h1
  rw [e1] at h2
  exact ⟨h1, h2⟩
end
/-! tables -/
section
variable {n : Nat} {f : Nat → V}
theorem vget_tab : ∀ {n : Nat} {f : Nat → V} {g : Nat}, 1 ≤ g → g ≤ n → vget (tab n f) (g : Int) = some (f g) := by
  have key : ∀ (n m : Nat) (f : Nat → V) (g : Nat), 1 + m ≤ g → g ≤ n + m → vget ((List.range n).map fun i => (((i + m + 1 : Nat) : Int), f (i + m + 1))) (g : Int) = some (f g) := by
    intro n
    induction n with
    | zero => intro m f g h1 h2; lia
    | succ n ih =>
      intro m f g h1 h2
      rw [List.range_succ_eq_map, List.map_cons, List.map_map]
      unfold vget
      by_cases q : g = m + 1
      · subst q; rw [if_pos (by push_cast; lia)]; simp
      · rw [if_neg (by push_cast; lia)]
        have := ih (m + 1) f g (by lia) (by lia)
        rw [← this]
        congr 1
        refine List.map_congr_left fun i _ => ?_
        simp only [Function.comp, Prod.mk.injEq]
        exact ⟨by push_cast; lia, by congr 1; lia⟩
  intro n f g h1 h2
  have := key n 0 f g (by lia) (by lia)
  exact this
theorem vput_app {es es' : List (Int × V)} {k : Int} {v : V} (h : ∀ p ∈ es, p.1 ≠ k) : vput (es ++ es') k v = es ++ vput es' k v := by
  induction es with
  | nil => rfl
  | cons p es ih =>
    obtain ⟨j, u⟩ := p
    show (if j = k then (j, v) :: (es ++ es') else (j, u) :: vput (es ++ es') k v) = (j, u) :: (es ++ vput es' k v)
    rw [if_neg (h (j, u) (.head _)), ih fun q hq => h q (.tail _ hq)]
theorem tab_succ (n : Nat) (f : Nat → V) : tab (n + 1) f = tab n f ++ [(((n + 1 : Nat) : Int), f (n + 1))] := by
  unfold tab; rw [List.range_succ, List.map_append]; rfl
theorem tab_keys {n : Nat} {f : Nat → V} {p : Int × V} (h : p ∈ tab n f) : ∃ i, i < n ∧ p = (((i + 1 : Nat) : Int), f (i + 1)) := by
  unfold tab at h
  obtain ⟨i, hi, rfl⟩ := List.mem_map.mp h
  exact ⟨i, List.mem_range.mp hi, rfl⟩
theorem vput_new {n : Nat} {f : Nat → V} {v : V} : vput (tab n f) ((n + 1 : Nat) : Int) v = tab (n + 1) (upd f (n + 1) v) := by
  have e : tab n f = tab n f ++ [] := (List.append_nil _).symm
  rw [e, vput_app (fun p hp => by
    obtain ⟨i, hi, rfl⟩ := tab_keys hp
    intro q; simp only [Int.natCast_inj] at q; lia), tab_succ, upd_here]
  congr 1
  unfold tab
  refine List.map_congr_left fun i hi => ?_
  have := List.mem_range.mp hi
  rw [upd_old _ _ (by lia)]
theorem vput_tab {g : Nat} {v : V} (h1 : 1 ≤ g) : ∀ {n : Nat} {f : Nat → V}, g ≤ n → vput (tab n f) (g : Int) v = tab n (upd f g v)
  | 0, f, h => by lia
  | n + 1, f, h => by
    rw [tab_succ, tab_succ]
    by_cases q : g = n + 1
    · subst q
      rw [vput_app (fun p hp => by
        obtain ⟨i, hi, rfl⟩ := tab_keys hp
        intro q; simp only [Int.natCast_inj] at q; lia), upd_here]
      unfold vput
      rw [if_pos rfl]
      congr 1
      unfold tab
      refine List.map_congr_left fun i hi => ?_
      have := List.mem_range.mp hi
      rw [upd_old _ _ (by lia)]
    · have := vput_tab (v := v) h1 (n := n) (f := f) (by lia)
      rw [upd_old _ _ (by lia), ← this]
      clear this
      have hm : ∃ p ∈ tab n f, p.1 = (g : Int) := ⟨(((g - 1 + 1 : Nat) : Int), f (g - 1 + 1)), List.mem_map.mpr ⟨g - 1, List.mem_range.mpr (by lia), rfl⟩, by simp only [Int.natCast_inj]; lia⟩
      generalize tab n f = es at hm
      induction es with
      | nil => obtain ⟨p, hp, _⟩ := hm; cases hp
      | cons p es ih =>
        rw [List.cons_append]
        unfold vput
        by_cases q : p.1 = (g : Int)
        · rw [if_pos q, if_pos q]; rfl
        · rw [if_neg q, if_neg q, List.cons_append]
          congr 1
          refine ih ?_
          obtain ⟨p', hp', e⟩ := hm
          rcases List.mem_cons.mp hp' with rfl | hp'
          · exact absurd e q
          · exact ⟨p', hp', e⟩
theorem tab_len (n : Nat) (f : Nat → V) : (tab n f).length = n := by unfold tab; simp
end
end Mine
end

section
namespace Mine
section
variable {c : Cx} {n : Nat} {fr : FrS} {H H₁ H₂ H₃ : Hp} {l l₁ l₂ l₃ : Loc}
/-! items, by what they are read from -/
noncomputable abbrev SubR (c : Cx) (n : Nat) (fr : FrS) (o i : Expr) (a b : V) (H : Hp) (l : Loc) (v : V) : Prop :=
  ∀ x ω ra rb, RV ω a ra → RV ω b rb → At c n fr x ω (subscriptTail o i ra rb) H l (fun ω r => RV ω v r) H l
theorem ev_ix {o i : Expr} {pos : Pos} {a b v : V} (ho : Ev c n fr o H l a H₁) (hi : Ev c n fr i H₁ l b H₂) (hg : SubR c n fr o i a b H₂ l v) : Ev c n fr (.Subscript o i pos) H l v H₂ := ev_subs ho hi hg
theorem sub_sdict {o i : Expr} {a : Nat} {k : Str} {es : List (Str × V)} {v : V} (h : H.o a = .sdict es) (hv : vget es k = some v) (hs : PlainIx i := by intro _ _; rfl) : SubR c n fr o i (.obj a) (.str k) H l v :=
  fun x ω ra rb hr hb => At.now fun m s Q E k₀ ret => k₀.dict_e (D := dS c) h hr fun ob kvs hn hm hc lo hd hk =>
    let ⟨r, g1, g2⟩ := hk.get.1 v hv
    have hD := kda_dict k₀.N hm hd
    tail_any hD.typeIs slot_dict_getitem.lookup (wpAny_getItem_of ((dS c).is hb) hD.mapOf g1 (ret r _ g2)) (hs _ _)
theorem sub_idict {o i : Expr} {a : Nat} {k : Int} {es : List (Int × V)} {v : V} (h : H.o a = .idict es) (hv : vget es k = some v) (hs : PlainIx i := by intro _ _; rfl) : SubR c n fr o i (.obj a) (.int k) H l v :=
  fun x ω ra rb hr hb => At.now fun m s Q E k₀ ret => k₀.dict_e (D := dI c) h hr fun ob kvs hn hm hc lo hd hk =>
    let ⟨r, g1, g2⟩ := hk.get.1 v hv
    have hD := kda_dict k₀.N hm hd
    tail_any hD.typeIs slot_dict_getitem.lookup (wpAny_getItem_of ((dI c).is hb) hD.mapOf g1 (ret r _ g2)) (hs _ _)
theorem sub_list {o i : Expr} {a : Nat} {k : Int} {vs : List V} {v : V} (h : H.o a = .list vs) (h0 : 0 ≤ k) (h1 : k < 1000) (hv : vs[k.toNat]? = some v) (hs : PlainIx i := by intro _ _; rfl) : SubR c n fr o i (.obj a) (.int k) H l v :=
  fun x ω ra rb hr hb => RV.int_e hb fun t => At.now fun m s Q E k₀ ret => k₀.lst_e h hr fun items e hn hm hit hl =>
    let ⟨r, g1, g2⟩ := hit.get hv
    have hl := k₀.N.isList hm
    tail_any hl.typeIs slot_list_getitem.lookup (wpAny_getItem_list hl h0 (by lia) ((List.getElem?_toArray ..).trans g1) (ret r s.toks g2)) (hs _ _)
theorem sub_last {o i : Expr} {a : Nat} {vs : List V} {v : V} (h : H.o a = .list (vs ++ [v])) (hs : PlainIx i := by intro _ _; rfl) : SubR c n fr o i (.obj a) (.int (-1)) H l v :=
  fun x ω ra rb hr hb => RV.int_e hb fun t => At.now fun m s Q E k₀ ret => k₀.lst_e h hr fun items e hn hm hit hl =>
    let ⟨r, g1, g2, g3⟩ := lastAt hit
    have hl := k₀.N.isList hm
    tail_any hl.typeIs slot_list_getitem.lookup (wpAny_getItem_list_neg hl (by decide) g3 (by decide) g1 (ret r s.toks g2)) (hs _ _)
theorem sub_tup {o i : Expr} {k : Int} {vs : List V} {v : V} (h0 : 0 ≤ k) (h1 : k < 1000) (hv : vs[k.toNat]? = some v) (hs : PlainIx i := by intro _ _; rfl) : SubR c n fr o i (.tup vs) (.int k) H l v := by
  obtain ⟨j, rfl⟩ : ∃ j : Nat, k = j := ⟨k.toNat, by lia⟩
  exact fun x ω ra rb hr hb => RV.int_e hb fun t => At.now fun m s Q E k₀ ret => Ok.tup_e hr fun b items hm hit =>
    let ⟨r, g1, g2⟩ := hit.get hv
    item_tupleT (k₀.N.isTup hm) (by lia) (by lia) (seqIx (getLt g1)) g1 (ret r s.toks g2) (hs _ _)
theorem sub_st {o i : Expr} {a : Addr} {k : Int} {rs : List Value} {dd : Option Addr} {n₀ : Nat} {sl : Array (Option Value)} {v : V} {r : Value} (hK : c.K.lookup a = some ⟨.type "tuple", dd, .seq rs.toArray n₀, sl⟩) (h0 : 0 ≤ k) (h1 : k < 1000) (hv : rs[k.toNat]? = some r) (hr : ∀ ω, RV ω v r)
    (hs : PlainIx i := by intro _ _; rfl) : SubR c n fr o i (.st a) (.int k) H l v := by
  obtain ⟨j, rfl⟩ : ∃ j : Nat, k = j := ⟨k.toNat, by lia⟩
  exact fun x ω ra rb hr' hb => RV.int_e hb fun t => At.now fun m s Q E k₀ ret => by
    unfold RV at hr'
    subst hr'
    exact topTup_K k₀.F k₀.X hK (by lia) (by lia) (seqIx (getLt hv)) hv (ret r s.toks (hr ω)) (hs _ _)
noncomputable abbrev SetR (c : Cx) (n : Nat) (fr : FrS) (a b v : V) (H : Hp) (l : Loc) (H' : Hp) : Prop :=
  ∀ x ω ra rb rv, RV ω a ra → RV ω b rb → RV ω v rv → At c n fr x ω (setItem ra rb rv) H l (fun _ _ => True) H' l
theorem set_sdict {a : Nat} {k : Str} {es : List (Str × V)} {v : V} (h : H.o a = .sdict es) (hz : es.length ≤ 1000) : SetR c n fr (.obj a) (.str k) v H l (H.set a (.sdict (vput es k v))) := set_dict' (dS c) h hz
theorem set_idict {a : Nat} {k : Int} {es : List (Int × V)} {v : V} (h : H.o a = .idict es) (hz : es.length ≤ 1000) : SetR c n fr (.obj a) (.int k) v H l (H.set a (.idict (vput es k v))) := set_dict' (dI c) h hz
/-! statements, onwards -/
noncomputable def ExW (c : Cx) (n : Nat) (fr : FrS) (t : Stmt) (H : Hp) (l : Loc) (Q : Fl → Hp → Loc → Prop) : Prop := ∃ f H' l', Ex c n fr t H l f H' l' ∧ Q f H' l'
noncomputable def ExsW (c : Cx) (n : Nat) (fr : FrS) (ts : List Stmt) (H : Hp) (l : Loc) (Q : Fl → Hp → Loc → Prop) : Prop := ∃ f H' l', Exs c n fr ts H l f H' l' ∧ Q f H' l'
variable {Q : Fl → Hp → Loc → Prop}
/-- next: go on; a return: hand it on -/
noncomputable def Then (N : Hp → Loc → Prop) (Q : Fl → Hp → Loc → Prop) : Fl → Hp → Loc → Prop
  | .next, H, l => N H l
  | .ret v, H, l => Q (.ret v) H l
  | _, _, _ => False
theorem w_cons {t : Stmt} {ts : List Stmt} (h : ExW c n fr t H l (Then (fun H' l' => ExsW c n fr ts H' l' Q) Q)) : ExsW c n fr (t :: ts) H l Q := by
  obtain ⟨f, H', l', h1, h2⟩ := h
  cases f with
  | next => obtain ⟨g, H₂, l₂, h3, h4⟩ := h2; exact ⟨g, H₂, l₂, exs_cons h1 h3, h4⟩
  | ret v => exact ⟨_, _, _, exs_ret h1, h2⟩
  | brk => exact h2.elim
  | cont => exact h2.elim
theorem w_nil (h : Q .next H l) : ExsW c n fr [] H l Q := ⟨_, _, _, exs_nil, h⟩
theorem w_assign {y : Str} {e : Expr} {npos pos : Pos} {v : V} (h : Ev c n fr e H l v H₁) (q : Q .next H₁ (l.set y v)) (hx : fr.scope.names.lookup y = some .local := by kernel_rfl) (hw : ∀ env, swapsWith e (some (.Name y npos)) pos.line env = pure false := by intro _; rfl) :
    ExW c n fr (.Assign [.Name y npos] e pos) H l Q := ⟨_, _, _, ex_assign h hx hw, q⟩
theorem w_setitem {e o i : Expr} {ipos pos : Pos} {a b v : V} {H₄ : Hp} (hv : Ev c n fr e H l v H₁) (ho : Ev c n fr o H₁ l a H₂) (hi : Ev c n fr i H₂ l b H₃) (hs : SetR c n fr a b v H₃ l H₄) (q : Q .next H₄ l)
    (hw : ∀ env, swapsWith e (some (.Subscript o i ipos)) pos.line env = pure false := by intro _; rfl) : ExW c n fr (.Assign [.Subscript o i ipos] e pos) H l Q := ⟨_, _, _, ex_setitem hv ho hi hs hw, q⟩
theorem w_setattr {o e : Expr} {name : Str} {apos pos : Pos} {i d : Nat} {C : Addr} {fs : List (Str × V)} {v : V} (hv : Ev c n fr e H l v H₁) (ho : Ev c n fr o H₁ l (.obj i) H₂) (I : Inst H₂ i C d fs)
    (P : Plain c.K C) (ht : takerIn c.K C name = some none) (hz : fs.length < 900) (q : Q .next (H₂.set d (.attrs (fput fs name v))) l)
    (hw : ∀ env, swapsWith e (some (.Attribute o name apos)) pos.line env = pure false := by intro _; rfl) : ExW c n fr (.Assign [.Attribute o name apos] e pos) H l Q := ⟨_, _, _, ex_setattr hv ho I P ht hz hw, q⟩
theorem w_expr {e : Expr} {pos : Pos} {v : V} (h : Ev c n fr e H l v H₁) (q : Q .next H₁ l) (hw : ∀ env, swapsWith e none pos.line env = pure false := by intro _; rfl) : ExW c n fr (.Expr e pos) H l Q := ⟨_, _, _, ex_expr h hw, q⟩
theorem w_return {e : Expr} {pos : Pos} {v : V} (h : Ev c n fr e H l v H₁) (q : Q (.ret v) H₁ l) : ExW c n fr (.Return (some e) pos) H l Q := ⟨_, _, _, ex_return h, q⟩
theorem w_return0 {pos : Pos} (q : Q (.ret .none) H l) : ExW c n fr (.Return none pos) H l Q := ⟨_, _, _, ex_return0, q⟩
theorem w_if {t : Expr} {a b : List Stmt} {pos : Pos} {r : Bool} (h : Te c n fr t H l r H₁) (h₂ : ExsW c n fr (if r then a else b) H₁ l Q) : ExW c n fr (.If t a b pos) H l Q := by
  obtain ⟨f, H', l', h3, h4⟩ := h₂
  exact ⟨f, H', l', ex_if h h3, h4⟩
theorem w_if_t {t : Expr} {a b : List Stmt} {pos : Pos} (h : Te c n fr t H l true H₁) (h₂ : ExsW c n fr a H₁ l Q) : ExW c n fr (.If t a b pos) H l Q := w_if h h₂
theorem w_if_f {t : Expr} {a b : List Stmt} {pos : Pos} (h : Te c n fr t H l false H₁) (h₂ : ExsW c n fr b H₁ l Q) : ExW c n fr (.If t a b pos) H l Q := w_if h h₂
theorem w_tup {ts : List Expr} {k₀ : Nat} {tpos pos : Pos} {e : Expr} {vs : List V} (h : Ev c n fr e H l (.tup vs) H₁) (hs : AsL c n fr ts vs H₁ l H₂ l₁) (q : Q .next H₂ l₁) (hq : fr.q = true := by rfl)
    (h1 : ∀ env, swapsWithSole [.Tuple ts k₀ tpos] e pos.line env = pure false := by intro _; rfl) (h2 : ∀ x : Fx, swappedStores [.Tuple ts k₀ tpos] e (x.env fr) = pure none := by intro _; rfl) :
    ExW c n fr (.Assign [.Tuple ts k₀ tpos] e pos) H l Q := ⟨_, _, _, ex_assign_tup h hs hq h1 h2, q⟩
theorem w_swap {y z : Str} {ts : List Expr} {k₀ : Nat} {tpos pos : Pos} {e : Expr} {u v : V} (h : Ev c n fr e H l (.tup [u, v]) H₁) (q : Q .next H₁ ((l.set z v).set y u)) (h2 : ∀ x : Fx, swappedStores [.Tuple ts k₀ tpos] e (x.env fr) = pure (some [y, z]) := by intro _; rfl)
    (hy : fr.scope.names.lookup y = some .local := by kernel_rfl) (hz : fr.scope.names.lookup z = some .local := by kernel_rfl) (hq : fr.q = true := by rfl)
    (h1 : ∀ env, swapsWithSole [.Tuple ts k₀ tpos] e pos.line env = pure false := by intro _; rfl) :
    ExW c n fr (.Assign [.Tuple ts k₀ tpos] e pos) H l Q := ⟨_, _, _, ex_swap h hy hz hq h2 h1, q⟩
/-! loops -/
noncomputable def WlW (c : Cx) (n : Nat) (fr : FrS) (test : Expr) (body : List Stmt) (H : Hp) (l : Loc) (Q : Fl → Hp → Loc → Prop) : Prop := ∃ f H' l', Wl c n fr test body H l f H' l' ∧ Q f H' l'
theorem w_while {test : Expr} {body : List Stmt} {pos : Pos} (h : WlW c n fr test body H l Q) : ExW c n fr (.While test body [] pos) H l Q := by
  obtain ⟨f, H', l', h1, h2⟩ := h
  exact ⟨f, H', l', ex_while h1, h2⟩
theorem wl_stop {test : Expr} {body : List Stmt} (h : Te c n fr test H l false H₁) (q : Q .next H₁ l) : WlW c n fr test body H l Q := ⟨_, _, _, wl_end h, q⟩
theorem wl_go {test : Expr} {body : List Stmt} (h : Te c n fr test H l true H₁) (hb : ExsW c n fr body H₁ l (Then (fun H' l' => WlW c n fr test body H' l' Q) Q)) : WlW c n fr test body H l Q := by
  obtain ⟨f, H', l', h1, h2⟩ := hb
  cases f with
  | next => obtain ⟨g, H₂, l₂, h3, h4⟩ := h2; exact ⟨g, H₂, l₂, wl_turn h h1 h3, h4⟩
  | ret v => exact ⟨_, _, _, wl_ret h h1, h2⟩
  | brk => exact h2.elim
  | cont => exact h2.elim
noncomputable def FoW (c : Cx) (n : Nat) (fr : FrS) (target : Expr) (body : List Stmt) (i : Nat) (H : Hp) (l : Loc) (Q : Fl → Hp → Loc → Prop) : Prop := ∃ f H' l', Fo c n fr target body i H l f H' l' ∧ Q f H' l'
theorem w_for {target iter : Expr} {body : List Stmt} {pos : Pos} {r : Nat} {vs : List V} (he : Ev c n fr iter H l (.obj r) H₁) (hr : H₁.o r = .list vs) (h : FoW c n fr target body H₁.n (H₁.new (.iter r 0)) l Q)
    (hs : ∀ env x, foldedSetIterable iter env x = pure x := by intro _ _; rfl) : ExW c n fr (.For target iter body [] pos) H l Q := by
  obtain ⟨f, H', l', h1, h2⟩ := h
  exact ⟨f, H', l', ex_for he hr h1 hs, h2⟩
theorem w_forr {target iter : Expr} {body : List Stmt} {pos : Pos} {r : Nat} {a b : Int} (he : Ev c n fr iter H l (.obj r) H₁) (hr : H₁.o r = .range a b) (hi : 0 ≤ a) (hb : b ≤ 1000) (hab : a ≤ 1000) (hb0 : -1000 ≤ b)
    (h : FoW c n fr target body H₁.n (H₁.new (.riter a ((b - a).toNat : Nat))) l Q) (hs : ∀ env x, foldedSetIterable iter env x = pure x := by intro _ _; rfl) : ExW c n fr (.For target iter body [] pos) H l Q := by
  obtain ⟨f, H', l', h1, h2⟩ := h
  exact ⟨f, H', l', ex_forr he hr hi hb hab hb0 h1 hs, h2⟩
theorem fo_stop {target : Expr} {body : List Stmt} {i r j : Nat} {vs : List V} (hi : H.o i = .iter r j) (hr : H.o r = .list vs) (hj : vs.length ≤ j) (q : Q .next (H.set i .junk) l) (hq : fr.q = true := by rfl) : FoW c n fr target body i H l Q := ⟨_, _, _, fo_end hi hr hj hq, q⟩
noncomputable def AsW (c : Cx) (n : Nat) (fr : FrS) (t : Expr) (v : V) (H : Hp) (l : Loc) (Q : Hp → Loc → Prop) : Prop := ∃ H' l', As c n fr t v H l H' l' ∧ Q H' l'
theorem fo_go {target : Expr} {body : List Stmt} {i r j : Nat} {vs : List V} {v : V} (hi : H.o i = .iter r j) (hr : H.o r = .list vs) (hj : vs[j]? = some v) (ht : Tgt target) (hv : (∃ vs, v = .tup vs) ∨ ∀ it v, letOwnedTupleGo target it v = pure ())
    (h : AsW c n fr target v (H.set i (.iter r (j + 1))) l fun H₁ l₁ => ExsW c n fr body H₁ l₁ (Then (fun H' l' => FoW c n fr target body i H' l' Q) Q)) : FoW c n fr target body i H l Q := by
  obtain ⟨H₁, l₁, ha, f, H', l', h1, h2⟩ := h
  cases f with
  | next => obtain ⟨g, H₂, l₂, h3, h4⟩ := h2; exact ⟨g, H₂, l₂, fo_turn hi hr hj ht hv ha h1 h3, h4⟩
  | ret v => exact ⟨_, _, _, fo_ret hi hr hj ht hv ha h1, h2⟩
  | brk => exact h2.elim
  | cont => exact h2.elim
theorem rg_stop {target : Expr} {body : List Stmt} {i : Nat} {a j : Int} (hi : H.o i = .riter a j) (hj : j ≤ 0) (q : Q .next (H.set i .junk) l) (hq : fr.q = true := by rfl) : FoW c n fr target body i H l Q := ⟨_, _, _, rg_end hi hj hq, q⟩
theorem rg_go {target : Expr} {body : List Stmt} {i : Nat} {a j : Int} (hi : H.o i = .riter a j) (hj : 0 < j) (hv : ∀ it v, letOwnedTupleGo target it v = pure ())
    (h : AsW c n fr target (.int a) (H.set i (.riter (a + 1) (j - 1))) l fun H₁ l₁ => ExsW c n fr body H₁ l₁ (Then (fun H' l' => FoW c n fr target body i H' l' Q) (fun _ _ _ => False))) : FoW c n fr target body i H l Q := by
  obtain ⟨H₁, l₁, ha, f, H', l', h1, h2⟩ := h
  cases f with
  | next => obtain ⟨g, H₂, l₂, h3, h4⟩ := h2; exact ⟨g, H₂, l₂, rg_turn hi hj hv ha h1 h3, h4⟩
  | ret v => exact h2.elim
  | brk => exact h2.elim
  | cont => exact h2.elim
theorem fn_w {a : Addr} {params : Arguments} {body : List Stmt} {fr' : FrS} {names : List Str} {vs : List V} {P : V → Hp → Prop} (D : DefAt c.K a params body fr' names) (hl : vs.length = names.length)
    (h : ExsW c n fr' body H (bindV names vs) (fun f H' _ => P f.val H')) : ∃ v H', Fn c (n + 1) a vs H v H' ∧ P v H' := by
  obtain ⟨f, H', l', h1, h2⟩ := h
  exact ⟨_, _, fn_def D hl h1, h2⟩
end
end Mine
end

section
namespace Mine
/-- an exception on its way: its object, its own dict, its newest entry's mark -/
structure Hot (B : Heap) (ls : List Env) (e : Addr) (cls : Value) (od : Option Addr) (fl : Option Value) (h : Heap) : Prop where
  stays : B.StaysIn h
  new : B.get? e = none
  frames : h.FunFrames B ls
  obj : ∃ vs sl, h.get? e = some ⟨cls, od, .fields vs, sl⟩ ∧ 1 < vs.size ∧ match fl with
    | none => vs[1]? = some .none
    | some f => ∃ T oT ts, vs[1]? = some (.ref T) ∧ B.get? T = none ∧ T ≠ e ∧ h.get? T = some oT ∧ oT.data = .fields ts ∧ ts[3]? = some f
/-- where the newest entry may stand -/
noncomputable def warm (L : Addr) (fl : Option Value) : Prop := fl = none ∨ fl = some .none ∨ fl = some (rawInt L)
section
variable {M : Model} {A : Around} {E : Value → Shared → Prop} {s : Shared} {B : Heap} {ls : List Env} {env : Env} {outer : List Env} {L e : Addr} {cls : Value} {od : Option Addr} {fl : Option Value} {Q : Unit → Shared → Prop}
theorem mapF (c : Value) (d : Option Addr) (vs : Array Value) (sl : Array (Option Value)) (f : Array Value → Array Value) : Obj.mapFields f ⟨c, d, .fields vs, sl⟩ = ⟨c, d, .fields (f vs), sl⟩ := rfl
/-- a new entry ahead of the old ones -/
theorem hot_entry (hfr : A.frames = some (env :: outer)) (hf : env.frame = some L) {head : Value} {hadNext : Bool} {vs : Array Value} {sl : Array (Option Value)} (st : B.StaysIn s.heap) (hn : B.get? e = none) (hF : s.heap.FunFrames B (env :: outer))
    (he : s.heap.get? e = some ⟨cls, od, .fields vs, sl⟩) (hz : 1 < vs.size) (h : ∀ h', Hot B (env :: outer) e cls od (some (rawInt L)) h' → s.heap.UpToSlots h' → Q () { s with heap := h' }) :
    wpAny M A (do let a ← frameOf env; let pl ← entryPlaceOf L hadNext; let b ← EntryCells.newEntry head a .none (rawInt L) .none pl; setField (.ref e) 1 b) Q E s := by
  have ne : e ∉ (env :: outer).filterMap (·.frame) := fun hm => by
    obtain ⟨_, o, ho, hnf⟩ := hF.mem hm
    rw [he] at ho; cases ho; exact hnf vs rfl
  refine wpAny_bind (wpAny_frameOf_fun hfr hF hf fun h₁ S => wpAny_bind (wpAny_entryPlaceOf fun pl hpl => ?_))
  unfold EntryCells.newEntry newFields
  refine wpAny_bind (wpAny_newObj_type ?_ (hpl.sizeOk5 _ _ _ _ _))
  have g1 := (S.2.1 e ne).trans he
  have g2 := Heap.get?_push_of_some (h := h₁) { cls := .type "traceback", dict := none, data := .fields ([head, .ref L, .none, rawInt L, .none] ++ (if pl.isEmpty then List.replicate 6 Value.none else pl)).toArray } g1
  refine wpAny_setField g2 rfl hz (h _ ?_ ?_)
  · have ste : ∀ b o, B.get? b = some o → h₁.get? b = some o := fun b o q => (S.2.1 b fun hm => by rw [(hF.mem hm).1] at q; cases q).trans (st b o q)
    have hTe : h₁.objs.size ≠ e := Nat.ne_of_gt (Heap.lt_size g1)
    have up : ∀ b o, b ≠ e → h₁.get? b = some o → (((h₁.push { cls := .type "traceback", dict := none, data := .fields ([head, .ref L, .none, rawInt L, .none] ++ (if pl.isEmpty then List.replicate 6 Value.none else pl)).toArray }).update e (Obj.mapFields (·.setIfInBounds 1 (Value.ref h₁.objs.size))))).get? b = some o :=
      fun b o q hb => (Heap.get?_update_other _ _ (Ne.symm q)).trans (Heap.get?_push_of_some _ hb)
    refine ⟨fun b o q => up b o (fun z => by rw [z, hn] at q; cases q) (ste b o q), hn, hF.of_keeps fun b o hb hnf => ?_, _, sl, (Heap.get?_update_self _ g2 (by rw [mapF]; rfl)).trans (congrArg some (mapF ..)), by simp [hz], h₁.objs.size, _, _, by simp [hz], Heap.StaysIn.fresh ste, hTe, (Heap.get?_update_other _ _ (Ne.symm hTe)).trans (Heap.get?_push_size h₁ rfl), rfl, by
      first | (simp; done) | (rcases hpl with rfl | ⟨_, _, _, _, _, _, _, rfl⟩ <;> simp)⟩
    obtain ⟨sl', z⟩ := S.2.2 b o hb
    exact ⟨_, up b _ (fun q => by rw [q, he] at hb; cases hb; exact hnf vs rfl) z, rfl⟩
  · intro b o hb hnf
    obtain ⟨sl', z⟩ := S.2.2 b o hb
    have hbe : b ≠ e := fun q => by rw [q, he] at hb; cases hb; exact hnf vs rfl
    exact ⟨sl', (Heap.get?_update_other _ _ (Ne.symm hbe)).trans (Heap.get?_push_of_some _ z)⟩
/-- the entry's mark changed -/
theorem hot_mark {f : Value} {fl : Value} (k : Hot B ls e cls od (some fl) s.heap) {T : Addr} {vs : Array Value} {sl : Array (Option Value)} (he : s.heap.get? e = some ⟨cls, od, .fields vs, sl⟩) (hT : vs[1]? = some (.ref T)) :
    ∃ oT ts, s.heap.get? T = some oT ∧ oT.data = .fields ts ∧ 3 < ts.size ∧ ts[3]? = some fl ∧ Hot B ls e cls od (some f) (s.heap.update T (Obj.mapFields (·.setIfInBounds 3 f))) ∧ s.heap.UpToSlots (s.heap.update T (Obj.mapFields (·.setIfInBounds 3 f))) := by
  obtain ⟨vs', sl', he', hz, T', oT, ts, hv, hBT, hTe, gT, dT, h3⟩ := k.obj
  rw [he] at he'; cases he'
  rw [hT] at hv; cases hv
  have z3 := (Array.getElem?_eq_some_iff.mp h3).1
  have other : ∀ b, b ≠ T → (s.heap.update T (Obj.mapFields (·.setIfInBounds 3 f))).get? b = s.heap.get? b := fun b q => Heap.get?_update_other _ _ (Ne.symm q)
  have nT : ∀ b o, s.heap.get? b = some o → (∀ ws, o.data ≠ .fields ws) → b ≠ T := fun b o hb hnf q => by rw [q, gT] at hb; cases hb; exact hnf ts dT
  have dT' := Obj.data_mapFields dT (·.setIfInBounds 3 f)
  refine ⟨oT, ts, gT, dT, z3, h3, ⟨fun b o q => (other b fun z => by rw [z, hBT] at q; cases q).trans (k.stays b o q), k.new, k.frames.of_keeps fun b o hb hnf => ⟨o, (other b (nT b o hb hnf)).trans hb, rfl⟩,
    vs, sl, (other e (Ne.symm hTe)).trans he, hz, T, _, _, hT, hBT, hTe, Heap.get?_update_self _ gT (Obj.isFreed_of_fields dT'), dT', by simp [z3]⟩, fun b o hb hnf => ⟨o.slots, (other b (nT b o hb hnf)).trans hb⟩⟩
theorem hot_land {f : Value} (k : Hot B ls e cls od (some f) s.heap) (h : ∀ h', Hot B ls e cls od (some .none) h' → s.heap.UpToSlots h' → Q () { s with heap := h' }) : wpAny M A (setFlight (.ref e) none) Q E s := by
  obtain ⟨vs, sl, he, hz, T, oT, ts, hv, hBT, hTe, gT, dT, h3⟩ := id k.obj
  obtain ⟨_, _, gT', dT', z3, _, k', u'⟩ := hot_mark (f := .none) k he hv
  unfold setFlight
  refine wpAny_bind (wpAny_field he rfl hv ?_)
  rw [if_pos (show (Value.ref T != Value.none) = true from by simp)]
  exact wpAny_setField gT' dT' z3 (h _ k' u')
/-- noted: for the first time, or behind another frame -/
theorem hot_note (hfr : A.frames = some (env :: outer)) (hf : env.frame = some L) (hc : warm L fl) (k : Hot B (env :: outer) e cls od fl s.heap)
    (h : ∀ h', Hot B (env :: outer) e cls od (some (rawInt L)) h' → s.heap.UpToSlots h' → Q () { s with heap := h' }) : wpAny M A (noteFrame (.ref e) env) Q E s := by
  unfold noteFrame
  simp only [hf]
  rcases hc with rfl | rfl | rfl
  · obtain ⟨vs, sl, he, hz, hv⟩ := k.obj
    refine wpAny_bind (wpAny_field he rfl hv ?_)
    rw [if_neg (by decide)]
    exact hot_entry hfr hf k.stays k.new k.frames he hz h
  · obtain ⟨vs, sl, he, hz, T, oT, ts, hv, hBT, hTe, gT, dT, h3⟩ := id k.obj
    obtain ⟨_, _, gT', dT', z3, g3, k', u'⟩ := hot_mark (f := .none) k he hv
    refine wpAny_bind (wpAny_field he rfl hv ?_)
    rw [if_pos (show (Value.ref T != Value.none) = true from by simp)]
    refine wpAny_bind (wpAny_field gT' dT' g3 ?_)
    rw [if_neg (show ¬ ((Value.none == rawInt L) = true) from by simp [rawInt])]
    refine wpAny_bind (wpAny_setField gT' dT' z3 ?_)
    obtain ⟨vs', sl', he', hz', _⟩ := k'.obj
    exact hot_entry hfr hf k'.stays k'.new k'.frames he' hz' fun h' k₂ u₂ => h h' k₂ (u'.trans u₂)
  · obtain ⟨vs, sl, he, hz, T, oT, ts, hv, hBT, hTe, gT, dT, h3⟩ := id k.obj
    refine wpAny_bind (wpAny_field he rfl hv ?_)
    rw [if_pos (show (Value.ref T != Value.none) = true from by simp)]
    refine wpAny_bind (wpAny_field gT dT h3 ?_)
    rw [if_pos (show (rawInt L == rawInt L) = true from by simp)]
    exact wpAny_pure (h s.heap k (Heap.UpToSlots.refl _))
/-- a suite's own activation left by an exception -/
theorem hot_came {E : Value → Shared → Prop} (hf : env.frame = some L) {f : Value} (k : Hot B ls e cls od (some f) s.heap) (h : ∀ h', Hot B ls e cls od (some (rawInt L)) h' → s.heap.UpToSlots h' → E (.ref e) { s with heap := h' }) : cameBackBy M A env E (.ref e) s := by
  obtain ⟨vs, sl, he, hz, T, oT, ts, hv, hBT, hTe, gT, dT, h3⟩ := id k.obj
  obtain ⟨_, _, gT', dT', z3, _, k', u'⟩ := hot_mark (f := rawInt L) k he hv
  unfold cameBackBy
  refine wpAny_bind (wpAny_field he rfl hv ?_)
  rw [if_neg (by simp)]
  rw [hf]
  show wpAny M A (setFlight (.ref e) (some L)) _ _ s
  unfold setFlight
  refine wpAny_bind (wpAny_field he rfl hv ?_)
  rw [if_pos (show (Value.ref T != Value.none) = true from by simp)]
  exact wpAny_setField gT' dT' z3 (h _ k' u')
theorem Hot.tail (k : Hot B (env :: outer) e cls od fl s.heap) : Hot B outer e cls od fl s.heap := ⟨k.stays, k.new, k.frames.2.2, k.obj⟩
/-- the frame left -/
theorem hot_leave (hfr : A.frames = some (env :: outer)) (hf : env.frame = some L) (hc : warm L fl) (k : Hot B (env :: outer) e cls od fl s.heap)
    (h : ∀ h', Hot B outer e cls od (some .none) h' → s.heap.UpToSlots h' → Q () { s with heap := h' }) : wpAny M A (leaving env (.ref e)) Q E s := by
  unfold leaving
  exact wpAny_bind (hot_note hfr hf hc k fun h₁ k₁ u₁ => hot_land k₁ fun h₂ k₂ u₂ => h h₂ (Hot.tail (s := { s with heap := h₂ }) k₂) (u₁.trans u₂))
/-- an exception raised -/
theorem raise_own {x : Sem Value} {nm q : Str} {C N : Addr} {bs bm : List Value} {hdct : Bool} {sn : List Str} {sub : List Value} {ab : Bool} {col : Option Bool} {dd : Option Addr} {k0 k1 k2 k3 k5 : Option Value} {newId : String} {Q : Flow → Shared → Prop}
    (cB : (Value.ref C :: bm).contains (.type "BaseException") = true) (hh : A.handled = none)
    (h : wpAny M A x (fun v s₁ => ∃ e t d, v = .ref e ∧ s₁.heap.get? C = some (excClassObj nm q C N bs bm hdct sn sub ab col dd k0 k1 k2 k3 k5 newId) ∧
      s₁.heap.get? e = some { cls := .ref C, dict := some d, data := .fields #[.ref t, .none, .none, .none, .bool false, .none] } ∧ E (.ref e) s₁) E s) :
    wpAny M A (raiseStmt env (some x) none) Q E s := by
  unfold raiseStmt
  refine wpAny_bind (wpAny_mono h (fun v s₁ h₁ => ?_) fun _ _ x => x)
  obtain ⟨e, t, d, rfl, hC, he, hE⟩ := h₁
  obtain ⟨hp, g, d, tk, os⟩ := s₁
  repeat (first | with_reducible refine wpAny_loadPart_at he ?_ | with_reducible refine wpAny_loadPart_at hC ?_ | (with_reducible refine wpAny_isSubtype_exc hC ?_; rw [cB]) | wp_step)
  exact wpAny_raiseNew_none hh hE
end
end Mine
end

section
namespace Mine
/-! the statement's program, by its places -/
noncomputable abbrev pw : Program := PySem.Challenge.pw_pc0019_01
noncomputable def stAt (i : Nat) : Stmt := pw.main.body.getD i (.Pass default)
noncomputable def fA (s : Stmt) : Arguments := match s with | .FunctionDef _ a .. => a | _ => default
noncomputable def fB (s : Stmt) : List Stmt := match s with | .FunctionDef _ _ b .. => b | .ClassDef _ _ _ b .. => b | _ => []
noncomputable def fS (s : Stmt) : Scope := match s with | .FunctionDef _ _ _ _ _ _ sc .. => sc | _ => default
noncomputable def meSwiftFault (i : Nat) : Stmt := (fB (stAt 2)).getD i (.Pass default)
noncomputable def meThing (i : Nat) : Stmt := (fB (stAt 10)).getD i (.Pass default)
noncomputable def meHeap (i : Nat) : Stmt := (fB (stAt 11)).getD i (.Pass default)
/-! the end state of the top: printed by a program of mine -/
noncomputable def oTab (_ : Params) : Obj := Obj.mk .none none (.fields #[]) #[]
noncomputable def o2 (P : Params) : Obj := Obj.mk .none none (.dict #[.mk (PyData.keyHash P "type.__subclasses__.Exception.0") (.str "type.__subclasses__.Exception.0" 221) (.int 38 0), .mk (PyData.keyHash P "type.__subclasses__.Exception.n") (.str "type.__subclasses__.Exception.n" 222) (.int 1 0)] 2) #[]
noncomputable def o3 (P : Params) : Obj := Obj.mk (.type "dict") none (.dict #[.mk (PyData.keyHash P "__name__") (.str "__name__" 165) (.str "law_pc0019_01" 504), .mk (PyData.keyHash P "__doc__") (.str "__doc__" 166) .none, .mk (PyData.keyHash P "__package__") (.str "__package__" 167) .none, .mk (PyData.keyHash P "__loader__") (.str "__loader__" 168) (.builtin "__main__.__loader__#opaque"), .mk (PyData.keyHash P "__spec__") (.str "__spec__" 169) .none, .mk (PyData.keyHash P "__annotations__") (.str "__annotations__" 170) (.ref 6), .mk (PyData.keyHash P "__builtins__") (.str "__builtins__" 171) (.ref 4), .mk (PyData.keyHash P "__file__") (.str "__file__" 173) (.str "/claim/cut.py" 172), .mk (PyData.keyHash P "__cached__") (.str "__cached__" 174) .none, .mk (PyData.keyHash P "_wall") (.str "_wall" 193) (.ref 21), .mk (PyData.keyHash P "SwiftFault") (.str "SwiftFault" 224) (.ref 38), .mk (PyData.keyHash P "FormFault") (.str "FormFault" 240) (.ref 51), .mk (PyData.keyHash P "Trap") (.str "Trap" 256) (.ref 63), .mk (PyData.keyHash P "COUNTED") (.str "COUNTED" 262) (.ref 66), .mk (PyData.keyHash P "parts_of") (.str "parts_of" 269) (.ref 73), .mk (PyData.keyHash P "counted_in") (.str "counted_in" 280) (.ref 80), .mk (PyData.keyHash P "Thing") (.str "Thing" 319) (.ref 97), .mk (PyData.keyHash P "Heap") (.str "Heap" 503) (.ref 237), .mk (PyData.keyHash P "_law_menu") (.str "_law_menu" 511) (.ref 242), .mk (PyData.keyHash P "_law_next") (.str "_law_next" 519) (.ref 249), .mk (PyData.keyHash P "_law_link") (.str "_law_link" 529) (.ref 256), .mk (PyData.keyHash P "_law_lay") (.str "_law_lay" 541) (.ref 263), .mk (PyData.keyHash P "_law_let_go") (.str "_law_let_go" 554) (.ref 270), .mk (PyData.keyHash P "_law_is_so") (.str "_law_is_so" 560) (.ref 275), .mk (PyData.keyHash P "_law_taken_down") (.str "_law_taken_down" 573) (.ref 282), .mk (PyData.keyHash P "_law_read") (.str "_law_read" 588) (.ref 289), .mk (PyData.keyHash P "_law_refused") (.str "_law_refused" 596) (.ref 296), .mk (PyData.keyHash P "law") (.str "law" 602) (.ref 301)] 28) #[]
noncomputable def o11 (_ : Params) : Obj := Obj.mk (.type "tuple") none (.seq #[]) #[]
noncomputable def o12 (_ : Params) : Obj := Obj.mk .none none (.fields #[.int 1 0, .int 0 0, .ref 20, .int 5 0, .int 0 0, .ref 27, .int 10 0, .int 0 0, .ref 47, .int 12 0, .int 0 0, .ref 59, .int 16 0, .int 0 0, .ref 72, .int 24 0, .int 0 0, .ref 79, .int 40 0, .int 0 0, .ref 86, .int 50 0, .int 0 0, .ref 107, .int 163 0, .int 0 0, .ref 248, .int 166 0, .int 0 0, .ref 255, .int 171 0, .int 0 0, .ref 262, .int 180 0, .int 0 0, .ref 269, .int 194 0, .int 0 0, .ref 274, .int 208 0, .int 0 0, .ref 281, .int 222 0, .int 0 0, .ref 288, .int 237 0, .int 0 0, .ref 295, .int 243 0, .int 0 0, .ref 300]) #[]
noncomputable def o13 (_ : Params) : Obj := Obj.mk (.type "code") none (.fields #[.str "<module>" 182, .str "<module>" 183, .str "/claim/cut.py" 184, .int 1 0, .int 0 0, .int 0 0, .int 0 0, .int 0 0, .ref 11, .bool false, .int 181 0, .ref 12, .none, .none, .none, .none, .int 185 0, .int 1 0, .str "/claim/cut.py" 186]) #[]
noncomputable def o14 (_ : Params) : Obj := Obj.mk (.type "frame") none .plain #[some (.ref 13), some (.ref 3), some (.ref 3), none, some (.str "__main__" 164), none, some (.ref 0)]
noncomputable def o15 (_ : Params) : Obj := Obj.mk (.type "tuple") none (.seq #[]) #[]
noncomputable def o16 (_ : Params) : Obj := Obj.mk .none none (.fields #[]) #[]
noncomputable def o17 (_ : Params) : Obj := Obj.mk (.type "tuple") none (.seq #[.str "k" 190]) #[]
noncomputable def o18 (_ : Params) : Obj := Obj.mk (.type "tuple") none (.seq #[]) #[]
noncomputable def o19 (_ : Params) : Obj := Obj.mk .none none (.func (FuncData.mk "_wall" "_wall" (fA (stAt 0)) (FuncBody.stmts (fB (stAt 0))) (fS (stAt 0)) 0 [] .none .none .none .none none .none .none 0)) #[]
noncomputable def o20 (_ : Params) : Obj := Obj.mk (.type "code") none (.fields #[.str "_wall" 187, .str "_wall" 188, .str "/claim/cut.py" 189, .int 1 0, .int 1 0, .int 0 0, .int 0 0, .int 3 0, .ref 15, .bool true, .int 181 0, .ref 16, .none, .ref 17, .ref 18, .ref 19, .int 191 0, .int 1 0, .str "/claim/cut.py" 192]) #[]
noncomputable def o21 (_ : Params) : Obj := Obj.mk (.type "function") none (.func (FuncData.mk "_wall" "_wall" (fA (stAt 0)) (FuncBody.stmts (fB (stAt 0))) (fS (stAt 0)) 3 [] .none .none .none (.str "__main__" 164) none (.ref 20) .none 0)) #[]
noncomputable def o22 (_ : Params) : Obj := Obj.mk (.type "tuple") none (.seq #[.type "Exception"]) #[]
noncomputable def o23 (_ : Params) : Obj := Obj.mk (.type "builtin_function_or_method") none (.fields #[.builtin "type.__prepare__", .type "type"]) #[]
noncomputable def o24 (P : Params) : Obj := Obj.mk (.type "dict") none (.dict #[.mk (PyData.keyHash P "__module__") (.str "__module__" 203) (.str "countyard.errors" 194), .mk (PyData.keyHash P "__qualname__") (.str "__qualname__" 205) (.str "SwiftFault" 204), .mk (PyData.keyHash P "__firstlineno__") (.str "__firstlineno__" 207) (.int 5 206), .mk (PyData.keyHash P "__init__") (.str "__init__" 215) (.ref 35), .mk (PyData.keyHash P "__static_attributes__") (.str "__static_attributes__" 217) (.ref 36)] 5) #[]
noncomputable def o25 (_ : Params) : Obj := Obj.mk (.type "tuple") none (.seq #[]) #[]
noncomputable def o26 (_ : Params) : Obj := Obj.mk .none none (.fields #[.int 7 0, .int 4 0, .ref 34]) #[]
noncomputable def o27 (_ : Params) : Obj := Obj.mk (.type "code") none (.fields #[.str "SwiftFault" 198, .str "SwiftFault" 199, .str "/claim/cut.py" 200, .int 5 0, .int 0 0, .int 0 0, .int 0 0, .int 0 0, .ref 25, .bool false, .int 181 0, .ref 26, .none, .none, .none, .none, .int 201 0, .int 5 0, .str "/claim/cut.py" 202]) #[]
noncomputable def o28 (_ : Params) : Obj := Obj.mk (.type "frame") none .plain #[some (.ref 27), some (.ref 3), some (.ref 24), none, some (.str "countyard.errors" 194), none, some (.ref 0)]
noncomputable def o29 (_ : Params) : Obj := Obj.mk (.type "tuple") none (.seq #[]) #[]
noncomputable def o30 (_ : Params) : Obj := Obj.mk .none none (.fields #[]) #[]
noncomputable def o31 (_ : Params) : Obj := Obj.mk (.type "tuple") none (.seq #[.str "self" 211, .str "word" 212]) #[]
noncomputable def o32 (_ : Params) : Obj := Obj.mk (.type "tuple") none (.seq #[]) #[]
noncomputable def o33 (_ : Params) : Obj := Obj.mk .none none (.func (FuncData.mk "__init__" "SwiftFault.__init__" (fA (meSwiftFault 0)) (FuncBody.stmts (fB (meSwiftFault 0))) (fS (meSwiftFault 0)) 0 [] .none .none .none .none none .none .none 0)) #[]
noncomputable def o34 (_ : Params) : Obj := Obj.mk (.type "code") none (.fields #[.str "__init__" 208, .str "SwiftFault.__init__" 209, .str "/claim/cut.py" 210, .int 7 0, .int 2 0, .int 0 0, .int 0 0, .int 3 0, .ref 29, .bool true, .int 181 0, .ref 30, .none, .ref 31, .ref 32, .ref 33, .int 213 0, .int 7 0, .str "/claim/cut.py" 214]) #[]
noncomputable def o35 (_ : Params) : Obj := Obj.mk (.type "function") none (.func (FuncData.mk "__init__" "SwiftFault.__init__" (fA (meSwiftFault 0)) (FuncBody.stmts (fB (meSwiftFault 0))) (fS (meSwiftFault 0)) 3 [] .none .none .none (.str "countyard.errors" 194) none (.ref 34) .none 0)) #[]
noncomputable def o36 (_ : Params) : Obj := Obj.mk (.type "tuple") none (.seq #[.str "word" 216]) #[]
noncomputable def o37 (P : Params) : Obj := Obj.mk (.type "dict") none (.dict #[.mk (PyData.keyHash P "__module__") (.str "__module__" 203) (.str "countyard.errors" 194), .mk (PyData.keyHash P "__firstlineno__") (.str "__firstlineno__" 207) (.int 5 206), .mk (PyData.keyHash P "__init__") (.str "__init__" 215) (.ref 35), .mk (PyData.keyHash P "__static_attributes__") (.str "__static_attributes__" 217) (.ref 36), .mk (PyData.keyHash P "__weakref__") (.str "__weakref__" 219) (.ref 39), .mk (PyData.keyHash P "__doc__") (.str "__doc__" 220) .none] 3) #[]
noncomputable def o38 (_ : Params) : Obj := Obj.mk (.type "type") none (.cls (ClassData.mk "SwiftFault" [.type "Exception"] [.ref 38, .type "Exception", .type "BaseException", .type "object"] 37 "SwiftFault" true [] [.ref 51, .ref 63] false none false)) #[some (.ref 22), none, some (.str "SwiftFault" 196), some (.str "SwiftFault" 204), some (.builtin "Exception.__new__"), some (.bool true)]
noncomputable def o39 (_ : Params) : Obj := Obj.mk (.type "getset_descriptor") none (.fields #[.str "__weakref__" 218, .ref 38, .builtin "ExceptionGroup.__weakref__", .none]) #[]
noncomputable def o40 (_ : Params) : Obj := Obj.mk (.type "super") none (.fields #[.ref 38, .ref 38, .ref 38]) #[]
noncomputable def o41 (_ : Params) : Obj := Obj.mk (.type "builtin_function_or_method") none (.fields #[.builtin "object.__init_subclass__", .ref 38]) #[]
noncomputable def o42 (_ : Params) : Obj := Obj.mk (.type "tuple") none (.seq #[.ref 38]) #[]
noncomputable def o43 (_ : Params) : Obj := Obj.mk (.type "builtin_function_or_method") none (.fields #[.builtin "type.__prepare__", .type "type"]) #[]
noncomputable def o44 (P : Params) : Obj := Obj.mk (.type "dict") none (.dict #[.mk (PyData.keyHash P "__module__") (.str "__module__" 232) (.str "countyard.errors" 194), .mk (PyData.keyHash P "__qualname__") (.str "__qualname__" 234) (.str "FormFault" 233), .mk (PyData.keyHash P "__firstlineno__") (.str "__firstlineno__" 236) (.int 10 235), .mk (PyData.keyHash P "__static_attributes__") (.str "__static_attributes__" 237) (.ref 49)] 4) #[]
noncomputable def o45 (_ : Params) : Obj := Obj.mk (.type "tuple") none (.seq #[]) #[]
noncomputable def o46 (_ : Params) : Obj := Obj.mk .none none (.fields #[]) #[]
noncomputable def o47 (_ : Params) : Obj := Obj.mk (.type "code") none (.fields #[.str "FormFault" 227, .str "FormFault" 228, .str "/claim/cut.py" 229, .int 10 0, .int 0 0, .int 0 0, .int 0 0, .int 0 0, .ref 45, .bool false, .int 181 0, .ref 46, .none, .none, .none, .none, .int 230 0, .int 10 0, .str "/claim/cut.py" 231]) #[]
noncomputable def o48 (_ : Params) : Obj := Obj.mk (.type "frame") none .plain #[some (.ref 47), some (.ref 3), some (.ref 44), none, some (.str "countyard.errors" 194), none, some (.ref 0)]
noncomputable def o49 (_ : Params) : Obj := Obj.mk (.type "tuple") none (.seq #[]) #[]
noncomputable def o50 (P : Params) : Obj := Obj.mk (.type "dict") none (.dict #[.mk (PyData.keyHash P "__module__") (.str "__module__" 232) (.str "countyard.errors" 194), .mk (PyData.keyHash P "__firstlineno__") (.str "__firstlineno__" 236) (.int 10 235), .mk (PyData.keyHash P "__static_attributes__") (.str "__static_attributes__" 237) (.ref 49), .mk (PyData.keyHash P "__doc__") (.str "__doc__" 238) .none] 2) #[]
noncomputable def o51 (_ : Params) : Obj := Obj.mk (.type "type") none (.cls (ClassData.mk "FormFault" [.ref 38] [.ref 51, .ref 38, .type "Exception", .type "BaseException", .type "object"] 50 "FormFault" true [] [] false none false)) #[some (.ref 42), none, some (.str "FormFault" 225), some (.str "FormFault" 233), some (.builtin "Exception.__new__"), some (.bool true)]
noncomputable def o52 (_ : Params) : Obj := Obj.mk (.type "super") none (.fields #[.ref 51, .ref 51, .ref 51]) #[]
noncomputable def o53 (_ : Params) : Obj := Obj.mk (.type "builtin_function_or_method") none (.fields #[.builtin "object.__init_subclass__", .ref 51]) #[]
noncomputable def o54 (_ : Params) : Obj := Obj.mk (.type "tuple") none (.seq #[.ref 38]) #[]
noncomputable def o55 (_ : Params) : Obj := Obj.mk (.type "builtin_function_or_method") none (.fields #[.builtin "type.__prepare__", .type "type"]) #[]
noncomputable def o56 (P : Params) : Obj := Obj.mk (.type "dict") none (.dict #[.mk (PyData.keyHash P "__module__") (.str "__module__" 248) (.str "countyard.errors" 194), .mk (PyData.keyHash P "__qualname__") (.str "__qualname__" 250) (.str "Trap" 249), .mk (PyData.keyHash P "__firstlineno__") (.str "__firstlineno__" 252) (.int 12 251), .mk (PyData.keyHash P "__static_attributes__") (.str "__static_attributes__" 253) (.ref 61)] 4) #[]
noncomputable def o57 (_ : Params) : Obj := Obj.mk (.type "tuple") none (.seq #[]) #[]
noncomputable def o58 (_ : Params) : Obj := Obj.mk .none none (.fields #[]) #[]
noncomputable def o59 (_ : Params) : Obj := Obj.mk (.type "code") none (.fields #[.str "Trap" 243, .str "Trap" 244, .str "/claim/cut.py" 245, .int 12 0, .int 0 0, .int 0 0, .int 0 0, .int 0 0, .ref 57, .bool false, .int 181 0, .ref 58, .none, .none, .none, .none, .int 246 0, .int 12 0, .str "/claim/cut.py" 247]) #[]
noncomputable def o60 (_ : Params) : Obj := Obj.mk (.type "frame") none .plain #[some (.ref 59), some (.ref 3), some (.ref 56), none, some (.str "countyard.errors" 194), none, some (.ref 0)]
noncomputable def o61 (_ : Params) : Obj := Obj.mk (.type "tuple") none (.seq #[]) #[]
noncomputable def o62 (P : Params) : Obj := Obj.mk (.type "dict") none (.dict #[.mk (PyData.keyHash P "__module__") (.str "__module__" 248) (.str "countyard.errors" 194), .mk (PyData.keyHash P "__firstlineno__") (.str "__firstlineno__" 252) (.int 12 251), .mk (PyData.keyHash P "__static_attributes__") (.str "__static_attributes__" 253) (.ref 61), .mk (PyData.keyHash P "__doc__") (.str "__doc__" 254) .none] 2) #[]
noncomputable def o63 (_ : Params) : Obj := Obj.mk (.type "type") none (.cls (ClassData.mk "Trap" [.ref 38] [.ref 63, .ref 38, .type "Exception", .type "BaseException", .type "object"] 62 "Trap" true [] [] false none false)) #[some (.ref 54), none, some (.str "Trap" 241), some (.str "Trap" 249), some (.builtin "Exception.__new__"), some (.bool true)]
noncomputable def o64 (_ : Params) : Obj := Obj.mk (.type "super") none (.fields #[.ref 63, .ref 63, .ref 63]) #[]
noncomputable def o65 (_ : Params) : Obj := Obj.mk (.type "builtin_function_or_method") none (.fields #[.builtin "object.__init_subclass__", .ref 63]) #[]
noncomputable def o66 (_ : Params) : Obj := Obj.mk (.type "tuple") none (.seq #[.str "ref" 259, .str "buf" 260, .str "box" 261]) #[]
noncomputable def o67 (_ : Params) : Obj := Obj.mk (.type "tuple") none (.seq #[]) #[]
noncomputable def o68 (_ : Params) : Obj := Obj.mk .none none (.fields #[]) #[]
noncomputable def o69 (_ : Params) : Obj := Obj.mk (.type "tuple") none (.seq #[.str "value" 266]) #[]
noncomputable def o70 (_ : Params) : Obj := Obj.mk (.type "tuple") none (.seq #[]) #[]
noncomputable def o71 (_ : Params) : Obj := Obj.mk .none none (.func (FuncData.mk "parts_of" "parts_of" (fA (stAt 7)) (FuncBody.stmts (fB (stAt 7))) (fS (stAt 7)) 0 [] .none .none .none .none none .none .none 0)) #[]
noncomputable def o72 (_ : Params) : Obj := Obj.mk (.type "code") none (.fields #[.str "parts_of" 263, .str "parts_of" 264, .str "/claim/cut.py" 265, .int 16 0, .int 1 0, .int 0 0, .int 0 0, .int 3 0, .ref 67, .bool true, .int 181 0, .ref 68, .none, .ref 69, .ref 70, .ref 71, .int 267 0, .int 16 0, .str "/claim/cut.py" 268]) #[]
noncomputable def o73 (_ : Params) : Obj := Obj.mk (.type "function") none (.func (FuncData.mk "parts_of" "parts_of" (fA (stAt 7)) (FuncBody.stmts (fB (stAt 7))) (fS (stAt 7)) 3 [] .none .none .none (.str "countyard.values" 257) none (.ref 72) .none 0)) #[]
noncomputable def o74 (_ : Params) : Obj := Obj.mk (.type "tuple") none (.seq #[]) #[]
noncomputable def o75 (_ : Params) : Obj := Obj.mk .none none (.fields #[]) #[]
noncomputable def o76 (_ : Params) : Obj := Obj.mk (.type "tuple") none (.seq #[.str "value" 273, .str "found" 274, .str "waiting" 275, .str "here" 276, .str "word" 277]) #[]
noncomputable def o77 (_ : Params) : Obj := Obj.mk (.type "tuple") none (.seq #[]) #[]
noncomputable def o78 (_ : Params) : Obj := Obj.mk .none none (.func (FuncData.mk "counted_in" "counted_in" (fA (stAt 8)) (FuncBody.stmts (fB (stAt 8))) (fS (stAt 8)) 0 [] .none .none .none .none none .none .none 0)) #[]
noncomputable def o79 (_ : Params) : Obj := Obj.mk (.type "code") none (.fields #[.str "counted_in" 270, .str "counted_in" 271, .str "/claim/cut.py" 272, .int 24 0, .int 1 0, .int 0 0, .int 0 0, .int 3 0, .ref 74, .bool true, .int 181 0, .ref 75, .none, .ref 76, .ref 77, .ref 78, .int 278 0, .int 24 0, .str "/claim/cut.py" 279]) #[]
noncomputable def o80 (_ : Params) : Obj := Obj.mk (.type "function") none (.func (FuncData.mk "counted_in" "counted_in" (fA (stAt 8)) (FuncBody.stmts (fB (stAt 8))) (fS (stAt 8)) 3 [] .none .none .none (.str "countyard.values" 257) none (.ref 79) .none 0)) #[]
noncomputable def o81 (_ : Params) : Obj := Obj.mk (.type "tuple") none (.seq #[]) #[]
noncomputable def o82 (_ : Params) : Obj := Obj.mk (.type "builtin_function_or_method") none (.fields #[.builtin "type.__prepare__", .type "type"]) #[]
noncomputable def o83 (P : Params) : Obj := Obj.mk (.type "dict") none (.dict #[.mk (PyData.keyHash P "__module__") (.str "__module__" 290) (.str "countyard.heap" 281), .mk (PyData.keyHash P "__qualname__") (.str "__qualname__" 292) (.str "Thing" 291), .mk (PyData.keyHash P "__firstlineno__") (.str "__firstlineno__" 294) (.int 40 293), .mk (PyData.keyHash P "__init__") (.str "__init__" 304) (.ref 94), .mk (PyData.keyHash P "__static_attributes__") (.str "__static_attributes__" 312) (.ref 95)] 5) #[]
noncomputable def o84 (_ : Params) : Obj := Obj.mk (.type "tuple") none (.seq #[]) #[]
noncomputable def o85 (_ : Params) : Obj := Obj.mk .none none (.fields #[.int 42 0, .int 4 0, .ref 93]) #[]
noncomputable def o86 (_ : Params) : Obj := Obj.mk (.type "code") none (.fields #[.str "Thing" 285, .str "Thing" 286, .str "/claim/cut.py" 287, .int 40 0, .int 0 0, .int 0 0, .int 0 0, .int 0 0, .ref 84, .bool false, .int 181 0, .ref 85, .none, .none, .none, .none, .int 288 0, .int 40 0, .str "/claim/cut.py" 289]) #[]
noncomputable def o87 (_ : Params) : Obj := Obj.mk (.type "frame") none .plain #[some (.ref 86), some (.ref 3), some (.ref 83), none, some (.str "countyard.heap" 281), none, some (.ref 0)]
noncomputable def o88 (_ : Params) : Obj := Obj.mk (.type "tuple") none (.seq #[]) #[]
noncomputable def o89 (_ : Params) : Obj := Obj.mk .none none (.fields #[]) #[]
noncomputable def o90 (_ : Params) : Obj := Obj.mk (.type "tuple") none (.seq #[.str "self" 298, .str "kind" 299, .str "name" 300, .str "fields" 301]) #[]
noncomputable def o91 (_ : Params) : Obj := Obj.mk (.type "tuple") none (.seq #[]) #[]
noncomputable def o92 (_ : Params) : Obj := Obj.mk .none none (.func (FuncData.mk "__init__" "Thing.__init__" (fA (meThing 0)) (FuncBody.stmts (fB (meThing 0))) (fS (meThing 0)) 0 [] .none .none .none .none none .none .none 0)) #[]
noncomputable def o93 (_ : Params) : Obj := Obj.mk (.type "code") none (.fields #[.str "__init__" 295, .str "Thing.__init__" 296, .str "/claim/cut.py" 297, .int 42 0, .int 4 0, .int 0 0, .int 0 0, .int 3 0, .ref 88, .bool true, .int 181 0, .ref 89, .none, .ref 90, .ref 91, .ref 92, .int 302 0, .int 42 0, .str "/claim/cut.py" 303]) #[]
noncomputable def o94 (_ : Params) : Obj := Obj.mk (.type "function") none (.func (FuncData.mk "__init__" "Thing.__init__" (fA (meThing 0)) (FuncBody.stmts (fB (meThing 0))) (fS (meThing 0)) 3 [] .none .none .none (.str "countyard.heap" 281) none (.ref 93) .none 0)) #[]
noncomputable def o95 (_ : Params) : Obj := Obj.mk (.type "tuple") none (.seq #[.str "fields" 305, .str "kind" 306, .str "name" 307, .str "state" 308, .str "strong" 309, .str "unowned" 310, .str "weak" 311]) #[]
noncomputable def o96 (P : Params) : Obj := Obj.mk (.type "dict") none (.dict #[.mk (PyData.keyHash P "__module__") (.str "__module__" 290) (.str "countyard.heap" 281), .mk (PyData.keyHash P "__firstlineno__") (.str "__firstlineno__" 294) (.int 40 293), .mk (PyData.keyHash P "__init__") (.str "__init__" 304) (.ref 94), .mk (PyData.keyHash P "__static_attributes__") (.str "__static_attributes__" 312) (.ref 95), .mk (PyData.keyHash P "__dict__") (.str "__dict__" 314) (.ref 98), .mk (PyData.keyHash P "__weakref__") (.str "__weakref__" 316) (.ref 99), .mk (PyData.keyHash P "__doc__") (.str "__doc__" 317) .none] 4) #[]
noncomputable def o97 (_ : Params) : Obj := Obj.mk (.type "type") none (.cls (ClassData.mk "Thing" [.type "object"] [.ref 97, .type "object"] 96 "Thing" true [] [] false none false)) #[none, none, some (.str "Thing" 283), some (.str "Thing" 291), some (.builtin "object.__new__"), some (.bool true)]
noncomputable def o98 (_ : Params) : Obj := Obj.mk (.type "getset_descriptor") none (.fields #[.str "__dict__" 313, .ref 97, .builtin "function.__dict__", .builtin "function.__dict__#set"]) #[]
noncomputable def o99 (_ : Params) : Obj := Obj.mk (.type "getset_descriptor") none (.fields #[.str "__weakref__" 315, .ref 97, .builtin "ExceptionGroup.__weakref__", .none]) #[]
noncomputable def o100 (_ : Params) : Obj := Obj.mk (.type "super") none (.fields #[.ref 97, .ref 97, .ref 97]) #[]
noncomputable def o101 (_ : Params) : Obj := Obj.mk (.type "builtin_function_or_method") none (.fields #[.builtin "object.__init_subclass__", .ref 97]) #[]
noncomputable def o102 (_ : Params) : Obj := Obj.mk (.type "tuple") none (.seq #[]) #[]
noncomputable def o103 (_ : Params) : Obj := Obj.mk (.type "builtin_function_or_method") none (.fields #[.builtin "type.__prepare__", .type "type"]) #[]
noncomputable def o104 (P : Params) : Obj := Obj.mk (.type "dict") none (.dict #[.mk (PyData.keyHash P "__module__") (.str "__module__" 327) (.str "countyard.heap" 281), .mk (PyData.keyHash P "__qualname__") (.str "__qualname__" 329) (.str "Heap" 328), .mk (PyData.keyHash P "__firstlineno__") (.str "__firstlineno__" 331) (.int 50 330), .mk (PyData.keyHash P "__init__") (.str "__init__" 338) (.ref 115), .mk (PyData.keyHash P "made") (.str "made" 348) (.ref 122), .mk (PyData.keyHash P "thing") (.str "thing" 357) (.ref 129), .mk (PyData.keyHash P "retain") (.str "retain" 366) (.ref 136), .mk (PyData.keyHash P "release") (.str "release" 374) (.ref 143), .mk (PyData.keyHash P "drop") (.str "drop" 385) (.ref 150), .mk (PyData.keyHash P "dropped") (.str "dropped" 396) (.ref 157), .mk (PyData.keyHash P "lost") (.str "lost" 406) (.ref 164), .mk (PyData.keyHash P "buried") (.str "buried" 415) (.ref 171), .mk (PyData.keyHash P "copied") (.str "copied" 425) (.ref 178), .mk (PyData.keyHash P "destroyed") (.str "destroyed" 433) (.ref 185), .mk (PyData.keyHash P "weak_to") (.str "weak_to" 441) (.ref 192), .mk (PyData.keyHash P "weak_read") (.str "weak_read" 450) (.ref 199), .mk (PyData.keyHash P "unowned_to") (.str "unowned_to" 459) (.ref 206), .mk (PyData.keyHash P "unowned_read") (.str "unowned_read" 467) (.ref 213), .mk (PyData.keyHash P "elements") (.str "elements" 475) (.ref 220), .mk (PyData.keyHash P "own_buffer") (.str "own_buffer" 483) (.ref 227), .mk (PyData.keyHash P "live") (.str "live" 492) (.ref 234), .mk (PyData.keyHash P "__static_attributes__") (.str "__static_attributes__" 496) (.ref 235)] 22) #[]
noncomputable def o105 (_ : Params) : Obj := Obj.mk (.type "tuple") none (.seq #[]) #[]
noncomputable def o106 (_ : Params) : Obj := Obj.mk .none none (.fields #[.int 52 0, .int 4 0, .ref 114, .int 57 0, .int 4 0, .ref 121, .int 62 0, .int 4 0, .ref 128, .int 68 0, .int 4 0, .ref 135, .int 72 0, .int 4 0, .ref 142, .int 75 0, .int 4 0, .ref 149, .int 84 0, .int 4 0, .ref 156, .int 101 0, .int 4 0, .ref 163, .int 108 0, .int 4 0, .ref 170, .int 113 0, .int 4 0, .ref 177, .int 123 0, .int 4 0, .ref 184, .int 126 0, .int 4 0, .ref 191, .int 131 0, .int 4 0, .ref 198, .int 138 0, .int 4 0, .ref 205, .int 143 0, .int 4 0, .ref 212, .int 149 0, .int 4 0, .ref 219, .int 152 0, .int 4 0, .ref 226, .int 155 0, .int 4 0, .ref 233]) #[]
noncomputable def o107 (_ : Params) : Obj := Obj.mk (.type "code") none (.fields #[.str "Heap" 322, .str "Heap" 323, .str "/claim/cut.py" 324, .int 50 0, .int 0 0, .int 0 0, .int 0 0, .int 0 0, .ref 105, .bool false, .int 181 0, .ref 106, .none, .none, .none, .none, .int 325 0, .int 50 0, .str "/claim/cut.py" 326]) #[]
noncomputable def o108 (_ : Params) : Obj := Obj.mk (.type "frame") none .plain #[some (.ref 107), some (.ref 3), some (.ref 104), none, some (.str "countyard.heap" 281), none, some (.ref 0)]
noncomputable def o109 (_ : Params) : Obj := Obj.mk (.type "tuple") none (.seq #[]) #[]
noncomputable def o110 (_ : Params) : Obj := Obj.mk .none none (.fields #[]) #[]
noncomputable def o111 (_ : Params) : Obj := Obj.mk (.type "tuple") none (.seq #[.str "self" 335]) #[]
noncomputable def o112 (_ : Params) : Obj := Obj.mk (.type "tuple") none (.seq #[]) #[]
noncomputable def o113 (_ : Params) : Obj := Obj.mk .none none (.func (FuncData.mk "__init__" "Heap.__init__" (fA (meHeap 0)) (FuncBody.stmts (fB (meHeap 0))) (fS (meHeap 0)) 0 [] .none .none .none .none none .none .none 0)) #[]
noncomputable def o114 (_ : Params) : Obj := Obj.mk (.type "code") none (.fields #[.str "__init__" 332, .str "Heap.__init__" 333, .str "/claim/cut.py" 334, .int 52 0, .int 1 0, .int 0 0, .int 0 0, .int 3 0, .ref 109, .bool true, .int 181 0, .ref 110, .none, .ref 111, .ref 112, .ref 113, .int 336 0, .int 52 0, .str "/claim/cut.py" 337]) #[]
noncomputable def o115 (_ : Params) : Obj := Obj.mk (.type "function") none (.func (FuncData.mk "__init__" "Heap.__init__" (fA (meHeap 0)) (FuncBody.stmts (fB (meHeap 0))) (fS (meHeap 0)) 3 [] .none .none .none (.str "countyard.heap" 281) none (.ref 114) .none 0)) #[]
noncomputable def o116 (_ : Params) : Obj := Obj.mk (.type "tuple") none (.seq #[]) #[]
noncomputable def o117 (_ : Params) : Obj := Obj.mk .none none (.fields #[]) #[]
noncomputable def o118 (_ : Params) : Obj := Obj.mk (.type "tuple") none (.seq #[.str "self" 342, .str "kind" 343, .str "name" 344, .str "fields" 345]) #[]
noncomputable def o119 (_ : Params) : Obj := Obj.mk (.type "tuple") none (.seq #[]) #[]
noncomputable def o120 (_ : Params) : Obj := Obj.mk .none none (.func (FuncData.mk "made" "Heap.made" (fA (meHeap 1)) (FuncBody.stmts (fB (meHeap 1))) (fS (meHeap 1)) 0 [] .none .none .none .none none .none .none 0)) #[]
noncomputable def o121 (_ : Params) : Obj := Obj.mk (.type "code") none (.fields #[.str "made" 339, .str "Heap.made" 340, .str "/claim/cut.py" 341, .int 57 0, .int 4 0, .int 0 0, .int 0 0, .int 3 0, .ref 116, .bool true, .int 181 0, .ref 117, .none, .ref 118, .ref 119, .ref 120, .int 346 0, .int 57 0, .str "/claim/cut.py" 347]) #[]
noncomputable def o122 (_ : Params) : Obj := Obj.mk (.type "function") none (.func (FuncData.mk "made" "Heap.made" (fA (meHeap 1)) (FuncBody.stmts (fB (meHeap 1))) (fS (meHeap 1)) 3 [] .none .none .none (.str "countyard.heap" 281) none (.ref 121) .none 0)) #[]
noncomputable def o123 (_ : Params) : Obj := Obj.mk (.type "tuple") none (.seq #[]) #[]
noncomputable def o124 (_ : Params) : Obj := Obj.mk .none none (.fields #[]) #[]
noncomputable def o125 (_ : Params) : Obj := Obj.mk (.type "tuple") none (.seq #[.str "self" 352, .str "number" 353, .str "found" 354]) #[]
noncomputable def o126 (_ : Params) : Obj := Obj.mk (.type "tuple") none (.seq #[]) #[]
noncomputable def o127 (_ : Params) : Obj := Obj.mk .none none (.func (FuncData.mk "thing" "Heap.thing" (fA (meHeap 2)) (FuncBody.stmts (fB (meHeap 2))) (fS (meHeap 2)) 0 [] .none .none .none .none none .none .none 0)) #[]
noncomputable def o128 (_ : Params) : Obj := Obj.mk (.type "code") none (.fields #[.str "thing" 349, .str "Heap.thing" 350, .str "/claim/cut.py" 351, .int 62 0, .int 2 0, .int 0 0, .int 0 0, .int 3 0, .ref 123, .bool true, .int 181 0, .ref 124, .none, .ref 125, .ref 126, .ref 127, .int 355 0, .int 62 0, .str "/claim/cut.py" 356]) #[]
noncomputable def o129 (_ : Params) : Obj := Obj.mk (.type "function") none (.func (FuncData.mk "thing" "Heap.thing" (fA (meHeap 2)) (FuncBody.stmts (fB (meHeap 2))) (fS (meHeap 2)) 3 [] .none .none .none (.str "countyard.heap" 281) none (.ref 128) .none 0)) #[]
noncomputable def o130 (_ : Params) : Obj := Obj.mk (.type "tuple") none (.seq #[]) #[]
noncomputable def o131 (_ : Params) : Obj := Obj.mk .none none (.fields #[]) #[]
noncomputable def o132 (_ : Params) : Obj := Obj.mk (.type "tuple") none (.seq #[.str "self" 361, .str "number" 362, .str "thing" 363]) #[]
noncomputable def o133 (_ : Params) : Obj := Obj.mk (.type "tuple") none (.seq #[]) #[]
noncomputable def o134 (_ : Params) : Obj := Obj.mk .none none (.func (FuncData.mk "retain" "Heap.retain" (fA (meHeap 3)) (FuncBody.stmts (fB (meHeap 3))) (fS (meHeap 3)) 0 [] .none .none .none .none none .none .none 0)) #[]
noncomputable def o135 (_ : Params) : Obj := Obj.mk (.type "code") none (.fields #[.str "retain" 358, .str "Heap.retain" 359, .str "/claim/cut.py" 360, .int 68 0, .int 2 0, .int 0 0, .int 0 0, .int 3 0, .ref 130, .bool true, .int 181 0, .ref 131, .none, .ref 132, .ref 133, .ref 134, .int 364 0, .int 68 0, .str "/claim/cut.py" 365]) #[]
noncomputable def o136 (_ : Params) : Obj := Obj.mk (.type "function") none (.func (FuncData.mk "retain" "Heap.retain" (fA (meHeap 3)) (FuncBody.stmts (fB (meHeap 3))) (fS (meHeap 3)) 3 [] .none .none .none (.str "countyard.heap" 281) none (.ref 135) .none 0)) #[]
noncomputable def o137 (_ : Params) : Obj := Obj.mk (.type "tuple") none (.seq #[]) #[]
noncomputable def o138 (_ : Params) : Obj := Obj.mk .none none (.fields #[]) #[]
noncomputable def o139 (_ : Params) : Obj := Obj.mk (.type "tuple") none (.seq #[.str "self" 370, .str "number" 371]) #[]
noncomputable def o140 (_ : Params) : Obj := Obj.mk (.type "tuple") none (.seq #[]) #[]
noncomputable def o141 (_ : Params) : Obj := Obj.mk .none none (.func (FuncData.mk "release" "Heap.release" (fA (meHeap 4)) (FuncBody.stmts (fB (meHeap 4))) (fS (meHeap 4)) 0 [] .none .none .none .none none .none .none 0)) #[]
noncomputable def o142 (_ : Params) : Obj := Obj.mk (.type "code") none (.fields #[.str "release" 367, .str "Heap.release" 368, .str "/claim/cut.py" 369, .int 72 0, .int 2 0, .int 0 0, .int 0 0, .int 3 0, .ref 137, .bool true, .int 181 0, .ref 138, .none, .ref 139, .ref 140, .ref 141, .int 372 0, .int 72 0, .str "/claim/cut.py" 373]) #[]
noncomputable def o143 (_ : Params) : Obj := Obj.mk (.type "function") none (.func (FuncData.mk "release" "Heap.release" (fA (meHeap 4)) (FuncBody.stmts (fB (meHeap 4))) (fS (meHeap 4)) 3 [] .none .none .none (.str "countyard.heap" 281) none (.ref 142) .none 0)) #[]
noncomputable def o144 (_ : Params) : Obj := Obj.mk (.type "tuple") none (.seq #[]) #[]
noncomputable def o145 (_ : Params) : Obj := Obj.mk .none none (.fields #[]) #[]
noncomputable def o146 (_ : Params) : Obj := Obj.mk (.type "tuple") none (.seq #[.str "self" 378, .str "counts" 379, .str "waiting" 380, .str "kind" 381, .str "number" 382]) #[]
noncomputable def o147 (_ : Params) : Obj := Obj.mk (.type "tuple") none (.seq #[]) #[]
noncomputable def o148 (_ : Params) : Obj := Obj.mk .none none (.func (FuncData.mk "drop" "Heap.drop" (fA (meHeap 5)) (FuncBody.stmts (fB (meHeap 5))) (fS (meHeap 5)) 0 [] .none .none .none .none none .none .none 0)) #[]
noncomputable def o149 (_ : Params) : Obj := Obj.mk (.type "code") none (.fields #[.str "drop" 375, .str "Heap.drop" 376, .str "/claim/cut.py" 377, .int 75 0, .int 2 0, .int 0 0, .int 0 0, .int 3 0, .ref 144, .bool true, .int 181 0, .ref 145, .none, .ref 146, .ref 147, .ref 148, .int 383 0, .int 75 0, .str "/claim/cut.py" 384]) #[]
noncomputable def o150 (_ : Params) : Obj := Obj.mk (.type "function") none (.func (FuncData.mk "drop" "Heap.drop" (fA (meHeap 5)) (FuncBody.stmts (fB (meHeap 5))) (fS (meHeap 5)) 3 [] .none .none .none (.str "countyard.heap" 281) none (.ref 149) .none 0)) #[]
noncomputable def o151 (_ : Params) : Obj := Obj.mk (.type "tuple") none (.seq #[]) #[]
noncomputable def o152 (_ : Params) : Obj := Obj.mk .none none (.fields #[]) #[]
noncomputable def o153 (_ : Params) : Obj := Obj.mk (.type "tuple") none (.seq #[.str "self" 389, .str "number" 390, .str "thing" 391, .str "found" 392, .str "value" 393]) #[]
noncomputable def o154 (_ : Params) : Obj := Obj.mk (.type "tuple") none (.seq #[]) #[]
noncomputable def o155 (_ : Params) : Obj := Obj.mk .none none (.func (FuncData.mk "dropped" "Heap.dropped" (fA (meHeap 6)) (FuncBody.stmts (fB (meHeap 6))) (fS (meHeap 6)) 0 [] .none .none .none .none none .none .none 0)) #[]
noncomputable def o156 (_ : Params) : Obj := Obj.mk (.type "code") none (.fields #[.str "dropped" 386, .str "Heap.dropped" 387, .str "/claim/cut.py" 388, .int 84 0, .int 2 0, .int 0 0, .int 0 0, .int 3 0, .ref 151, .bool true, .int 181 0, .ref 152, .none, .ref 153, .ref 154, .ref 155, .int 394 0, .int 84 0, .str "/claim/cut.py" 395]) #[]
noncomputable def o157 (_ : Params) : Obj := Obj.mk (.type "function") none (.func (FuncData.mk "dropped" "Heap.dropped" (fA (meHeap 6)) (FuncBody.stmts (fB (meHeap 6))) (fS (meHeap 6)) 3 [] .none .none .none (.str "countyard.heap" 281) none (.ref 156) .none 0)) #[]
noncomputable def o158 (_ : Params) : Obj := Obj.mk (.type "tuple") none (.seq #[]) #[]
noncomputable def o159 (_ : Params) : Obj := Obj.mk .none none (.fields #[]) #[]
noncomputable def o160 (_ : Params) : Obj := Obj.mk (.type "tuple") none (.seq #[.str "self" 400, .str "kind" 401, .str "number" 402, .str "thing" 403]) #[]
noncomputable def o161 (_ : Params) : Obj := Obj.mk (.type "tuple") none (.seq #[]) #[]
noncomputable def o162 (_ : Params) : Obj := Obj.mk .none none (.func (FuncData.mk "lost" "Heap.lost" (fA (meHeap 7)) (FuncBody.stmts (fB (meHeap 7))) (fS (meHeap 7)) 0 [] .none .none .none .none none .none .none 0)) #[]
noncomputable def o163 (_ : Params) : Obj := Obj.mk (.type "code") none (.fields #[.str "lost" 397, .str "Heap.lost" 398, .str "/claim/cut.py" 399, .int 101 0, .int 3 0, .int 0 0, .int 0 0, .int 3 0, .ref 158, .bool true, .int 181 0, .ref 159, .none, .ref 160, .ref 161, .ref 162, .int 404 0, .int 101 0, .str "/claim/cut.py" 405]) #[]
noncomputable def o164 (_ : Params) : Obj := Obj.mk (.type "function") none (.func (FuncData.mk "lost" "Heap.lost" (fA (meHeap 7)) (FuncBody.stmts (fB (meHeap 7))) (fS (meHeap 7)) 3 [] .none .none .none (.str "countyard.heap" 281) none (.ref 163) .none 0)) #[]
noncomputable def o165 (_ : Params) : Obj := Obj.mk (.type "tuple") none (.seq #[]) #[]
noncomputable def o166 (_ : Params) : Obj := Obj.mk .none none (.fields #[]) #[]
noncomputable def o167 (_ : Params) : Obj := Obj.mk (.type "tuple") none (.seq #[.str "self" 410, .str "number" 411, .str "thing" 412]) #[]
noncomputable def o168 (_ : Params) : Obj := Obj.mk (.type "tuple") none (.seq #[]) #[]
noncomputable def o169 (_ : Params) : Obj := Obj.mk .none none (.func (FuncData.mk "buried" "Heap.buried" (fA (meHeap 8)) (FuncBody.stmts (fB (meHeap 8))) (fS (meHeap 8)) 0 [] .none .none .none .none none .none .none 0)) #[]
noncomputable def o170 (_ : Params) : Obj := Obj.mk (.type "code") none (.fields #[.str "buried" 407, .str "Heap.buried" 408, .str "/claim/cut.py" 409, .int 108 0, .int 2 0, .int 0 0, .int 0 0, .int 3 0, .ref 165, .bool true, .int 181 0, .ref 166, .none, .ref 167, .ref 168, .ref 169, .int 413 0, .int 108 0, .str "/claim/cut.py" 414]) #[]
noncomputable def o171 (_ : Params) : Obj := Obj.mk (.type "function") none (.func (FuncData.mk "buried" "Heap.buried" (fA (meHeap 8)) (FuncBody.stmts (fB (meHeap 8))) (fS (meHeap 8)) 3 [] .none .none .none (.str "countyard.heap" 281) none (.ref 170) .none 0)) #[]
noncomputable def o172 (_ : Params) : Obj := Obj.mk (.type "tuple") none (.seq #[]) #[]
noncomputable def o173 (_ : Params) : Obj := Obj.mk .none none (.fields #[]) #[]
noncomputable def o174 (_ : Params) : Obj := Obj.mk (.type "tuple") none (.seq #[.str "self" 419, .str "value" 420, .str "kind" 421, .str "number" 422]) #[]
noncomputable def o175 (_ : Params) : Obj := Obj.mk (.type "tuple") none (.seq #[]) #[]
noncomputable def o176 (_ : Params) : Obj := Obj.mk .none none (.func (FuncData.mk "copied" "Heap.copied" (fA (meHeap 9)) (FuncBody.stmts (fB (meHeap 9))) (fS (meHeap 9)) 0 [] .none .none .none .none none .none .none 0)) #[]
noncomputable def o177 (_ : Params) : Obj := Obj.mk (.type "code") none (.fields #[.str "copied" 416, .str "Heap.copied" 417, .str "/claim/cut.py" 418, .int 113 0, .int 2 0, .int 0 0, .int 0 0, .int 3 0, .ref 172, .bool true, .int 181 0, .ref 173, .none, .ref 174, .ref 175, .ref 176, .int 423 0, .int 113 0, .str "/claim/cut.py" 424]) #[]
noncomputable def o178 (_ : Params) : Obj := Obj.mk (.type "function") none (.func (FuncData.mk "copied" "Heap.copied" (fA (meHeap 9)) (FuncBody.stmts (fB (meHeap 9))) (fS (meHeap 9)) 3 [] .none .none .none (.str "countyard.heap" 281) none (.ref 177) .none 0)) #[]
noncomputable def o179 (_ : Params) : Obj := Obj.mk (.type "tuple") none (.seq #[]) #[]
noncomputable def o180 (_ : Params) : Obj := Obj.mk .none none (.fields #[]) #[]
noncomputable def o181 (_ : Params) : Obj := Obj.mk (.type "tuple") none (.seq #[.str "self" 429, .str "value" 430]) #[]
noncomputable def o182 (_ : Params) : Obj := Obj.mk (.type "tuple") none (.seq #[]) #[]
noncomputable def o183 (_ : Params) : Obj := Obj.mk .none none (.func (FuncData.mk "destroyed" "Heap.destroyed" (fA (meHeap 10)) (FuncBody.stmts (fB (meHeap 10))) (fS (meHeap 10)) 0 [] .none .none .none .none none .none .none 0)) #[]
noncomputable def o184 (_ : Params) : Obj := Obj.mk (.type "code") none (.fields #[.str "destroyed" 426, .str "Heap.destroyed" 427, .str "/claim/cut.py" 428, .int 123 0, .int 2 0, .int 0 0, .int 0 0, .int 3 0, .ref 179, .bool true, .int 181 0, .ref 180, .none, .ref 181, .ref 182, .ref 183, .int 431 0, .int 123 0, .str "/claim/cut.py" 432]) #[]
noncomputable def o185 (_ : Params) : Obj := Obj.mk (.type "function") none (.func (FuncData.mk "destroyed" "Heap.destroyed" (fA (meHeap 10)) (FuncBody.stmts (fB (meHeap 10))) (fS (meHeap 10)) 3 [] .none .none .none (.str "countyard.heap" 281) none (.ref 184) .none 0)) #[]
noncomputable def o186 (_ : Params) : Obj := Obj.mk (.type "tuple") none (.seq #[]) #[]
noncomputable def o187 (_ : Params) : Obj := Obj.mk .none none (.fields #[]) #[]
noncomputable def o188 (_ : Params) : Obj := Obj.mk (.type "tuple") none (.seq #[.str "self" 437, .str "number" 438]) #[]
noncomputable def o189 (_ : Params) : Obj := Obj.mk (.type "tuple") none (.seq #[]) #[]
noncomputable def o190 (_ : Params) : Obj := Obj.mk .none none (.func (FuncData.mk "weak_to" "Heap.weak_to" (fA (meHeap 11)) (FuncBody.stmts (fB (meHeap 11))) (fS (meHeap 11)) 0 [] .none .none .none .none none .none .none 0)) #[]
noncomputable def o191 (_ : Params) : Obj := Obj.mk (.type "code") none (.fields #[.str "weak_to" 434, .str "Heap.weak_to" 435, .str "/claim/cut.py" 436, .int 126 0, .int 2 0, .int 0 0, .int 0 0, .int 3 0, .ref 186, .bool true, .int 181 0, .ref 187, .none, .ref 188, .ref 189, .ref 190, .int 439 0, .int 126 0, .str "/claim/cut.py" 440]) #[]
noncomputable def o192 (_ : Params) : Obj := Obj.mk (.type "function") none (.func (FuncData.mk "weak_to" "Heap.weak_to" (fA (meHeap 11)) (FuncBody.stmts (fB (meHeap 11))) (fS (meHeap 11)) 3 [] .none .none .none (.str "countyard.heap" 281) none (.ref 191) .none 0)) #[]
noncomputable def o193 (_ : Params) : Obj := Obj.mk (.type "tuple") none (.seq #[]) #[]
noncomputable def o194 (_ : Params) : Obj := Obj.mk .none none (.fields #[]) #[]
noncomputable def o195 (_ : Params) : Obj := Obj.mk (.type "tuple") none (.seq #[.str "self" 445, .str "value" 446, .str "number" 447]) #[]
noncomputable def o196 (_ : Params) : Obj := Obj.mk (.type "tuple") none (.seq #[]) #[]
noncomputable def o197 (_ : Params) : Obj := Obj.mk .none none (.func (FuncData.mk "weak_read" "Heap.weak_read" (fA (meHeap 12)) (FuncBody.stmts (fB (meHeap 12))) (fS (meHeap 12)) 0 [] .none .none .none .none none .none .none 0)) #[]
noncomputable def o198 (_ : Params) : Obj := Obj.mk (.type "code") none (.fields #[.str "weak_read" 442, .str "Heap.weak_read" 443, .str "/claim/cut.py" 444, .int 131 0, .int 2 0, .int 0 0, .int 0 0, .int 3 0, .ref 193, .bool true, .int 181 0, .ref 194, .none, .ref 195, .ref 196, .ref 197, .int 448 0, .int 131 0, .str "/claim/cut.py" 449]) #[]
noncomputable def o199 (_ : Params) : Obj := Obj.mk (.type "function") none (.func (FuncData.mk "weak_read" "Heap.weak_read" (fA (meHeap 12)) (FuncBody.stmts (fB (meHeap 12))) (fS (meHeap 12)) 3 [] .none .none .none (.str "countyard.heap" 281) none (.ref 198) .none 0)) #[]
noncomputable def o200 (_ : Params) : Obj := Obj.mk (.type "tuple") none (.seq #[]) #[]
noncomputable def o201 (_ : Params) : Obj := Obj.mk .none none (.fields #[]) #[]
noncomputable def o202 (_ : Params) : Obj := Obj.mk (.type "tuple") none (.seq #[.str "self" 454, .str "number" 455, .str "thing" 456]) #[]
noncomputable def o203 (_ : Params) : Obj := Obj.mk (.type "tuple") none (.seq #[]) #[]
noncomputable def o204 (_ : Params) : Obj := Obj.mk .none none (.func (FuncData.mk "unowned_to" "Heap.unowned_to" (fA (meHeap 13)) (FuncBody.stmts (fB (meHeap 13))) (fS (meHeap 13)) 0 [] .none .none .none .none none .none .none 0)) #[]
noncomputable def o205 (_ : Params) : Obj := Obj.mk (.type "code") none (.fields #[.str "unowned_to" 451, .str "Heap.unowned_to" 452, .str "/claim/cut.py" 453, .int 138 0, .int 2 0, .int 0 0, .int 0 0, .int 3 0, .ref 200, .bool true, .int 181 0, .ref 201, .none, .ref 202, .ref 203, .ref 204, .int 457 0, .int 138 0, .str "/claim/cut.py" 458]) #[]
noncomputable def o206 (_ : Params) : Obj := Obj.mk (.type "function") none (.func (FuncData.mk "unowned_to" "Heap.unowned_to" (fA (meHeap 13)) (FuncBody.stmts (fB (meHeap 13))) (fS (meHeap 13)) 3 [] .none .none .none (.str "countyard.heap" 281) none (.ref 205) .none 0)) #[]
noncomputable def o207 (_ : Params) : Obj := Obj.mk (.type "tuple") none (.seq #[]) #[]
noncomputable def o208 (_ : Params) : Obj := Obj.mk .none none (.fields #[]) #[]
noncomputable def o209 (_ : Params) : Obj := Obj.mk (.type "tuple") none (.seq #[.str "self" 463, .str "value" 464]) #[]
noncomputable def o210 (_ : Params) : Obj := Obj.mk (.type "tuple") none (.seq #[]) #[]
noncomputable def o211 (_ : Params) : Obj := Obj.mk .none none (.func (FuncData.mk "unowned_read" "Heap.unowned_read" (fA (meHeap 14)) (FuncBody.stmts (fB (meHeap 14))) (fS (meHeap 14)) 0 [] .none .none .none .none none .none .none 0)) #[]
noncomputable def o212 (_ : Params) : Obj := Obj.mk (.type "code") none (.fields #[.str "unowned_read" 460, .str "Heap.unowned_read" 461, .str "/claim/cut.py" 462, .int 143 0, .int 2 0, .int 0 0, .int 0 0, .int 3 0, .ref 207, .bool true, .int 181 0, .ref 208, .none, .ref 209, .ref 210, .ref 211, .int 465 0, .int 143 0, .str "/claim/cut.py" 466]) #[]
noncomputable def o213 (_ : Params) : Obj := Obj.mk (.type "function") none (.func (FuncData.mk "unowned_read" "Heap.unowned_read" (fA (meHeap 14)) (FuncBody.stmts (fB (meHeap 14))) (fS (meHeap 14)) 3 [] .none .none .none (.str "countyard.heap" 281) none (.ref 212) .none 0)) #[]
noncomputable def o214 (_ : Params) : Obj := Obj.mk (.type "tuple") none (.seq #[]) #[]
noncomputable def o215 (_ : Params) : Obj := Obj.mk .none none (.fields #[]) #[]
noncomputable def o216 (_ : Params) : Obj := Obj.mk (.type "tuple") none (.seq #[.str "self" 471, .str "number" 472]) #[]
noncomputable def o217 (_ : Params) : Obj := Obj.mk (.type "tuple") none (.seq #[]) #[]
noncomputable def o218 (_ : Params) : Obj := Obj.mk .none none (.func (FuncData.mk "elements" "Heap.elements" (fA (meHeap 15)) (FuncBody.stmts (fB (meHeap 15))) (fS (meHeap 15)) 0 [] .none .none .none .none none .none .none 0)) #[]
noncomputable def o219 (_ : Params) : Obj := Obj.mk (.type "code") none (.fields #[.str "elements" 468, .str "Heap.elements" 469, .str "/claim/cut.py" 470, .int 149 0, .int 2 0, .int 0 0, .int 0 0, .int 3 0, .ref 214, .bool true, .int 181 0, .ref 215, .none, .ref 216, .ref 217, .ref 218, .int 473 0, .int 149 0, .str "/claim/cut.py" 474]) #[]
noncomputable def o220 (_ : Params) : Obj := Obj.mk (.type "function") none (.func (FuncData.mk "elements" "Heap.elements" (fA (meHeap 15)) (FuncBody.stmts (fB (meHeap 15))) (fS (meHeap 15)) 3 [] .none .none .none (.str "countyard.heap" 281) none (.ref 219) .none 0)) #[]
noncomputable def o221 (_ : Params) : Obj := Obj.mk (.type "tuple") none (.seq #[]) #[]
noncomputable def o222 (_ : Params) : Obj := Obj.mk .none none (.fields #[]) #[]
noncomputable def o223 (_ : Params) : Obj := Obj.mk (.type "tuple") none (.seq #[.str "self" 479, .str "number" 480]) #[]
noncomputable def o224 (_ : Params) : Obj := Obj.mk (.type "tuple") none (.seq #[]) #[]
noncomputable def o225 (_ : Params) : Obj := Obj.mk .none none (.func (FuncData.mk "own_buffer" "Heap.own_buffer" (fA (meHeap 16)) (FuncBody.stmts (fB (meHeap 16))) (fS (meHeap 16)) 0 [] .none .none .none .none none .none .none 0)) #[]
noncomputable def o226 (_ : Params) : Obj := Obj.mk (.type "code") none (.fields #[.str "own_buffer" 476, .str "Heap.own_buffer" 477, .str "/claim/cut.py" 478, .int 152 0, .int 2 0, .int 0 0, .int 0 0, .int 3 0, .ref 221, .bool true, .int 181 0, .ref 222, .none, .ref 223, .ref 224, .ref 225, .int 481 0, .int 152 0, .str "/claim/cut.py" 482]) #[]
noncomputable def o227 (_ : Params) : Obj := Obj.mk (.type "function") none (.func (FuncData.mk "own_buffer" "Heap.own_buffer" (fA (meHeap 16)) (FuncBody.stmts (fB (meHeap 16))) (fS (meHeap 16)) 3 [] .none .none .none (.str "countyard.heap" 281) none (.ref 226) .none 0)) #[]
noncomputable def o228 (_ : Params) : Obj := Obj.mk (.type "tuple") none (.seq #[]) #[]
noncomputable def o229 (_ : Params) : Obj := Obj.mk .none none (.fields #[]) #[]
noncomputable def o230 (_ : Params) : Obj := Obj.mk (.type "tuple") none (.seq #[.str "self" 487, .str "found" 488, .str "number" 489]) #[]
noncomputable def o231 (_ : Params) : Obj := Obj.mk (.type "tuple") none (.seq #[]) #[]
noncomputable def o232 (_ : Params) : Obj := Obj.mk .none none (.func (FuncData.mk "live" "Heap.live" (fA (meHeap 17)) (FuncBody.stmts (fB (meHeap 17))) (fS (meHeap 17)) 0 [] .none .none .none .none none .none .none 0)) #[]
noncomputable def o233 (_ : Params) : Obj := Obj.mk (.type "code") none (.fields #[.str "live" 484, .str "Heap.live" 485, .str "/claim/cut.py" 486, .int 155 0, .int 1 0, .int 0 0, .int 0 0, .int 3 0, .ref 228, .bool true, .int 181 0, .ref 229, .none, .ref 230, .ref 231, .ref 232, .int 490 0, .int 155 0, .str "/claim/cut.py" 491]) #[]
noncomputable def o234 (_ : Params) : Obj := Obj.mk (.type "function") none (.func (FuncData.mk "live" "Heap.live" (fA (meHeap 17)) (FuncBody.stmts (fB (meHeap 17))) (fS (meHeap 17)) 3 [] .none .none .none (.str "countyard.heap" 281) none (.ref 233) .none 0)) #[]
noncomputable def o235 (_ : Params) : Obj := Obj.mk (.type "tuple") none (.seq #[.str "dying" 493, .str "last" 494, .str "things" 495]) #[]
noncomputable def o236 (P : Params) : Obj := Obj.mk (.type "dict") none (.dict #[.mk (PyData.keyHash P "__module__") (.str "__module__" 327) (.str "countyard.heap" 281), .mk (PyData.keyHash P "__firstlineno__") (.str "__firstlineno__" 331) (.int 50 330), .mk (PyData.keyHash P "__init__") (.str "__init__" 338) (.ref 115), .mk (PyData.keyHash P "made") (.str "made" 348) (.ref 122), .mk (PyData.keyHash P "thing") (.str "thing" 357) (.ref 129), .mk (PyData.keyHash P "retain") (.str "retain" 366) (.ref 136), .mk (PyData.keyHash P "release") (.str "release" 374) (.ref 143), .mk (PyData.keyHash P "drop") (.str "drop" 385) (.ref 150), .mk (PyData.keyHash P "dropped") (.str "dropped" 396) (.ref 157), .mk (PyData.keyHash P "lost") (.str "lost" 406) (.ref 164), .mk (PyData.keyHash P "buried") (.str "buried" 415) (.ref 171), .mk (PyData.keyHash P "copied") (.str "copied" 425) (.ref 178), .mk (PyData.keyHash P "destroyed") (.str "destroyed" 433) (.ref 185), .mk (PyData.keyHash P "weak_to") (.str "weak_to" 441) (.ref 192), .mk (PyData.keyHash P "weak_read") (.str "weak_read" 450) (.ref 199), .mk (PyData.keyHash P "unowned_to") (.str "unowned_to" 459) (.ref 206), .mk (PyData.keyHash P "unowned_read") (.str "unowned_read" 467) (.ref 213), .mk (PyData.keyHash P "elements") (.str "elements" 475) (.ref 220), .mk (PyData.keyHash P "own_buffer") (.str "own_buffer" 483) (.ref 227), .mk (PyData.keyHash P "live") (.str "live" 492) (.ref 234), .mk (PyData.keyHash P "__static_attributes__") (.str "__static_attributes__" 496) (.ref 235), .mk (PyData.keyHash P "__dict__") (.str "__dict__" 498) (.ref 238), .mk (PyData.keyHash P "__weakref__") (.str "__weakref__" 500) (.ref 239), .mk (PyData.keyHash P "__doc__") (.str "__doc__" 501) .none] 4) #[]
noncomputable def o237 (_ : Params) : Obj := Obj.mk (.type "type") none (.cls (ClassData.mk "Heap" [.type "object"] [.ref 237, .type "object"] 236 "Heap" true [] [] false none false)) #[none, none, some (.str "Heap" 320), some (.str "Heap" 328), some (.builtin "object.__new__"), some (.bool true)]
noncomputable def o238 (_ : Params) : Obj := Obj.mk (.type "getset_descriptor") none (.fields #[.str "__dict__" 497, .ref 237, .builtin "function.__dict__", .builtin "function.__dict__#set"]) #[]
noncomputable def o239 (_ : Params) : Obj := Obj.mk (.type "getset_descriptor") none (.fields #[.str "__weakref__" 499, .ref 237, .builtin "ExceptionGroup.__weakref__", .none]) #[]
noncomputable def o240 (_ : Params) : Obj := Obj.mk (.type "super") none (.fields #[.ref 237, .ref 237, .ref 237]) #[]
noncomputable def o241 (_ : Params) : Obj := Obj.mk (.type "builtin_function_or_method") none (.fields #[.builtin "object.__init_subclass__", .ref 237]) #[]
noncomputable def o242 (_ : Params) : Obj := Obj.mk (.type "tuple") none (.seq #[.str "object" 506, .str "object" 507, .str "box" 508, .str "buffer" 509, .str "context" 510]) #[]
noncomputable def o243 (_ : Params) : Obj := Obj.mk (.type "tuple") none (.seq #[]) #[]
noncomputable def o244 (_ : Params) : Obj := Obj.mk .none none (.fields #[]) #[]
noncomputable def o245 (_ : Params) : Obj := Obj.mk (.type "tuple") none (.seq #[.str "hand" 515, .str "bound" 516]) #[]
noncomputable def o246 (_ : Params) : Obj := Obj.mk (.type "tuple") none (.seq #[]) #[]
noncomputable def o247 (_ : Params) : Obj := Obj.mk .none none (.func (FuncData.mk "_law_next" "_law_next" (fA (stAt 14)) (FuncBody.stmts (fB (stAt 14))) (fS (stAt 14)) 0 [] .none .none .none .none none .none .none 0)) #[]
noncomputable def o248 (_ : Params) : Obj := Obj.mk (.type "code") none (.fields #[.str "_law_next" 512, .str "_law_next" 513, .str "/claim/cut.py" 514, .int 163 0, .int 2 0, .int 0 0, .int 0 0, .int 3 0, .ref 243, .bool true, .int 181 0, .ref 244, .none, .ref 245, .ref 246, .ref 247, .int 517 0, .int 163 0, .str "/claim/cut.py" 518]) #[]
noncomputable def o249 (_ : Params) : Obj := Obj.mk (.type "function") none (.func (FuncData.mk "_law_next" "_law_next" (fA (stAt 14)) (FuncBody.stmts (fB (stAt 14))) (fS (stAt 14)) 3 [] .none .none .none (.str "law_pc0019_01" 504) none (.ref 248) .none 0)) #[]
noncomputable def o250 (_ : Params) : Obj := Obj.mk (.type "tuple") none (.seq #[]) #[]
noncomputable def o251 (_ : Params) : Obj := Obj.mk .none none (.fields #[]) #[]
noncomputable def o252 (_ : Params) : Obj := Obj.mk (.type "tuple") none (.seq #[.str "book" 523, .str "way" 524, .str "goal" 525, .str "word" 526]) #[]
noncomputable def o253 (_ : Params) : Obj := Obj.mk (.type "tuple") none (.seq #[]) #[]
noncomputable def o254 (_ : Params) : Obj := Obj.mk .none none (.func (FuncData.mk "_law_link" "_law_link" (fA (stAt 15)) (FuncBody.stmts (fB (stAt 15))) (fS (stAt 15)) 0 [] .none .none .none .none none .none .none 0)) #[]
noncomputable def o255 (_ : Params) : Obj := Obj.mk (.type "code") none (.fields #[.str "_law_link" 520, .str "_law_link" 521, .str "/claim/cut.py" 522, .int 166 0, .int 3 0, .int 0 0, .int 0 0, .int 3 0, .ref 250, .bool true, .int 181 0, .ref 251, .none, .ref 252, .ref 253, .ref 254, .int 527 0, .int 166 0, .str "/claim/cut.py" 528]) #[]
noncomputable def o256 (_ : Params) : Obj := Obj.mk (.type "function") none (.func (FuncData.mk "_law_link" "_law_link" (fA (stAt 15)) (FuncBody.stmts (fB (stAt 15))) (fS (stAt 15)) 3 [] .none .none .none (.str "law_pc0019_01" 504) none (.ref 255) .none 0)) #[]
noncomputable def o257 (_ : Params) : Obj := Obj.mk (.type "tuple") none (.seq #[]) #[]
noncomputable def o258 (_ : Params) : Obj := Obj.mk .none none (.fields #[]) #[]
noncomputable def o259 (_ : Params) : Obj := Obj.mk (.type "tuple") none (.seq #[.str "heap" 533, .str "book" 534, .str "holder" 535, .str "way" 536, .str "goal" 537, .str "fresh" 538]) #[]
noncomputable def o260 (_ : Params) : Obj := Obj.mk (.type "tuple") none (.seq #[]) #[]
noncomputable def o261 (_ : Params) : Obj := Obj.mk .none none (.func (FuncData.mk "_law_lay" "_law_lay" (fA (stAt 16)) (FuncBody.stmts (fB (stAt 16))) (fS (stAt 16)) 0 [] .none .none .none .none none .none .none 0)) #[]
noncomputable def o262 (_ : Params) : Obj := Obj.mk (.type "code") none (.fields #[.str "_law_lay" 530, .str "_law_lay" 531, .str "/claim/cut.py" 532, .int 171 0, .int 5 0, .int 0 0, .int 0 0, .int 3 0, .ref 257, .bool true, .int 181 0, .ref 258, .none, .ref 259, .ref 260, .ref 261, .int 539 0, .int 171 0, .str "/claim/cut.py" 540]) #[]
noncomputable def o263 (_ : Params) : Obj := Obj.mk (.type "function") none (.func (FuncData.mk "_law_lay" "_law_lay" (fA (stAt 16)) (FuncBody.stmts (fB (stAt 16))) (fS (stAt 16)) 3 [] .none .none .none (.str "law_pc0019_01" 504) none (.ref 262) .none 0)) #[]
noncomputable def o264 (_ : Params) : Obj := Obj.mk (.type "tuple") none (.seq #[]) #[]
noncomputable def o265 (_ : Params) : Obj := Obj.mk .none none (.fields #[]) #[]
noncomputable def o266 (_ : Params) : Obj := Obj.mk (.type "tuple") none (.seq #[.str "book" 545, .str "holder" 546, .str "way" 547, .str "goal" 548, .str "rows" 549, .str "each_way" 550, .str "other" 551]) #[]
noncomputable def o267 (_ : Params) : Obj := Obj.mk (.type "tuple") none (.seq #[]) #[]
noncomputable def o268 (_ : Params) : Obj := Obj.mk .none none (.func (FuncData.mk "_law_let_go" "_law_let_go" (fA (stAt 17)) (FuncBody.stmts (fB (stAt 17))) (fS (stAt 17)) 0 [] .none .none .none .none none .none .none 0)) #[]
noncomputable def o269 (_ : Params) : Obj := Obj.mk (.type "code") none (.fields #[.str "_law_let_go" 542, .str "_law_let_go" 543, .str "/claim/cut.py" 544, .int 180 0, .int 4 0, .int 0 0, .int 0 0, .int 3 0, .ref 264, .bool true, .int 181 0, .ref 265, .none, .ref 266, .ref 267, .ref 268, .int 552 0, .int 180 0, .str "/claim/cut.py" 553]) #[]
noncomputable def o270 (_ : Params) : Obj := Obj.mk (.type "function") none (.func (FuncData.mk "_law_let_go" "_law_let_go" (fA (stAt 17)) (FuncBody.stmts (fB (stAt 17))) (fS (stAt 17)) 3 [] .none .none .none (.str "law_pc0019_01" 504) none (.ref 269) .none 0)) #[]
noncomputable def o271 (_ : Params) : Obj := Obj.mk (.type "tuple") none (.seq #[]) #[]
noncomputable def o272 (_ : Params) : Obj := Obj.mk .none none (.fields #[]) #[]
noncomputable def o273 (_ : Params) : Obj := Obj.mk .none none (.func (FuncData.mk "_law_is_so" "_law_is_so" (fA (stAt 18)) (FuncBody.stmts (fB (stAt 18))) (fS (stAt 18)) 0 [] .none .none .none .none none .none .none 0)) #[]
noncomputable def o274 (_ : Params) : Obj := Obj.mk (.type "code") none (.fields #[.str "_law_is_so" 555, .str "_law_is_so" 556, .str "/claim/cut.py" 557, .int 194 0, .int 2 0, .int 0 0, .int 0 0, .int 3 0, .ref 271, .bool true, .int 181 0, .ref 272, .none, .none, .none, .ref 273, .int 558 0, .int 194 0, .str "/claim/cut.py" 559]) #[]
noncomputable def o275 (_ : Params) : Obj := Obj.mk (.type "function") none (.func (FuncData.mk "_law_is_so" "_law_is_so" (fA (stAt 18)) (FuncBody.stmts (fB (stAt 18))) (fS (stAt 18)) 3 [] .none .none .none (.str "law_pc0019_01" 504) none (.ref 274) .none 0)) #[]
noncomputable def o276 (_ : Params) : Obj := Obj.mk (.type "tuple") none (.seq #[]) #[]
noncomputable def o277 (_ : Params) : Obj := Obj.mk .none none (.fields #[]) #[]
noncomputable def o278 (_ : Params) : Obj := Obj.mk (.type "tuple") none (.seq #[.str "heap" 564, .str "book" 565, .str "goal" 566, .str "rows" 567, .str "fresh" 568, .str "way" 569, .str "other" 570]) #[]
noncomputable def o279 (_ : Params) : Obj := Obj.mk (.type "tuple") none (.seq #[]) #[]
noncomputable def o280 (_ : Params) : Obj := Obj.mk .none none (.func (FuncData.mk "_law_taken_down" "_law_taken_down" (fA (stAt 19)) (FuncBody.stmts (fB (stAt 19))) (fS (stAt 19)) 0 [] .none .none .none .none none .none .none 0)) #[]
noncomputable def o281 (_ : Params) : Obj := Obj.mk (.type "code") none (.fields #[.str "_law_taken_down" 561, .str "_law_taken_down" 562, .str "/claim/cut.py" 563, .int 208 0, .int 2 0, .int 0 0, .int 0 0, .int 3 0, .ref 276, .bool true, .int 181 0, .ref 277, .none, .ref 278, .ref 279, .ref 280, .int 571 0, .int 208 0, .str "/claim/cut.py" 572]) #[]
noncomputable def o282 (_ : Params) : Obj := Obj.mk (.type "function") none (.func (FuncData.mk "_law_taken_down" "_law_taken_down" (fA (stAt 19)) (FuncBody.stmts (fB (stAt 19))) (fS (stAt 19)) 3 [] .none .none .none (.str "law_pc0019_01" 504) none (.ref 281) .none 0)) #[]
noncomputable def o283 (_ : Params) : Obj := Obj.mk (.type "tuple") none (.seq #[]) #[]
noncomputable def o284 (_ : Params) : Obj := Obj.mk .none none (.fields #[]) #[]
noncomputable def o285 (_ : Params) : Obj := Obj.mk (.type "tuple") none (.seq #[.str "hand" 577, .str "heap" 578, .str "book" 579, .str "many" 580, .str "goal" 581, .str "way" 582, .str "is_live" 583, .str "gave" 584, .str "fault" 585]) #[]
noncomputable def o286 (_ : Params) : Obj := Obj.mk (.type "tuple") none (.seq #[]) #[]
noncomputable def o287 (_ : Params) : Obj := Obj.mk .none none (.func (FuncData.mk "_law_read" "_law_read" (fA (stAt 20)) (FuncBody.stmts (fB (stAt 20))) (fS (stAt 20)) 0 [] .none .none .none .none none .none .none 0)) #[]
noncomputable def o288 (_ : Params) : Obj := Obj.mk (.type "code") none (.fields #[.str "_law_read" 574, .str "_law_read" 575, .str "/claim/cut.py" 576, .int 222 0, .int 4 0, .int 0 0, .int 0 0, .int 3 0, .ref 283, .bool true, .int 181 0, .ref 284, .none, .ref 285, .ref 286, .ref 287, .int 586 0, .int 222 0, .str "/claim/cut.py" 587]) #[]
noncomputable def o289 (_ : Params) : Obj := Obj.mk (.type "function") none (.func (FuncData.mk "_law_read" "_law_read" (fA (stAt 20)) (FuncBody.stmts (fB (stAt 20))) (fS (stAt 20)) 3 [] .none .none .none (.str "law_pc0019_01" 504) none (.ref 288) .none 0)) #[]
noncomputable def o290 (_ : Params) : Obj := Obj.mk (.type "tuple") none (.seq #[]) #[]
noncomputable def o291 (_ : Params) : Obj := Obj.mk .none none (.fields #[]) #[]
noncomputable def o292 (_ : Params) : Obj := Obj.mk (.type "tuple") none (.seq #[.str "act" 592, .str "goal" 593]) #[]
noncomputable def o293 (_ : Params) : Obj := Obj.mk (.type "tuple") none (.seq #[]) #[]
noncomputable def o294 (_ : Params) : Obj := Obj.mk .none none (.func (FuncData.mk "_law_refused" "_law_refused" (fA (stAt 21)) (FuncBody.stmts (fB (stAt 21))) (fS (stAt 21)) 0 [] .none .none .none .none none .none .none 0)) #[]
noncomputable def o295 (_ : Params) : Obj := Obj.mk (.type "code") none (.fields #[.str "_law_refused" 589, .str "_law_refused" 590, .str "/claim/cut.py" 591, .int 237 0, .int 2 0, .int 0 0, .int 0 0, .int 3 0, .ref 290, .bool true, .int 181 0, .ref 291, .none, .ref 292, .ref 293, .ref 294, .int 594 0, .int 237 0, .str "/claim/cut.py" 595]) #[]
noncomputable def o296 (_ : Params) : Obj := Obj.mk (.type "function") none (.func (FuncData.mk "_law_refused" "_law_refused" (fA (stAt 21)) (FuncBody.stmts (fB (stAt 21))) (fS (stAt 21)) 3 [] .none .none .none (.str "law_pc0019_01" 504) none (.ref 295) .none 0)) #[]
noncomputable def o297 (_ : Params) : Obj := Obj.mk (.type "tuple") none (.seq #[]) #[]
noncomputable def o298 (_ : Params) : Obj := Obj.mk .none none (.fields #[]) #[]
noncomputable def o299 (_ : Params) : Obj := Obj.mk .none none (.func (FuncData.mk "law" "law" (fA (stAt 22)) (FuncBody.stmts (fB (stAt 22))) (fS (stAt 22)) 0 [] .none .none .none .none none .none .none 0)) #[]
noncomputable def o300 (_ : Params) : Obj := Obj.mk (.type "code") none (.fields #[.str "law" 597, .str "law" 598, .str "/claim/cut.py" 599, .int 243 0, .int 1 0, .int 0 0, .int 0 0, .int 3 0, .ref 297, .bool true, .int 181 0, .ref 298, .none, .none, .none, .ref 299, .int 600 0, .int 243 0, .str "/claim/cut.py" 601]) #[]
noncomputable def o301 (_ : Params) : Obj := Obj.mk (.type "function") none (.func (FuncData.mk "law" "law" (fA (stAt 22)) (FuncBody.stmts (fB (stAt 22))) (fS (stAt 22)) 3 [] .none .none .none (.str "law_pc0019_01" 504) none (.ref 300) .none 0)) #[]
noncomputable def tree0 (P : Params) : BT := .node (boot_o_0 P) (.node (boot_o_1 P) (.node (boot_o_3 P) (.node (boot_o_7 P) .nil .nil) (.node (o11 P) .nil .nil)) (.node (boot_o_5 P) (.node (boot_o_9 P) .nil .nil) (.node (o13 P) .nil .nil))) (.node (boot_o_2 P) (.node (boot_o_4 P) (.node (boot_o_8 P) .nil .nil) (.node (oTab P) .nil .nil)) (.node (boot_o_6 P) (.node (boot_o_10 P) .nil .nil) (.node (o14 P) .nil .nil)))
noncomputable def tree1 (P : Params) : BT := .node (boot_o_0 P) (.node (boot_o_1 P) (.node (o3 P) (.node (boot_o_7 P) (.node (o15 P) (.node (o31 P) (.node (o63 P) (.node (o127 P) (.node (o255 P) .nil .nil) .nil) (.node (o191 P) .nil .nil)) (.node (o95 P) (.node (o159 P) (.node (o287 P) .nil .nil) .nil) (.node (o223 P) .nil .nil))) (.node (o47 P) (.node (o79 P) (.node (o143 P) (.node (o271 P) .nil .nil) .nil) (.node (o207 P) .nil .nil)) (.node (o111 P) (.node (o175 P) .nil .nil) (.node (o239 P) .nil .nil)))) (.node (o23 P) (.node (o39 P) (.node (o71 P) (.node (o135 P) (.node (o263 P) .nil .nil) .nil) (.node (o199 P) .nil .nil)) (.node (o103 P) (.node (o167 P) (.node (o295 P) .nil .nil) .nil) (.node (o231 P) .nil .nil))) (.node (o55 P) (.node (o87 P) (.node (o151 P) (.node (o279 P) .nil .nil) .nil) (.node (o215 P) .nil .nil)) (.node (o119 P) (.node (o183 P) .nil .nil) (.node (o247 P) .nil .nil))))) (.node (o11 P) (.node (o19 P) (.node (o35 P) (.node (o67 P) (.node (o131 P) (.node (o259 P) .nil .nil) .nil) (.node (o195 P) .nil .nil)) (.node (o99 P) (.node (o163 P) (.node (o291 P) .nil .nil) .nil) (.node (o227 P) .nil .nil))) (.node (o51 P) (.node (o83 P) (.node (o147 P) (.node (o275 P) .nil .nil) .nil) (.node (o211 P) .nil .nil)) (.node (o115 P) (.node (o179 P) .nil .nil) (.node (o243 P) .nil .nil)))) (.node (o27 P) (.node (o43 P) (.node (o75 P) (.node (o139 P) (.node (o267 P) .nil .nil) .nil) (.node (o203 P) .nil .nil)) (.node (o107 P) (.node (o171 P) (.node (o299 P) .nil .nil) .nil) (.node (o235 P) .nil .nil))) (.node (o59 P) (.node (o91 P) (.node (o155 P) (.node (o283 P) .nil .nil) .nil) (.node (o219 P) .nil .nil)) (.node (o123 P) (.node (o187 P) .nil .nil) (.node (o251 P) .nil .nil)))))) (.node (boot_o_5 P) (.node (boot_o_9 P) (.node (o17 P) (.node (o33 P) (.node (o65 P) (.node (o129 P) (.node (o257 P) .nil .nil) .nil) (.node (o193 P) .nil .nil)) (.node (o97 P) (.node (o161 P) (.node (o289 P) .nil .nil) .nil) (.node (o225 P) .nil .nil))) (.node (o49 P) (.node (o81 P) (.node (o145 P) (.node (o273 P) .nil .nil) .nil) (.node (o209 P) .nil .nil)) (.node (o113 P) (.node (o177 P) .nil .nil) (.node (o241 P) .nil .nil)))) (.node (o25 P) (.node (o41 P) (.node (o73 P) (.node (o137 P) (.node (o265 P) .nil .nil) .nil) (.node (o201 P) .nil .nil)) (.node (o105 P) (.node (o169 P) (.node (o297 P) .nil .nil) .nil) (.node (o233 P) .nil .nil))) (.node (o57 P) (.node (o89 P) (.node (o153 P) (.node (o281 P) .nil .nil) .nil) (.node (o217 P) .nil .nil)) (.node (o121 P) (.node (o185 P) .nil .nil) (.node (o249 P) .nil .nil))))) (.node (o13 P) (.node (o21 P) (.node (o37 P) (.node (o69 P) (.node (o133 P) (.node (o261 P) .nil .nil) .nil) (.node (o197 P) .nil .nil)) (.node (o101 P) (.node (o165 P) (.node (o293 P) .nil .nil) .nil) (.node (o229 P) .nil .nil))) (.node (o53 P) (.node (o85 P) (.node (o149 P) (.node (o277 P) .nil .nil) .nil) (.node (o213 P) .nil .nil)) (.node (o117 P) (.node (o181 P) .nil .nil) (.node (o245 P) .nil .nil)))) (.node (o29 P) (.node (o45 P) (.node (o77 P) (.node (o141 P) (.node (o269 P) .nil .nil) .nil) (.node (o205 P) .nil .nil)) (.node (o109 P) (.node (o173 P) (.node (o301 P) .nil .nil) .nil) (.node (o237 P) .nil .nil))) (.node (o61 P) (.node (o93 P) (.node (o157 P) (.node (o285 P) .nil .nil) .nil) (.node (o221 P) .nil .nil)) (.node (o125 P) (.node (o189 P) .nil .nil) (.node (o253 P) .nil .nil))))))) (.node (o2 P) (.node (boot_o_4 P) (.node (boot_o_8 P) (.node (o16 P) (.node (o32 P) (.node (o64 P) (.node (o128 P) (.node (o256 P) .nil .nil) .nil) (.node (o192 P) .nil .nil)) (.node (o96 P) (.node (o160 P) (.node (o288 P) .nil .nil) .nil) (.node (o224 P) .nil .nil))) (.node (o48 P) (.node (o80 P) (.node (o144 P) (.node (o272 P) .nil .nil) .nil) (.node (o208 P) .nil .nil)) (.node (o112 P) (.node (o176 P) .nil .nil) (.node (o240 P) .nil .nil)))) (.node (o24 P) (.node (o40 P) (.node (o72 P) (.node (o136 P) (.node (o264 P) .nil .nil) .nil) (.node (o200 P) .nil .nil)) (.node (o104 P) (.node (o168 P) (.node (o296 P) .nil .nil) .nil) (.node (o232 P) .nil .nil))) (.node (o56 P) (.node (o88 P) (.node (o152 P) (.node (o280 P) .nil .nil) .nil) (.node (o216 P) .nil .nil)) (.node (o120 P) (.node (o184 P) .nil .nil) (.node (o248 P) .nil .nil))))) (.node (o12 P) (.node (o20 P) (.node (o36 P) (.node (o68 P) (.node (o132 P) (.node (o260 P) .nil .nil) .nil) (.node (o196 P) .nil .nil)) (.node (o100 P) (.node (o164 P) (.node (o292 P) .nil .nil) .nil) (.node (o228 P) .nil .nil))) (.node (o52 P) (.node (o84 P) (.node (o148 P) (.node (o276 P) .nil .nil) .nil) (.node (o212 P) .nil .nil)) (.node (o116 P) (.node (o180 P) .nil .nil) (.node (o244 P) .nil .nil)))) (.node (o28 P) (.node (o44 P) (.node (o76 P) (.node (o140 P) (.node (o268 P) .nil .nil) .nil) (.node (o204 P) .nil .nil)) (.node (o108 P) (.node (o172 P) (.node (o300 P) .nil .nil) .nil) (.node (o236 P) .nil .nil))) (.node (o60 P) (.node (o92 P) (.node (o156 P) (.node (o284 P) .nil .nil) .nil) (.node (o220 P) .nil .nil)) (.node (o124 P) (.node (o188 P) .nil .nil) (.node (o252 P) .nil .nil)))))) (.node (boot_o_6 P) (.node (boot_o_10 P) (.node (o18 P) (.node (o34 P) (.node (o66 P) (.node (o130 P) (.node (o258 P) .nil .nil) .nil) (.node (o194 P) .nil .nil)) (.node (o98 P) (.node (o162 P) (.node (o290 P) .nil .nil) .nil) (.node (o226 P) .nil .nil))) (.node (o50 P) (.node (o82 P) (.node (o146 P) (.node (o274 P) .nil .nil) .nil) (.node (o210 P) .nil .nil)) (.node (o114 P) (.node (o178 P) .nil .nil) (.node (o242 P) .nil .nil)))) (.node (o26 P) (.node (o42 P) (.node (o74 P) (.node (o138 P) (.node (o266 P) .nil .nil) .nil) (.node (o202 P) .nil .nil)) (.node (o106 P) (.node (o170 P) (.node (o298 P) .nil .nil) .nil) (.node (o234 P) .nil .nil))) (.node (o58 P) (.node (o90 P) (.node (o154 P) (.node (o282 P) .nil .nil) .nil) (.node (o218 P) .nil .nil)) (.node (o122 P) (.node (o186 P) .nil .nil) (.node (o250 P) .nil .nil))))) (.node (o14 P) (.node (o22 P) (.node (o38 P) (.node (o70 P) (.node (o134 P) (.node (o262 P) .nil .nil) .nil) (.node (o198 P) .nil .nil)) (.node (o102 P) (.node (o166 P) (.node (o294 P) .nil .nil) .nil) (.node (o230 P) .nil .nil))) (.node (o54 P) (.node (o86 P) (.node (o150 P) (.node (o278 P) .nil .nil) .nil) (.node (o214 P) .nil .nil)) (.node (o118 P) (.node (o182 P) .nil .nil) (.node (o246 P) .nil .nil)))) (.node (o30 P) (.node (o46 P) (.node (o78 P) (.node (o142 P) (.node (o270 P) .nil .nil) .nil) (.node (o206 P) .nil .nil)) (.node (o110 P) (.node (o174 P) .nil .nil) (.node (o238 P) .nil .nil))) (.node (o62 P) (.node (o94 P) (.node (o158 P) (.node (o286 P) .nil .nil) .nil) (.node (o222 P) .nil .nil)) (.node (o126 P) (.node (o190 P) .nil .nil) (.node (o254 P) .nil .nil)))))))
noncomputable def heap0 (P : Params) : Heap := { objs := #[boot_o_0 P, boot_o_1 P, boot_o_2 P, boot_o_3 P, boot_o_4 P, boot_o_5 P, boot_o_6 P, boot_o_7 P, boot_o_8 P, boot_o_9 P, boot_o_10 P, o11 P, oTab P, o13 P, o14 P] }
noncomputable def heap1 (P : Params) : Heap := { objs := #[boot_o_0 P, boot_o_1 P, o2 P, o3 P, boot_o_4 P, boot_o_5 P, boot_o_6 P, boot_o_7 P, boot_o_8 P, boot_o_9 P, boot_o_10 P, o11 P, o12 P, o13 P, o14 P, o15 P, o16 P, o17 P, o18 P, o19 P, o20 P, o21 P, o22 P, o23 P, o24 P, o25 P, o26 P, o27 P, o28 P, o29 P, o30 P, o31 P, o32 P, o33 P, o34 P, o35 P, o36 P, o37 P, o38 P, o39 P, o40 P, o41 P, o42 P, o43 P, o44 P, o45 P, o46 P, o47 P, o48 P, o49 P, o50 P, o51 P, o52 P, o53 P, o54 P, o55 P, o56 P, o57 P, o58 P, o59 P, o60 P, o61 P, o62 P, o63 P, o64 P, o65 P, o66 P, o67 P, o68 P, o69 P, o70 P, o71 P, o72 P, o73 P, o74 P, o75 P, o76 P, o77 P, o78 P, o79 P, o80 P, o81 P, o82 P, o83 P, o84 P, o85 P, o86 P, o87 P, o88 P, o89 P, o90 P, o91 P, o92 P, o93 P, o94 P, o95 P, o96 P, o97 P, o98 P, o99 P, o100 P, o101 P, o102 P, o103 P, o104 P, o105 P, o106 P, o107 P, o108 P, o109 P, o110 P, o111 P, o112 P, o113 P, o114 P, o115 P, o116 P, o117 P, o118 P, o119 P, o120 P, o121 P, o122 P, o123 P, o124 P, o125 P, o126 P, o127 P, o128 P, o129 P, o130 P, o131 P, o132 P, o133 P, o134 P, o135 P, o136 P, o137 P, o138 P, o139 P, o140 P, o141 P, o142 P, o143 P, o144 P, o145 P, o146 P, o147 P, o148 P, o149 P, o150 P, o151 P, o152 P, o153 P, o154 P, o155 P, o156 P, o157 P, o158 P, o159 P, o160 P, o161 P, o162 P, o163 P, o164 P, o165 P, o166 P, o167 P, o168 P, o169 P, o170 P, o171 P, o172 P, o173 P, o174 P, o175 P, o176 P, o177 P, o178 P, o179 P, o180 P, o181 P, o182 P, o183 P, o184 P, o185 P, o186 P, o187 P, o188 P, o189 P, o190 P, o191 P, o192 P, o193 P, o194 P, o195 P, o196 P, o197 P, o198 P, o199 P, o200 P, o201 P, o202 P, o203 P, o204 P, o205 P, o206 P, o207 P, o208 P, o209 P, o210 P, o211 P, o212 P, o213 P, o214 P, o215 P, o216 P, o217 P, o218 P, o219 P, o220 P, o221 P, o222 P, o223 P, o224 P, o225 P, o226 P, o227 P, o228 P, o229 P, o230 P, o231 P, o232 P, o233 P, o234 P, o235 P, o236 P, o237 P, o238 P, o239 P, o240 P, o241 P, o242 P, o243 P, o244 P, o245 P, o246 P, o247 P, o248 P, o249 P, o250 P, o251 P, o252 P, o253 P, o254 P, o255 P, o256 P, o257 P, o258 P, o259 P, o260 P, o261 P, o262 P, o263 P, o264 P, o265 P, o266 P, o267 P, o268 P, o269 P, o270 P, o271 P, o272 P, o273 P, o274 P, o275 P, o276 P, o277 P, o278 P, o279 P, o280 P, o281 P, o282 P, o283 P, o284 P, o285 P, o286 P, o287 P, o288 P, o289 P, o290 P, o291 P, o292 P, o293 P, o294 P, o295 P, o296 P, o297 P, o298 P, o299 P, o300 P, o301 P] }
noncomputable def K (P : Params) : Frag := [(0, boot_o_0 P), (1, boot_o_1 P), (2, o2 P), (3, o3 P), (4, boot_o_4 P), (5, boot_o_5 P), (6, boot_o_6 P), (7, boot_o_7 P), (8, boot_o_8 P), (9, boot_o_9 P), (10, boot_o_10 P), (11, o11 P), (12, o12 P), (13, o13 P), (14, o14 P), (15, o15 P), (16, o16 P), (17, o17 P), (18, o18 P), (19, o19 P), (20, o20 P), (21, o21 P), (22, o22 P), (23, o23 P), (24, o24 P), (25, o25 P), (26, o26 P), (27, o27 P), (28, o28 P), (29, o29 P), (30, o30 P), (31, o31 P), (32, o32 P), (33, o33 P), (34, o34 P), (35, o35 P), (36, o36 P), (37, o37 P), (38, o38 P), (39, o39 P), (40, o40 P), (41, o41 P), (42, o42 P), (43, o43 P), (44, o44 P), (45, o45 P), (46, o46 P), (47, o47 P), (48, o48 P), (49, o49 P), (50, o50 P), (51, o51 P), (52, o52 P), (53, o53 P), (54, o54 P), (55, o55 P), (56, o56 P), (57, o57 P), (58, o58 P), (59, o59 P), (60, o60 P), (61, o61 P), (62, o62 P), (63, o63 P), (64, o64 P), (65, o65 P), (66, o66 P), (67, o67 P), (68, o68 P), (69, o69 P), (70, o70 P), (71, o71 P), (72, o72 P), (73, o73 P), (74, o74 P), (75, o75 P), (76, o76 P), (77, o77 P), (78, o78 P), (79, o79 P), (80, o80 P), (81, o81 P), (82, o82 P), (83, o83 P), (84, o84 P), (85, o85 P), (86, o86 P), (87, o87 P), (88, o88 P), (89, o89 P), (90, o90 P), (91, o91 P), (92, o92 P), (93, o93 P), (94, o94 P), (95, o95 P), (96, o96 P), (97, o97 P), (98, o98 P), (99, o99 P), (100, o100 P), (101, o101 P), (102, o102 P), (103, o103 P), (104, o104 P), (105, o105 P), (106, o106 P), (107, o107 P), (108, o108 P), (109, o109 P), (110, o110 P), (111, o111 P), (112, o112 P), (113, o113 P), (114, o114 P), (115, o115 P), (116, o116 P), (117, o117 P), (118, o118 P), (119, o119 P), (120, o120 P), (121, o121 P), (122, o122 P), (123, o123 P), (124, o124 P), (125, o125 P), (126, o126 P), (127, o127 P), (128, o128 P), (129, o129 P), (130, o130 P), (131, o131 P), (132, o132 P), (133, o133 P), (134, o134 P), (135, o135 P), (136, o136 P), (137, o137 P), (138, o138 P), (139, o139 P), (140, o140 P), (141, o141 P), (142, o142 P), (143, o143 P), (144, o144 P), (145, o145 P), (146, o146 P), (147, o147 P), (148, o148 P), (149, o149 P), (150, o150 P), (151, o151 P), (152, o152 P), (153, o153 P), (154, o154 P), (155, o155 P), (156, o156 P), (157, o157 P), (158, o158 P), (159, o159 P), (160, o160 P), (161, o161 P), (162, o162 P), (163, o163 P), (164, o164 P), (165, o165 P), (166, o166 P), (167, o167 P), (168, o168 P), (169, o169 P), (170, o170 P), (171, o171 P), (172, o172 P), (173, o173 P), (174, o174 P), (175, o175 P), (176, o176 P), (177, o177 P), (178, o178 P), (179, o179 P), (180, o180 P), (181, o181 P), (182, o182 P), (183, o183 P), (184, o184 P), (185, o185 P), (186, o186 P), (187, o187 P), (188, o188 P), (189, o189 P), (190, o190 P), (191, o191 P), (192, o192 P), (193, o193 P), (194, o194 P), (195, o195 P), (196, o196 P), (197, o197 P), (198, o198 P), (199, o199 P), (200, o200 P), (201, o201 P), (202, o202 P), (203, o203 P), (204, o204 P), (205, o205 P), (206, o206 P), (207, o207 P), (208, o208 P), (209, o209 P), (210, o210 P), (211, o211 P), (212, o212 P), (213, o213 P), (214, o214 P), (215, o215 P), (216, o216 P), (217, o217 P), (218, o218 P), (219, o219 P), (220, o220 P), (221, o221 P), (222, o222 P), (223, o223 P), (224, o224 P), (225, o225 P), (226, o226 P), (227, o227 P), (228, o228 P), (229, o229 P), (230, o230 P), (231, o231 P), (232, o232 P), (233, o233 P), (234, o234 P), (235, o235 P), (236, o236 P), (237, o237 P), (238, o238 P), (239, o239 P), (240, o240 P), (241, o241 P), (242, o242 P), (243, o243 P), (244, o244 P), (245, o245 P), (246, o246 P), (247, o247 P), (248, o248 P), (249, o249 P), (250, o250 P), (251, o251 P), (252, o252 P), (253, o253 P), (254, o254 P), (255, o255 P), (256, o256 P), (257, o257 P), (258, o258 P), (259, o259 P), (260, o260 P), (261, o261 P), (262, o262 P), (263, o263 P), (264, o264 P), (265, o265 P), (266, o266 P), (267, o267 P), (268, o268 P), (269, o269 P), (270, o270 P), (271, o271 P), (272, o272 P), (273, o273 P), (274, o274 P), (275, o275 P), (276, o276 P), (277, o277 P), (278, o278 P), (279, o279 P), (280, o280 P), (281, o281 P), (282, o282 P), (283, o283 P), (284, o284 P), (285, o285 P), (286, o286 P), (287, o287 P), (288, o288 P), (289, o289 P), (290, o290 P), (291, o291 P), (292, o292 P), (293, o293 P), (294, o294 P), (295, o295 P), (296, o296 P), (297, o297 P), (298, o298 P), (299, o299 P), (300, o300 P), (301, o301 P)]
end Mine
end

section
set_option maxRecDepth 100000
set_option maxHeartbeats 0
namespace Mine
noncomputable section
noncomputable def life0 : Life := Life.mk [] [] [] 0 [] [] false #[] [] 0 false false false 0 [2000, 10, 10] false 0 true [] [] 0 false
noncomputable def env0 : Env := { scope := pw.main.scope, locals := mainNs, globals := mainNs, cells := [], code := .ref 13, frame := some 14 }
noncomputable abbrev code0 : Code := .body (behindTheImports pw) env0
noncomputable abbrev pos0 : Pos := ⟨0, 0, 0, 0⟩
noncomputable abbrev pos1 : Pos := ⟨243, 0, 276, 33⟩
noncomputable abbrev st0 (w : World) (os : OsState) : Shared := ⟨heap0 w.params, #[], ⟨0, 0, 0, 0⟩, 187, os⟩
noncomputable abbrev st1 (w : World) (os : OsState) : Shared := ⟨heap1 w.params, #[], ⟨0, 0, 0, 0⟩, 603, os⟩
noncomputable abbrev sT0 (w : World) (os : OsState) : SharedT := ⟨tree0 w.params, 15, life0, #[], ⟨0, 0, 0, 0⟩, 187, os⟩
noncomputable abbrev sT1 (w : World) (os : OsState) : SharedT := ⟨tree1 w.params, 302, life0, #[], ⟨0, 0, 0, 0⟩, 603, os⟩
noncomputable abbrev ann0 : Option Value := some (.ref 6)
theorem pre_ (w : World) (os : OsState) : topGo treeTable pw w 11 ann0 12 ⟨boot_heap w.params, #[], boot_drawn, boot_toks, os⟩ (topStub pw) = some (st0 w os, ⟨denote treeTable code0, code0, pos0, [topFrame pos0]⟩) := by
  rw [PySem.W.Fast.te15667345088766844465, PySem.W.Fast.te11892475500146522536, PySem.W.Fast.te14364793385576792824]
  kernel_rfl
theorem block_ (w : World) (os : OsState) : segRun treeTable pw w 11 ann0 1 1 (st0 w os) (blockOf (behindTheImports pw) env0 code0 pos0 [topFrame pos0]) = some (.next, (sT0 w os).abs, code0, pos0) := by
  rw [PySem.W.Fast.te14374325043358763698, PySem.W.Fast.te14364793385576792824]
  kernel_rfl
theorem body_ (w : World) (os : OsState) : segRunT treeTable pw w 11 ann0 1 3000 (sT0 w os) (piecesOf (behindTheImports pw) env0 code0 pos0 [topFrame pos0]) = some (.next, sT1 w os, code0, pos1) := by
  rw [PySem.W.Fast.te10110043849684766642, PySem.W.Fast.te14364793385576792824]
  kernel_rfl
theorem fin_ (w : World) (os : OsState) : topRun treeTable pw w 11 ann0 2 (sT1 w os).abs ⟨doneF .next, code0, pos1, [topFrame pos0]⟩ = some (st1 w os) := by
  rw [PySem.W.Fast.te14082659384304107361, PySem.W.Fast.te14364793385576792824]
  kernel_rfl
theorem run_ (w : World) (os : OsState) : topRun treeTable pw w 11 ann0 (12 + (1 + (3000 + 2))) ⟨boot_heap w.params, #[], boot_drawn, boot_toks, os⟩ (topStub pw) = some (st1 w os) := by
  refine go_top (pre_ w os) (piece_block (block_ w os) ?_)
  have := piece_app (rest := []) (segRun_of (body_ w os)) (piece_nil (fin_ w os))
  rwa [List.append_nil] at this
theorem size_ (w : World) : ((boot_heap w.params).isNs mainGlobals && (#[] : Array GenState).size == 0, (boot_heap w.params).objs.size, (boot_heap w.params).nsMap mainGlobals "__annotations__") = (true, 11, ann0) := by
  rw [PySem.W.Fast.te8920871248978507458]
  kernel_rfl
theorem open_ (w : World) : (fencedOpening treeTable pw w 5000).map (fun s => (s.heap, s.gens, s.drawn, s.toks)) = some (boot_heap w.params, #[], boot_drawn, boot_toks) :=
  boot_open (p := pw) (N := 5000) (by kernel_rfl) (by decide) (fun s => by kernel_rfl) w
end
end Mine
end

section
set_option maxRecDepth 100000
set_option maxHeartbeats 0
namespace Mine
noncomputable section
/-- the text's defs and classes -/
noncomputable def q : Program := view pw [0, 2, 3, 4, 6, 7, 8, 10, 11, 13, 14, 15, 16, 17, 18, 19, 20, 21, 22]
noncomputable def as : List Addr := (List.range 302)
noncomputable abbrev Xt (s : Shared) : Bool := xlAt q [] s && recOk (RowW.records PySem.Challenge.rw_pc0019_01.row.toRowW) s
noncomputable abbrev s1 (w : World) (os : OsState) : Shared := st1 w os
theorem look1 (w : World) (os : OsState) : (staticsOk (importedModules pw.main.body) (boot_heap w.params) (heap1 w.params) && namesBound pw (heap1 w.params) && gensDone (st1 w os) && laidKept (boot_heap w.params) (heap1 w.params)) = true := by
  rw [PySem.W.Fast.te5923862056798008813]
  kernel_rfl
theorem look2 (w : World) (os : OsState) : openSeen q [] (importedModules pw.main.body) Xt true (st1 w os) = openGood q [] := by
  rw [PySem.W.Fast.te4187177175401517315]
  kernel_rfl
theorem look3 (w : World) (os : OsState) : X.obsZ as (st1 w os) = X.valZ K 302 603 w := by
  kernel_rfl
end
end Mine
end

section
set_option maxRecDepth 100000
set_option maxHeartbeats 0
namespace Mine
noncomputable section
theorem left : LeftO pw q [] Xt (X.obsZ as) (X.valZ K 302 603) 5000 :=
  LeftO.of_pieces (H₁ := heap1) open_ size_ run_ (by decide) (fun w => funext fun os => by rw [look1, look2, look3])
theorem said : OpenLaw.wellSaid PySem.Challenge.rw_pc0019_01 = true := by
  rw [PySem.W.Fast.te9446332074065402090]
  kernel_rfl
noncomputable def fP (s : Stmt) : Pos := match s with | .FunctionDef _ _ _ _ _ _ _ _ _ p => p | _ => default
noncomputable def theD : DefRec := ⟨"law", fA (stAt 22), fB (stAt 22), fS (stAt 22), fP (stAt 22)⟩
theorem theD_eq : defOf q PySem.Challenge.rw_pc0019_01.row.name = some (theD, []) := by kernel_rfl
theorem holds_of (walk : WalkX q [] (XL q []) (X.obsZ as) (X.valZ K 302 603) PySem.Challenge.rw_pc0019_01.row.toRowW theD [] (fun f vs => PySem.call f vs)) : PySem.Challenge.rw_pc0019_01.Holds := by
  w_on
  refine holds_law said fun said => ?_
  refine holds_openX (q := q) (loose := []) (Xt := Xt) (XP := XL q []) (Yf := X.obsZ as) (Ya := X.valZ K 302 603) (N := 5000) left (fun s e => xl_of s (Bool.and_eq_true_iff.mp e).1) XL.keeps theD_eq (by kernel_rfl) (by kernel_rfl) (fun s e => recFacts_of (Bool.and_eq_true_iff.mp e).2) (by rfl) said (by kernel_rfl) ⟨by kernel_rfl, by kernel_rfl, by kernel_rfl, by kernel_rfl, by kernel_rfl, by decide +kernel⟩ ?hw walk
  case hw => w_witness2
end
end Mine
end

section
set_option maxRecDepth 100000
namespace Mine
noncomputable section
noncomputable abbrev CX (w : World) (mean : ExcName → Option Value) (mg mb : Str → Option Value) : Cx := { prog := pw, w := w, K := K w.params, p := q, loose := looseW q [], mean := mean, mg := mg, mb := mb }
theorem len0 {α : Type} {P : List α → Prop} (g : P []) : ∀ rs : List α, rs.length = 0 → P rs
  | [], _ => g
theorem lenS {α : Type} {k : Nat} {P : List α → Prop} (g : ∀ a rs, rs.length = k → P (a :: rs)) : ∀ rs : List α, rs.length = k + 1 → P rs
  | a :: rs, h => g a rs (Nat.succ.inj h)
variable {P : Params}
noncomputable def f_fault : FrS := { qual := "SwiftFault.__init__", scope := fS (meSwiftFault 0), f := 35, cdv := .ref 34, cells := [], q := true }
theorem d_fault : DefAt (K P) 35 (fA (meSwiftFault 0)) (fB (meSwiftFault 0)) f_fault ["self", "word"] :=
  ⟨⟨.type "function", none, "__init__", .none, .none, .none, (.str "countyard.errors" 194), none, .none, #[], by kernel_rfl, (lenS fun self_ => (lenS fun word_ => (len0 (by kernel_rfl))))⟩, rfl, rfl, rfl, by kernel_rfl, by decide +kernel, by kernel_rfl, by kernel_rfl, by kernel_rfl, by decide +kernel, rfl⟩
noncomputable def f_counted : FrS := { qual := "counted_in", scope := fS (stAt 8), f := 80, cdv := .ref 79, cells := [], q := true }
theorem d_counted : DefAt (K P) 80 (fA (stAt 8)) (fB (stAt 8)) f_counted ["value"] :=
  ⟨⟨.type "function", none, "counted_in", .none, .none, .none, (.str "countyard.values" 257), none, .none, #[], by kernel_rfl, (lenS fun value_ => (len0 (by kernel_rfl)))⟩, rfl, rfl, rfl, by kernel_rfl, by decide +kernel, by kernel_rfl, by kernel_rfl, by kernel_rfl, by decide +kernel, rfl⟩
noncomputable def f_thingI : FrS := { qual := "Thing.__init__", scope := fS (meThing 0), f := 94, cdv := .ref 93, cells := [], q := true }
theorem d_thingI : DefAt (K P) 94 (fA (meThing 0)) (fB (meThing 0)) f_thingI ["self", "kind", "name", "fields"] :=
  ⟨⟨.type "function", none, "__init__", .none, .none, .none, (.str "countyard.heap" 281), none, .none, #[], by kernel_rfl, (lenS fun self_ => (lenS fun kind_ => (lenS fun name_ => (lenS fun fields_ => (len0 (by kernel_rfl))))))⟩, rfl, rfl, rfl, by kernel_rfl, by decide +kernel, by kernel_rfl, by kernel_rfl, by kernel_rfl, by decide +kernel, rfl⟩
noncomputable def f_heapI : FrS := { qual := "Heap.__init__", scope := fS (meHeap 0), f := 115, cdv := .ref 114, cells := [], q := true }
theorem d_heapI : DefAt (K P) 115 (fA (meHeap 0)) (fB (meHeap 0)) f_heapI ["self"] :=
  ⟨⟨.type "function", none, "__init__", .none, .none, .none, (.str "countyard.heap" 281), none, .none, #[], by kernel_rfl, (lenS fun self_ => (len0 (by kernel_rfl)))⟩, rfl, rfl, rfl, by kernel_rfl, by decide +kernel, by kernel_rfl, by kernel_rfl, by kernel_rfl, by decide +kernel, rfl⟩
noncomputable def f_h_made : FrS := { qual := "Heap.made", scope := fS (meHeap 1), f := 122, cdv := .ref 121, cells := [], q := true }
theorem d_h_made : DefAt (K P) 122 (fA (meHeap 1)) (fB (meHeap 1)) f_h_made ["self", "kind", "name", "fields"] :=
  ⟨⟨.type "function", none, "made", .none, .none, .none, (.str "countyard.heap" 281), none, .none, #[], by kernel_rfl, (lenS fun self_ => (lenS fun kind_ => (lenS fun name_ => (lenS fun fields_ => (len0 (by kernel_rfl))))))⟩, rfl, rfl, rfl, by kernel_rfl, by decide +kernel, by kernel_rfl, by kernel_rfl, by kernel_rfl, by decide +kernel, rfl⟩
noncomputable def f_h_thing : FrS := { qual := "Heap.thing", scope := fS (meHeap 2), f := 129, cdv := .ref 128, cells := [], q := true }
theorem d_h_thing : DefAt (K P) 129 (fA (meHeap 2)) (fB (meHeap 2)) f_h_thing ["self", "number"] :=
  ⟨⟨.type "function", none, "thing", .none, .none, .none, (.str "countyard.heap" 281), none, .none, #[], by kernel_rfl, (lenS fun self_ => (lenS fun number_ => (len0 (by kernel_rfl))))⟩, rfl, rfl, rfl, by kernel_rfl, by decide +kernel, by kernel_rfl, by kernel_rfl, by kernel_rfl, by decide +kernel, rfl⟩
noncomputable def f_h_retain : FrS := { qual := "Heap.retain", scope := fS (meHeap 3), f := 136, cdv := .ref 135, cells := [], q := true }
theorem d_h_retain : DefAt (K P) 136 (fA (meHeap 3)) (fB (meHeap 3)) f_h_retain ["self", "number"] :=
  ⟨⟨.type "function", none, "retain", .none, .none, .none, (.str "countyard.heap" 281), none, .none, #[], by kernel_rfl, (lenS fun self_ => (lenS fun number_ => (len0 (by kernel_rfl))))⟩, rfl, rfl, rfl, by kernel_rfl, by decide +kernel, by kernel_rfl, by kernel_rfl, by kernel_rfl, by decide +kernel, rfl⟩
noncomputable def f_h_release : FrS := { qual := "Heap.release", scope := fS (meHeap 4), f := 143, cdv := .ref 142, cells := [], q := true }
theorem d_h_release : DefAt (K P) 143 (fA (meHeap 4)) (fB (meHeap 4)) f_h_release ["self", "number"] :=
  ⟨⟨.type "function", none, "release", .none, .none, .none, (.str "countyard.heap" 281), none, .none, #[], by kernel_rfl, (lenS fun self_ => (lenS fun number_ => (len0 (by kernel_rfl))))⟩, rfl, rfl, rfl, by kernel_rfl, by decide +kernel, by kernel_rfl, by kernel_rfl, by kernel_rfl, by decide +kernel, rfl⟩
noncomputable def f_h_drop : FrS := { qual := "Heap.drop", scope := fS (meHeap 5), f := 150, cdv := .ref 149, cells := [], q := true }
theorem d_h_drop : DefAt (K P) 150 (fA (meHeap 5)) (fB (meHeap 5)) f_h_drop ["self", "counts"] :=
  ⟨⟨.type "function", none, "drop", .none, .none, .none, (.str "countyard.heap" 281), none, .none, #[], by kernel_rfl, (lenS fun self_ => (lenS fun counts_ => (len0 (by kernel_rfl))))⟩, rfl, rfl, rfl, by kernel_rfl, by decide +kernel, by kernel_rfl, by kernel_rfl, by kernel_rfl, by decide +kernel, rfl⟩
noncomputable def f_h_dropped : FrS := { qual := "Heap.dropped", scope := fS (meHeap 6), f := 157, cdv := .ref 156, cells := [], q := true }
theorem d_h_dropped : DefAt (K P) 157 (fA (meHeap 6)) (fB (meHeap 6)) f_h_dropped ["self", "number"] :=
  ⟨⟨.type "function", none, "dropped", .none, .none, .none, (.str "countyard.heap" 281), none, .none, #[], by kernel_rfl, (lenS fun self_ => (lenS fun number_ => (len0 (by kernel_rfl))))⟩, rfl, rfl, rfl, by kernel_rfl, by decide +kernel, by kernel_rfl, by kernel_rfl, by kernel_rfl, by decide +kernel, rfl⟩
noncomputable def f_h_lost : FrS := { qual := "Heap.lost", scope := fS (meHeap 7), f := 164, cdv := .ref 163, cells := [], q := true }
theorem d_h_lost : DefAt (K P) 164 (fA (meHeap 7)) (fB (meHeap 7)) f_h_lost ["self", "kind", "number"] :=
  ⟨⟨.type "function", none, "lost", .none, .none, .none, (.str "countyard.heap" 281), none, .none, #[], by kernel_rfl, (lenS fun self_ => (lenS fun kind_ => (lenS fun number_ => (len0 (by kernel_rfl)))))⟩, rfl, rfl, rfl, by kernel_rfl, by decide +kernel, by kernel_rfl, by kernel_rfl, by kernel_rfl, by decide +kernel, rfl⟩
noncomputable def f_h_buried : FrS := { qual := "Heap.buried", scope := fS (meHeap 8), f := 171, cdv := .ref 170, cells := [], q := true }
theorem d_h_buried : DefAt (K P) 171 (fA (meHeap 8)) (fB (meHeap 8)) f_h_buried ["self", "number"] :=
  ⟨⟨.type "function", none, "buried", .none, .none, .none, (.str "countyard.heap" 281), none, .none, #[], by kernel_rfl, (lenS fun self_ => (lenS fun number_ => (len0 (by kernel_rfl))))⟩, rfl, rfl, rfl, by kernel_rfl, by decide +kernel, by kernel_rfl, by kernel_rfl, by kernel_rfl, by decide +kernel, rfl⟩
noncomputable def f_h_copied : FrS := { qual := "Heap.copied", scope := fS (meHeap 9), f := 178, cdv := .ref 177, cells := [], q := true }
theorem d_h_copied : DefAt (K P) 178 (fA (meHeap 9)) (fB (meHeap 9)) f_h_copied ["self", "value"] :=
  ⟨⟨.type "function", none, "copied", .none, .none, .none, (.str "countyard.heap" 281), none, .none, #[], by kernel_rfl, (lenS fun self_ => (lenS fun value_ => (len0 (by kernel_rfl))))⟩, rfl, rfl, rfl, by kernel_rfl, by decide +kernel, by kernel_rfl, by kernel_rfl, by kernel_rfl, by decide +kernel, rfl⟩
noncomputable def f_h_destroyed : FrS := { qual := "Heap.destroyed", scope := fS (meHeap 10), f := 185, cdv := .ref 184, cells := [], q := true }
theorem d_h_destroyed : DefAt (K P) 185 (fA (meHeap 10)) (fB (meHeap 10)) f_h_destroyed ["self", "value"] :=
  ⟨⟨.type "function", none, "destroyed", .none, .none, .none, (.str "countyard.heap" 281), none, .none, #[], by kernel_rfl, (lenS fun self_ => (lenS fun value_ => (len0 (by kernel_rfl))))⟩, rfl, rfl, rfl, by kernel_rfl, by decide +kernel, by kernel_rfl, by kernel_rfl, by kernel_rfl, by decide +kernel, rfl⟩
noncomputable def f_h_weak_to : FrS := { qual := "Heap.weak_to", scope := fS (meHeap 11), f := 192, cdv := .ref 191, cells := [], q := true }
theorem d_h_weak_to : DefAt (K P) 192 (fA (meHeap 11)) (fB (meHeap 11)) f_h_weak_to ["self", "number"] :=
  ⟨⟨.type "function", none, "weak_to", .none, .none, .none, (.str "countyard.heap" 281), none, .none, #[], by kernel_rfl, (lenS fun self_ => (lenS fun number_ => (len0 (by kernel_rfl))))⟩, rfl, rfl, rfl, by kernel_rfl, by decide +kernel, by kernel_rfl, by kernel_rfl, by kernel_rfl, by decide +kernel, rfl⟩
noncomputable def f_h_weak_read : FrS := { qual := "Heap.weak_read", scope := fS (meHeap 12), f := 199, cdv := .ref 198, cells := [], q := true }
theorem d_h_weak_read : DefAt (K P) 199 (fA (meHeap 12)) (fB (meHeap 12)) f_h_weak_read ["self", "value"] :=
  ⟨⟨.type "function", none, "weak_read", .none, .none, .none, (.str "countyard.heap" 281), none, .none, #[], by kernel_rfl, (lenS fun self_ => (lenS fun value_ => (len0 (by kernel_rfl))))⟩, rfl, rfl, rfl, by kernel_rfl, by decide +kernel, by kernel_rfl, by kernel_rfl, by kernel_rfl, by decide +kernel, rfl⟩
noncomputable def f_h_unowned_to : FrS := { qual := "Heap.unowned_to", scope := fS (meHeap 13), f := 206, cdv := .ref 205, cells := [], q := true }
theorem d_h_unowned_to : DefAt (K P) 206 (fA (meHeap 13)) (fB (meHeap 13)) f_h_unowned_to ["self", "number"] :=
  ⟨⟨.type "function", none, "unowned_to", .none, .none, .none, (.str "countyard.heap" 281), none, .none, #[], by kernel_rfl, (lenS fun self_ => (lenS fun number_ => (len0 (by kernel_rfl))))⟩, rfl, rfl, rfl, by kernel_rfl, by decide +kernel, by kernel_rfl, by kernel_rfl, by kernel_rfl, by decide +kernel, rfl⟩
noncomputable def f_h_unowned_read : FrS := { qual := "Heap.unowned_read", scope := fS (meHeap 14), f := 213, cdv := .ref 212, cells := [], q := true }
theorem d_h_unowned_read : DefAt (K P) 213 (fA (meHeap 14)) (fB (meHeap 14)) f_h_unowned_read ["self", "value"] :=
  ⟨⟨.type "function", none, "unowned_read", .none, .none, .none, (.str "countyard.heap" 281), none, .none, #[], by kernel_rfl, (lenS fun self_ => (lenS fun value_ => (len0 (by kernel_rfl))))⟩, rfl, rfl, rfl, by kernel_rfl, by decide +kernel, by kernel_rfl, by kernel_rfl, by kernel_rfl, by decide +kernel, rfl⟩
noncomputable def f_h_live : FrS := { qual := "Heap.live", scope := fS (meHeap 17), f := 234, cdv := .ref 233, cells := [], q := true }
theorem d_h_live : DefAt (K P) 234 (fA (meHeap 17)) (fB (meHeap 17)) f_h_live ["self"] :=
  ⟨⟨.type "function", none, "live", .none, .none, .none, (.str "countyard.heap" 281), none, .none, #[], by kernel_rfl, (lenS fun self_ => (len0 (by kernel_rfl)))⟩, rfl, rfl, rfl, by kernel_rfl, by decide +kernel, by kernel_rfl, by kernel_rfl, by kernel_rfl, by decide +kernel, rfl⟩
noncomputable def f_next : FrS := { qual := "_law_next", scope := fS (stAt 14), f := 249, cdv := .ref 248, cells := [], q := true }
theorem d_next : DefAt (K P) 249 (fA (stAt 14)) (fB (stAt 14)) f_next ["hand", "bound"] :=
  ⟨⟨.type "function", none, "_law_next", .none, .none, .none, (.str "law_pc0019_01" 504), none, .none, #[], by kernel_rfl, (lenS fun hand_ => (lenS fun bound_ => (len0 (by kernel_rfl))))⟩, rfl, rfl, rfl, by kernel_rfl, by decide +kernel, by kernel_rfl, by kernel_rfl, by kernel_rfl, by decide +kernel, rfl⟩
noncomputable def f_link : FrS := { qual := "_law_link", scope := fS (stAt 15), f := 256, cdv := .ref 255, cells := [], q := true }
theorem d_link : DefAt (K P) 256 (fA (stAt 15)) (fB (stAt 15)) f_link ["book", "way", "goal"] :=
  ⟨⟨.type "function", none, "_law_link", .none, .none, .none, (.str "law_pc0019_01" 504), none, .none, #[], by kernel_rfl, (lenS fun book_ => (lenS fun way_ => (lenS fun goal_ => (len0 (by kernel_rfl)))))⟩, rfl, rfl, rfl, by kernel_rfl, by decide +kernel, by kernel_rfl, by kernel_rfl, by kernel_rfl, by decide +kernel, rfl⟩
noncomputable def f_lay : FrS := { qual := "_law_lay", scope := fS (stAt 16), f := 263, cdv := .ref 262, cells := [], q := true }
theorem d_lay : DefAt (K P) 263 (fA (stAt 16)) (fB (stAt 16)) f_lay ["heap", "book", "holder", "way", "goal"] :=
  ⟨⟨.type "function", none, "_law_lay", .none, .none, .none, (.str "law_pc0019_01" 504), none, .none, #[], by kernel_rfl, (lenS fun heap_ => (lenS fun book_ => (lenS fun holder_ => (lenS fun way_ => (lenS fun goal_ => (len0 (by kernel_rfl)))))))⟩, rfl, rfl, rfl, by kernel_rfl, by decide +kernel, by kernel_rfl, by kernel_rfl, by kernel_rfl, by decide +kernel, rfl⟩
noncomputable def f_letgo : FrS := { qual := "_law_let_go", scope := fS (stAt 17), f := 270, cdv := .ref 269, cells := [], q := true }
theorem d_letgo : DefAt (K P) 270 (fA (stAt 17)) (fB (stAt 17)) f_letgo ["book", "holder", "way", "goal"] :=
  ⟨⟨.type "function", none, "_law_let_go", .none, .none, .none, (.str "law_pc0019_01" 504), none, .none, #[], by kernel_rfl, (lenS fun book_ => (lenS fun holder_ => (lenS fun way_ => (lenS fun goal_ => (len0 (by kernel_rfl))))))⟩, rfl, rfl, rfl, by kernel_rfl, by decide +kernel, by kernel_rfl, by kernel_rfl, by kernel_rfl, by decide +kernel, rfl⟩
noncomputable def f_taken : FrS := { qual := "_law_taken_down", scope := fS (stAt 19), f := 282, cdv := .ref 281, cells := [], q := true }
theorem d_taken : DefAt (K P) 282 (fA (stAt 19)) (fB (stAt 19)) f_taken ["heap", "book"] :=
  ⟨⟨.type "function", none, "_law_taken_down", .none, .none, .none, (.str "law_pc0019_01" 504), none, .none, #[], by kernel_rfl, (lenS fun heap_ => (lenS fun book_ => (len0 (by kernel_rfl))))⟩, rfl, rfl, rfl, by kernel_rfl, by decide +kernel, by kernel_rfl, by kernel_rfl, by kernel_rfl, by decide +kernel, rfl⟩
noncomputable def f_read : FrS := { qual := "_law_read", scope := fS (stAt 20), f := 289, cdv := .ref 288, cells := [], q := true }
theorem d_read : DefAt (K P) 289 (fA (stAt 20)) (fB (stAt 20)) f_read ["hand", "heap", "book", "many"] :=
  ⟨⟨.type "function", none, "_law_read", .none, .none, .none, (.str "law_pc0019_01" 504), none, .none, #[], by kernel_rfl, (lenS fun hand_ => (lenS fun heap_ => (lenS fun book_ => (lenS fun many_ => (len0 (by kernel_rfl))))))⟩, rfl, rfl, rfl, by kernel_rfl, by decide +kernel, by kernel_rfl, by kernel_rfl, by kernel_rfl, by decide +kernel, rfl⟩
noncomputable def f_refused : FrS := { qual := "_law_refused", scope := fS (stAt 21), f := 296, cdv := .ref 295, cells := [], q := true }
theorem d_refused : DefAt (K P) 296 (fA (stAt 21)) (fB (stAt 21)) f_refused ["act", "goal"] :=
  ⟨⟨.type "function", none, "_law_refused", .none, .none, .none, (.str "law_pc0019_01" 504), none, .none, #[], by kernel_rfl, (lenS fun act_ => (lenS fun goal_ => (len0 (by kernel_rfl))))⟩, rfl, rfl, rfl, by kernel_rfl, by decide +kernel, by kernel_rfl, by kernel_rfl, by kernel_rfl, by decide +kernel, rfl⟩
end
end Mine
end

section
namespace Mine
section
variable {c : Cx} {n : Nat} {fr : FrS} {ω : Wd} {H H₁ H₂ H₃ : Hp} {l l₁ l₂ l₃ : Loc} {x : Fx} {m : Str → Option Value} {s : Shared}
theorem ev_neg {i : Int} {k₀ : Nat} {pos pos' : Pos} : Ev c n fr (.UnaryOp .USub (.Constant (.int i) k₀ pos) pos') H l (.int (-i)) H :=
  fun x ω => At.now fun m s Q E k ret => UnaryOp_ (wpAny_Constant_int (neg_int (ret _ _ RV.iI)))
theorem ev_cmp {e₁ e₂ : Expr} {op : CmpOp} {pos : Pos} {a b : V} {r : Bool} (h₁ : Ev c n fr e₁ H l a H₁) (h₂ : Ev c n fr e₂ H₁ l b H₂) (ho : Cmp c n fr op a b H₂ l r) (hm : behindInMarks op e₂ = false := by rfl) :
    Ev c n fr (.Compare e₁ [op] [e₂] pos) H l (.bool r) H₂ := by
  intro x ω m s Q E k ret
  refine wpAny_Compare1 (h₁ x ω m s _ _ k fun ra ω₁ m₁ h tk k₁ x₁ r₁ => h₂ x ω₁ m₁ _ _ _ k₁ fun rb ω₂ m₂ h' tk' k₂ x₂ r₂ => ho x ω₂ ra rb (r₁.mono x₂) r₂ m₂ _ _ _ k₂ fun rv ω₃ m₃ h'' tk'' k₃ x₃ r₃ => ?_) hm
  subst r₃
  exact ret _ ω₃ m₃ h'' tk'' k₃ ((x₁.trans x₂).trans x₃) RV.bool
theorem ev_not {e : Expr} {pos : Pos} {v : V} {b : Bool} (h : Ev c n fr e H l v H₁) (ht : Tr c n fr v H₁ l b) : Ev c n fr (.UnaryOp .Not e pos) H l (.bool (!b)) H₁ := by
  intro x ω m s Q E k ret
  refine UnaryOp_ (h x ω m s _ _ k fun r ω₁ m₁ h' tk k₁ x₁ r₁ => not_of (ht x ω₁ r r₁ m₁ _ _ _ k₁ fun z ω₂ m₂ h'' tk' k₂ x₂ r₂ => ?_))
  subst r₂
  exact ret _ ω₂ m₂ h'' tk' k₂ (x₁.trans x₂) RV.bool
theorem ev_and_t {e₁ e₂ : Expr} {es : List Expr} {pos : Pos} {v u : V} (h : Ev c n fr e₁ H l v H₁) (ht : Tr c n fr v H₁ l true) (hr : Ev c n fr (.BoolOp .And (e₂ :: es) pos) H₁ l u H₂) : Ev c n fr (.BoolOp .And (e₁ :: e₂ :: es) pos) H l u H₂ := by
  intro x ω m s Q E k ret
  refine BoolOp_and (h x ω m s _ _ k fun r ω₁ m₁ h' tk k₁ x₁ r₁ => ht x ω₁ r r₁ m₁ _ _ _ k₁ fun z ω₂ m₂ h'' tk' k₂ x₂ r₂ => ?_)
  subst r₂
  exact hr x ω₂ m₂ _ _ _ k₂ fun r ω₃ m₃ h₃ tk₃ k₃ x₃ r₃ => ret _ ω₃ m₃ h₃ tk₃ k₃ ((x₁.trans x₂).trans x₃) r₃
theorem ev_and_1 {e : Expr} {pos : Pos} {v : V} (h : Ev c n fr e H l v H₁) : Ev c n fr (.BoolOp .And [e] pos) H l v H₁ :=
  fun x ω m s Q E k ret => BoolOp_one (h x ω m s Q E k ret)
theorem te_is {e : Expr} {b b' : Bool} (h : Te c n fr e H l b H₁) (q : b = b') : Te c n fr e H l b' H₁ := q ▸ h
theorem ev_is {e : Expr} {v v' : V} (h : Ev c n fr e H l v H₁) (q : v = v') : Ev c n fr e H l v' H₁ := q ▸ h
theorem get_nat {ns : List Nat} {k : Int} {j x : Nat} (hk : k = j) (h : ns[j]? = some x) : (ns.map fun i : Nat => V.int (i : Int))[k.toNat]? = some (.int x) := by
  subst hk; rw [Int.toNat_natCast, List.getElem?_map, h]; rfl
theorem ev_ift {t a b : Expr} {pos : Pos} {v : V} (h : Te c n fr t H l true H₁) (h₂ : Ev c n fr a H₁ l v H₂) : Ev c n fr (.IfExp t a b pos) H l v H₂ := ev_if h h₂
theorem ev_iff {t a b : Expr} {pos : Pos} {v : V} (h : Te c n fr t H l false H₁) (h₂ : Ev c n fr b H₁ l v H₂) : Ev c n fr (.IfExp t a b pos) H l v H₂ := ev_if h h₂
theorem name_id {y : Str} {pos : Pos} {v : V} (h : Ev c n fr (.Name y pos) H l v H₁) : Ev c n fr (.Name y pos) H l v H₁ := h
/-- locals -/
theorem loc_here {l : Loc} {y : Str} {v : V} : (l.set y v) y = some v := if_pos rfl
theorem loc_old {l : Loc} {y z : Str} {u v : V} (h : (z == y) = false) (g : l z = some u) : (l.set y v) z = some u := by
  show (if z = y then some v else l z) = some u
  rw [if_neg (by intro e; rw [e] at h; simp at h)]; exact g
theorem bind_here {y : Str} {v : V} {ys : List Str} {vs : List V} (h : ys.all (fun z => !(z == y)) = true) : bindV (y :: ys) (v :: vs) y = some v := by
  unfold bindV
  rw [List.zip_cons_cons, List.reverse_cons, List.lookup_append]
  have : ((ys.zip vs).reverse).lookup y = none := by
    rw [List.lookup_eq_none_iff]
    intro p hp
    have := List.of_mem_zip (a := p.1) (b := p.2) (List.mem_reverse.mp hp)
    have := List.all_eq_true.mp h _ this.1
    simp only [Bool.not_eq_true', beq_eq_false_iff_ne] at this
    cases e : (y == p.1) with
    | false => simpa using e
    | true => exact absurd (eq_of_beq e).symm this
  rw [this]
  simp
theorem bind_old {y z : Str} {u v : V} {ys : List Str} {vs : List V} (h : bindV ys vs z = some u) : bindV (y :: ys) (v :: vs) z = some u := by
  unfold bindV at h ⊢
  rw [List.zip_cons_cons, List.reverse_cons, List.lookup_append, h]
  rfl
end
section
theorem vget_here {κ : Type} [DecidableEq κ] {k : κ} {v : V} {es : List (κ × V)} : vget ((k, v) :: es) k = some v := if_pos rfl
theorem vget_old {κ : Type} [DecidableEq κ] {j k : κ} {u v : V} {es : List (κ × V)} (h : (j == k) = false) (g : vget es k = some v) : vget ((j, u) :: es) k = some v :=
  (if_neg (fun e => by rw [e] at h; simp at h)).trans g
theorem fget_here {k : Str} {v : V} {es : List (Str × V)} : fget ((k, v) :: es) k = some v := if_pos (beq_self_eq_true k)
theorem fget_old {j k : Str} {u v : V} {es : List (Str × V)} (h : (j == k) = false) (g : fget es k = some v) : fget ((j, u) :: es) k = some v := by
  show (if j == k then some u else fget es k) = some v
  rw [h]; exact g
end
/-! lookups in the law's world -/
namespace Rep
variable {α : Rl → Nat} {σ : St} {H : Hp}
theorem at_hp (R : Rep α σ H) : Inst H (α .hp) cHeap (α .hpd) [("things", .obj (α .things)), ("last", .int σ.nt), ("dying", .obj (α .hdy))] := ⟨R.o .hp trivial, R.o .hpd trivial⟩
theorem at_things (R : Rep α σ H) : H.o (α .things) = .idict (tab σ.nt fun i => .obj (α (.ti i))) := R.o .things trivial
theorem at_hdy (R : Rep α σ H) : H.o (α .hdy) = .list (σ.dy.map fun i : Nat => V.int (i : Int)) := R.o .hdy trivial
theorem at_ti (R : Rep α σ H) {i : Nat} (h1 : 1 ≤ i) (h2 : i ≤ σ.nt) : Inst H (α (.ti i)) cThing (α (.td i)) [("kind", .str (σ.kd i)), ("name", .str (nameOf i)), ("fields", .obj (σ.tfa i)), ("strong", .int (σ.sg i)), ("weak", .int (σ.wk i)), ("unowned", .int (σ.un i)), ("state", .str (σ.st i))] :=
  ⟨R.o (.ti i) ⟨h1, h2⟩, R.o (.td i) ⟨h1, h2⟩⟩
theorem at_tf (R : Rep α σ H) {i : Nat} (h1 : 1 ≤ i) (h2 : i ≤ σ.nt) : H.o (σ.tfa i) = .list ((σ.fl i).map (linkV σ.kd)) := R.o (.tf i) ⟨h1, h2⟩
theorem at_bk (R : Rep α σ H) : H.o (α .bk) = .sdict [("kinds", .obj (α .kinds)), ("rows", .obj (α .rows)), ("holders", .obj (α .holders)), ("weak", .obj (α .weak)), ("unowned", .obj (α .unow)), ("state", .obj (α .state)), ("dying", .obj (α .bdy))] := R.o .bk trivial
theorem at_kinds (R : Rep α σ H) : H.o (α .kinds) = .idict (tab σ.nk fun i => .str (σ.bk i)) := R.o .kinds trivial
theorem at_rows (R : Rep α σ H) : H.o (α .rows) = .idict (tab σ.nr fun i => .obj (σ.rla i)) := R.o .rows trivial
theorem at_holders (R : Rep α σ H) : H.o (α .holders) = .idict (tab σ.nh fun i => .obj (α (.hl i))) := R.o .holders trivial
theorem at_weak (R : Rep α σ H) : H.o (α .weak) = .idict (tab σ.nw fun i => .int (σ.bw i)) := R.o .weak trivial
theorem at_unow (R : Rep α σ H) : H.o (α .unow) = .idict (tab σ.nu fun i => .int (σ.bu i)) := R.o .unow trivial
theorem at_state (R : Rep α σ H) : H.o (α .state) = .idict (tab σ.ns fun i => .str (σ.bs i)) := R.o .state trivial
theorem at_bdy (R : Rep α σ H) : H.o (α .bdy) = .list (σ.bd.map fun i : Nat => V.int (i : Int)) := R.o .bdy trivial
theorem at_rl (R : Rep α σ H) {i : Nat} (h1 : 1 ≤ i) (h2 : i ≤ σ.nr) : H.o (σ.rla i) = .list ((σ.rw i).map rowV) := R.o (.rl i) ⟨h1, h2⟩
theorem at_hl (R : Rep α σ H) {i : Nat} (h1 : 1 ≤ i) (h2 : i ≤ σ.nh) : H.o (α (.hl i)) = .list (σ.hd i) := R.o (.hl i) ⟨h1, h2⟩
theorem at_hand (R : Rep α σ H) : H.o (α .hand) = .sdict [("cells", .obj (α .cells)), ("at", .int σ.at_)] := R.o .hand trivial
theorem at_cells (R : Rep α σ H) : H.o (α .cells) = .list (σ.cells.map fun i : Nat => V.int (i : Int)) := R.o .cells trivial
end Rep
/-! the text's names -/
section
variable {P : Params}
theorem g_next : nsIn (K P) mainGlobals "_law_next" = some (some (.ref 249)) := by kernel_rfl
theorem g_link : nsIn (K P) mainGlobals "_law_link" = some (some (.ref 256)) := by kernel_rfl
theorem g_lay : nsIn (K P) mainGlobals "_law_lay" = some (some (.ref 263)) := by kernel_rfl
theorem g_letgo : nsIn (K P) mainGlobals "_law_let_go" = some (some (.ref 270)) := by kernel_rfl
theorem g_isso : nsIn (K P) mainGlobals "_law_is_so" = some (some (.ref 275)) := by kernel_rfl
theorem g_taken : nsIn (K P) mainGlobals "_law_taken_down" = some (some (.ref 282)) := by kernel_rfl
theorem g_read : nsIn (K P) mainGlobals "_law_read" = some (some (.ref 289)) := by kernel_rfl
theorem g_refused : nsIn (K P) mainGlobals "_law_refused" = some (some (.ref 296)) := by kernel_rfl
theorem g_menu : nsIn (K P) mainGlobals "_law_menu" = some (some (.ref 242)) := by kernel_rfl
theorem g_counted : nsIn (K P) mainGlobals "counted_in" = some (some (.ref 80)) := by kernel_rfl
theorem g_COUNTED : nsIn (K P) mainGlobals "COUNTED" = some (some (.ref 66)) := by kernel_rfl
theorem g_FormFault : nsIn (K P) mainGlobals "FormFault" = some (some (.ref 51)) := by kernel_rfl
theorem g_Trap : nsIn (K P) mainGlobals "Trap" = some (some (.ref 63)) := by kernel_rfl
theorem g_len : nsIn (K P) mainGlobals "len" = some none := by kernel_rfl
theorem g_list : nsIn (K P) mainGlobals "list" = some none := by kernel_rfl
theorem g_str : nsIn (K P) mainGlobals "str" = some none := by kernel_rfl
theorem g_tuple : nsIn (K P) mainGlobals "tuple" = some none := by kernel_rfl
theorem g_range : nsIn (K P) mainGlobals "range" = some none := by kernel_rfl
theorem g_sorted : nsIn (K P) mainGlobals "sorted" = some none := by kernel_rfl
theorem g_isinst : nsIn (K P) mainGlobals "isinstance" = some none := by kernel_rfl
theorem g_all : nsIn (K P) mainGlobals "all" = some none := by kernel_rfl
theorem pl_Heap : Plain (K P) cHeap := ⟨by kernel_rfl, by kernel_rfl, by kernel_rfl⟩
theorem pl_Thing : Plain (K P) cThing := ⟨by kernel_rfl, by kernel_rfl, by kernel_rfl⟩
end
end Mine
end

section
namespace Mine
noncomputable abbrev St.w_sg (σ : St) (x : Nat → Int) : St := { σ with sg := x }
noncomputable abbrev St.w_wk (σ : St) (x : Nat → Int) : St := { σ with wk := x }
noncomputable abbrev St.w_un (σ : St) (x : Nat → Int) : St := { σ with un := x }
noncomputable abbrev St.w_st (σ : St) (x : Nat → Str) : St := { σ with st := x }
noncomputable abbrev St.w_fl (σ : St) (x : Nat → List Lk) : St := { σ with fl := x }
noncomputable abbrev St.w_rw (σ : St) (x : Nat → List Lk) : St := { σ with rw := x }
noncomputable abbrev St.w_hd (σ : St) (x : Nat → List V) : St := { σ with hd := x }
noncomputable abbrev St.w_bw (σ : St) (x : Nat → Int) : St := { σ with bw := x }
noncomputable abbrev St.w_bu (σ : St) (x : Nat → Int) : St := { σ with bu := x }
noncomputable abbrev St.w_bs (σ : St) (x : Nat → Str) : St := { σ with bs := x }
noncomputable abbrev St.w_dy (σ : St) (x : List Nat) : St := { σ with dy := x }
noncomputable abbrev St.w_bd (σ : St) (x : List Nat) : St := { σ with bd := x }
noncomputable abbrev St.w_at (σ : St) (x : Nat) : St := { σ with at_ := x }
noncomputable abbrev St.w_tfa (σ : St) (x : Nat → Nat) : St := { σ with tfa := x }
noncomputable abbrev St.w_rla (σ : St) (x : Nat → Nat) : St := { σ with rla := x }
noncomputable abbrev St.w_tmp (σ : St) (x : List (Nat × O)) : St := { σ with tmp := x }
theorem upd_map {α β : Type} (F : α → β) (f : Nat → α) (g : Nat) (v : α) : (fun i => F (upd f g v i)) = upd (fun i => F (f i)) g (F v) := by
  funext i; unfold upd; split <;> rfl
theorem upd_same {α : Type} (f : Nat → α) (g : Nat) : upd f g (f g) = f := by
  funext i; unfold upd; split
  · rename_i h; rw [h]
  · rfl
section
variable {α : Rl → Nat} {σ σ' : St} {H : Hp}
theorem Rep.move (R : Rep α σ H) {r₀ r₁ : Rl} {a : Nat} {o : O} (hne : r₁ ≠ r₀) (h₀ : ok σ r₀) (h₁ : ok σ r₁) (hok : ∀ r, ok σ' r → ok σ r) (ha : a < H.n) (hf : ∀ r, ok σ r → adr α σ r ≠ a)
    (m1 : adr α σ' r₀ = a) (m2 : H.o a = cont α σ' r₀) (c1 : adr α σ' r₁ = adr α σ r₁) (c2 : o = cont α σ' r₁) (old : ∀ r, ok σ r → r ≠ r₀ → r ≠ r₁ → adr α σ' r = adr α σ r ∧ cont α σ' r = cont α σ r) :
    Rep α σ' (H.set (adr α σ r₁) o) := by
  subst c2
  have key : ∀ r, ok σ r → r ≠ r₀ → adr α σ' r = adr α σ r := fun r hr h => by
    by_cases q : r = r₁
    · rw [q]; exact c1
    · exact (old r hr h q).1
  refine ⟨fun r hr => ?_, fun r hr => ?_, fun r r' hr hr' e => ?_⟩
  · have hr := hok r hr
    by_cases q : r = r₀
    · subst q; rw [m1, Hp.set_old _ _ _ (Ne.symm (hf _ h₁))]; exact m2
    · rw [key r hr q]
      by_cases q' : r = r₁
      · subst q'; rw [Hp.set_here]
      · rw [Hp.set_old _ _ _ (fun e => q' (R.inj _ _ hr h₁ e)), R.o r hr, (old r hr q q').2]
  · have hr := hok r hr
    by_cases q : r = r₀
    · subst q; rw [m1]; exact ha
    · rw [key r hr q]; exact R.lt r hr
  · have hr := hok r hr
    have hr' := hok r' hr'
    by_cases q : r = r₀ <;> by_cases q' : r' = r₀
    · rw [q, q']
    · subst q; rw [m1, key r' hr' q'] at e; exact absurd e.symm (hf _ hr')
    · subst q'; rw [m1, key r hr q] at e; exact absurd e (hf _ hr)
    · rw [key r hr q, key r' hr' q'] at e; exact R.inj _ _ hr hr' e
theorem td_ne {i j : Nat} (h : Rl.td j ≠ Rl.td i) : j ≠ i := fun e => h (by rw [e])
theorem tf_ne {i j : Nat} (h : Rl.tf j ≠ Rl.tf i) : j ≠ i := fun e => h (by rw [e])
theorem rl_ne {i j : Nat} (h : Rl.rl j ≠ Rl.rl i) : j ≠ i := fun e => h (by rw [e])
theorem hl_ne {i j : Nat} (h : Rl.hl j ≠ Rl.hl i) : j ≠ i := fun e => h (by rw [e])
theorem Rep.set_sg (R : Rep α σ H) {i : Nat} (h1 : 1 ≤ i) (h2 : i ≤ σ.nt) (v : Int) {o : O} (ho : o = .attrs [("kind", .str (σ.kd i)), ("name", .str (nameOf i)), ("fields", .obj (σ.tfa i)), ("strong", .int v), ("weak", .int (σ.wk i)), ("unowned", .int (σ.un i)), ("state", .str (σ.st i))]) : Rep α (σ.w_sg (upd σ.sg i v)) (H.set (α (.td i)) o) :=
  R.set (.td i) ⟨h1, h2⟩ (fun r h => by cases r <;> exact h) (fun r _ => by cases r <;> rfl) (fun r h hne => by
    cases r
    case td j => show O.attrs _ = O.attrs _; simp only [upd_old σ.sg v (td_ne hne)]
    all_goals rfl) (ho.trans (by show O.attrs _ = O.attrs _; simp only [upd_here]))
theorem Rep.set_wk (R : Rep α σ H) {i : Nat} (h1 : 1 ≤ i) (h2 : i ≤ σ.nt) (v : Int) {o : O} (ho : o = .attrs [("kind", .str (σ.kd i)), ("name", .str (nameOf i)), ("fields", .obj (σ.tfa i)), ("strong", .int (σ.sg i)), ("weak", .int v), ("unowned", .int (σ.un i)), ("state", .str (σ.st i))]) : Rep α (σ.w_wk (upd σ.wk i v)) (H.set (α (.td i)) o) :=
  R.set (.td i) ⟨h1, h2⟩ (fun r h => by cases r <;> exact h) (fun r _ => by cases r <;> rfl) (fun r h hne => by
    cases r
    case td j => show O.attrs _ = O.attrs _; simp only [upd_old σ.wk v (td_ne hne)]
    all_goals rfl) (ho.trans (by show O.attrs _ = O.attrs _; simp only [upd_here]))
theorem Rep.set_un (R : Rep α σ H) {i : Nat} (h1 : 1 ≤ i) (h2 : i ≤ σ.nt) (v : Int) {o : O} (ho : o = .attrs [("kind", .str (σ.kd i)), ("name", .str (nameOf i)), ("fields", .obj (σ.tfa i)), ("strong", .int (σ.sg i)), ("weak", .int (σ.wk i)), ("unowned", .int v), ("state", .str (σ.st i))]) : Rep α (σ.w_un (upd σ.un i v)) (H.set (α (.td i)) o) :=
  R.set (.td i) ⟨h1, h2⟩ (fun r h => by cases r <;> exact h) (fun r _ => by cases r <;> rfl) (fun r h hne => by
    cases r
    case td j => show O.attrs _ = O.attrs _; simp only [upd_old σ.un v (td_ne hne)]
    all_goals rfl) (ho.trans (by show O.attrs _ = O.attrs _; simp only [upd_here]))
theorem Rep.set_st (R : Rep α σ H) {i : Nat} (h1 : 1 ≤ i) (h2 : i ≤ σ.nt) (v : Str) {o : O} (ho : o = .attrs [("kind", .str (σ.kd i)), ("name", .str (nameOf i)), ("fields", .obj (σ.tfa i)), ("strong", .int (σ.sg i)), ("weak", .int (σ.wk i)), ("unowned", .int (σ.un i)), ("state", .str v)]) : Rep α (σ.w_st (upd σ.st i v)) (H.set (α (.td i)) o) :=
  R.set (.td i) ⟨h1, h2⟩ (fun r h => by cases r <;> exact h) (fun r _ => by cases r <;> rfl) (fun r h hne => by
    cases r
    case td j => show O.attrs _ = O.attrs _; simp only [upd_old σ.st v (td_ne hne)]
    all_goals rfl) (ho.trans (by show O.attrs _ = O.attrs _; simp only [upd_here]))
theorem Rep.set_fl (R : Rep α σ H) {i : Nat} (h1 : 1 ≤ i) (h2 : i ≤ σ.nt) (v : List Lk) {o : O} (ho : o = .list (v.map (linkV σ.kd))) : Rep α (σ.w_fl (upd σ.fl i v)) (H.set (σ.tfa i) o) :=
  R.set (.tf i) ⟨h1, h2⟩ (fun r h => by cases r <;> exact h) (fun r _ => by cases r <;> rfl) (fun r h hne => by
    cases r
    case tf j => show O.list _ = O.list _; simp only [upd_old σ.fl v (tf_ne hne)]
    all_goals rfl) (ho.trans (by show O.list _ = O.list _; simp only [upd_here]))
theorem Rep.set_rw (R : Rep α σ H) {i : Nat} (h1 : 1 ≤ i) (h2 : i ≤ σ.nr) (v : List Lk) {o : O} (ho : o = .list (v.map rowV)) : Rep α (σ.w_rw (upd σ.rw i v)) (H.set (σ.rla i) o) :=
  R.set (.rl i) ⟨h1, h2⟩ (fun r h => by cases r <;> exact h) (fun r _ => by cases r <;> rfl) (fun r h hne => by
    cases r
    case rl j => show O.list _ = O.list _; simp only [upd_old σ.rw v (rl_ne hne)]
    all_goals rfl) (ho.trans (by show O.list _ = O.list _; simp only [upd_here]))
theorem Rep.set_hd (R : Rep α σ H) {i : Nat} (h1 : 1 ≤ i) (h2 : i ≤ σ.nh) (v : List V) {o : O} (ho : o = .list v) : Rep α (σ.w_hd (upd σ.hd i v)) (H.set (α (.hl i)) o) :=
  R.set (.hl i) ⟨h1, h2⟩ (fun r h => by cases r <;> exact h) (fun r _ => by cases r <;> rfl) (fun r h hne => by
    cases r
    case hl j => show O.list _ = O.list _; simp only [upd_old σ.hd v (hl_ne hne)]
    all_goals rfl) (ho.trans (by show O.list _ = O.list _; simp only [upd_here]))
theorem Rep.set_bw (R : Rep α σ H) {i : Nat} (h1 : 1 ≤ i) (h2 : i ≤ σ.nw) (v : Int) {o : O} (ho : o = .idict (vput (tab σ.nw fun i => .int (σ.bw i)) (i : Int) (.int v))) : Rep α (σ.w_bw (upd σ.bw i v)) (H.set (α .weak) o) :=
  R.set .weak trivial (fun r h => by cases r <;> exact h) (fun r _ => by cases r <;> rfl) (fun r h hne => by
    cases r
    case weak => exact absurd rfl hne
    all_goals rfl) (ho.trans (by show O.idict _ = O.idict (tab σ.nw fun j => .int (upd σ.bw i v j)); rw [vput_tab h1 h2, upd_map V.int]))
theorem Rep.set_bu (R : Rep α σ H) {i : Nat} (h1 : 1 ≤ i) (h2 : i ≤ σ.nu) (v : Int) {o : O} (ho : o = .idict (vput (tab σ.nu fun i => .int (σ.bu i)) (i : Int) (.int v))) : Rep α (σ.w_bu (upd σ.bu i v)) (H.set (α .unow) o) :=
  R.set .unow trivial (fun r h => by cases r <;> exact h) (fun r _ => by cases r <;> rfl) (fun r h hne => by
    cases r
    case unow => exact absurd rfl hne
    all_goals rfl) (ho.trans (by show O.idict _ = O.idict (tab σ.nu fun j => .int (upd σ.bu i v j)); rw [vput_tab h1 h2, upd_map V.int]))
theorem Rep.set_bs (R : Rep α σ H) {i : Nat} (h1 : 1 ≤ i) (h2 : i ≤ σ.ns) (v : Str) {o : O} (ho : o = .idict (vput (tab σ.ns fun i => .str (σ.bs i)) (i : Int) (.str v))) : Rep α (σ.w_bs (upd σ.bs i v)) (H.set (α .state) o) :=
  R.set .state trivial (fun r h => by cases r <;> exact h) (fun r _ => by cases r <;> rfl) (fun r h hne => by
    cases r
    case state => exact absurd rfl hne
    all_goals rfl) (ho.trans (by show O.idict _ = O.idict (tab σ.ns fun j => .str (upd σ.bs i v j)); rw [vput_tab h1 h2, upd_map V.str]))
theorem Rep.set_dy (R : Rep α σ H) (v : List Nat) {o : O} (ho : o = .list (v.map fun i : Nat => V.int (i : Int))) : Rep α (σ.w_dy v) (H.set (α .hdy) o) :=
  R.set .hdy trivial (fun r h => by cases r <;> exact h) (fun r _ => by cases r <;> rfl) (fun r h hne => by
    cases r
    case hdy => exact absurd rfl hne
    all_goals rfl) ho
theorem Rep.set_bd (R : Rep α σ H) (v : List Nat) {o : O} (ho : o = .list (v.map fun i : Nat => V.int (i : Int))) : Rep α (σ.w_bd v) (H.set (α .bdy) o) :=
  R.set .bdy trivial (fun r h => by cases r <;> exact h) (fun r _ => by cases r <;> rfl) (fun r h hne => by
    cases r
    case bdy => exact absurd rfl hne
    all_goals rfl) ho
theorem Rep.set_at (R : Rep α σ H) (v : Nat) {o : O} (ho : o = .sdict [("cells", .obj (α .cells)), ("at", .int v)]) : Rep α (σ.w_at v) (H.set (α .hand) o) :=
  R.set .hand trivial (fun r h => by cases r <;> exact h) (fun r _ => by cases r <;> rfl) (fun r h hne => by
    cases r
    case hand => exact absurd rfl hne
    all_goals rfl) ho
theorem Rep.set_tfa (R : Rep α σ H) {i : Nat} (h1 : 1 ≤ i) (h2 : i ≤ σ.nt) {a : Nat} (ha : a < H.n) (hf : ∀ r, ok σ r → adr α σ r ≠ a) {v : List Lk} (hv : H.o a = .list (v.map (linkV σ.kd))) {o : O} (ho : o = .attrs [("kind", .str (σ.kd i)), ("name", .str (nameOf i)), ("fields", .obj a), ("strong", .int (σ.sg i)), ("weak", .int (σ.wk i)), ("unowned", .int (σ.un i)), ("state", .str (σ.st i))]) :
    Rep α ((σ.w_tfa (upd σ.tfa i a)).w_fl (upd σ.fl i v)) (H.set (α (.td i)) o) :=
  R.move (r₀ := .tf i) (r₁ := .td i) (fun e => by cases e) ⟨h1, h2⟩ ⟨h1, h2⟩ (fun r h => by cases r <;> exact h) ha hf (upd_here ..) (by rw [hv]; show O.list _ = O.list _; simp only [upd_here]) rfl (ho.trans (by show O.attrs _ = O.attrs _; simp only [upd_here])) (fun r h n0 n1 => by
    cases r
    case tf j => exact ⟨upd_old _ _ (tf_ne n0), by show O.list _ = O.list _; simp only [upd_old σ.fl v (tf_ne n0)]⟩
    case td j => exact ⟨rfl, by show O.attrs _ = O.attrs _; simp only [upd_old σ.tfa a (td_ne n1)]⟩
    all_goals exact ⟨rfl, rfl⟩)
theorem Rep.set_rla (R : Rep α σ H) {i : Nat} (h1 : 1 ≤ i) (h2 : i ≤ σ.nr) {a : Nat} (ha : a < H.n) (hf : ∀ r, ok σ r → adr α σ r ≠ a) {v : List Lk} (hv : H.o a = .list (v.map rowV)) {o : O} (ho : o = .idict (vput (tab σ.nr fun i => .obj (σ.rla i)) (i : Int) (.obj a))) :
    Rep α ((σ.w_rla (upd σ.rla i a)).w_rw (upd σ.rw i v)) (H.set (α .rows) o) :=
  R.move (r₀ := .rl i) (r₁ := .rows) (fun e => by cases e) ⟨h1, h2⟩ trivial (fun r h => by cases r <;> exact h) ha hf (upd_here ..) (by rw [hv]; show O.list _ = O.list _; simp only [upd_here]) rfl (ho.trans (by show O.idict _ = O.idict (tab σ.nr fun j => .obj (upd σ.rla i a j)); rw [vput_tab h1 h2, upd_map V.obj])) (fun r h n0 n1 => by
    cases r
    case rl j => exact ⟨upd_old _ _ (rl_ne n0), by show O.list _ = O.list _; simp only [upd_old σ.rw v (rl_ne n0)]⟩
    case rows => exact absurd rfl n1
    all_goals exact ⟨rfl, rfl⟩)
theorem Rep.old_rla (R : Rep α σ H) {i a : Nat} {v : List Lk} (h1 : 1 ≤ i) (h2 : i ≤ σ.nr) (ha : ∀ r, ok σ r → adr α σ r ≠ a) : ∀ r, ok ((σ.w_rla (upd σ.rla i a)).w_rw (upd σ.rw i v)) r → adr α ((σ.w_rla (upd σ.rla i a)).w_rw (upd σ.rw i v)) r ≠ σ.rla i := fun r hr e => by
  by_cases q : r = .rl i
  · subst q
    have e : upd σ.rla i a i = σ.rla i := e
    rw [upd_here] at e
    exact ha (.rl i) ⟨h1, h2⟩ e.symm
  · have h : ok σ r := by cases r <;> exact hr
    have e' : adr α ((σ.w_rla (upd σ.rla i a)).w_rw (upd σ.rw i v)) r = adr α σ r := by
      cases r
      case rl j => exact upd_old _ _ (rl_ne q)
      all_goals rfl
    rw [e'] at e
    exact q (R.inj _ _ h (show ok σ (.rl i) from ⟨h1, h2⟩) e)
end
end Mine
end

section
namespace Mine
section
variable {c : Cx} {n : Nat} {fr : FrS} {H H₁ H₂ H₃ : Hp} {l l₁ l₂ l₃ : Loc} {Q : Fl → Hp → Loc → Prop} {ts : List Stmt}
/-! statements, each with what follows it -/
theorem x_assign {y : Str} {e : Expr} {npos pos : Pos} {v : V} (h : Ev c n fr e H l v H₁) (q : ExsW c n fr ts H₁ (l.set y v) Q) (hx : fr.scope.names.lookup y = some .local) (hw : ∀ env, swapsWith e (some (.Name y npos)) pos.line env = pure false) :
    ExsW c n fr (.Assign [.Name y npos] e pos :: ts) H l Q := w_cons (w_assign h q hx hw)
theorem x_setitem {e o i : Expr} {ipos pos : Pos} {a b v : V} {H₄ : Hp} (hv : Ev c n fr e H l v H₁) (ho : Ev c n fr o H₁ l a H₂) (hi : Ev c n fr i H₂ l b H₃) (hs : SetR c n fr a b v H₃ l H₄) (q : ExsW c n fr ts H₄ l Q)
    (hw : ∀ env, swapsWith e (some (.Subscript o i ipos)) pos.line env = pure false) : ExsW c n fr (.Assign [.Subscript o i ipos] e pos :: ts) H l Q := w_cons (w_setitem hv ho hi hs q hw)
theorem x_setattr {o e : Expr} {name : Str} {apos pos : Pos} {i d : Nat} {C : Addr} {fs : List (Str × V)} {v : V} (hv : Ev c n fr e H l v H₁) (ho : Ev c n fr o H₁ l (.obj i) H₂) (I : Inst H₂ i C d fs)
    (P : Plain c.K C) (ht : takerIn c.K C name = some none) (hz : fs.length < 900) (q : ExsW c n fr ts (H₂.set d (.attrs (fput fs name v))) l Q)
    (hw : ∀ env, swapsWith e (some (.Attribute o name apos)) pos.line env = pure false) : ExsW c n fr (.Assign [.Attribute o name apos] e pos :: ts) H l Q := w_cons (w_setattr hv ho I P ht hz q hw)
theorem x_expr {e : Expr} {pos : Pos} {v : V} (h : Ev c n fr e H l v H₁) (q : ExsW c n fr ts H₁ l Q) (hw : ∀ env, swapsWith e none pos.line env = pure false) : ExsW c n fr (.Expr e pos :: ts) H l Q := w_cons (w_expr h q hw)
theorem x_return {e : Expr} {pos : Pos} {v : V} (h : Ev c n fr e H l v H₁) (q : Q (.ret v) H₁ l) : ExsW c n fr (.Return (some e) pos :: ts) H l Q := w_cons (w_return h q)
theorem x_return0 {pos : Pos} (q : Q (.ret .none) H l) : ExsW c n fr (.Return none pos :: ts) H l Q := w_cons (w_return0 q)
theorem x_nil (q : Q .next H l) : ExsW c n fr [] H l Q := w_nil q
theorem ExsW.mono {ts : List Stmt} {Q' : Fl → Hp → Loc → Prop} (h : ExsW c n fr ts H l Q) (g : ∀ f H l, Q f H l → Q' f H l) : ExsW c n fr ts H l Q' := let ⟨f, H', l', h1, h2⟩ := h; ⟨f, H', l', h1, g _ _ _ h2⟩
/-- an if whose branch goes on -/
theorem x_if_t {t : Expr} {a b : List Stmt} {pos : Pos} (h : Te c n fr t H l true H₁) (h₂ : ExsW c n fr a H₁ l (Then (fun H' l' => ExsW c n fr ts H' l' Q) Q)) : ExsW c n fr (.If t a b pos :: ts) H l Q := w_cons (w_if_t h h₂)
theorem x_if_f {t : Expr} {a b : List Stmt} {pos : Pos} (h : Te c n fr t H l false H₁) (h₂ : ExsW c n fr b H₁ l (Then (fun H' l' => ExsW c n fr ts H' l' Q) Q)) : ExsW c n fr (.If t a b pos :: ts) H l Q := w_cons (w_if_f h h₂)
theorem x_if_f0 {t : Expr} {a : List Stmt} {pos : Pos} (h : Te c n fr t H l false H₁) (h₂ : ExsW c n fr ts H₁ l Q) : ExsW c n fr (.If t a [] pos :: ts) H l Q := w_cons (w_if_f h (w_nil h₂))
/-- an if whose branch returns -/
theorem x_if_ret {t e : Expr} {b us : List Stmt} {pos pos' : Pos} {v : V} (h : Te c n fr t H l true H₁) (he : Ev c n fr e H₁ l v H₂) (q : Q (.ret v) H₂ l) : ExsW c n fr (.If t (.Return (some e) pos' :: us) b pos :: ts) H l Q := w_cons (w_if_t h (w_cons (w_return he q)))
theorem x_if_ret0 {t : Expr} {b us : List Stmt} {pos pos' : Pos} (h : Te c n fr t H l true H₁) (q : Q (.ret .none) H₁ l) : ExsW c n fr (.If t (.Return none pos' :: us) b pos :: ts) H l Q := w_cons (w_if_t h (w_cons (w_return0 q)))
theorem x_while {test : Expr} {body : List Stmt} {pos : Pos} (h : WlW c n fr test body H l (Then (fun H' l' => ExsW c n fr ts H' l' Q) Q)) : ExsW c n fr (.While test body [] pos :: ts) H l Q := w_cons (w_while h)
theorem x_for {target iter : Expr} {body : List Stmt} {pos : Pos} {r : Nat} {vs : List V} (he : Ev c n fr iter H l (.obj r) H₁) (hr : H₁.o r = .list vs) (h : FoW c n fr target body H₁.n (H₁.new (.iter r 0)) l (Then (fun H' l' => ExsW c n fr ts H' l' Q) Q))
    (hs : ∀ env x, foldedSetIterable iter env x = pure x) : ExsW c n fr (.For target iter body [] pos :: ts) H l Q := w_cons (w_for he hr h hs)
theorem x_forr {target iter : Expr} {body : List Stmt} {pos : Pos} {r : Nat} {a b : Int} (he : Ev c n fr iter H l (.obj r) H₁) (hr : H₁.o r = .range a b) (hi : 0 ≤ a) (hb : b ≤ 1000) (hab : a ≤ 1000) (hb0 : -1000 ≤ b)
    (h : FoW c n fr target body H₁.n (H₁.new (.riter a ((b - a).toNat : Nat))) l (Then (fun H' l' => ExsW c n fr ts H' l' Q) Q)) (hs : ∀ env x, foldedSetIterable iter env x = pure x) : ExsW c n fr (.For target iter body [] pos :: ts) H l Q := w_cons (w_forr he hr hi hb hab hb0 h hs)
theorem x_swap {y z : Str} {us : List Expr} {k₀ : Nat} {tpos pos : Pos} {e : Expr} {u v : V} (h : Ev c n fr e H l (.tup [u, v]) H₁) (q : ExsW c n fr ts H₁ ((l.set z v).set y u) Q) (h2 : ∀ x : Fx, swappedStores [.Tuple us k₀ tpos] e (x.env fr) = pure (some [y, z]))
    (hy : fr.scope.names.lookup y = some .local) (hz : fr.scope.names.lookup z = some .local) (hq : fr.q = true)
    (h1 : ∀ env, swapsWithSole [.Tuple us k₀ tpos] e pos.line env = pure false) :
    ExsW c n fr (.Assign [.Tuple us k₀ tpos] e pos :: ts) H l Q := w_cons (w_swap h q h2 hy hz hq h1)
theorem ev_append {o e : Expr} {apos pos : Pos} {pl : Env → Sem Bool} {a : Nat} {vs us : List V} {v : V} (ho : Ev c n fr o H l (.obj a) H₁) (h : H₁.o a = .list vs) (ha : Ev c n fr e H₁ l v H₂) (h' : H₂.o a = .list us) (hz : us.length ≤ 1000)
    (he : MethCall o "append" apos pos [e] pl) (h1 : ∀ env, starEach [e] env = (false, eval e env) :: starEach [] env) (h2 : ∀ env, (backTo pos (starEach [] env)).any (·.1) = false) :
    Ev c n fr (.Call (.Attribute o "append" apos) [e] [] pos) H l .none (H₂.set a (.list (us ++ [v]))) :=
  ev_bm1 (t := "list.append") ho (gm_list h PySem.F.slot_list_append (by kernel_rfl)) ha (bi_append h' hz) he h1 h2
theorem ev_pop {o : Expr} {apos pos : Pos} {pl : Env → Sem Bool} {a : Nat} {vs : List V} {v : V} (ho : Ev c n fr o H l (.obj a) H₁) (h : H₁.o a = .list (vs ++ [v])) (hz : vs.length ≤ 1000) (he : MethCall o "pop" apos pos [] pl) :
    Ev c n fr (.Call (.Attribute o "pop" apos) [] [] pos) H l v (H₁.set a (.list vs)) :=
  ev_bm0 (t := "list.pop") ho (gm_list h PySem.F.slot_list_pop (by kernel_rfl)) (bi_pop h hz) he
theorem ev_popAt {o e : Expr} {apos pos : Pos} {pl : Env → Sem Bool} {a : Nat} {vs us ws : List V} {v : V} {k : Int} (ho : Ev c n fr o H l (.obj a) H₁) (h : H₁.o a = .list ws) (ha : Ev c n fr e H₁ l (.int k) H₂) (h' : H₂.o a = .list (vs ++ v :: us)) (hz : vs.length + us.length ≤ 1000) (hk : k = vs.length)
    (he : MethCall o "pop" apos pos [e] pl) (h1 : ∀ env, starEach [e] env = (false, eval e env) :: starEach [] env) (h2 : ∀ env, (backTo pos (starEach [] env)).any (·.1) = false) :
    Ev c n fr (.Call (.Attribute o "pop" apos) [e] [] pos) H l v (H₂.set a (.list (vs ++ us))) :=
  ev_bm1 (t := "list.pop") ho (gm_list h PySem.F.slot_list_pop (by kernel_rfl)) ha (bi_popAt h' hz hk) he h1 h2
theorem ev_extend {o e : Expr} {apos pos : Pos} {pl : Env → Sem Bool} {a b : Nat} {vs us ws : List V} (ho : Ev c n fr o H l (.obj a) H₁) (h : H₁.o a = .list ws) (ha : Ev c n fr e H₁ l (.obj b) H₂) (h' : H₂.o a = .list vs) (hb : H₂.o b = .list us) (hz : vs.length + us.length ≤ 1000)
    (he : MethCall o "extend" apos pos [e] pl) (h1 : ∀ env, starEach [e] env = (false, eval e env) :: starEach [] env) (h2 : ∀ env, (backTo pos (starEach [] env)).any (·.1) = false) :
    Ev c n fr (.Call (.Attribute o "extend" apos) [e] [] pos) H l .none (H₂.set a (.list (vs ++ us))) :=
  ev_bm1 (t := "list.extend") ho (gm_list h PySem.F.slot_list_extend (by kernel_rfl)) ha (bi_extend h' hb hz) he h1 h2
theorem ev_remove {o e : Expr} {apos pos : Pos} {pl : Env → Sem Bool} {a : Nat} {vs us ws : List V} {v : V} (ho : Ev c n fr o H l (.obj a) H₁) (h : H₁.o a = .list ws) (ha : Ev c n fr e H₁ l v H₂) (h' : H₂.o a = .list (vs ++ v :: us)) (hz : vs.length + us.length ≤ 1000) (hv : v ∉ vs) (hs : (vs ++ v :: us).all si = true)
    (he : MethCall o "remove" apos pos [e] pl) (h1 : ∀ env, starEach [e] env = (false, eval e env) :: starEach [] env) (h2 : ∀ env, (backTo pos (starEach [] env)).any (·.1) = false) :
    Ev c n fr (.Call (.Attribute o "remove" apos) [e] [] pos) H l .none (H₂.set a (.list (vs ++ us))) :=
  ev_bm1 (t := "list.remove") ho (gm_list h PySem.F.slot_list_remove (by kernel_rfl)) ha (bi_remove h' hz hv hs) he h1 h2
/-- the end of a def's body: a value, or none -/
theorem fn_x {a : Addr} {params : Arguments} {body : List Stmt} {fr' : FrS} {names : List Str} {vs : List V} {P : V → Hp → Prop} (D : DefAt c.K a params body fr' names) (hl : vs.length = names.length)
    (h : ExsW c n fr' body H (bindV names vs) (fun f H' _ => P f.val H')) : ∃ v H', Fn c (n + 1) a vs H v H' ∧ P v H' := fn_w D hl h
end
section
variable {c : Cx} {H H' : Hp}
theorem Hp.new_n (H : Hp) (o : O) : (H.new o).n = H.n + 1 := rfl
theorem Hp.set_n (H : Hp) (i : Nat) (o : O) : (H.set i o).n = H.n := rfl
theorem Fn.up {n m : Nat} {a : Addr} {vs : List V} {v : V} (h : Fn c n a vs H v H') (hm : n ≤ m) : Fn c m a vs H v H' := by
  intro fr l x ω rs mm s R hq k hrs ret
  refine h fr l x ω rs mm s R hq ⟨k.B, k.X, k.T, k.fk, k.hh, k.tp, k.hfr, by have := k.hd; lia, by have := k.hu; lia, k.F, k.N, k.R, k.l, k.cl⟩ hrs fun rv ω' h' tk' k' x' r' => ret rv ω' h' tk' ⟨k'.B, k'.X, k'.T, k'.fk, k'.hh, k'.tp, k'.hfr, k.hd, k.hu, k'.F, k'.N, k'.R, k'.l, k'.cl⟩ x' r'
/-- nothing old is changed -/
structure Grew (H H' : Hp) : Prop where
  n : H.n ≤ H'.n
  o : ∀ b, b < H.n → H'.o b = H.o b
theorem Grew.refl (H : Hp) : Grew H H := ⟨Nat.le_refl _, fun _ _ => rfl⟩
theorem Grew.trans {H'' : Hp} (a : Grew H H') (b : Grew H' H'') : Grew H H'' := ⟨Nat.le_trans a.n b.n, fun i hi => (b.o i (Nat.lt_of_lt_of_le hi a.n)).trans (a.o i hi)⟩
theorem Grew.new (H : Hp) (o : O) : Grew H (H.new o) := ⟨Nat.le_succ _, fun b hb => H.new_old o (Nat.ne_of_lt hb)⟩
theorem Grew.set (g : Grew H H') {i : Nat} (h : H.n ≤ i) (o : O) : Grew H (H'.set i o) := ⟨g.n, fun b hb => (H'.set_old i o (Nat.ne_of_lt (Nat.lt_of_lt_of_le hb h))).trans (g.o b hb)⟩
theorem Grew.add (g : Grew H H') (o : O) : Grew H (H'.new o) := g.trans (.new H' o)
theorem Rep.grew {α : Rl → Nat} {σ : St} (R : Rep α σ H) (g : Grew H H') : Rep α σ H' := R.grow g.n g.o
end
section
variable {P : Params}
theorem me_made : findIn (K P) (.ref cHeap) "made" = some (some (.ref 122)) := by kernel_rfl
theorem me_thing : findIn (K P) (.ref cHeap) "thing" = some (some (.ref 129)) := by kernel_rfl
theorem me_retain : findIn (K P) (.ref cHeap) "retain" = some (some (.ref 136)) := by kernel_rfl
theorem me_release : findIn (K P) (.ref cHeap) "release" = some (some (.ref 143)) := by kernel_rfl
theorem me_drop : findIn (K P) (.ref cHeap) "drop" = some (some (.ref 150)) := by kernel_rfl
theorem me_dropped : findIn (K P) (.ref cHeap) "dropped" = some (some (.ref 157)) := by kernel_rfl
theorem me_lost : findIn (K P) (.ref cHeap) "lost" = some (some (.ref 164)) := by kernel_rfl
theorem me_buried : findIn (K P) (.ref cHeap) "buried" = some (some (.ref 171)) := by kernel_rfl
theorem me_copied : findIn (K P) (.ref cHeap) "copied" = some (some (.ref 178)) := by kernel_rfl
theorem me_destroyed : findIn (K P) (.ref cHeap) "destroyed" = some (some (.ref 185)) := by kernel_rfl
theorem me_weak_to : findIn (K P) (.ref cHeap) "weak_to" = some (some (.ref 192)) := by kernel_rfl
theorem me_weak_read : findIn (K P) (.ref cHeap) "weak_read" = some (some (.ref 199)) := by kernel_rfl
theorem me_unowned_to : findIn (K P) (.ref cHeap) "unowned_to" = some (some (.ref 206)) := by kernel_rfl
theorem me_unowned_read : findIn (K P) (.ref cHeap) "unowned_read" = some (some (.ref 213)) := by kernel_rfl
theorem me_live : findIn (K P) (.ref cHeap) "live" = some (some (.ref 234)) := by kernel_rfl
theorem fget_no {j k : Str} {u : V} {es : List (Str × V)} (h : (j == k) = false) (g : fget es k = none) : fget ((j, u) :: es) k = none := by
  show (if j == k then some u else fget es k) = none
  rw [h]; exact g
theorem fget_nil {k : Str} : fget [] k = none := rfl
end
end Mine
end

section
namespace Mine
section
variable {c : Cx} {n : Nat} {fr : FrS} {H H₁ H₂ H₃ : Hp} {l l₁ l₂ l₃ : Loc} {Q : Fl → Hp → Loc → Prop} {ts : List Stmt}
theorem fo_all {target : Expr} {body : List Stmt} {i r : Nat} {vs : List V} (I : Nat → Hp → Loc → Prop) (hI : ∀ j H l, I j H l → H.o i = .iter r j ∧ H.o r = .list vs) (ht : Tgt target) (hv : ∀ v ∈ vs, (∃ us, v = .tup us) ∨ ∀ it v, letOwnedTupleGo target it v = pure ())
    (step : ∀ j v H l, vs[j]? = some v → I j H l → AsW c n fr target v (H.set i (.iter r (j + 1))) l fun H₁ l₁ => ExsW c n fr body H₁ l₁ (Then (fun H' l' => I (j + 1) H' l') Q))
    (stop : ∀ H l, I vs.length H l → Q .next (H.set i .junk) l) (hq : fr.q = true) : ∀ k j H l, j + k = vs.length → I j H l → FoW c n fr target body i H l Q := by
  intro k
  induction k with
  | zero =>
    intro j H l hj hI'
    have e : j = vs.length := hj
    subst e
    exact fo_stop (hI _ _ _ hI').1 (hI _ _ _ hI').2 (Nat.le_refl _) (stop _ _ hI') hq
  | succ k ih =>
    intro j H l hj hI'
    have lt : j < vs.length := by lia
    have hg : vs[j]? = some vs[j] := List.getElem?_eq_getElem lt
    refine fo_go (hI _ _ _ hI').1 (hI _ _ _ hI').2 hg ht (hv _ (List.getElem_mem lt)) ?_
    obtain ⟨H', l', h1, h2⟩ := step j _ H l hg hI'
    refine ⟨H', l', h1, h2.mono fun f H l h => ?_⟩
    cases f with
    | next => exact ih (j + 1) H l (by lia) h
    | ret v => exact h
    | brk => exact h
    | cont => exact h
theorem x_for_name {y : Str} {npos pos : Pos} {iter : Expr} {body : List Stmt} {r : Nat} {vs : List V} (I : Nat → Hp → Loc → Prop) (he : Ev c n fr iter H l (.obj r) H₁) (hr : H₁.o r = .list vs)
    (start : I 0 (H₁.new (.iter r 0)) l) (hI : ∀ j H l, I j H l → H.o H₁.n = .iter r j ∧ H.o r = .list vs)
    (step : ∀ j v H l, vs[j]? = some v → I j H l → ExsW c n fr body (H.set H₁.n (.iter r (j + 1))) (l.set y v) (Then (fun H' l' => I (j + 1) H' l') (Then (fun H' l' => ExsW c n fr ts H' l' Q) Q)))
    (stop : ∀ H l, I vs.length H l → ExsW c n fr ts (H.set H₁.n .junk) l Q) (hy : fr.scope.names.lookup y = some .local) (hq : fr.q = true)
    (hs : ∀ env x, foldedSetIterable iter env x = pure x) (hg : ∀ it v, letOwnedTupleGo (.Name y npos) it v = pure ()) : ExsW c n fr (.For (.Name y npos) iter body [] pos :: ts) H l Q :=
  x_for he hr (fo_all I hI (.inl hg) (fun _ _ => .inr hg) (fun j v H l h1 h2 => ⟨_, _, as_name hy, step j v H l h1 h2⟩) stop hq vs.length 0 _ _ (Nat.zero_add _) start) hs
theorem x_for_pair {y z : Str} {npos zpos tpos pos : Pos} {k₀ : Nat} {iter : Expr} {body : List Stmt} {r : Nat} {vs : List V} (I : Nat → Hp → Loc → Prop) (he : Ev c n fr iter H l (.obj r) H₁) (hr : H₁.o r = .list vs)
    (start : I 0 (H₁.new (.iter r 0)) l) (hI : ∀ j H l, I j H l → H.o H₁.n = .iter r j ∧ H.o r = .list vs) (hp : ∀ v ∈ vs, ∃ a b, v = .tup [a, b])
    (step : ∀ j a b H l, vs[j]? = some (.tup [a, b]) → I j H l → ExsW c n fr body (H.set H₁.n (.iter r (j + 1))) ((l.set y a).set z b) (Then (fun H' l' => I (j + 1) H' l') (Then (fun H' l' => ExsW c n fr ts H' l' Q) Q)))
    (stop : ∀ H l, I vs.length H l → ExsW c n fr ts (H.set H₁.n .junk) l Q) (hy : fr.scope.names.lookup y = some .local) (hz : fr.scope.names.lookup z = some .local) (hq : fr.q = true)
    (hs : ∀ env x, foldedSetIterable iter env x = pure x) : ExsW c n fr (.For (.Tuple [.Name y npos, .Name z zpos] k₀ tpos) iter body [] pos :: ts) H l Q :=
  x_for he hr (fo_all I hI (.inr ⟨_, _, _, rfl⟩) (fun v hv => let ⟨a, b, e⟩ := hp v hv; .inl ⟨[a, b], e⟩) (fun j v H l h1 h2 => by
    obtain ⟨a, b, rfl⟩ := hp v (List.mem_of_getElem? h1)
    exact ⟨_, _, as_tup (asl_cons (as_name hy) (asl_cons (as_name hz) asl_nil)) hq, step j a b H l h1 h2⟩) stop hq vs.length 0 _ _ (Nat.zero_add _) start) hs
theorem x_rng {y : Str} {npos pos : Pos} {iter : Expr} {body : List Stmt} {r : Nat} {b : Nat} (I : Nat → Hp → Loc → Prop) (he : Ev c n fr iter H l (.obj r) H₁) (hr : H₁.o r = .range 0 b) (hb : b ≤ 1000)
    (start : I 0 (H₁.new (.riter 0 b)) l) (hI : ∀ j H l, I j H l → H.o H₁.n = .riter j ((b : Int) - j))
    (step : ∀ (j : Nat) H l, j < b → I j H l → ExsW c n fr body (H.set H₁.n (.riter ((j : Int) + 1) ((b : Int) - j - 1))) (l.set y (.int j)) (Then (fun H' l' => I (j + 1) H' l') fun _ _ _ => False))
    (stop : ∀ H l, I b H l → ExsW c n fr ts (H.set H₁.n .junk) l Q) (hy : fr.scope.names.lookup y = some .local) (hq : fr.q = true)
    (hs : ∀ env x, foldedSetIterable iter env x = pure x) (hg : ∀ it v, letOwnedTupleGo (.Name y npos) it v = pure ()) : ExsW c n fr (.For (.Name y npos) iter body [] pos :: ts) H l Q := by
  have e : ((((b : Int) - 0).toNat : Nat) : Int) = b := by lia
  have key : ∀ k j H l, j + k = b → I j H l → FoW c n fr (.Name y npos) body H₁.n H l (Then (fun H' l' => ExsW c n fr ts H' l' Q) Q) := by
    intro k
    induction k with
    | zero =>
      intro j H l hj hI'
      have e : j = b := hj
      subst e
      exact rg_stop (hI _ _ _ hI') (by lia) (stop _ _ hI') hq
    | succ k ih =>
      intro j H l hj hI'
      refine rg_go (hI _ _ _ hI') (by lia) hg ⟨_, _, as_name hy, (step j H l (by lia) hI').mono fun f H l h => ?_⟩
      cases f with
      | next => exact ih (j + 1) H l (by lia) h
      | ret v => exact h
      | brk => exact h
      | cont => exact h
  refine x_forr he hr (Int.le_refl _) (by lia) (by lia) (by lia) ?_ hs
  rw [e]
  exact key b 0 _ _ (Nat.zero_add _) start
end
section
variable {α : Rl → Nat} {σ : St} {H : Hp}
theorem Rep.set_tmp {pre post : List (Nat × O)} {a : Nat} {o : O} (R : Rep α { σ with tmp := pre ++ (a, o) :: post } H) (o' : O) : Rep α { σ with tmp := pre ++ (a, o') :: post } (H.set a o') := by
  have e : adr α { σ with tmp := pre ++ (a, o) :: post } (.tmp pre.length) = a := by show (((pre ++ (a, o) :: post)[pre.length]?).map (·.1)).getD 0 = a; simp
  have h := R.set (σ' := { σ with tmp := pre ++ (a, o') :: post }) (.tmp pre.length) (by show pre.length < (pre ++ (a, o) :: post).length; simp) (fun r h => by
    cases r
    case tmp k => have h : k < (pre ++ (a, o') :: post).length := h; show k < (pre ++ (a, o) :: post).length; simpa using h
    all_goals exact h) (fun r hr => by
    cases r
    case tmp k =>
      show (((pre ++ (a, o') :: post)[k]?).map (·.1)).getD 0 = (((pre ++ (a, o) :: post)[k]?).map (·.1)).getD 0
      rcases Nat.lt_trichotomy k pre.length with h | h | h
      · rw [List.getElem?_append_left h, List.getElem?_append_left h]
      · subst h; simp
      · obtain ⟨d, rfl⟩ : ∃ d, k = pre.length + (d + 1) := ⟨k - pre.length - 1, by lia⟩
        rw [List.getElem?_append_right (by lia), List.getElem?_append_right (by lia)]; simp
    all_goals rfl) (fun r hr hne => by
    cases r
    case tmp k =>
      show (((pre ++ (a, o') :: post)[k]?).map (·.2)).getD .junk = (((pre ++ (a, o) :: post)[k]?).map (·.2)).getD .junk
      rcases Nat.lt_trichotomy k pre.length with h | h | h
      · rw [List.getElem?_append_left h, List.getElem?_append_left h]
      · subst h; exact absurd rfl hne
      · obtain ⟨d, rfl⟩ : ∃ d, k = pre.length + (d + 1) := ⟨k - pre.length - 1, by lia⟩
        rw [List.getElem?_append_right (by lia), List.getElem?_append_right (by lia)]; simp
    all_goals rfl) (o := o') (by show o' = (((pre ++ (a, o') :: post)[pre.length]?).map (·.2)).getD .junk; simp)
  rw [e] at h
  exact h
theorem St.eta_tmp {t : List (Nat × O)} (h : σ.tmp = t) : { σ with tmp := t } = σ := by subst h; rfl
theorem Rep.tmp_at {pre post : List (Nat × O)} {a : Nat} {o : O} (R : Rep α σ H) (h : σ.tmp = pre ++ (a, o) :: post) : H.o a = o ∧ a < H.n := R.tmpAt (k := pre.length) (by rw [h]; simp)
theorem Rep.put1 {pre : List (Nat × O)} {a b : Nat} {x y : O} (R : Rep α σ H) (h : σ.tmp = pre ++ [(a, x), (b, y)]) (o' : O) : Rep α (σ.w_tmp (pre ++ [(a, o'), (b, y)])) (H.set a o') := by
  rw [← St.eta_tmp h] at R; exact R.set_tmp o'
theorem Rep.put2 {pre : List (Nat × O)} {a b : Nat} {x y : O} (R : Rep α σ H) (h : σ.tmp = pre ++ [(a, x), (b, y)]) (o' : O) : Rep α (σ.w_tmp (pre ++ [(a, x), (b, o')])) (H.set b o') := by
  rw [← St.eta_tmp h] at R
  have e : pre ++ [(a, x), (b, y)] = (pre ++ [(a, x)]) ++ (b, y) :: [] := by simp
  rw [e] at R
  have := R.set_tmp o'
  simpa using this
theorem Rep.put {pre : List (Nat × O)} {a : Nat} {x : O} (R : Rep α σ H) (h : σ.tmp = pre ++ [(a, x)]) (o' : O) : Rep α (σ.w_tmp (pre ++ [(a, o')])) (H.set a o') := by
  rw [← St.eta_tmp h] at R; exact R.set_tmp o'
theorem Rep.at1 {pre : List (Nat × O)} {a b : Nat} {x y : O} (R : Rep α σ H) (h : σ.tmp = pre ++ [(a, x), (b, y)]) : H.o a = x ∧ a < H.n := R.tmp_at h
theorem Rep.at2 {pre : List (Nat × O)} {a b : Nat} {x y : O} (R : Rep α σ H) (h : σ.tmp = pre ++ [(a, x), (b, y)]) : H.o b = y ∧ b < H.n := R.tmp_at (pre := pre ++ [(a, x)]) (post := []) (by rw [h]; simp)
theorem Rep.at0 {pre : List (Nat × O)} {a : Nat} {x : O} (R : Rep α σ H) (h : σ.tmp = pre ++ [(a, x)]) : H.o a = x ∧ a < H.n := R.tmp_at h
/-- temporaries left -/
theorem Rep.pop {pre post : List (Nat × O)} (R : Rep α σ H) (h : σ.tmp = pre ++ post) : Rep α (σ.w_tmp pre) H := by
  have g := R.forget pre.length
  rw [h, show (pre ++ post).take pre.length = pre by simp] at g
  exact g
theorem take_snoc {α : Type} {l : List α} {j : Nat} {x : α} (h : l[j]? = some x) : l.take (j + 1) = l.take j ++ [x] := by
  rw [List.take_add_one, h]; rfl
theorem Rep.tmp' (R : Rep α σ H) (o : O) : Rep α (σ.w_tmp (σ.tmp ++ [(H.n, o)])) (H.new o) := R.tmp o
theorem Inst.put {H : Hp} {i d : Nat} {C : Addr} {fs fs' : List (Str × V)} {name : Str} {v : V} (I : Inst H i C d fs) (hne : i ≠ d) (h : fput fs name v = fs') : Inst (H.set d (.attrs (fput fs name v))) i C d fs' :=
  ⟨by rw [Hp.set_old _ _ _ hne]; exact I.i, (Hp.set_here _ _ _).trans (by rw [h])⟩
end
end Mine
end

section
namespace Mine
section
variable {c : Cx} {n : Nat} {fr : FrS} {H H₁ H₂ H₃ : Hp} {l l₁ l₂ l₃ : Loc} {Q : Fl → Hp → Loc → Prop} {ts : List Stmt}
theorem x_tup2 {y z : Str} {yp zp tpos pos : Pos} {k₀ : Nat} {e : Expr} {u v : V} (h : Ev c n fr e H l (.tup [u, v]) H₁) (q : ExsW c n fr ts H₁ ((l.set y u).set z v) Q)
    (hy : fr.scope.names.lookup y = some .local) (hz : fr.scope.names.lookup z = some .local) (hq : fr.q = true)
    (h1 : ∀ env, swapsWithSole [.Tuple [.Name y yp, .Name z zp] k₀ tpos] e pos.line env = pure false) (h2 : ∀ x : Fx, swappedStores [.Tuple [.Name y yp, .Name z zp] k₀ tpos] e (x.env fr) = pure none) :
    ExsW c n fr (.Assign [.Tuple [.Name y yp, .Name z zp] k₀ tpos] e pos :: ts) H l Q := w_cons (w_tup h (asl_cons (as_name hy) (asl_cons (as_name hz) asl_nil)) q hq h1 h2)
end
/-! the heap's side, plainly -/
structure Hs where
  sg : Nat → Int
  wk : Nat → Int
  un : Nat → Int
  st : Nat → Str
  fl : Nat → List Lk
  dy : List Nat
noncomputable abbrev St.wH (σ : St) (h : Hs) (t : Nat → Nat) : St := { σ with sg := h.sg, wk := h.wk, un := h.un, st := h.st, fl := h.fl, dy := h.dy, tfa := t }
noncomputable def wayOk (s : Str) : Prop := s = "strong" ∨ s = "weak" ∨ s = "unowned"
noncomputable def dst (kd : Nat → Str) (h : Hs) (k : Lk) : Hs × List Lk :=
  if k.1 = "strong" then
    if 2 ≤ h.sg k.2 then ({ h with sg := upd h.sg k.2 (h.sg k.2 - 1) }, [])
    else if kd k.2 = "object" then ({ h with sg := upd h.sg k.2 0, st := upd h.st k.2 "dying", dy := h.dy ++ [k.2] }, [])
    else ({ h with sg := upd h.sg k.2 0, st := upd h.st k.2 "gone", fl := upd h.fl k.2 [] }, h.fl k.2)
  else if k.1 = "weak" then ({ h with wk := upd h.wk k.2 (h.wk k.2 - 1) }, [])
  else ({ h with un := upd h.un k.2 (h.un k.2 - 1) }, [])
structure Dpre (nt : Nat) (h : Hs) (k : Lk) : Prop where
  way : wayOk k.1
  lo : 1 ≤ k.2
  hi : k.2 ≤ nt
  live : k.1 = "strong" → h.st k.2 = "live" ∧ 1 ≤ h.sg k.2 ∧ h.dy.length ≤ 100 ∧ (h.fl k.2).length ≤ 100 ∧ ∀ p ∈ h.fl k.2, wayOk p.1 ∧ 1 ≤ p.2
/-- holds let go, one by one, first things first -/
inductive DR (nt : Nat) (kd : Nat → Str) : Hs → List Lk → Hs → Prop
  | nil (h : Hs) : DR nt kd h [] h
  | step {h h' : Hs} {k : Lk} {ks : List Lk} (p : Dpre nt h k) (b : ks.length ≤ 500) (d : DR nt kd (dst kd h k).1 ((dst kd h k).2 ++ ks) h') : DR nt kd h (k :: ks) h'
theorem weak_ne : ¬ (("weak" : Str) = "strong") := by decide +kernel
theorem unow_ne : ¬ (("unowned" : Str) = "strong") := by decide +kernel
theorem unow_nw : ¬ (("unowned" : Str) = "weak") := by decide +kernel
end Mine
end

section
namespace Mine
section
variable {c : Cx} {n : Nat} {fr : FrS} {H H₁ H₂ H₃ H₄ H₅ H₆ H₇ : Hp} {l l₁ l₂ l₃ : Loc} {Q : Fl → Hp → Loc → Prop} {ts : List Stmt}
theorem x_tup3 {y : Str} {yp p1 p2 tpos pos : Pos} {k₀ : Nat} {e o1 i1 o2 i2 : Expr} {u v w a1 b1 a2 b2 : V} (h : Ev c n fr e H l (.tup [u, v, w]) H₁)
    (ho1 : Ev c n fr o1 H₁ (l.set y u) a1 H₂) (hi1 : Ev c n fr i1 H₂ (l.set y u) b1 H₃) (hs1 : SetR c n fr a1 b1 v H₃ (l.set y u) H₄)
    (ho2 : Ev c n fr o2 H₄ (l.set y u) a2 H₅) (hi2 : Ev c n fr i2 H₅ (l.set y u) b2 H₆) (hs2 : SetR c n fr a2 b2 w H₆ (l.set y u) H₇) (q : ExsW c n fr ts H₇ (l.set y u) Q)
    (hy : fr.scope.names.lookup y = some .local) (hq : fr.q = true)
    (h1 : ∀ env, swapsWithSole [.Tuple [.Name y yp, .Subscript o1 i1 p1, .Subscript o2 i2 p2] k₀ tpos] e pos.line env = pure false) (h2 : ∀ x : Fx, swappedStores [.Tuple [.Name y yp, .Subscript o1 i1 p1, .Subscript o2 i2 p2] k₀ tpos] e (x.env fr) = pure none) :
    ExsW c n fr (.Assign [.Tuple [.Name y yp, .Subscript o1 i1 p1, .Subscript o2 i2 p2] k₀ tpos] e pos :: ts) H l Q :=
  w_cons (w_tup h (asl_cons (as_name hy) (asl_cons (as_sub ho1 hi1 hs1) (asl_cons (as_sub ho2 hi2 hs2) asl_nil))) q hq h1 h2)
theorem x_tup2s {y : Str} {yp p1 tpos pos : Pos} {k₀ : Nat} {e o1 i1 : Expr} {u v a1 b1 : V} (h : Ev c n fr e H l (.tup [u, v]) H₁)
    (ho1 : Ev c n fr o1 H₁ (l.set y u) a1 H₂) (hi1 : Ev c n fr i1 H₂ (l.set y u) b1 H₃) (hs1 : SetR c n fr a1 b1 v H₃ (l.set y u) H₄) (q : ExsW c n fr ts H₄ (l.set y u) Q)
    (hy : fr.scope.names.lookup y = some .local) (hq : fr.q = true)
    (h1 : ∀ env, swapsWithSole [.Tuple [.Name y yp, .Subscript o1 i1 p1] k₀ tpos] e pos.line env = pure false) (h2 : ∀ x : Fx, swappedStores [.Tuple [.Name y yp, .Subscript o1 i1 p1] k₀ tpos] e (x.env fr) = pure none) :
    ExsW c n fr (.Assign [.Tuple [.Name y yp, .Subscript o1 i1 p1] k₀ tpos] e pos :: ts) H l Q :=
  w_cons (w_tup h (asl_cons (as_name hy) (asl_cons (as_sub ho1 hi1 hs1) asl_nil)) q hq h1 h2)
/-- three items stored -/
theorem x_tup3s {p0 p1 p2 tpos pos : Pos} {k₀ : Nat} {e o0 i0 o1 i1 o2 i2 : Expr} {u v w a0 b0 a1 b1 a2 b2 : V} {G₂ G₃ G₄ : Hp} (h : Ev c n fr e H l (.tup [u, v, w]) H₁)
    (ho0 : Ev c n fr o0 H₁ l a0 G₂) (hi0 : Ev c n fr i0 G₂ l b0 G₃) (hs0 : SetR c n fr a0 b0 u G₃ l G₄)
    (ho1 : Ev c n fr o1 G₄ l a1 H₂) (hi1 : Ev c n fr i1 H₂ l b1 H₃) (hs1 : SetR c n fr a1 b1 v H₃ l H₄)
    (ho2 : Ev c n fr o2 H₄ l a2 H₅) (hi2 : Ev c n fr i2 H₅ l b2 H₆) (hs2 : SetR c n fr a2 b2 w H₆ l H₇) (q : ExsW c n fr ts H₇ l Q) (hq : fr.q = true)
    (h1 : ∀ env, swapsWithSole [.Tuple [.Subscript o0 i0 p0, .Subscript o1 i1 p1, .Subscript o2 i2 p2] k₀ tpos] e pos.line env = pure false) (h2 : ∀ x : Fx, swappedStores [.Tuple [.Subscript o0 i0 p0, .Subscript o1 i1 p1, .Subscript o2 i2 p2] k₀ tpos] e (x.env fr) = pure none) :
    ExsW c n fr (.Assign [.Tuple [.Subscript o0 i0 p0, .Subscript o1 i1 p1, .Subscript o2 i2 p2] k₀ tpos] e pos :: ts) H l Q :=
  w_cons (w_tup h (asl_cons (as_sub ho0 hi0 hs0) (asl_cons (as_sub ho1 hi1 hs1) (asl_cons (as_sub ho2 hi2 hs2) asl_nil))) q hq h1 h2)
end
/-! the book's side, plainly -/
noncomputable abbrev Hd := Option Nat
noncomputable def hv : Hd → V
  | none => .str "law"
  | some j => .int j
theorem hv_inj {a b : Hd} (h : hv a = hv b) : a = b := by
  cases a <;> cases b
  · rfl
  · cases h
  · cases h
  · rename_i i j
    have h : V.int (i : Int) = V.int j := h
    injection h with h
    rw [Int.ofNat_inj.mp h]
theorem hv_si (a : Hd) : si (hv a) = true := by cases a <;> rfl
structure Bs where
  hd : Nat → List Hd
  bw : Nat → Int
  bu : Nat → Int
  bs : Nat → Str
  rw : Nat → List Lk
  bd : List Nat
noncomputable abbrev St.wB (σ : St) (b : Bs) (r : Nat → Nat) : St := { σ with hd := fun g => (b.hd g).map hv, bw := b.bw, bu := b.bu, bs := b.bs, rw := b.rw, bd := b.bd, rla := r }
noncomputable def bst (bk : Nat → Str) (b : Bs) (hol : Hd) (k : Lk) : Bs × List Lk :=
  if k.1 = "strong" then
    if (b.hd k.2).erase hol ≠ [] then ({ b with hd := upd b.hd k.2 ((b.hd k.2).erase hol) }, [])
    else if bk k.2 = "object" then ({ b with hd := upd b.hd k.2 [], bs := upd b.bs k.2 "dying", bd := b.bd ++ [k.2] }, [])
    else ({ b with hd := upd b.hd k.2 [], bs := upd b.bs k.2 "gone", rw := upd b.rw k.2 [] }, b.rw k.2)
  else if k.1 = "weak" then ({ b with bw := upd b.bw k.2 (b.bw k.2 - 1) }, [])
  else ({ b with bu := upd b.bu k.2 (b.bu k.2 - 1) }, [])
structure Bpre (N : Nat) (b : Bs) (hol : Hd) (k : Lk) : Prop where
  way : wayOk k.1
  lo : 1 ≤ k.2
  hi : k.2 ≤ N
  live : k.1 = "strong" → hol ∈ b.hd k.2 ∧ (b.hd k.2).length ≤ 100 ∧ b.bd.length ≤ 100
inductive BR (N : Nat) (bk : Nat → Str) : Nat → Bs → List (Hd × Lk) → Bs → Prop
  | nil (b : Bs) : BR N bk 0 b [] b
  | step {m : Nat} {b b' : Bs} {hol : Hd} {k : Lk} {ks : List (Hd × Lk)} (p : Bpre N b hol k) (d : BR N bk m (bst bk b hol k).1 ((bst bk b hol k).2.map (fun l => (some k.2, l)) ++ ks) b') : BR N bk (m + 1) b ((hol, k) :: ks) b'
theorem BR.split {N : Nat} {bk : Nat → Str} {m : Nat} {b b' : Bs} {zs : List (Hd × Lk)} (d : BR N bk m b zs b') : ∀ {xs ys : List (Hd × Lk)}, zs = xs ++ ys → ∃ m1 m2 b1, m = m1 + m2 ∧ BR N bk m1 b xs b1 ∧ BR N bk m2 b1 ys b' := by
  induction d with
  | nil b =>
    intro xs ys e
    obtain ⟨rfl, rfl⟩ := List.append_eq_nil_iff.mp e.symm
    exact ⟨0, 0, b, rfl, .nil b, .nil b⟩
  | @step m b b' hol k ks p d ih =>
    intro xs ys e
    cases xs with
    | nil => rw [List.nil_append] at e; subst e; exact ⟨0, m + 1, b, (Nat.zero_add _).symm, .nil b, .step p d⟩
    | cons x xs =>
      rw [List.cons_append] at e
      injection e with e1 e2
      subst e1 e2
      obtain ⟨m1, m2, b1, h1, h2, h3⟩ := ih (xs := _ ++ xs) (List.append_assoc ..).symm
      exact ⟨m1 + 1, m2, b1, by lia, .step p h2, h3⟩
theorem St.wB_hd {σ : St} {b : Bs} {r : Nat → Nat} {g : Nat} (vs : List Hd) : (σ.wB b r).w_hd (upd (σ.wB b r).hd g (vs.map hv)) = σ.wB { b with hd := upd b.hd g vs } r := by
  have : upd (fun g => (b.hd g).map hv) g (vs.map hv) = fun i => (upd b.hd g vs i).map hv := (upd_map (fun l : List Hd => l.map hv) b.hd g vs).symm
  show St.w_hd (σ.wB b r) (upd (fun g => (b.hd g).map hv) g (vs.map hv)) = _
  rw [this]
end Mine
end

section
namespace Mine
/-! list comprehensions -/
section
variable {c : Cx} {n : Nat} {fr : FrS} {ω ω' : Wd} {H H₁ H₂ H₃ H₄ : Hp} {l l₁ l₂ l₃ : Loc} {x : Fx} {m : Str → Option Value} {s : Shared}
noncomputable abbrev cenv (scope : Scope) (clN : List (Str × Nat)) (ns : Nat) (x : Fx) (fr : FrS) (ω : Wd) : Env := compEnvC scope (clN.map fun p => (p.1, ω.ρ p.2)) (ω.ρ ns) (x.env fr)
/-- the block's namespace and cells are there -/
structure Kn (H : Hp) (clN : List (Str × Nat)) (ns : Nat) : Prop where
  ns : ns < H.n
  cl : ∀ p ∈ clN, p.2 < H.n
variable {scope : Scope} {clN : List (Str × Nat)} {ns : Nat}
theorem cenv_ext (e : Ext ω ω') (k : Kn H clN ns) (hn : H.n = ω.n) : cenv scope clN ns x fr ω' = cenv scope clN ns x fr ω := by
  have h1 : ω'.ρ ns = ω.ρ ns := e.ρ ns (hn ▸ k.ns)
  have h2 : (clN.map fun p => (p.1, ω'.ρ p.2)) = clN.map fun p => (p.1, ω.ρ p.2) := List.map_congr_left fun p hp => by rw [e.ρ p.2 (hn ▸ k.cl p hp)]
  unfold cenv; rw [h1, h2]
noncomputable def EvK (c : Cx) (n : Nat) (fr : FrS) (scope : Scope) (clN : List (Str × Nat)) (ns : Nat) (e : Expr) (H : Hp) (l : Loc) (v : V) (H' : Hp) : Prop :=
  ∀ x ω, At c n fr x ω (eval e (cenv scope clN ns x fr ω)) H l (fun ω r => RV ω v r) H' l
theorem Ok.nsp (k : Ok c n fr ω H l x m s) {i : Nat} {fs : Str → Option V} (hi : i < H.n) (h : H.o i = .ns fs) :
    ∃ ob m', (ω.ρ i, ob) ∈ ω.news ∧ ¬ Imm ob ∧ s.heap.Ns (ω.ρ i) m' ∧ ∀ y v, fs y = some v → ∃ r, m' y = some r ∧ RV ω v r := by
  obtain ⟨ob, h1, h2, h3⟩ := k.R.at_ i (k.R.n ▸ hi) (by rw [h]; intro q; cases q)
  rw [h] at h3
  obtain ⟨m', es, ep, g1, g2, g3, g4⟩ := h3
  exact ⟨ob, m', h1, h2, ⟨ob, es, ep, (k.N _ h1).1, g1, g2, g3⟩, g4⟩
theorem evk_local {y : Str} {pos : Pos} {v : V} {fs : Str → Option V} (hn : ns < H.n) (h : H.o ns = .ns fs) (hv : fs y = some v) (hx : scope.names.lookup y = some .local) (hk : scope.kind = .function) (hd : (y == ("__debug__" : Str)) = false) :
    EvK c n fr scope clN ns (.Name y pos) H l v H := by
  intro x ω m s Q E k ret
  obtain ⟨ob, m', _, _, hN, g⟩ := k.nsp hn h
  obtain ⟨r, e1, e2⟩ := g y v hv
  exact wpAny_Name (wpAny_loadName_local (env := cenv scope clN ns x fr ω) hk (lookup_relabel_local hx) hN e1 (ret r ω m s.heap s.toks k (Ext.refl _) e2)) hd
theorem lookup_clN {y : Str} {i : Nat} : ∀ {cl : List (Str × Nat)}, cl.lookup y = some i → (cl.map fun p => (p.1, ω.ρ p.2)).lookup y = some (ω.ρ i)
  | [], h => by cases h
  | (z, j) :: cl, h => by
    rw [List.lookup_cons] at h
    rw [List.map_cons, List.lookup_cons]
    cases q : (y == z)
    · rw [q] at h; exact lookup_clN h
    · rw [q] at h; cases h; rfl
theorem evk_cell {y : Str} {pos : Pos} {v : V} {i : Nat} (hi : clN.lookup y = some i) (hn : i < H.n) (h : H.o i = .cell (some v)) (hx : ∀ x ω, (cenv scope clN ns x fr ω).kindOf y = some .cell) (hk : scope.kind = .function) (hd : (y == ("__debug__" : Str)) = false) :
    EvK c n fr scope clN ns (.Name y pos) H l v H := by
  intro x ω m s Q E k ret
  obtain ⟨ob, h3, _, h5⟩ := k.R.at_ i (k.R.n ▸ hn) (by rw [h]; intro q; cases q)
  rw [h] at h5
  obtain ⟨r, h6, h7⟩ := h5
  exact wpAny_Name (wpAny_loadName_cell (env := cenv scope clN ns x fr ω) hk (hx x ω) (lookup_clN hi) ⟨ob, k.N.get h3, h6⟩ (ret r ω m s.heap s.toks k (Ext.refl _) h7)) hd
theorem evk_glob {y : Str} {pos : Pos} {a : Addr} (h : nsIn c.K mainGlobals y = some (some (.ref a))) (hx : ∀ x ω, (cenv scope clN ns x fr ω).kindOf y = some .globalImplicit) (hk : scope.kind = .function) (hd : (y == ("__debug__" : Str)) = false) :
    EvK c n fr scope clN ns (.Name y pos) H l (.st a) H := by
  intro x ω m s Q E k ret
  exact PySem.Calls.Name_function_global (env := cenv scope clN ns x fr ω) hk (hx x ω) (PySem.Calls.loadGlobal_global (env := cenv scope clN ns x fr ω) (k.tr.g.keeps k.F.keep) (mg_of k.X k.tr.g h) (ret _ ω m s.heap s.toks k (Ext.refl _) RV.st)) hd
theorem evk_int {i : Int} {k₀ : Nat} {pos : Pos} : EvK c n fr scope clN ns (.Constant (.int i) k₀ pos) H l (.int i) H :=
  fun x ω => At.now fun m s Q E k ret => wpAny_Constant_int (ret _ _ RV.iI)
theorem evk_mod {e₁ e₂ : Expr} {pos : Pos} {a b : Int} (K : Kn H clN ns) (h₁ : EvK c n fr scope clN ns e₁ H l (.int a) H) (h₂ : EvK c n fr scope clN ns e₂ H l (.int b) H) (hb : b ≠ 0) :
    EvK c n fr scope clN ns (.BinOp e₁ .Mod e₂ pos) H l (.int (a.fmod b)) H := by
  intro x ω m s Q E k ret
  refine wpAny_BinOp (h₁ x ω m s _ _ k fun ra ω₁ m₁ h tk k₁ x₁ r₁ => ?_)
  rw [← cenv_ext x₁ K k.R.n]
  exact h₂ x ω₁ m₁ _ _ _ k₁ fun rb ω₂ m₂ h' tk' k₂ x₂ r₂ => op_mod hb x ω₂ ra rb (r₁.mono x₂) r₂ m₂ _ _ _ k₂ fun rv ω₃ m₃ h'' tk'' k₃ x₃ r₃ => ret rv ω₃ m₃ h'' tk'' k₃ ((x₁.trans x₂).trans x₃) r₃
noncomputable def EasK (c : Cx) (n : Nat) (fr : FrS) (scope : Scope) (clN : List (Str × Nat)) (ns : Nat) (es : List Expr) (H : Hp) (l : Loc) (vs : List V) : Prop :=
  ∀ pos x ω, At c n fr x ω (spliced (backTo pos (starEach es (cenv scope clN ns x fr ω)))) H l (fun ω rs => RVs ω vs rs) H l
theorem eask_nil : EasK c n fr scope clN ns [] H l [] := by
  intro pos x ω m s Q E k ret
  exact args_nil (ret _ ω m s.heap s.toks k (Ext.refl _) .nil)
theorem eask_cons {e : Expr} {es : List Expr} {v : V} {vs : List V} (K : Kn H clN ns) (h : EvK c n fr scope clN ns e H l v H) (hs : EasK c n fr scope clN ns es H l vs) (he : ∀ env, starEach (e :: es) env = (false, eval e env) :: starEach es env) : EasK c n fr scope clN ns (e :: es) H l (v :: vs) := by
  intro pos x ω m s Q E k ret
  refine args_cons (h x ω m s _ _ k fun r ω₁ m₁ h' tk k₁ x₁ r₁ => ?_) (he _)
  rw [← cenv_ext x₁ K k.R.n]
  refine hs pos x ω₁ m₁ _ _ _ k₁ fun rs ω₂ m₂ h'' tk' k₂ x₂ r₂ => ?_
  exact ret _ ω₂ m₂ h'' tk' k₂ (x₁.trans x₂) (.cons (r₁.mono x₂) r₂)
theorem evk_call_st {fe e : Expr} {es : List Expr} {pos : Pos} {a : Addr} {vs : List V} {v : V} (K : Kn H clN ns) (hf : EvK c n fr scope clN ns fe H l (.st a) H) (ha : EasK c n fr scope clN ns (e :: es) H l vs) (hk : keepIn c.K (.ref a) = true)
    (hc : ∀ x ω rs, RVs ω vs rs → At c n fr x ω (call (.ref a) rs) H l (fun ω r => RV ω v r) H₁ l)
    (he : ∀ env, eval (.Call fe (e :: es) [] pos) env = (do callWith pos (← eval fe env) [] (backTo pos (starEach (e :: es) env)) (backToKw pos (keywordEach [] env))))
    (h1 : ∀ env, starEach (e :: es) env = (false, eval e env) :: starEach es env) (h2 : ∀ env, (backTo pos (starEach es env)).any (·.1) = false) :
    EvK c n fr scope clN ns (.Call fe (e :: es) [] pos) H l v H₁ :=
  fun x ω m s Q E k ret => Call_ (hf x ω m s _ _ k fun rf ω₁ m₁ h' tk k₁ x₁ r₁ => by
    unfold RV at r₁
    subst r₁
    rw [← cenv_ext x₁ K k.R.n]
    exact callWith_K k₁.X hk (ha pos x ω₁ m₁ _ _ _ k₁ fun rs ω₂ m₂ h'' tk' k₂ x₂ r₂ => ⟨k₂.X.keeps k₂.F.keep, hc x ω₂ rs r₂ m₂ _ _ _ k₂ fun rv ω₃ m₃ h₃ tk₃ k₃ x₃ r₃ => ret rv ω₃ m₃ h₃ tk₃ k₃ ((x₁.trans x₂).trans x₃) r₃⟩) (h1 _) (h2 _)) (he _)
/-! targets in the block -/
noncomputable def nset (fs : Str → Option V) (y : Str) (v : V) : Str → Option V := fun z => if z = y then some v else fs z
theorem notImm_dict' {ob : Obj} {es : Array DictEntry} {ep : Nat} (h : ob.data = .dict es ep) : ¬ Imm ob := fun q => by
  rcases q with ⟨_, q⟩ | ⟨_, _, q⟩ <;> rw [q] at h <;> cases h
theorem Ok.storeK (k : Ok c n fr ω H l x m s) {fs : Str → Option V} {y : Str} {v : V} {r : Value} (hn : ns < H.n) (h : H.o ns = .ns fs) (hr : RV ω v r) (hx : scope.names.lookup y = some .local) (hk : scope.kind = .function) {Q : Unit → Shared → Prop} {E : Value → Shared → Prop}
    {env : Env} (he : env = cenv scope clN ns x fr ω)
    (ret : ∀ ω' h' tk', Ok c n fr ω' (H.set ns (.ns (nset fs y v))) l x m (Sh s h' tk') → Ext ω ω' → Q () (Sh s h' tk')) : wpAny (model c.prog c.w) x.A (storeName env y r) Q E s := by
  subst he
  obtain ⟨ob, m', h1, h2, hN, g⟩ := k.nsp hn h
  refine wpAny_storeName_local (env := cenv scope clN ns x fr ω) (lookup_relabel_local hx) hN (fun h' hn' hs' => ?_) (by
    show ((relabel scope (x.env fr)).kind == .class || ((relabel scope (x.env fr)).kind == .module && _)) = false
    rw [show (relabel scope (x.env fr)).kind = .function from hk]; rfl)
  obtain ⟨ob', es, ep, e1, e2, e3, e4⟩ := hn'
  obtain ⟨k₁, x₁⟩ := k.put (ob := ob') (o := .ns (nset fs y v)) (tk := s.toks + 1) (k.R.n ▸ hn) (by rw [h]; intro q; cases q) h1 h2 (notImm_dict' e2) hs' e1 (by
    have X := Wd.put_ext k.N h1 h2 ob'
    refine ⟨_, es, ep, e2, e3, e4, fun z u hz => ?_⟩
    unfold nset at hz
    by_cases q : z = y
    · rw [if_pos q] at hz ⊢; cases hz; exact ⟨r, rfl, hr.mono X⟩
    · rw [if_neg q] at hz ⊢; obtain ⟨t, a, b⟩ := g z u hz; exact ⟨t, a, b.mono X⟩)
  exact ret _ h' (s.toks + 1) k₁ x₁
noncomputable def AsK (c : Cx) (n : Nat) (fr : FrS) (scope : Scope) (clN : List (Str × Nat)) (ns : Nat) (t : Expr) (v : V) (H : Hp) (l : Loc) (H' : Hp) : Prop :=
  ∀ x ω r, RV ω v r → At c n fr x ω (assign t (cenv scope clN ns x fr ω) r) H l (fun _ _ => True) H' l
theorem ask_name {y : Str} {pos : Pos} {v : V} {fs : Str → Option V} (hn : ns < H.n) (h : H.o ns = .ns fs) (hx : scope.names.lookup y = some .local) (hk : scope.kind = .function) : AsK c n fr scope clN ns (.Name y pos) v H l (H.set ns (.ns (nset fs y v))) :=
  fun x ω r hr m s Q E k ret => PyProof.Rows.assign_Name (k.storeK hn h hr hx hk rfl fun ω' h' tk' k' x' => ret () ω' m h' tk' k' x' trivial)
theorem ask_pair {y z : Str} {py pz tp : Pos} {k₀ : Nat} {u v : V} {fs : Str → Option V} (K : Kn H clN ns) (h : H.o ns = .ns fs) (hy : scope.names.lookup y = some .local) (hz : scope.names.lookup z = some .local) (hk : scope.kind = .function) (hq : fr.q = true) :
    AsK c n fr scope clN ns (.Tuple [.Name y py, .Name z pz] k₀ tp) (.tup [u, v]) H l ((H.set ns (.ns (nset fs y u))).set ns (.ns (nset (nset fs y u) z v))) :=
  fun x ω r hr m s Q E k ret => Ok.tup_e hr fun b items hm hit => by
    unfold RVs RVs RVs at hit
    obtain ⟨r1, _, rfl, g1, r2, _, rfl, g2, rfl⟩ := hit
    refine assign_Tuple_tuple (k.hh hq) (k.N.isTup hm) rfl rfl fun h' hx => ?_
    have k' : Ok c n fr ω H l x m (Sh s h' s.toks) := k.at_ (Ext.refl ω) (k.F.extBut hx (Nat.le_refl _)) (k.N.extBut hx (Nat.le_refl _)) k.R
    refine assignInOrder_cons (wpAny_assign_Name (k'.storeK K.ns h g1 hy hk rfl fun ω₁ h₁ tk₁ k₁ x₁ => ?_))
    refine assignInOrder_cons (wpAny_assign_Name (k₁.storeK (fs := nset fs y u) K.ns (Hp.set_here _ _ _) (g2.mono x₁) hz hk (cenv_ext x₁ K k.R.n).symm fun ω₂ h₂ tk₂ k₂ x₂ => ?_))
    exact assignInOrder_nil (ret () ω₂ m h₂ tk₂ k₂ (x₁.trans x₂) trivial)
end
end Mine
end

section
namespace Mine
section
variable {c : Cx} {n : Nat} {fr : FrS} {ω ω' : Wd} {H H₁ H₂ H₃ H₄ : Hp} {l l₁ l₂ l₃ : Loc} {x : Fx} {m : Str → Option Value} {s : Shared}
variable {scope : Scope} {clN : List (Str × Nat)} {ns : Nat}
theorem comp_step {s : Shared} {env : Env} {elt target iter : Expr} {pos : Pos} {it acc : Value} {R : Result → Shared → Prop} {prog : Program} {w : World} {A : Around}
    (turn : wpAny (model prog w) A (pyNext it) (fun r s₁ => match r with
      | none => R (.ok .next) s₁
      | some v => wpAny (model prog w) A (letOwnedTupleGo target it v) (fun _ s₁' => wpAny (model prog w) A (assign target env v) (fun _ s₂ => wpAny (model prog w) A (eval elt env) (fun y s₄ =>
          wpAny (model prog w) A (call (.builtin "list.append") [acc, y]) (fun _ s₅ => codeAny (model prog w) A (.compLoop (.ListComp elt [⟨target, iter, [], 0⟩] scope pos) 0 it acc env) R s₅) (notedBy (model prog w) A env fun e s' => R (.error e) s') s₄) (notedBy (model prog w) A env fun e s' => R (.error e) s') s₂)
          (notedBy (model prog w) A env fun e s' => R (.error e) s') s₁') (notedBy (model prog w) A env fun e s' => R (.error e) s') s₁) (notedBy (model prog w) A env fun e s' => R (.error e) s') s) :
    codeAny (model prog w) A (.compLoop (.ListComp elt [⟨target, iter, [], 0⟩] scope pos) 0 it acc env) R s := by
  refine codeAny_of_tree ?_
  show wpAny _ A ((compTurn (.ListComp elt [⟨target, iter, [], 0⟩] scope pos) 0 it acc env).onRaise (fun x => do noteFrame x env; theTreesLotGoes x)) _ _ s
  refine wpAny_noted ?_
  rw [compTurn_list1]
  refine wpAny_bind (wpAny_standAt (wpAny_bind (wpAny_mono turn (fun r s₁ h₁ => ?_) fun _ _ h' => h')))
  cases r with
  | none => exact wpAny_pure h₁
  | some v =>
    refine wpAny_bind (wpAny_mono h₁ (fun _ s₁' h₁' => ?_) fun _ _ h' => h')
    exact wpAny_bind (wpAny_mono h₁' (fun _ s₂ h₂ => wpAny_bind (wpAny_bind (wpAny_mono h₂ (fun y s₄ h₄ => wpAny_bind (wpAny_mono h₄
      (fun _ s₅ h₅ => wpAny_pure (wpAny_pure ⟨rfl, h₅⟩)) fun _ _ h' => h')) fun _ _ h' => h'))) fun _ _ h' => h')
/-- an iterator's next -/
noncomputable def Nx (c : Cx) (n : Nat) (fr : FrS) (target : Expr) (i : Nat) (o : Option V) (H : Hp) (l : Loc) (H' : Hp) : Prop :=
  ∀ x ω m s (Q : Option Value → Shared → Prop) (E : Value → Shared → Prop), Ok c n fr ω H l x m s →
    (∀ r ω' m' h' tk', Ok c n fr ω' H' l x m' (Sh s h' tk') → Ext ω ω' → (match o with | none => r = none | some v => ∃ rv, r = some rv ∧ RV ω' v rv ∧ ∀ (Q : Unit → Shared → Prop) (E : Value → Shared → Prop), Q () (Sh s h' tk') → wpAny (model c.prog c.w) x.A (letOwnedTupleGo target (.ref (ω.ρ i)) rv) Q E (Sh s h' tk')) → Q r (Sh s h' tk')) →
    wpAny (model c.prog c.w) x.A (pyNext (.ref (ω.ρ i))) Q E s
theorem nx_list {target : Expr} {i r j : Nat} {vs : List V} {v : V} (hn : i < H.n) (hi : H.o i = .iter r j) (hr : H.o r = .list vs) (hj : vs[j]? = some v) (ht : Tgt target) (hv : (∃ us, v = .tup us) ∨ ∀ it v, letOwnedTupleGo target it v = pure ()) :
    Nx c n fr target i (some v) H l (H.set i (.iter r (j + 1))) := by
  intro x ω m s Q E k ret
  obtain ⟨ob, items, e, h1, h2, h3, h4, h5, h6, h7, h8⟩ := k.iter (k.R.n ▸ hn) hi hr
  obtain ⟨rv, g1, g2⟩ := h5.get hj
  refine wpAny_pyNext_list_item h3 h4 (by simpa using g1) fun h' hit hs => ?_
  obtain ⟨ob', o1, o2, o3⟩ := id hit
  obtain ⟨k₁, x₁⟩ := k.put (o := .iter r (j + 1)) (tk := s.toks) (k.R.n ▸ hn) (by rw [hi]; intro q; cases q) h1 h2 (notImm_cls o2 (by decide) (by decide)) hs o1 ⟨h7, o2, o3⟩
  exact ret _ _ m h' s.toks k₁ x₁ ⟨rv, rfl, g2.mono x₁, fun Q E hQ => tgt_go (i := i) ht hv x (ω.put (ω.ρ i) ob') rv m (Sh s h' s.toks) Q E k₁ hit (g2.mono x₁) hQ⟩
theorem Ok.gone (k : Ok c n fr ω H l x m s) {i : Nat} {ob : Obj} {h' : Heap} {tk : Nat} (hn : i < H.n) (hj : H.o i ≠ .junk) (h1 : (ω.ρ i, ob) ∈ ω.news) (h2 : ¬ Imm ob) (hx : Heap.ExtBut (ω.ρ i) s.heap h') :
    Ok c n fr (ω.drop (ω.ρ i)) (H.set i .junk) l x m (Sh s h' tk) ∧ Ext ω (ω.drop (ω.ρ i)) := by
  have z := k.N _ h1
  have x₁ := Wd.drop_ext k.N h1 h2
  refine ⟨k.at_ x₁ ⟨k.F.ns.at' fun o e => hx _ _ (Ne.symm z.2.1) e, fun b o e => hx _ _ (fun q => by rw [q, z.2.2] at e; cases e) (k.F.keep b o e), k.F.above⟩ (fun p hp => ?_) (k.R.drop k.N (k.R.n ▸ hn) hj h1 h2), x₁⟩
  have z' := k.N _ (List.mem_filter.mp hp).1
  exact ⟨hx _ _ (of_decide_eq_true (List.mem_filter.mp hp).2) z'.1, z'.2⟩
theorem nx_list_end {target : Expr} {i r j : Nat} {vs : List V} (hn : i < H.n) (hi : H.o i = .iter r j) (hr : H.o r = .list vs) (hj : vs.length ≤ j) (hq : fr.q = true) : Nx c n fr target i none H l (H.set i .junk) := by
  intro x ω m s Q E k ret
  obtain ⟨ob, items, e, h1, h2, h3, h4, h5, h6, h7, h8⟩ := k.iter (k.R.n ▸ hn) hi hr
  refine wpAny_pyNext_list_end (k.hh hq) h3 h4 (by rw [Array.getElem?_eq_none]; rw [List.size_toArray]; lia) fun h' hx => ?_
  obtain ⟨k₁, x₁⟩ := k.gone (tk := s.toks) hn (by rw [hi]; intro q; cases q) h1 h2 hx
  exact ret _ _ m h' s.toks k₁ x₁ rfl
theorem Ok.titer (k : Ok c n fr ω H l x m s) {i j : Nat} {vs : List V} (hn : i < H.n) (hi : H.o i = .titer vs j) :
    ∃ ob b items, (ω.ρ i, ob) ∈ ω.news ∧ ¬ Imm ob ∧ IsTupIter s.heap (ω.ρ i) b j ∧ (b, tupObj items) ∈ ω.news ∧ RVs ω vs items := by
  obtain ⟨ob, h1, h2, h3⟩ := k.R.at_ i (k.R.n ▸ hn) (by rw [hi]; intro q; cases q)
  rw [hi] at h3
  obtain ⟨g1, b, items, g2, g3, g4⟩ := h3
  exact ⟨ob, b, items, h1, h2, ⟨ob, (k.N _ h1).1, g1, g2⟩, g3, g4⟩
theorem nx_tup {target : Expr} {i j : Nat} {vs : List V} {v : V} (hn : i < H.n) (hi : H.o i = .titer vs j) (hj : vs[j]? = some v) (hg : ∀ it v, letOwnedTupleGo target it v = pure ()) : Nx c n fr target i (some v) H l (H.set i (.titer vs (j + 1))) := by
  intro x ω m s Q E k ret
  obtain ⟨ob, b, items, h1, h2, h3, h4, h5⟩ := k.titer hn hi
  obtain ⟨rv, g1, g2⟩ := h5.get hj
  refine next_tuple_item h3 (k.N.isTup h4) (by simpa using g1) fun h' hit hs => ?_
  obtain ⟨ob', o1, o2, o3⟩ := id hit
  obtain ⟨k₁, x₁⟩ := k.put (o := .titer vs (j + 1)) (tk := s.toks) (k.R.n ▸ hn) (by rw [hi]; intro q; cases q) h1 h2 (notImm_cls o2 (by decide) (by decide)) hs o1 ⟨o2, b, items, o3, (Wd.put_ext k.N h1 h2 ob').imm _ h4 (.inl ⟨_, rfl⟩), h5.mono (Wd.put_ext k.N h1 h2 ob')⟩
  exact ret _ _ m h' s.toks k₁ x₁ ⟨rv, rfl, g2.mono x₁, fun Q E hQ => by rw [hg]; exact wpAny_pure hQ⟩
theorem nx_tup_end {target : Expr} {i j : Nat} {vs : List V} (hn : i < H.n) (hi : H.o i = .titer vs j) (hj : vs.length ≤ j) (hq : fr.q = true) : Nx c n fr target i none H l (H.set i .junk) := by
  intro x ω m s Q E k ret
  obtain ⟨ob, b, items, h1, h2, h3, h4, h5⟩ := k.titer hn hi
  refine next_tuple_end (k.hh hq) h3 (k.N.isTup h4) (by have := h5.len; rw [Array.getElem?_eq_none]; rw [List.size_toArray]; lia) fun h' hx => ?_
  obtain ⟨k₁, x₁⟩ := k.gone (tk := s.toks) hn (by rw [hi]; intro q; cases q) h1 h2 hx
  exact ret _ _ m h' s.toks k₁ x₁ rfl
/-- the block's loop -/
noncomputable def Cl (c : Cx) (n : Nat) (fr : FrS) (scope : Scope) (clN : List (Str × Nat)) (ns : Nat) (elt target iter : Expr) (pos : Pos) (it acc : Nat) (H : Hp) (l : Loc) (H' : Hp) : Prop :=
  ∀ x ω m s (R : Result → Shared → Prop), Ok c n fr ω H l x m s → (∀ ω' m' h' tk', Ok c n fr ω' H' l x m' (Sh s h' tk') → Ext ω ω' → R (.ok .next) (Sh s h' tk')) →
    codeAny (model c.prog c.w) x.A (.compLoop (.ListComp elt [⟨target, iter, [], 0⟩] scope pos) 0 (.ref (ω.ρ it)) (.ref (ω.ρ acc)) (cenv scope clN ns x fr ω)) R s
variable {elt target iter : Expr} {pos : Pos} {it acc : Nat}
theorem cl_end (h : Nx c n fr target it none H l H₁) : Cl c n fr scope clN ns elt target iter pos it acc H l H₁ :=
  fun x ω m s R k ret => comp_step (h x ω m s _ _ k fun r ω' m' h' tk' k' x' e => by subst e; exact ret ω' m' h' tk' k' x')
theorem cl_turn {v u : V} {ys : List V} (K : Kn H clN ns) (hit : it < H.n) (hacc : acc < H.n) (h : Nx c n fr target it (some v) H l H₁) (ha : AsK c n fr scope clN ns target v H₁ l H₂) (he : EvK c n fr scope clN ns elt H₂ l u H₃)
    (hl : H₃.o acc = .list ys) (hz : ys.length ≤ 1000) (hr : Cl c n fr scope clN ns elt target iter pos it acc (H₃.set acc (.list (ys ++ [u]))) l H₄) : Cl c n fr scope clN ns elt target iter pos it acc H l H₄ :=
  fun x ω m s R k ret => comp_step (h x ω m s _ _ k fun r ω₁ m₁ h₁ tk₁ k₁ x₁ e => by
    obtain ⟨rv, rfl, hv, hgo⟩ := e
    have nn := k.R.n
    refine hgo _ _ ?_
    rw [← cenv_ext x₁ K nn]
    refine ha x ω₁ rv hv m₁ _ _ _ k₁ fun _ ω₂ m₂ h₂ tk₂ k₂ x₂ _ => ?_
    rw [cenv_ext x₁ K nn, ← cenv_ext (x₁.trans x₂) K nn]
    refine he x ω₂ m₂ _ _ _ k₂ fun ru ω₃ m₃ h₃ tk₃ k₃ x₃ hu => ?_
    have X := (x₁.trans x₂).trans x₃
    rw [cenv_ext (x₁.trans x₂) K nn, ← X.ρ acc (nn ▸ hacc)]
    refine bi_append hl hz x ω₃ _ _ (RV.objI (Nat.lt_of_lt_of_le (nn ▸ hacc) X.le)) hu m₃ _ _ _ k₃ fun _ ω₄ m₄ h₄ tk₄ k₄ x₄ _ => ?_
    have Y := X.trans x₄
    have := hr x ω₄ m₄ _ R k₄ fun ω₅ m₅ h₅ tk₅ k₅ x₅ => ret ω₅ m₅ h₅ tk₅ k₅ (Y.trans x₅)
    rw [cenv_ext Y K nn, Y.ρ it (nn ▸ hit), Y.ρ acc (nn ▸ hacc)] at this
    rw [X.ρ acc (nn ▸ hacc)]
    exact this)
/-- an iterator made -/
noncomputable abbrev It (c : Cx) (n : Nat) (fr : FrS) (v : V) (H : Hp) (l : Loc) (i : Nat) (H' : Hp) : Prop := ∀ x ω r, RV ω v r → At c n fr x ω (pyIter r) H l (fun ω a => RV ω (.obj i) a) H' l
theorem it_list {r : Nat} {vs : List V} (hr : H.o r = .list vs) : It c n fr (.obj r) H l H.n (H.new (.iter r 0)) := by
  intro x ω rv h1 m s Q E k ret
  refine k.lst_e hr h1 fun items e hn hm hit hl => ?_
  refine wpAny_pyIter_list (k.N.isList hm) ?_
  obtain ⟨k₂, x₂, r₂⟩ := k.add (o := .iter r 0) (tk := s.toks) (k.F.push { cls := .type "list_iterator", data := .fields #[.ref (ω.ρ r), .int 0 0] }) (News.push k.F k.N { cls := .type "list_iterator", data := .fields #[.ref (ω.ρ r), .int 0 0] }) (fun p hp => Heap.lt_size (k.N p hp).1) (notImm_cls rfl (by decide) (by decide))
      ⟨Nat.lt_succ_of_lt hn, rfl, by rw [Wd.add_old _ _ _ (Nat.ne_of_lt hn)]; rfl⟩
  exact ret _ _ m _ s.toks k₂ x₂ r₂
theorem it_tup {vs : List V} : It c n fr (.tup vs) H l H.n (H.new (.titer vs 0)) := by
  intro x ω rv h1 m s Q E k ret
  refine Ok.tup_e h1 fun b items hm hit => ?_
  refine iter_tuple (k.N.isTup hm) ?_
  obtain ⟨k₂, x₂, r₂⟩ := k.add (o := .titer vs 0) (tk := s.toks) (k.F.push { cls := .type "tuple_iterator", data := .fields #[.ref b, .int 0 0] }) (News.push k.F k.N { cls := .type "tuple_iterator", data := .fields #[.ref b, .int 0 0] }) (fun p hp => Heap.lt_size (k.N p hp).1) (notImm_cls rfl (by decide) (by decide))
      ⟨rfl, b, items, rfl, .tail _ hm, hit.mono (Wd.add_ext ..)⟩
  exact ret _ _ m _ s.toks k₂ x₂ r₂
/-- an iterator is its own -/
noncomputable def Slf (c : Cx) (n : Nat) (fr : FrS) (i : Nat) (H : Hp) (l : Loc) : Prop := ∀ x ω m s (Q : Value → Shared → Prop) (E : Value → Shared → Prop), Ok c n fr ω H l x m s → Q (.ref (ω.ρ i)) s → wpAny (model c.prog c.w) x.A (pyIter (.ref (ω.ρ i))) Q E s
theorem slf_list {i r j : Nat} {vs : List V} (hn : i < H.n) (hi : H.o i = .iter r j) (hr : H.o r = .list vs) : Slf c n fr i H l := by
  intro x ω m s Q E k hQ
  obtain ⟨ob, items, e, h1, h2, h3, _⟩ := k.iter (k.R.n ▸ hn) hi hr
  exact wpAny_pyIter_listiter h3 hQ
theorem slf_tup {i j : Nat} {vs : List V} (hn : i < H.n) (hi : H.o i = .titer vs j) : Slf c n fr i H l := by
  intro x ω m s Q E k hQ
  obtain ⟨ob, b, items, h1, h2, h3, _⟩ := k.titer hn hi
  exact wpAny_pyIter_tupleiter h3 hQ
theorem ev_comp {v : V} {fs : Str → Option V} (he : Ev c n fr iter H l v H₁) (hi : It c n fr v H₁ l it H₂) (hself : Slf c n fr it ((H₂.new (.list [])).new (.ns fun _ => none)) l) (hit : it < H₂.n) (hK : ∀ p ∈ clN, p.2 < H.n)
    (hloop : Cl c n fr scope clN (H₂.n + 1) elt target iter pos it H₂.n ((H₂.new (.list [])).new (.ns fun _ => none)) l H₃) (hns : H₃.o (H₂.n + 1) = .ns fs) (hlt : H₂.n + 1 < H₃.n)
    (hcl : ∀ (x : Fx) (ω : Wd), (∀ y i, (y, i) ∈ fr.cells → i < ω.n ∧ x.cl.lookup y = some (ω.ρ i)) → closureFor scope (x.env fr) = pure (clN.map fun p => (p.1, ω.ρ p.2)))
    (hcell : ∀ y ∈ scope.names, y.2 ≠ .cell) (hkind : scope.kind = .function) (hnames : ∀ y ∈ scope.names, y.2 = .local → scope.names.lookup y.1 = some .local)
    (hs : ∀ env x, foldedSetIterable iter env x = pure x) : Ev c n fr (.ListComp elt [⟨target, iter, [], 0⟩] scope pos) H l (.obj H₂.n) (H₃.set (H₂.n + 1) .junk) := by
  intro x ω m s Q E k ret
  rw [eval_ListComp]
  refine wpAny_comprehension_free (use := none) rfl (hs _) (hcl x ω k.cl) hkind hnames (he x ω m s _ _ k fun rv ω₁ m₁ h₁ tk₁ k₁ x₁ r₁ => hi x ω₁ rv r₁ m₁ _ _ _ k₁ fun ri ω₂ m₂ h₂ tk₂ k₂ x₂ r₂ => ?_)
  have n2 := k₂.R.n
  unfold RV at r₂
  obtain ⟨ri1, rfl⟩ := r₂
  refine newList_K k₂.F k₂.N (fun a h₃ F N lt => ?_) (Nat.zero_le _)
  obtain ⟨k₃, x₃, r₃⟩ := k₂.add (o := .list []) (tk := tk₂) F N lt notImm_list ⟨[], 0, rfl, .nil⟩
  have n3 := k₃.R.n
  unfold RV at r₃
  obtain ⟨ra1, ra⟩ := r₃
  refine wpAny_newFunctionEnv (binds := []) hcell (fun y hy => by cases hy) (fun h₄ hn₄ hs₄ => ?_) hkind
  have keep : ∀ b o, h₃.get? b = some o → h₄.get? b = some o := fun b o e => hs₄.extBut b o (Nat.ne_of_lt (Heap.lt_size e)) (Heap.get?_push_of_some _ e)
  obtain ⟨ob, es, ep, e1, e2, e3, e4⟩ := hn₄
  have lt₃ : ∀ p ∈ (ω₂.add a (W.listOf (List.toArray []) 0)).news, p.1 < h₃.objs.size := fun p hp => Heap.lt_size (k₃.N p hp).1
  have N₄ : News x.h₀ x.L h₄ ((h₃.objs.size, ob) :: (ω₂.add a (W.listOf (List.toArray []) 0)).news) := fun p hp => by
    rcases List.mem_cons.mp hp with rfl | hp
    · exact ⟨e1, Ne.symm (Nat.ne_of_lt k₃.F.ns.lt), next_is_new k₃.F⟩
    · exact ⟨keep _ _ (k₃.N p hp).1, (k₃.N p hp).2⟩
  obtain ⟨k₄, x₄, r₄⟩ := k₃.add (a := h₃.objs.size) (ob := ob) (o := .ns fun _ => none) (tk := tk₂ + 0) (k₃.F.keeps keep) N₄ lt₃ (notImm_dict' e2) ⟨_, es, ep, e2, e3, e4, fun y v h => by cases h⟩
  unfold RV at r₄
  obtain ⟨rb1, rb⟩ := r₄
  injection ra with ra
  injection rb with rb
  have n0 := k.R.n
  generalize (ω₂.add a (W.listOf (List.toArray []) 0)).add h₃.objs.size ob = ω₄ at k₄ x₄ rb1 rb
  generalize ω₂.add a (W.listOf (List.toArray []) 0) = ω₃ at *
  have X := ((x₁.trans x₂).trans x₃).trans x₄
  have hac : a = ω₄.ρ H₂.n := by rw [x₄.ρ H₂.n ra1]; exact ra
  have hitr : ω₂.ρ it = ω₄.ρ it := by rw [x₄.ρ it (Nat.lt_of_lt_of_le ri1 x₃.le), x₃.ρ it ri1]
  have hcle : (clN.map fun p => (p.1, ω.ρ p.2)) = clN.map fun p => (p.1, ω₄.ρ p.2) := List.map_congr_left fun p hp => by rw [X.ρ p.2 (n0 ▸ hK p hp)]
  rw [hcle]
  have loop := hloop x ω₄ m₂ _ (compPost (model c.prog c.w) x.A E none Q (.ref a) h₃.objs.size) k₄ fun ω₅ m₅ h₅ tk₅ k₅ x₅ => by
    obtain ⟨ob₅, m', g1, g2, g3, _⟩ := k₅.nsp hlt hns
    have ens : ω₅.ρ (H₂.n + 1) = h₃.objs.size := by rw [x₅.ρ (H₂.n + 1) rb1]; exact rb.symm
    rw [ens] at g3
    refine ⟨m', g3, fun h' hs' => ?_⟩
    obtain ⟨k₆, x₆⟩ := k₅.gone (tk := tk₅) hlt (by rw [hns]; intro q; cases q) g1 g2 (by rw [ens]; exact hs'.extBut)
    refine ret (.ref a) _ m₅ h' tk₅ k₆ ((X.trans x₅).trans x₆) ?_
    unfold RV
    have la : H₂.n < ω₄.n := Nat.lt_of_lt_of_le ra1 x₄.le
    exact ⟨Nat.lt_of_lt_of_le la (x₅.trans x₆).le, by rw [(x₅.trans x₆).ρ H₂.n la, ← hac]⟩
  have e₄ : cenv scope clN (H₂.n + 1) x fr ω₄ = compEnvC scope (clN.map fun p => (p.1, ω₄.ρ p.2)) h₃.objs.size (x.env fr) := by
    unfold cenv; rw [rb]; rfl
  rw [← hac, ← hitr, e₄] at loop
  refine codeAny_compStart_list loop ?_
  have := hself x ω₄ m₂ _ (fun it' s' => codeAny (model c.prog c.w) x.A (.compLoop (.ListComp elt [⟨target, iter, [], 0⟩] scope pos) 0 it' (.ref a) (compEnvC scope (clN.map fun p => (p.1, ω₄.ρ p.2)) h₃.objs.size (x.env fr))) (compPost (model c.prog c.w) x.A E none Q (.ref a) h₃.objs.size) s')
    (notedBy (model c.prog c.w) x.A (compEnvC scope (clN.map fun p => (p.1, ω₄.ρ p.2)) h₃.objs.size (x.env fr)) fun x_1 s' => compPost (model c.prog c.w) x.A E none Q (.ref a) h₃.objs.size (.error x_1) s') k₄ (by rw [← hitr]; exact loop)
  rw [← hitr] at this
  exact this
end
end Mine
end

section
namespace Mine
section
variable {c : Cx} {n : Nat} {fr : FrS} {ω ω' : Wd} {H H₁ H₂ H₃ H₄ : Hp} {l l₁ l₂ l₃ : Loc} {x : Fx} {m : Str → Option Value} {s : Shared}
/-! a def with one cell -/
theorem bindL_at {k : Str → Option NameKind} {z : Str} : ∀ (binds : List (Str × Value)) (m : Str → Option Value), bindL k binds m z = if k z = some .local then (binds.reverse.lookup z).or (m z) else m z
  | [], m => by simp [bindL]
  | (y, v) :: r, m => by
    show bindL k r (if k y = some .local then fun z => if z = y then some v else m z else m) z = _
    rw [bindL_at r]
    by_cases hz : k z = some .local
    · rw [if_pos hz, if_pos hz, List.reverse_cons, List.lookup_append]
      by_cases e : z = y
      · subst e
        rw [if_pos hz]; simp
      · have eb : (z == y) = false := beq_eq_false_iff_ne.mpr e
        by_cases hy : k y = some .local
        · rw [if_pos hy]; simp [e, eb, List.lookup_cons]
        · rw [if_neg hy]; simp [eb, List.lookup_cons]
    · rw [if_neg hz, if_neg hz]
      by_cases hy : k y = some .local
      · rw [if_pos hy]
        have e : z ≠ y := fun e => hz (e ▸ hy)
        simp [e]
      · rw [if_neg hy]
theorem bindC_at {k : Str → Option NameKind} {z : Str} : ∀ (binds : List (Str × Value)) (m : Str → Option Value), k z ≠ some .local → bindC k binds m z = (binds.reverse.lookup z).or (m z)
  | [], m, _ => by simp [bindC]
  | (y, v) :: r, m, hz => by
    show bindC k r (if k y = some .local then m else fun z => if z = y then some v else m z) z = _
    rw [bindC_at r _ hz, List.reverse_cons, List.lookup_append]
    by_cases e : z = y
    · subst e
      rw [if_neg hz]; simp
    · have eb : (z == y) = false := beq_eq_false_iff_ne.mpr e
      by_cases hy : k y = some .local
      · rw [if_pos hy]; simp [eb, List.lookup_cons]
      · rw [if_neg hy]; simp [e, eb, List.lookup_cons]
theorem lookup_fst {β γ : Type} {y : Str} : ∀ {l : List (Str × β)} {l' : List (Str × γ)}, l.map (·.1) = l'.map (·.1) → l.lookup y = none → l'.lookup y = none
  | [], [], _, _ => rfl
  | [], _ :: _, h, _ => by cases h
  | _ :: _, [], h, _ => by cases h
  | (a, u) :: l, (b, v) :: l', h, e => by
    injection h with h1 h2
    have h1 : a = b := h1
    subst h1
    rw [List.lookup_cons] at e ⊢
    cases q : (y == a)
    · rw [q] at e; exact lookup_fst h2 e
    · rw [q] at e; cases e
structure DefAtC (K : Frag) (a : Addr) (params : Arguments) (body : List Stmt) (fr : FrS) (names : List Str) (y : Str) : Prop where
  at_ : ∃ oc od name dV kV doc pm an ct osl, K.lookup a = some ⟨oc, od, .func (fnOf name fr.qual params body fr.scope dV kV doc pm an fr.cdv ct), osl⟩ ∧
    ∀ rs, rs.length = names.length → bindArgs (fnOf name fr.qual params body fr.scope dV kV doc pm an fr.cdv ct) ⟨rs, []⟩ = pure (names.zip rs)
  f : fr.f = a
  q : fr.q = true
  cd : codeIn K fr.cdv fr.qual = true
  loc : ∀ z ∈ names, fr.scope.names.lookup z = some .local ∨ fr.scope.names.lookup z = some .cell
  co : fr.scope.isCoroutine = false
  gen : fr.scope.isGenerator = false
  kind : fr.scope.kind = .function
  cf : ∀ L, cellsFrom (L + 1) fr.scope.names [] = [(y, L + 1)]
  cy : fr.scope.names.lookup y = some .cell
  nd : ((cellsFrom 0 fr.scope.names []).map (·.1)).Nodup
  top : fr.top = false
/-- the parameters that are plain locals -/
noncomputable def bindVL (fr : FrS) (names : List Str) (vs : List V) : Loc := fun z => if fr.scope.names.lookup z = some .local then bindV names vs z else none
theorem fn_defC {a : Addr} {params : Arguments} {body : List Stmt} {fr' : FrS} {names : List Str} {y : Str} {vs : List V} {f : Fl} (D : DefAtC c.K a params body fr' names y) (hl : vs.length = names.length) (hcs : fr'.cells = [(y, H.n)])
    (h : Exs c n fr' body (H.new (.cell (bindV names vs y))) (bindVL fr' names vs) f H₁ l₁) : Fn c (n + 1) a vs H f.val H₁ := by
  intro fr l x ω rs m s R hq k hrs ret
  obtain ⟨oc, od, name, dV, kV, doc, pm, an, ct, osl, hK, hb⟩ := D.at_
  have hb := hb rs (hrs.len.trans hl)
  have ef := D.f
  subst ef
  refine code_defC k.B k.F k.X k.N k.T k.hfr rfl k.fk hK D.cd (by have := k.hd; lia) (BindsTo.of_eq hb) (List.all_eq_true.mpr fun p hp => by
    rcases D.loc _ (List.of_mem_zip (a := p.1) (b := p.2) hp).1 with e | e <;> rw [e] <;> rfl) D.nd (fun g L' h₁ tk cells FG F N CA B X T lt => ?_) D.co D.gen D.kind
  rw [D.cf L'] at CA
  obtain ⟨oc₁, rfl, hcd⟩ := CA.one
  rw [List.singleton_append] at N
  have hnl : (envOfC fr'.qual fr'.scope L' fr'.f fr'.cdv).kindOf y ≠ some .local := by
    show fr'.scope.names.lookup y ≠ _
    rw [D.cy]; intro e; cases e
  rw [bindC_at _ _ hnl] at hcd
  have hni : ¬ Imm oc₁ := fun q => by rcases q with ⟨_, q⟩ | ⟨_, _, q⟩ <;> rw [q] at hcd <;> cases hcd
  have e₁ := ω.add_ext (L' + 1) oc₁
  have R1 : Rel c (ω.add (L' + 1) oc₁) (H.new (.cell (bindV names vs y))) := k.R.add (fun p hp => Nat.lt_succ_of_lt (lt p hp)) hni (by
    cases hb' : bindV names vs y with
    | none =>
      show oc₁.data = .cell none
      rw [hcd]
      have : (names.zip rs).reverse.lookup y = none := lookup_fst (by
        rw [List.map_reverse, List.map_reverse, List.map_fst_zip (Nat.le_of_eq hl.symm), List.map_fst_zip (Nat.le_of_eq (hrs.len.trans hl).symm)]) hb'
      rw [this]; rfl
    | some v =>
      obtain ⟨r, g1, g2⟩ := bindV_ok (ω := ω) hrs hb'
      show ∃ r, oc₁.data = .cell (some r) ∧ RV _ v r
      exact ⟨r, by rw [hcd, g1]; rfl, g2.mono e₁⟩)
  have k₁ : Ok c n fr' (ω.add (L' + 1) oc₁) (H.new (.cell (bindV names vs y))) (bindVL fr' names vs) { A := x.A.deeper (envX fr'.qual fr'.scope L' fr'.f fr'.cdv [(y, L' + 1)]), A₀ := x.A, base := x.base, h₀ := g, outer := x.env fr :: x.outer, cl := [(y, L' + 1)], L := L' }
      (bindL (envOfC fr'.qual fr'.scope L' fr'.f fr'.cdv).kindOf (names.zip rs) fun _ => none) (Sh s h₁ tk) :=
    ⟨B, X, T, D.kind, fun _ => k.hh hq, fun e => absurd (D.top.symm.trans e) (by decide), by show x.A.frames.map _ = _; rw [k.hfr]; rfl, by have := k.hd; show x.A.depth + 1 + 4 * n + 4 < _; lia, by have := k.hu; show x.A.units + 3 + 16 * n + 16 < _; lia, F, N, R1, (fun z v e => by
      unfold bindVL at e
      by_cases q : fr'.scope.names.lookup z = some .local
      · rw [if_pos q] at e
        obtain ⟨r, g1, g2⟩ := bindV_ok (ω := ω) hrs e
        refine ⟨r, ?_, g2.mono e₁⟩
        rw [bindL_at, if_pos (by exact q), g1]; rfl
      · rw [if_neg q] at e; cases e), (fun z i hz => by
      rw [hcs] at hz
      have e := List.mem_singleton.mp hz
      injection e with e1 e2
      rw [e1, e2]
      have nn := k.R.n
      refine ⟨by show H.n < ω.n + 1; lia, ?_⟩
      show List.lookup y [(y, L' + 1)] = some ((ω.add (L' + 1) oc₁).ρ H.n)
      rw [nn, Wd.add_here]; simp)⟩
  have ee : envOfC fr'.qual fr'.scope L' fr'.f fr'.cdv = envX fr'.qual fr'.scope L' fr'.f fr'.cdv [(y, L' + 1)] := by unfold envOfC; rw [D.cf L']
  rw [ee]
  rw [ee] at k₁
  refine h _ _ _ _ _ _ k₁ fun rf ω₁ m₁ h' tk' k₂ x₂ r₂ => ?_
  exact leaveK_ k₂.F k₂.N fun F' N' => ret (flowV rf) ω₁ h' tk' (k.at_ (e₁.trans x₂) F' N' k₂.R) (e₁.trans x₂) r₂.val
end
end Mine
end

section
namespace Mine
section
variable {c : Cx} {n : Nat} {fr : FrS} {H H₁ H₂ H₃ H₄ : Hp} {l l₁ l₂ l₃ : Loc} {Q : Fl → Hp → Loc → Prop} {ts : List Stmt} {scope : Scope} {clN : List (Str × Nat)}
/-- an if, its test's outcome found on the way -/
theorem x_if_w {t : Expr} {a b : List Stmt} {pos : Pos} (h : ∃ r H₁, Te c n fr t H l r H₁ ∧ ExsW c n fr (if r then a else b) H₁ l (Then (fun H' l' => ExsW c n fr ts H' l' Q) Q)) : ExsW c n fr (.If t a b pos :: ts) H l Q :=
  let ⟨_, _, h1, h2⟩ := h
  w_cons (w_if h1 h2)
theorem comp_pair {elt iter : Expr} {y z : Str} {py pz tp pos : Pos} {k₀ r : Nat} {vs us : List V} (he : Ev c n fr iter H l (.obj r) H₁) (hr : H₁.o r = .list vs) (hrl : r < H₁.n) (hle : H.n ≤ H₁.n) (hlen : us.length = vs.length) (hz : vs.length ≤ 500) (hp : ∀ v ∈ vs, ∃ a b, v = .tup [a, b])
    (helt : ∀ (j : Nat) a b u (H₂ : Hp) fs, vs[j]? = some (.tup [a, b]) → us[j]? = some u → Grew H₁ H₂ → Kn H₂ clN (H₁.n + 2) → H₂.o (H₁.n + 2) = .ns fs → fs y = some a → fs z = some b → ∃ H₃, EvK c n fr scope clN (H₁.n + 2) elt H₂ l u H₃ ∧ Grew H₂ H₃)
    (hK : ∀ p ∈ clN, p.2 < H.n) (hyz : y ≠ z)
    (hcl : ∀ (x : Fx) (ω : Wd), (∀ y i, (y, i) ∈ fr.cells → i < ω.n ∧ x.cl.lookup y = some (ω.ρ i)) → closureFor scope (x.env fr) = pure (clN.map fun p => (p.1, ω.ρ p.2)))
    (hcell : ∀ y ∈ scope.names, y.2 ≠ .cell) (hkind : scope.kind = .function) (hnames : ∀ y ∈ scope.names, y.2 = .local → scope.names.lookup y.1 = some .local) (hy : scope.names.lookup y = some .local) (hzl : scope.names.lookup z = some .local) (hq : fr.q = true)
    (hs : ∀ env x, foldedSetIterable iter env x = pure x) :
    ∃ D H', Ev c n fr (.ListComp elt [⟨.Tuple [.Name y py, .Name z pz] k₀ tp, iter, [], 0⟩] scope pos) H l (.obj D) H' ∧ H'.o D = .list us ∧ Grew H₁ H' ∧ H₁.n ≤ D ∧ D < H'.n := by
  have loop : ∀ (k j : Nat) (H₂ : Hp) fs, j + k = vs.length → Grew H₁ H₂ → H₁.n + 2 < H₂.n → H₂.o H₁.n = .iter r j → H₂.o (H₁.n + 1) = .list (us.take j) → H₂.o (H₁.n + 2) = .ns fs →
      ∃ H₃, Cl c n fr scope clN (H₁.n + 2) elt (.Tuple [.Name y py, .Name z pz] k₀ tp) iter pos H₁.n (H₁.n + 1) H₂ l H₃ ∧ Grew H₁ H₃ ∧ H₁.n + 2 < H₃.n ∧ H₃.o (H₁.n + 1) = .list us ∧ ∃ fs, H₃.o (H₁.n + 2) = .ns fs := by
    intro k
    induction k with
    | zero =>
      intro j H₂ fs hj G hn hi ha hns
      have hj : j = vs.length := hj
      subst hj
      refine ⟨_, cl_end (nx_list_end (by lia) hi ((G.o r hrl).trans hr) (Nat.le_refl _) hq), G.set (Nat.le_refl _) _, hn, ?_, fs, ?_⟩
      · rw [Hp.set_old _ _ _ (by lia), ha, ← hlen, List.take_length]
      · rw [Hp.set_old _ _ _ (by lia), hns]
    | succ k ih =>
      intro j H₂ fs hj G hn hi ha hns
      have lt : j < vs.length := by lia
      have hv := List.getElem?_eq_getElem lt
      have hu := List.getElem?_eq_getElem (l := us) (i := j) (by lia)
      obtain ⟨a, b, hab⟩ := hp _ (List.getElem_mem lt)
      rw [hab] at hv
      have K : Kn H₂ clN (H₁.n + 2) := ⟨hn, fun p hp => Nat.lt_of_lt_of_le (hK p hp) (Nat.le_trans hle G.n)⟩
      have G1 : Grew H₁ (H₂.set H₁.n (.iter r (j + 1))) := G.set (Nat.le_refl _) _
      have hns1 : (H₂.set H₁.n (.iter r (j + 1))).o (H₁.n + 2) = .ns fs := by rw [Hp.set_old _ _ _ (by lia), hns]
      have A := ask_pair (c := c) (n := n) (fr := fr) (l := l) (py := py) (pz := pz) (tp := tp) (k₀ := k₀) (u := a) (v := b) (clN := clN) (H := H₂.set H₁.n (.iter r (j + 1))) (ns := H₁.n + 2) ⟨hn, K.cl⟩ hns1 hy hzl hkind hq
      have G2 : Grew H₁ (((H₂.set H₁.n (.iter r (j + 1))).set (H₁.n + 2) (.ns (nset fs y a))).set (H₁.n + 2) (.ns (nset (nset fs y a) z b))) := (G1.set (by lia) _).set (by lia) _
      have q1 : (((H₂.set H₁.n (.iter r (j + 1))).set (H₁.n + 2) (.ns (nset fs y a))).set (H₁.n + 2) (.ns (nset (nset fs y a) z b))).o H₁.n = .iter r (j + 1) := by
        rw [Hp.set_old _ _ _ (by lia), Hp.set_old _ _ _ (by lia), Hp.set_here]
      have q2 : (((H₂.set H₁.n (.iter r (j + 1))).set (H₁.n + 2) (.ns (nset fs y a))).set (H₁.n + 2) (.ns (nset (nset fs y a) z b))).o (H₁.n + 1) = .list (us.take j) := by
        rw [Hp.set_old _ _ _ (by lia), Hp.set_old _ _ _ (by lia), Hp.set_old _ _ _ (by lia), ha]
      have q3 : (((H₂.set H₁.n (.iter r (j + 1))).set (H₁.n + 2) (.ns (nset fs y a))).set (H₁.n + 2) (.ns (nset (nset fs y a) z b))).o (H₁.n + 2) = .ns (nset (nset fs y a) z b) := Hp.set_here _ _ _
      have q4 : H₁.n + 2 < (((H₂.set H₁.n (.iter r (j + 1))).set (H₁.n + 2) (.ns (nset fs y a))).set (H₁.n + 2) (.ns (nset (nset fs y a) z b))).n := hn
      have hnx := nx_list (c := c) (n := n) (fr := fr) (l := l) (target := .Tuple [.Name y py, .Name z pz] k₀ tp) (i := H₁.n) (by lia) hi ((G.o r hrl).trans hr) hv (.inr ⟨_, _, _, rfl⟩) (.inl ⟨_, rfl⟩)
      generalize ((H₂.set H₁.n (.iter r (j + 1))).set (H₁.n + 2) (.ns (nset fs y a))).set (H₁.n + 2) (.ns (nset (nset fs y a) z b)) = H₃ at *
      obtain ⟨H₄, E4, G4⟩ := helt j a b _ H₃ _ hv hu G2 ⟨q4, fun p hp => Nat.lt_of_lt_of_le (hK p hp) (Nat.le_trans hle G2.n)⟩ q3 (by unfold nset; rw [if_neg hyz, if_pos rfl]) (by unfold nset; rw [if_pos rfl])
      have G5 := G2.trans G4
      have r1 : H₄.o H₁.n = .iter r (j + 1) := (G4.o _ (by lia)).trans q1
      have r2 : H₄.o (H₁.n + 1) = .list (us.take j) := (G4.o _ (by lia)).trans q2
      have r3 : H₄.o (H₁.n + 2) = .ns (nset (nset fs y a) z b) := (G4.o _ q4).trans q3
      have r4 : H₁.n + 2 < H₄.n := Nat.lt_of_lt_of_le q4 G4.n
      obtain ⟨H₅, C5, h1, h2, h3, h4⟩ := ih (j + 1) (H₄.set (H₁.n + 1) (.list (us.take j ++ [us[j]'(by lia)]))) (nset (nset fs y a) z b) (by lia) (G5.set (by lia) _) r4 (by rw [Hp.set_old _ _ _ (by lia)]; exact r1) (by rw [Hp.set_here, take_snoc hu]) (by rw [Hp.set_old _ _ _ (by lia)]; exact r3)
      exact ⟨H₅, cl_turn K (by lia) (by lia) hnx A E4 r2 (by rw [List.length_take]; lia) C5, h1, h2, h3, h4⟩
  obtain ⟨H₃, C3, G3, n3, a3, fs, s3⟩ := loop vs.length 0 (((H₁.new (.iter r 0)).new (.list [])).new (.ns fun _ => none)) (fun _ => none) (Nat.zero_add _) (((Grew.new H₁ _).add _).add _) (by show H₁.n + 2 < H₁.n + 3; lia)
    (by simp [Hp.new] <;> lia) (by simp [Hp.new] <;> lia) (by simp [Hp.new] <;> lia)
  refine ⟨H₁.n + 1, H₃.set (H₁.n + 2) .junk, ev_comp (H₂ := H₁.new (.iter r 0)) he (it_list hr) (slf_list (r := r) (j := 0) (vs := vs) (by show H₁.n < H₁.n + 3; lia) (by simp [Hp.new] <;> lia) ?_) (by show H₁.n < H₁.n + 1; lia) hK C3 s3 n3 hcl hcell hkind hnames hs, ?_, G3.set (by lia) _, by lia, by show H₁.n + 1 < H₃.n; lia⟩
  · rw [((Grew.new H₁ (.iter r 0)).trans ((Grew.new _ (.list [])).trans (Grew.new _ _))).o r hrl, hr]
  · rw [Hp.set_old _ _ _ (by lia), a3]
end
theorem closure_of {env : Env} {ad : Str → Addr} {scope : Scope} (h : ∀ p ∈ scope.names, p.2 = .free → env.cells.lookup p.1 = some (ad p.1)) :
    closureFor scope env = pure (((scope.names.filter fun p => p.2 == .free).map fun p => (p.1, ad p.1)).reverse) := by
  unfold closureFor
  have key : ∀ (names : List (Str × NameKind)) (acc : List (Str × Addr)), (∀ p ∈ names, p.2 = .free → env.cells.lookup p.1 = some (ad p.1)) →
      (forIn names acc (fun x r => match x with | (name, kind) => if (kind == .free) = true then (do let a ← cellOf env name; pure (ForInStep.yield ((name, a) :: r))) else pure (ForInStep.yield r)) : Sem (List (Str × Addr))) = pure (((names.filter fun p => p.2 == .free).map fun p => (p.1, ad p.1)).reverse ++ acc) := by
    intro names
    induction names with
    | nil => intro acc _; rfl
    | cons p names ih =>
      intro acc h
      obtain ⟨name, kind⟩ := p
      rw [List.forIn_cons]
      by_cases q : (kind == .free) = true
      · have hc := h (name, kind) (.head _) (eq_of_beq q)
        have hc' : cellOf env name = pure (ad name) := by unfold cellOf; rw [hc]
        simp only [q, if_true, hc']
        show (forIn names ((name, ad name) :: acc) _ : Sem _) = _
        rw [ih _ fun p hp => h p (.tail _ hp)]
        simp [q]
      · simp only [q]
        show (forIn names acc _ : Sem _) = _
        rw [ih _ fun p hp => h p (.tail _ hp)]
        simp [q]
  have := key scope.names [] h
  exact (congrArg (fun t : Sem (List (Str × Addr)) => t >>= fun s => pure s) this).trans (by rw [List.append_nil]; rfl)
section
variable {α : Rl → Nat} {σ : St} {H : Hp}
theorem Rep.putG {pre post : List (Nat × O)} {a : Nat} {x : O} (R : Rep α σ H) (h : σ.tmp = pre ++ (a, x) :: post) (o' : O) : Rep α (σ.w_tmp (pre ++ (a, o') :: post)) (H.set a o') := by
  rw [← St.eta_tmp h] at R; exact R.set_tmp o'
end
end Mine
end

section
namespace Mine
noncomputable abbrev St.wHB (σ : St) (h : Hs) (t : Nat → Nat) (b : Bs) (r : Nat → Nat) : St := (σ.wH h t).wB b r
theorem DR.split {nt : Nat} {kd : Nat → Str} {h h' : Hs} {zs : List Lk} (d : DR nt kd h zs h') : ∀ {xs ys : List Lk}, zs = xs ++ ys → ∃ h1, DR nt kd h xs h1 ∧ DR nt kd h1 ys h' := by
  induction d with
  | nil h =>
    intro xs ys e
    obtain ⟨rfl, rfl⟩ := List.append_eq_nil_iff.mp e.symm
    exact ⟨h, .nil h, .nil h⟩
  | @step h h' k ks p b d ih =>
    intro xs ys e
    cases xs with
    | nil => rw [List.nil_append] at e; subst e; exact ⟨h, .nil h, .step p b d⟩
    | cons x xs =>
      rw [List.cons_append] at e
      injection e with e1 e2
      subst e1 e2
      obtain ⟨h1, h2, h3⟩ := ih (xs := _ ++ xs) (List.append_assoc ..).symm
      exact ⟨h1, .step p (by rw [List.length_append] at b; lia) h2, h3⟩
section
variable {α : Rl → Nat} {σ : St} {H : Hp} {pre : List (Nat × O)} {a b d : Nat} {x y z : O}
theorem Rep.put3 (R : Rep α σ H) (h : σ.tmp = pre ++ [(a, x), (b, y), (d, z)]) (o' : O) : Rep α (σ.w_tmp (pre ++ [(a, x), (b, y), (d, o')])) (H.set d o') := by
  have := R.putG (pre := pre ++ [(a, x), (b, y)]) (post := []) (a := d) (x := z) (by rw [h]; simp) o'
  rw [show pre ++ [(a, x), (b, y), (d, o')] = pre ++ [(a, x), (b, y)] ++ (d, o') :: [] by simp]
  exact this
theorem Rep.at32 (R : Rep α σ H) (h : σ.tmp = pre ++ [(a, x), (b, y), (d, z)]) : H.o b = y ∧ b < H.n := R.tmp_at (pre := pre ++ [(a, x)]) (post := [(d, z)]) (by rw [h]; simp)
theorem Rep.at33 (R : Rep α σ H) (h : σ.tmp = pre ++ [(a, x), (b, y), (d, z)]) : H.o d = z ∧ d < H.n := R.tmp_at (pre := pre ++ [(a, x), (b, y)]) (post := []) (by rw [h]; simp)
theorem Rep.tmpA (R : Rep α σ H) (h : σ.tmp = pre) (o : O) : Rep α (σ.w_tmp (pre ++ [(H.n, o)])) (H.new o) := by subst h; exact R.tmp' o
end
noncomputable def stOk (s : Str) : Prop := s = "live" ∨ s = "dying" ∨ s = "gone"
noncomputable def kdOk (s : Str) : Prop := s = "object" ∨ s = "box" ∨ s = "buffer" ∨ s = "context"
structure SameN (σ : St) (N : Nat) : Prop where
  k : σ.nk = N
  r : σ.nr = N
  h : σ.nh = N
  w : σ.nw = N
  u : σ.nu = N
  s : σ.ns = N
  t : σ.nt = N
  le : N ≤ 10
/-- both sides agree -/
structure So (σ : St) (N : Nat) : Prop where
  nn : SameN σ N
  n1 : 1 ≤ N
  dy : σ.dy = σ.bd
  dyl : σ.bd.length ≤ 100
  sg : ∀ i, 1 ≤ i → i ≤ N → σ.sg i = (σ.hd i).length
  hdl : ∀ i, 1 ≤ i → i ≤ N → (σ.hd i).length ≤ 100
  wk : ∀ i, 1 ≤ i → i ≤ N → σ.wk i = σ.bw i
  un : ∀ i, 1 ≤ i → i ≤ N → σ.un i = σ.bu i
  st : ∀ i, 1 ≤ i → i ≤ N → σ.st i = σ.bs i
  stOk : ∀ i, 1 ≤ i → i ≤ N → stOk (σ.bs i)
  kd : σ.bk = σ.kd
  kdOk : ∀ i, 1 ≤ i → i ≤ N → kdOk (σ.kd i)
  fl : ∀ i, 1 ≤ i → i ≤ N → σ.fl i = σ.rw i
  rwl : ∀ i, 1 ≤ i → i ≤ N → (σ.rw i).length ≤ 100
  rwo : ∀ i, 1 ≤ i → i ≤ N → ∀ p ∈ σ.rw i, wayOk p.1 ∧ 1 ≤ p.2 ∧ p.2 ≤ N
noncomputable def t0 : Nat → Nat := fun _ => 0
/-- the dying taken down, one by one -/
inductive TD (σ : St) (N M : Nat) : Hs → Bs → Hs → Bs → Prop
  | done {h : Hs} {b : Bs} (e : b.bd = []) : TD σ N M h b h b
  | step {h h2 h' : Hs} {b b2 b' : Bs} {g m : Nat} {dy bd : List Nat} (e1 : b.bd = g :: bd) (e2 : h.dy = g :: dy) (l1 : dy.length ≤ 100) (l2 : bd.length ≤ 100) (g1 : 1 ≤ g) (g2 : g ≤ N) (hs : h.st g ≠ "gone")
      (fo : ∀ p ∈ h.fl g, wayOk p.1 ∧ 1 ≤ p.2) (fl : (h.fl g).length ≤ 100) (rl : (b.rw g).length ≤ 100)
      (d : DR σ.nt σ.kd { h with dy := dy } (h.fl g) h2) (hs2 : h2.st g ≠ "gone") (hm : m ≤ M) (e : BR N σ.bk m { b with bd := bd, rw := upd b.rw g [] } ((b.rw g).map fun l => ((some g : Hd), l)) b2)
      (so : So (σ.wHB { h2 with st := upd h2.st g "gone", fl := upd h2.fl g [] } t0 { b2 with bs := upd b2.bs g "gone" } t0) N)
      (r : TD σ N M { h2 with st := upd h2.st g "gone", fl := upd h2.fl g [] } { b2 with bs := upd b2.bs g "gone" } h' b') : TD σ N M h b h' b'
theorem So.at {σ : St} {N : Nat} {h : Hs} {b : Bs} (s : So (σ.wHB h t0 b t0) N) (t r : Nat → Nat) (T : List (Nat × O)) : So ((σ.wHB h t b r).w_tmp T) N :=
  ⟨⟨s.nn.k, s.nn.r, s.nn.h, s.nn.w, s.nn.u, s.nn.s, s.nn.t, s.nn.le⟩, s.n1, s.dy, s.dyl, s.sg, s.hdl, s.wk, s.un, s.st, s.stOk, s.kd, s.kdOk, s.fl, s.rwl, s.rwo⟩
end Mine
end

section
namespace Mine
section
variable {α α' : Rl → Nat} {σ σ' : St} {H H' : Hp}
/-- new parts come into sight -/
theorem Rep.build (R : Rep α σ H) (New : Rl → Prop) (hn : H.n ≤ H'.n) (h : ∀ r, ok σ' r → (¬ New r ∧ ok σ r ∧ adr α' σ' r = adr α σ r ∧ H'.o (adr α σ r) = cont α' σ' r) ∨ (New r ∧ (∀ r', ok σ r' → adr α σ r' ≠ adr α' σ' r) ∧ adr α' σ' r < H'.n ∧ H'.o (adr α' σ' r) = cont α' σ' r))
    (hi : ∀ r r', New r → New r' → adr α' σ' r = adr α' σ' r' → r = r') : Rep α' σ' H' := by
  refine ⟨fun r hr => ?_, fun r hr => ?_, fun r r' hr hr' e => ?_⟩
  · rcases h r hr with ⟨_, _, e, c⟩ | ⟨_, _, _, c⟩
    · rw [e]; exact c
    · exact c
  · rcases h r hr with ⟨_, o, e, _⟩ | ⟨_, _, l, _⟩
    · rw [e]; exact Nat.lt_of_lt_of_le (R.lt r o) hn
    · exact l
  · rcases h r hr with ⟨_, o, e1, _⟩ | ⟨w, f, _, _⟩ <;> rcases h r' hr' with ⟨_, o', e2, _⟩ | ⟨w', f', _, _⟩
    · rw [e1, e2] at e; exact R.inj _ _ o o' e
    · rw [e1] at e; exact absurd e (f' r o)
    · rw [e2] at e; exact absurd e.symm (f r' o')
    · exact hi _ _ w w' e
theorem Rep.add_kinds (R : Rep α σ H) (v : Str) {o : O} (ho : o = .idict (vput (tab σ.nk fun i => .str (σ.bk i)) ((σ.nk + 1 : Nat) : Int) (.str v))) : Rep α { σ with nk := σ.nk + 1, bk := upd σ.bk (σ.nk + 1) v } (H.set (α .kinds) o) := by
  refine R.set .kinds trivial (fun r' h => by cases r' <;> exact h) (fun r' h => by cases r' <;> rfl) (fun r' h q => ?_) ?_
  · cases r' <;> first | rfl | exact absurd rfl q
  · rw [ho, vput_new]; show O.idict _ = O.idict (tab (σ.nk + 1) fun i => V.str (upd σ.bk (σ.nk + 1) v i)); rw [upd_map]
theorem Rep.add_weak (R : Rep α σ H) (v : Int) {o : O} (ho : o = .idict (vput (tab σ.nw fun i => .int (σ.bw i)) ((σ.nw + 1 : Nat) : Int) (.int v))) : Rep α { σ with nw := σ.nw + 1, bw := upd σ.bw (σ.nw + 1) v } (H.set (α .weak) o) := by
  refine R.set .weak trivial (fun r' h => by cases r' <;> exact h) (fun r' h => by cases r' <;> rfl) (fun r' h q => ?_) ?_
  · cases r' <;> first | rfl | exact absurd rfl q
  · rw [ho, vput_new]; show O.idict _ = O.idict (tab (σ.nw + 1) fun i => V.int (upd σ.bw (σ.nw + 1) v i)); rw [upd_map]
theorem Rep.add_unow (R : Rep α σ H) (v : Int) {o : O} (ho : o = .idict (vput (tab σ.nu fun i => .int (σ.bu i)) ((σ.nu + 1 : Nat) : Int) (.int v))) : Rep α { σ with nu := σ.nu + 1, bu := upd σ.bu (σ.nu + 1) v } (H.set (α .unow) o) := by
  refine R.set .unow trivial (fun r' h => by cases r' <;> exact h) (fun r' h => by cases r' <;> rfl) (fun r' h q => ?_) ?_
  · cases r' <;> first | rfl | exact absurd rfl q
  · rw [ho, vput_new]; show O.idict _ = O.idict (tab (σ.nu + 1) fun i => V.int (upd σ.bu (σ.nu + 1) v i)); rw [upd_map]
theorem Rep.add_state (R : Rep α σ H) (v : Str) {o : O} (ho : o = .idict (vput (tab σ.ns fun i => .str (σ.bs i)) ((σ.ns + 1 : Nat) : Int) (.str v))) : Rep α { σ with ns := σ.ns + 1, bs := upd σ.bs (σ.ns + 1) v } (H.set (α .state) o) := by
  refine R.set .state trivial (fun r' h => by cases r' <;> exact h) (fun r' h => by cases r' <;> rfl) (fun r' h q => ?_) ?_
  · cases r' <;> first | rfl | exact absurd rfl q
  · rw [ho, vput_new]; show O.idict _ = O.idict (tab (σ.ns + 1) fun i => V.str (upd σ.bs (σ.ns + 1) v i)); rw [upd_map]
theorem Rep.add_rows (R : Rep α σ H) {a : Nat} (ha : a < H.n) (hf : ∀ r, ok σ r → adr α σ r ≠ a) (hv : H.o a = .list []) {o : O} (ho : o = .idict (vput (tab σ.nr fun i => .obj (σ.rla i)) ((σ.nr + 1 : Nat) : Int) (.obj a))) :
    Rep α { σ with nr := σ.nr + 1, rla := upd σ.rla (σ.nr + 1) a, rw := upd σ.rw (σ.nr + 1) [] } (H.set (α .rows) o) := by
  have oth : ∀ r, ok σ r → r ≠ .rows → (H.set (α .rows) o).o (adr α σ r) = cont α σ r := fun r hr q => by
    have hra : adr α σ r ≠ α .rows := fun e => q (R.inj r .rows hr trivial e)
    rw [Hp.set_old _ _ _ hra]; exact R.o r hr
  have ha0 : a ≠ α .rows := Ne.symm (hf .rows trivial)
  refine R.build (· = .rl (σ.nr + 1)) (Nat.le_refl _) (fun r hr => ?_) fun r r' h h' _ => h.trans h'.symm
  cases r
  case rl i =>
    by_cases q : i = σ.nr + 1
    · subst q
      refine .inr ⟨rfl, fun r' h' => ?_, ?_, ?_⟩
      · show adr α σ r' ≠ upd σ.rla (σ.nr + 1) a (σ.nr + 1); rw [upd_here]; exact hf r' h'
      · show upd σ.rla (σ.nr + 1) a (σ.nr + 1) < H.n; rw [upd_here]; exact ha
      · show (H.set (α .rows) o).o (upd σ.rla (σ.nr + 1) a (σ.nr + 1)) = O.list ((upd σ.rw (σ.nr + 1) [] (σ.nr + 1)).map rowV)
        rw [upd_here, upd_here, Hp.set_old _ _ _ ha0]; exact hv
    · have hr : 1 ≤ i ∧ i ≤ σ.nr + 1 := hr
      have hr' : ok σ (.rl i) := ⟨hr.1, by lia⟩
      refine .inl ⟨fun e => q (by injection e), hr', upd_old _ _ q, ?_⟩
      rw [oth _ hr' (by intro e; cases e)]
      show O.list ((σ.rw i).map rowV) = O.list ((upd σ.rw (σ.nr + 1) [] i).map rowV)
      rw [upd_old _ _ q]
  case rows =>
    refine .inl ⟨(by intro e; cases e), trivial, rfl, ?_⟩
    rw [show adr α σ .rows = α .rows from rfl, Hp.set_here, ho, vput_new]
    show O.idict _ = O.idict (tab (σ.nr + 1) fun i => V.obj (upd σ.rla (σ.nr + 1) a i)); rw [upd_map]
  all_goals exact .inl ⟨(by intro e; cases e), hr, rfl, oth _ hr (by intro e; cases e)⟩
/-- a new list of holders in sight -/
noncomputable def putHl (α : Rl → Nat) (k a : Nat) : Rl → Nat
  | .hl i => if i = k then a else α (.hl i)
  | r => α r
theorem Rep.add_holders (R : Rep α σ H) {a : Nat} (ha : a < H.n) (hf : ∀ r, ok σ r → adr α σ r ≠ a) {vs : List V} (hv : H.o a = .list vs) {o : O} (ho : o = .idict (vput (tab σ.nh fun i => .obj (α (.hl i))) ((σ.nh + 1 : Nat) : Int) (.obj a))) :
    Rep (putHl α (σ.nh + 1) a) { σ with nh := σ.nh + 1, hd := upd σ.hd (σ.nh + 1) vs } (H.set (α .holders) o) := by
  have oth : ∀ r, ok σ r → r ≠ .holders → (H.set (α .holders) o).o (adr α σ r) = cont α σ r := fun r hr q => by
    have hra : adr α σ r ≠ α .holders := fun e => q (R.inj r .holders hr trivial e)
    rw [Hp.set_old _ _ _ hra]; exact R.o r hr
  have ha0 : a ≠ α .holders := Ne.symm (hf .holders trivial)
  refine R.build (· = .hl (σ.nh + 1)) (Nat.le_refl _) (fun r hr => ?_) fun r r' h h' _ => h.trans h'.symm
  cases r
  case hl i =>
    by_cases q : i = σ.nh + 1
    · subst q
      refine .inr ⟨rfl, fun r' h' => ?_, ?_, ?_⟩
      · show adr α σ r' ≠ if σ.nh + 1 = σ.nh + 1 then a else _; rw [if_pos rfl]; exact hf r' h'
      · show (if σ.nh + 1 = σ.nh + 1 then a else _) < H.n; rw [if_pos rfl]; exact ha
      · show (H.set (α .holders) o).o (if σ.nh + 1 = σ.nh + 1 then a else _) = O.list (upd σ.hd (σ.nh + 1) vs (σ.nh + 1))
        rw [upd_here, if_pos rfl, Hp.set_old _ _ _ ha0]; exact hv
    · have hr : 1 ≤ i ∧ i ≤ σ.nh + 1 := hr
      have hr' : ok σ (.hl i) := ⟨hr.1, by lia⟩
      refine .inl ⟨fun e => q (by injection e), hr', if_neg q, ?_⟩
      rw [oth _ hr' (by intro e; cases e)]
      show O.list (σ.hd i) = O.list (upd σ.hd (σ.nh + 1) vs i)
      rw [upd_old _ _ q]
  case holders =>
    refine .inl ⟨(by intro e; cases e), trivial, rfl, ?_⟩
    rw [show adr α σ .holders = α .holders from rfl, Hp.set_here, ho, vput_new]
    show O.idict _ = O.idict (tab (σ.nh + 1) fun i => V.obj (if i = σ.nh + 1 then a else α (.hl i)))
    congr 1
    unfold tab
    refine List.map_congr_left fun i _ => ?_
    unfold upd
    by_cases q : i + 1 = σ.nh + 1
    · simp only [if_pos q]
    · simp only [if_neg q]
  all_goals exact .inl ⟨(by intro e; cases e), hr, rfl, oth _ hr (by intro e; cases e)⟩
/-- a new thing in sight -/
noncomputable def putTi (α : Rl → Nat) (k t d : Nat) : Rl → Nat
  | .ti i => if i = k then t else α (.ti i)
  | .td i => if i = k then d else α (.td i)
  | r => α r
/-- what the making of a thing leaves -/
structure MadeH (α : Rl → Nat) (σ : St) (H H' : Hp) (k : Str) : Prop where
  n : H'.n = H.n + 3
  f : H'.o H.n = .list []
  d : H'.o (H.n + 1) = .attrs [("kind", .str k), ("name", .str (nameOf (σ.nt + 1))), ("fields", .obj H.n), ("strong", .int 1), ("weak", .int 0), ("unowned", .int 0), ("state", .str "live")]
  t : H'.o (H.n + 2) = .inst cThing (H.n + 1)
  hpd : H'.o (α .hpd) = .attrs [("things", .obj (α .things)), ("last", .int ((σ.nt + 1 : Nat) : Int)), ("dying", .obj (α .hdy))]
  things : H'.o (α .things) = .idict (vput (tab σ.nt fun i => .obj (α (.ti i))) ((σ.nt + 1 : Nat) : Int) (.obj (H.n + 2)))
  old : ∀ b, b < H.n → b ≠ α .hpd → b ≠ α .things → H'.o b = H.o b
noncomputable abbrev St.made (σ : St) (k : Str) (a : Nat) : St := { σ with nt := σ.nt + 1, kd := upd σ.kd (σ.nt + 1) k, fl := upd σ.fl (σ.nt + 1) [], sg := upd σ.sg (σ.nt + 1) 1, wk := upd σ.wk (σ.nt + 1) 0, un := upd σ.un (σ.nt + 1) 0, st := upd σ.st (σ.nt + 1) "live", tfa := upd σ.tfa (σ.nt + 1) a }
noncomputable def tg : Rl → Nat
  | .ti _ => 1
  | .td _ => 1
  | .tf _ => 1
  | .hpd => 2
  | .things => 3
  | _ => 0
theorem not_new {r : Rl} {n : Nat} (h : Nat.beq (tg r) 1 = false) : ¬ (r = .ti n ∨ r = .td n ∨ r = .tf n) := fun e => by
  have h := Nat.ne_of_beq_eq_false h
  rcases e with e | e | e <;> exact h (by rw [e]; rfl)
theorem not_hpd {r : Rl} (h : Nat.beq (tg r) 2 = false) : r ≠ .hpd := fun e => Nat.ne_of_beq_eq_false h (by rw [e]; rfl)
theorem not_things {r : Rl} (h : Nat.beq (tg r) 3 = false) : r ≠ .things := fun e => Nat.ne_of_beq_eq_false h (by rw [e]; rfl)
theorem Rep.add_thing (R : Rep α σ H) {k : Str} (m : MadeH α σ H H' k) (hfl : ∀ i, 1 ≤ i → i ≤ σ.nt → σ.fl i = []) : Rep (putTi α (σ.nt + 1) (H.n + 2) (H.n + 1)) (σ.made k H.n) H' := by
  have lt := R.lt
  have oth : ∀ r, ok σ r → r ≠ .hpd → r ≠ .things → H'.o (adr α σ r) = cont α σ r := fun r hr q q' => by
    rw [m.old _ (R.lt r hr) (fun e => q (R.inj r .hpd hr trivial e)) (fun e => q' (R.inj r .things hr trivial e))]; exact R.o r hr
  refine R.build (fun r => r = .ti (σ.nt + 1) ∨ r = .td (σ.nt + 1) ∨ r = .tf (σ.nt + 1)) (by rw [m.n]; lia) (fun r hr => ?_) fun r r' h h' e => ?_
  · cases r
    case ti i =>
      by_cases q : i = σ.nt + 1
      · subst q
        refine .inr ⟨.inl rfl, fun r' h' => ?_, ?_, ?_⟩
        · show adr α σ r' ≠ if σ.nt + 1 = σ.nt + 1 then H.n + 2 else _; rw [if_pos rfl]; have := lt r' h'; lia
        · show (if σ.nt + 1 = σ.nt + 1 then H.n + 2 else _) < H'.n; rw [if_pos rfl, m.n]; lia
        · show H'.o (if σ.nt + 1 = σ.nt + 1 then H.n + 2 else _) = .inst cThing (if σ.nt + 1 = σ.nt + 1 then H.n + 1 else _); rw [if_pos rfl, if_pos rfl]; exact m.t
      · have hr : 1 ≤ i ∧ i ≤ σ.nt + 1 := hr
        have hr' : ok σ (.ti i) := ⟨hr.1, by lia⟩
        refine .inl ⟨fun e => (by rcases e with e | e | e <;> first | (injection e; lia) | cases e), hr', if_neg q, ?_⟩
        rw [oth _ hr' (not_hpd rfl) (not_things rfl)]
        show O.inst cThing (α (.td i)) = .inst cThing (if i = σ.nt + 1 then _ else α (.td i)); rw [if_neg q]
    case td i =>
      by_cases q : i = σ.nt + 1
      · subst q
        refine .inr ⟨.inr (.inl rfl), fun r' h' => ?_, ?_, ?_⟩
        · show adr α σ r' ≠ if σ.nt + 1 = σ.nt + 1 then H.n + 1 else _; rw [if_pos rfl]; have := lt r' h'; lia
        · show (if σ.nt + 1 = σ.nt + 1 then H.n + 1 else _) < H'.n; rw [if_pos rfl, m.n]; lia
        · show H'.o (if σ.nt + 1 = σ.nt + 1 then H.n + 1 else _) = .attrs [("kind", .str (upd σ.kd (σ.nt + 1) k (σ.nt + 1))), ("name", .str (nameOf (σ.nt + 1))), ("fields", .obj (upd σ.tfa (σ.nt + 1) H.n (σ.nt + 1))), ("strong", .int (upd σ.sg (σ.nt + 1) 1 (σ.nt + 1))), ("weak", .int (upd σ.wk (σ.nt + 1) 0 (σ.nt + 1))), ("unowned", .int (upd σ.un (σ.nt + 1) 0 (σ.nt + 1))), ("state", .str (upd σ.st (σ.nt + 1) "live" (σ.nt + 1)))]
          simp only [upd_here, if_pos]; exact m.d
      · have hr : 1 ≤ i ∧ i ≤ σ.nt + 1 := hr
        have hr' : ok σ (.td i) := ⟨hr.1, by lia⟩
        refine .inl ⟨fun e => (by rcases e with e | e | e <;> first | (injection e; lia) | cases e), hr', if_neg q, ?_⟩
        rw [oth _ hr' (not_hpd rfl) (not_things rfl)]
        show O.attrs _ = O.attrs [("kind", .str (upd σ.kd (σ.nt + 1) k i)), ("name", .str (nameOf i)), ("fields", .obj (upd σ.tfa (σ.nt + 1) H.n i)), ("strong", .int (upd σ.sg (σ.nt + 1) 1 i)), ("weak", .int (upd σ.wk (σ.nt + 1) 0 i)), ("unowned", .int (upd σ.un (σ.nt + 1) 0 i)), ("state", .str (upd σ.st (σ.nt + 1) "live" i))]
        simp only [upd_old _ _ q]
    case tf i =>
      by_cases q : i = σ.nt + 1
      · subst q
        refine .inr ⟨.inr (.inr rfl), fun r' h' => ?_, ?_, ?_⟩
        · show adr α σ r' ≠ upd σ.tfa (σ.nt + 1) H.n (σ.nt + 1); rw [upd_here]; have := lt r' h'; lia
        · show upd σ.tfa (σ.nt + 1) H.n (σ.nt + 1) < H'.n; rw [upd_here, m.n]; lia
        · show H'.o (upd σ.tfa (σ.nt + 1) H.n (σ.nt + 1)) = .list ((upd σ.fl (σ.nt + 1) [] (σ.nt + 1)).map _); rw [upd_here, upd_here]; exact m.f
      · have hr : 1 ≤ i ∧ i ≤ σ.nt + 1 := hr
        have hr' : ok σ (.tf i) := ⟨hr.1, by lia⟩
        refine .inl ⟨fun e => (by rcases e with e | e | e <;> first | (injection e; lia) | cases e), hr', upd_old _ _ q, ?_⟩
        rw [oth _ hr' (not_hpd rfl) (not_things rfl)]
        show O.list ((σ.fl i).map _) = O.list ((upd σ.fl (σ.nt + 1) [] i).map _); rw [upd_old _ _ q, hfl i hr'.1 hr'.2]; rfl
    case hpd => exact .inl ⟨not_new rfl, trivial, rfl, m.hpd⟩
    case things =>
      refine .inl ⟨not_new rfl, trivial, rfl, ?_⟩
      rw [show adr α σ .things = α .things from rfl, m.things, vput_new]
      show O.idict _ = O.idict (tab (σ.nt + 1) fun i => V.obj (if i = σ.nt + 1 then H.n + 2 else α (.ti i)))
      congr 1
      unfold tab
      refine List.map_congr_left fun i _ => ?_
      unfold upd
      by_cases q : i + 1 = σ.nt + 1
      · simp only [if_pos q]
      · simp only [if_neg q]
    all_goals exact .inl ⟨not_new rfl, hr, rfl, oth _ hr (not_hpd rfl) (not_things rfl)⟩
  · have a1 : adr (putTi α (σ.nt + 1) (H.n + 2) (H.n + 1)) (σ.made k H.n) (.ti (σ.nt + 1)) = H.n + 2 := if_pos rfl
    have a2 : adr (putTi α (σ.nt + 1) (H.n + 2) (H.n + 1)) (σ.made k H.n) (.td (σ.nt + 1)) = H.n + 1 := if_pos rfl
    have a3 : adr (putTi α (σ.nt + 1) (H.n + 2) (H.n + 1)) (σ.made k H.n) (.tf (σ.nt + 1)) = H.n := if_pos rfl
    rcases h with rfl | rfl | rfl <;> rcases h' with rfl | rfl | rfl <;> (try simp only [a1, a2, a3] at e) <;> first | rfl | lia
end
end Mine
end

section
namespace Mine
section
variable {c : Cx} {n : Nat} {fr : FrS} {ω : Wd} {H H₁ H₂ H₃ H₄ : Hp} {l l₁ l₂ l₃ : Loc} {x : Fx} {m : Str → Option Value} {s : Shared} {Q : Fl → Hp → Loc → Prop} {ts : List Stmt}
/-- a cell stored -/
theorem notImm_cell {ob : Obj} {v : Option Value} (h : ob.data = .cell v) : ¬ Imm ob := fun q => by
  rcases q with ⟨_, q⟩ | ⟨_, _, q⟩ <;> rw [q] at h <;> cases h
theorem store_cell {y : Str} {v : V} {i : Nat} {u : Option V} (hi : (y, i) ∈ fr.cells) (h : H.o i = .cell u) (hx : fr.scope.names.lookup y = some .cell) :
    ∀ x ω r, RV ω v r → At c n fr x ω (storeName (x.env fr) y r) H l (fun _ _ => True) (H.set i (.cell (some v))) l := by
  intro x ω r hr m s Q E k ret
  obtain ⟨h1, h2⟩ := k.cl _ _ hi
  obtain ⟨ob, h3, h4, h5⟩ := k.R.at_ i h1 (by rw [h]; intro q; cases q)
  rw [h] at h5
  have hd : ∃ v₀, ob.data = .cell v₀ := by
    cases u with
    | none => exact ⟨_, h5⟩
    | some u => obtain ⟨r, h6, _⟩ := h5; exact ⟨_, h6⟩
  obtain ⟨v₀, hd⟩ := hd
  refine storeX_C k.F (Mine.News.front k.N h3) h2 (UpdF.head front_ne) hd (fun h' o' F N hd' => ?_) k.fk hx
  have e := Wd.put_ext k.N h3 h4 o'
  exact ret () (ω.put (ω.ρ i) o') m h' s.toks (k.at_ e F N (k.R.put k.N h1 (by rw [h]; intro q; cases q) h3 h4 (notImm_cell hd') ⟨r, hd', hr.mono e⟩)) e trivial
theorem as_cell {y : Str} {pos : Pos} {v : V} {i : Nat} {u : Option V} (hi : (y, i) ∈ fr.cells) (h : H.o i = .cell u) (hx : fr.scope.names.lookup y = some .cell) : As c n fr (.Name y pos) v H l (H.set i (.cell (some v))) l :=
  fun x ω r hr m s Q E k ret => PyProof.Rows.assign_Name (store_cell hi h hx x ω r hr m s _ _ k ret)
theorem ex_asg_cell {y : Str} {e : Expr} {npos pos : Pos} {v : V} {i : Nat} {u : Option V} (h : Ev c n fr e H l v H₁) (hi : (y, i) ∈ fr.cells) (ho : H₁.o i = .cell u) (hx : fr.scope.names.lookup y = some .cell)
    (hw : ∀ env, swapsWith e (some (.Name y npos)) pos.line env = pure false) : Ex c n fr (.Assign [.Name y npos] e pos) H l .next (H₁.set i (.cell (some v))) l :=
  fun x ω m s Q E k ret => wpAny_Assign_Name (h x ω m s _ _ k fun r ω₁ m₁ h' tk k₁ x₁ r₁ => store_cell hi ho hx x ω₁ r r₁ m₁ _ _ _ k₁ fun _ ω₂ m₂ h'' tk' k₂ x₂ _ => ret _ ω₂ m₂ h'' tk' k₂ (x₁.trans x₂) rfl) (hw _)
theorem x_asg_cell {y : Str} {e : Expr} {npos pos : Pos} {v : V} {i : Nat} {u : Option V} (h : Ev c n fr e H l v H₁) (hi : (y, i) ∈ fr.cells) (ho : H₁.o i = .cell u) (q : ExsW c n fr ts (H₁.set i (.cell (some v))) l Q) (hx : fr.scope.names.lookup y = some .cell)
    (hw : ∀ env, swapsWith e (some (.Name y npos)) pos.line env = pure false) : ExsW c n fr (.Assign [.Name y npos] e pos :: ts) H l Q := w_cons ⟨_, _, _, ex_asg_cell h hi ho hx hw, q⟩
/-- a for whose target is a cell -/
theorem x_for_cell {y : Str} {npos pos : Pos} {iter : Expr} {body : List Stmt} {r ci : Nat} {vs : List V} (I : Nat → Hp → Loc → Prop) (he : Ev c n fr iter H l (.obj r) H₁) (hr : H₁.o r = .list vs)
    (start : I 0 (H₁.new (.iter r 0)) l) (hI : ∀ j H l, I j H l → H.o H₁.n = .iter r j ∧ H.o r = .list vs) (hc : ∀ j H l, I j H l → ∃ u, H.o ci = .cell u) (hne : ci ≠ H₁.n)
    (step : ∀ j v H l, vs[j]? = some v → I j H l → ExsW c n fr body ((H.set H₁.n (.iter r (j + 1))).set ci (.cell (some v))) l (Then (fun H' l' => I (j + 1) H' l') (Then (fun H' l' => ExsW c n fr ts H' l' Q) Q)))
    (stop : ∀ H l, I vs.length H l → ExsW c n fr ts (H.set H₁.n .junk) l Q) (hi : (y, ci) ∈ fr.cells) (hy : fr.scope.names.lookup y = some .cell) (hq : fr.q = true)
    (hs : ∀ env x, foldedSetIterable iter env x = pure x) (hg : ∀ it v, letOwnedTupleGo (.Name y npos) it v = pure ()) : ExsW c n fr (.For (.Name y npos) iter body [] pos :: ts) H l Q :=
  x_for he hr (fo_all I hI (.inl hg) (fun _ _ => .inr hg) (fun j v H l h1 h2 => by
    obtain ⟨u, hu⟩ := hc j H l h2
    exact ⟨_, _, as_cell (u := u) hi (by rw [Hp.set_old _ _ _ hne]; exact hu) hy, step j v H l h1 h2⟩) stop hq vs.length 0 _ _ (Nat.zero_add _) start) hs
/-- a part of the script -/
theorem ev_upto {o e : Expr} {spos pos : Pos} {a : Addr} {ns : List Int} {k₀ : Nat} (ho : Ev c n fr o H l (.st a) H) (hm : (a, ns) ∈ fr.scr) (ht : fr.top = true) (hz : ns.length ≤ 1000) (he : Ev c n fr e H l (.int (k₀ : Nat)) H)
    (hs : ∀ p q, ∃ ops, subscripted (.Slice none (some e) none spos) false (.ref p) (.ref q) = operate ops (getItem (.ref p) (.ref q))) :
    Ev c n fr (.Subscript o (.Slice none (some e) none spos) pos) H l (.obj H.n) (H.new (.list ((ns.take k₀).map .int))) :=
  fun x ω m s Q E k ret => Subscript_ (ho x ω m s _ _ k fun ra ω₁ m₁ h₁ tk k₁ x₁ r₁ => wpAny_Slice (PySem.evalPart_none_step (PySem.evalPart_some_step (he x ω₁ m₁ _ _ _ k₁ fun re ω₂ m₂ h₂ tk₂ k₂ x₂ r₂ => PySem.evalPart_none_step (by
    unfold RV at r₁
    subst r₁
    refine RV.int_e r₂ fun t => ?_
    obtain ⟨ops, hs⟩ := hs a h₂.objs.size
    obtain ⟨_, _, hscr⟩ := k₂.tp ht
    obtain ⟨rs, hL₀, hI⟩ := hscr _ hm
    have hL : h₂.IsList a rs.toArray := hL₀.at fun o e => k₂.F.keep _ _ e
    have hlen : rs.length = ns.length := hI.length
    refine tail_any (Heap.IsList.typeIs (hL.push _)) slot_list_getitem.lookup (wpAny_getItem_list_slice (hL.push _) (Heap.IsSliceOf.new ..) .none (.int (k₀ : Int) t) .none (by decide) ?_ (by rw [List.size_toArray, hlen, sizeLine_eq]; lia)) hs
    have hI2 := slice_ints_uptoW hI (y := (k₀ : Int)) (by lia)
    rw [Int.toNat_natCast] at hI2
    generalize hq : slicePick rs.toArray none (some (k₀ : Int)) none = its at hI2
    have hit : ∀ {ω : Wd}, RVs ω ((ns.take k₀).map .int) its.toList := by
      intro ω
      generalize its.toList = us at hI2
      generalize ns.take k₀ = ms at hI2
      induction hI2 with
      | nil => exact .nil
      | cons a t _ ih => exact .cons RV.iI ih
    have F := (k₂.F.push { cls := .type "slice", data := .fields #[.none, .int (k₀ : Int) t, .none] }).push { cls := .type "list", data := .seq its }
    have N := News.push (k₂.F.push { cls := .type "slice", data := .fields #[.none, .int (k₀ : Int) t, .none] }) (k₂.N.grown fun _ _ e => Heap.get?_push_of_some { cls := .type "slice", data := .fields #[.none, .int (k₀ : Int) t, .none] } e) { cls := .type "list", data := .seq its }
    obtain ⟨k₃, x₃, r₃⟩ := k₂.add (o := .list ((ns.take k₀).map .int)) (tk := tk₂) F N (fun p hp => by rw [Heap.size_push]; exact Nat.lt_succ_of_lt (Heap.lt_size (k₂.N p hp).1)) notImm_list ⟨its.toList, 0, by rw [Array.toArray_toList], hit⟩
    exact ret _ _ m₂ _ tk₂ k₃ ((x₁.trans x₂).trans x₃) r₃)))))
/-- all(..) of a list of trues -/
theorem bi_all {a : Nat} {vs : List V} (h : H.o a = .list vs) (hv : ∀ v ∈ vs, v = .bool true) (hq : fr.q = true) : Bi1 c n fr "all" (.obj a) H l (.bool true) H :=
  fun x ω r h1 m s Q E k ret => k.lst_e h h1 fun items e hn hm hit hl => by
    refine call_all_walk ?_
    have hL := k.N.isList hm
    refine wpAny_pyIter_list hL ?_
    have hne : ω.ρ a ≠ s.heap.objs.size := Nat.ne_of_lt (Heap.lt_size (k.N _ hm).1)
    have st : (s.heap.push { cls := .type "list_iterator", data := .fields #[.ref (ω.ρ a), .int 0 0] }).IsListIter s.heap.objs.size (ω.ρ a) 0 := ⟨_, Heap.get?_push_size _ rfl, rfl, rfl⟩
    have tr : TruthOf c.prog c.w x.A.in1 (fun i v => (List.toArray items)[i]? = some v) (fun _ => true) := fun i v s Q E hP hQ => by
      have hP : items[i]? = some v := by simpa using hP
      obtain ⟨u, u1, u2⟩ := hit.at_ (List.mem_of_getElem? hP)
      rw [hv u u1] at u2
      unfold RV at u2
      subst u2
      exact wpAny_truthy_bool hQ
    refine ⟨_, _, _, _, _, _, _, rfl, Walks.list (A := x.A.in1) (k.hh hq) _ _ hne (List.toArray items), ⟨st, hL.push _⟩, tr, fun h' tk hk => ?_⟩
    have keep : ∀ b o, s.heap.get? b = some o → h'.get? b = some o := fun b o e => hk b o (fun hm => by
      rw [List.mem_singleton.mp hm] at e
      exact absurd (Heap.lt_size e) (Nat.lt_irrefl _)) (Heap.get?_push_of_some _ e)
    have : ((List.range (List.toArray items).size).all fun _ => true) = true := by simp
    rw [this]
    exact ret _ ω m h' tk (k.at_ (Ext.refl ω) (k.F.keeps keep) (k.N.grown fun _ _ e => keep _ _ e) k.R) (Ext.refl ω) RV.bool
end
end Mine
end

section
namespace Mine
section
variable {c : Cx} {n : Nat} {fr : FrS} {H H₁ H₂ H₃ H₄ : Hp} {l l₁ l₂ l₃ : Loc} {scope : Scope} {clN : List (Str × Nat)}
theorem comp_one {elt iter : Expr} {y : Str} {py pos : Pos} {v : V} {vs us : List V} (itO : Nat → O) (he : Ev c n fr iter H l v H₁) (hI : It c n fr v H₁ l H₁.n (H₁.new (itO 0))) (hself : ∀ H', Grew H₁ H' → H₁.n < H'.n → H'.o H₁.n = itO 0 → Slf c n fr H₁.n H' l)
    (hnx : ∀ (j : Nat) (H₂ : Hp) (u : V), Grew H₁ H₂ → H₁.n < H₂.n → H₂.o H₁.n = itO j → vs[j]? = some u → Nx c n fr (.Name y py) H₁.n (some u) H₂ l (H₂.set H₁.n (itO (j + 1))))
    (hend : ∀ (H₂ : Hp), Grew H₁ H₂ → H₁.n < H₂.n → H₂.o H₁.n = itO vs.length → Nx c n fr (.Name y py) H₁.n none H₂ l (H₂.set H₁.n .junk)) (hle : H.n ≤ H₁.n) (hlen : us.length = vs.length) (hz : vs.length ≤ 500)
    (helt : ∀ (j : Nat) a u (H₂ : Hp) fs, vs[j]? = some a → us[j]? = some u → Grew H₁ H₂ → Kn H₂ clN (H₁.n + 2) → H₂.o (H₁.n + 2) = .ns fs → fs y = some a → ∃ H₃, EvK c n fr scope clN (H₁.n + 2) elt H₂ l u H₃ ∧ Grew H₂ H₃)
    (hK : ∀ p ∈ clN, p.2 < H.n)
    (hcl : ∀ (x : Fx) (ω : Wd), (∀ y i, (y, i) ∈ fr.cells → i < ω.n ∧ x.cl.lookup y = some (ω.ρ i)) → closureFor scope (x.env fr) = pure (clN.map fun p => (p.1, ω.ρ p.2)))
    (hcell : ∀ y ∈ scope.names, y.2 ≠ .cell) (hkind : scope.kind = .function) (hnames : ∀ y ∈ scope.names, y.2 = .local → scope.names.lookup y.1 = some .local) (hy : scope.names.lookup y = some .local)
    (hs : ∀ env x, foldedSetIterable iter env x = pure x) :
    ∃ D H', Ev c n fr (.ListComp elt [⟨.Name y py, iter, [], 0⟩] scope pos) H l (.obj D) H' ∧ H'.o D = .list us ∧ Grew H₁ H' ∧ H₁.n ≤ D ∧ D < H'.n := by
  have loop : ∀ (k j : Nat) (H₂ : Hp) fs, j + k = vs.length → Grew H₁ H₂ → H₁.n + 2 < H₂.n → H₂.o H₁.n = itO j → H₂.o (H₁.n + 1) = .list (us.take j) → H₂.o (H₁.n + 2) = .ns fs →
      ∃ H₃, Cl c n fr scope clN (H₁.n + 2) elt (.Name y py) iter pos H₁.n (H₁.n + 1) H₂ l H₃ ∧ Grew H₁ H₃ ∧ H₁.n + 2 < H₃.n ∧ H₃.o (H₁.n + 1) = .list us ∧ ∃ fs, H₃.o (H₁.n + 2) = .ns fs := by
    intro k
    induction k with
    | zero =>
      intro j H₂ fs hj G hn hi ha hns
      have hj : j = vs.length := hj
      subst hj
      refine ⟨_, cl_end (hend H₂ G (by lia) hi), G.set (Nat.le_refl _) _, hn, ?_, fs, ?_⟩
      · rw [Hp.set_old _ _ _ (by lia), ha, ← hlen, List.take_length]
      · rw [Hp.set_old _ _ _ (by lia), hns]
    | succ k ih =>
      intro j H₂ fs hj G hn hi ha hns
      have lt : j < vs.length := by lia
      have hv := List.getElem?_eq_getElem lt
      have hu := List.getElem?_eq_getElem (l := us) (i := j) (by lia)
      have K : Kn H₂ clN (H₁.n + 2) := ⟨hn, fun p hp => Nat.lt_of_lt_of_le (hK p hp) (Nat.le_trans hle G.n)⟩
      have X := hnx j H₂ vs[j] G (by lia) hi hv
      have G1 : Grew H₁ (H₂.set H₁.n (itO (j + 1))) := G.set (Nat.le_refl _) _
      have i1 : (H₂.set H₁.n (itO (j + 1))).o H₁.n = itO (j + 1) := Hp.set_here _ _ _
      have a1 : (H₂.set H₁.n (itO (j + 1))).o (H₁.n + 1) = .list (us.take j) := by rw [Hp.set_old _ _ _ (by lia), ha]
      have s1 : (H₂.set H₁.n (itO (j + 1))).o (H₁.n + 2) = .ns fs := by rw [Hp.set_old _ _ _ (by lia), hns]
      have n1 : H₁.n + 2 < (H₂.set H₁.n (itO (j + 1))).n := hn
      generalize H₂.set H₁.n (itO (j + 1)) = Ha at X G1 i1 a1 s1 n1
      have A := ask_name (c := c) (n := n) (fr := fr) (l := l) (pos := py) (v := vs[j]) (clN := clN) (H := Ha) (ns := H₁.n + 2) n1 s1 hy hkind
      have G2 : Grew H₁ (Ha.set (H₁.n + 2) (.ns (nset fs y vs[j]))) := G1.set (by lia) _
      have i2 : (Ha.set (H₁.n + 2) (.ns (nset fs y vs[j]))).o H₁.n = itO (j + 1) := by rw [Hp.set_old _ _ _ (by lia)]; exact i1
      have a2 : (Ha.set (H₁.n + 2) (.ns (nset fs y vs[j]))).o (H₁.n + 1) = .list (us.take j) := by rw [Hp.set_old _ _ _ (by lia)]; exact a1
      have s2 : (Ha.set (H₁.n + 2) (.ns (nset fs y vs[j]))).o (H₁.n + 2) = .ns (nset fs y vs[j]) := Hp.set_here _ _ _
      have n2 : H₁.n + 2 < (Ha.set (H₁.n + 2) (.ns (nset fs y vs[j]))).n := n1
      generalize Ha.set (H₁.n + 2) (.ns (nset fs y vs[j])) = Hb at A G2 i2 a2 s2 n2
      obtain ⟨H₄, E4, G4⟩ := helt j vs[j] _ Hb _ hv hu G2 ⟨n2, fun p hp => Nat.lt_of_lt_of_le (hK p hp) (Nat.le_trans hle G2.n)⟩ s2 (by unfold nset; rw [if_pos rfl])
      have G5 := G2.trans G4
      have r1 : H₄.o H₁.n = itO (j + 1) := (G4.o _ (by lia)).trans i2
      have r2 : H₄.o (H₁.n + 1) = .list (us.take j) := (G4.o _ (by lia)).trans a2
      have r3 : H₄.o (H₁.n + 2) = .ns (nset fs y vs[j]) := (G4.o _ n2).trans s2
      have r4 : H₁.n + 2 < H₄.n := Nat.lt_of_lt_of_le n2 G4.n
      obtain ⟨H₅, C5, h1, h2, h3, h4⟩ := ih (j + 1) (H₄.set (H₁.n + 1) (.list (us.take j ++ [us[j]'(by lia)]))) (nset fs y vs[j]) (by lia) (G5.set (by lia) _) r4 (by rw [Hp.set_old _ _ _ (by lia)]; exact r1) (by rw [Hp.set_here, take_snoc hu]) (by rw [Hp.set_old _ _ _ (by lia)]; exact r3)
      exact ⟨H₅, cl_turn K (by lia) (by lia) X A E4 r2 (by rw [List.length_take]; lia) C5, h1, h2, h3, h4⟩
  have G0 : Grew H₁ (((H₁.new (itO 0)).new (.list [])).new (.ns fun _ => none)) := ((Grew.new H₁ _).add _).add _
  have i0 : (((H₁.new (itO 0)).new (.list [])).new (.ns fun _ => none)).o H₁.n = itO 0 := by simp [Hp.new] <;> lia
  obtain ⟨H₃, C3, G3, n3, a3, fs, s3⟩ := loop vs.length 0 (((H₁.new (itO 0)).new (.list [])).new (.ns fun _ => none)) (fun _ => none) (Nat.zero_add _) G0 (by show H₁.n + 2 < H₁.n + 3; lia)
    i0 (by simp [Hp.new] <;> lia) (by simp [Hp.new] <;> lia)
  refine ⟨H₁.n + 1, H₃.set (H₁.n + 2) .junk, ev_comp (H₂ := H₁.new (itO 0)) he hI (hself _ G0 (by show H₁.n < H₁.n + 3; lia) i0) (by show H₁.n < H₁.n + 1; lia) hK C3 s3 n3 hcl hcell hkind hnames hs, ?_, G3.set (by lia) _, by lia, by show H₁.n + 1 < H₃.n; lia⟩
  rw [Hp.set_old _ _ _ (by lia), a3]
/-- over a list -/
theorem comp_list {elt iter : Expr} {y : Str} {py pos : Pos} {r : Nat} {vs us : List V} (he : Ev c n fr iter H l (.obj r) H₁) (hr : H₁.o r = .list vs) (hrl : r < H₁.n) (hle : H.n ≤ H₁.n) (hlen : us.length = vs.length) (hz : vs.length ≤ 500)
    (helt : ∀ (j : Nat) a u (H₂ : Hp) fs, vs[j]? = some a → us[j]? = some u → Grew H₁ H₂ → Kn H₂ clN (H₁.n + 2) → H₂.o (H₁.n + 2) = .ns fs → fs y = some a → ∃ H₃, EvK c n fr scope clN (H₁.n + 2) elt H₂ l u H₃ ∧ Grew H₂ H₃)
    (hK : ∀ p ∈ clN, p.2 < H.n)
    (hcl : ∀ (x : Fx) (ω : Wd), (∀ y i, (y, i) ∈ fr.cells → i < ω.n ∧ x.cl.lookup y = some (ω.ρ i)) → closureFor scope (x.env fr) = pure (clN.map fun p => (p.1, ω.ρ p.2)))
    (hcell : ∀ y ∈ scope.names, y.2 ≠ .cell) (hkind : scope.kind = .function) (hnames : ∀ y ∈ scope.names, y.2 = .local → scope.names.lookup y.1 = some .local) (hy : scope.names.lookup y = some .local) (hq : fr.q = true)
    (hs : ∀ env x, foldedSetIterable iter env x = pure x) (hg : ∀ it v, letOwnedTupleGo (.Name y py) it v = pure ()) :
    ∃ D H', Ev c n fr (.ListComp elt [⟨.Name y py, iter, [], 0⟩] scope pos) H l (.obj D) H' ∧ H'.o D = .list us ∧ Grew H₁ H' ∧ H₁.n ≤ D ∧ D < H'.n :=
  comp_one (fun j => .iter r j) he (it_list hr) (fun H' G hn hi => slf_list (r := r) (j := 0) (vs := vs) hn hi ((G.o r hrl).trans hr)) (fun j H₂ u G hn hi hu => nx_list hn hi ((G.o r hrl).trans hr) hu (.inl hg) (.inr hg))
    (fun H₂ G hn hi => nx_list_end hn hi ((G.o r hrl).trans hr) (Nat.le_refl _) hq) hle hlen hz helt hK hcl hcell hkind hnames hy hs
/-- over a tuple -/
theorem comp_tup {elt iter : Expr} {y : Str} {py pos : Pos} {vs us : List V} (he : Ev c n fr iter H l (.tup vs) H₁) (hle : H.n ≤ H₁.n) (hlen : us.length = vs.length) (hz : vs.length ≤ 500)
    (helt : ∀ (j : Nat) a u (H₂ : Hp) fs, vs[j]? = some a → us[j]? = some u → Grew H₁ H₂ → Kn H₂ clN (H₁.n + 2) → H₂.o (H₁.n + 2) = .ns fs → fs y = some a → ∃ H₃, EvK c n fr scope clN (H₁.n + 2) elt H₂ l u H₃ ∧ Grew H₂ H₃)
    (hK : ∀ p ∈ clN, p.2 < H.n)
    (hcl : ∀ (x : Fx) (ω : Wd), (∀ y i, (y, i) ∈ fr.cells → i < ω.n ∧ x.cl.lookup y = some (ω.ρ i)) → closureFor scope (x.env fr) = pure (clN.map fun p => (p.1, ω.ρ p.2)))
    (hcell : ∀ y ∈ scope.names, y.2 ≠ .cell) (hkind : scope.kind = .function) (hnames : ∀ y ∈ scope.names, y.2 = .local → scope.names.lookup y.1 = some .local) (hy : scope.names.lookup y = some .local) (hq : fr.q = true)
    (hs : ∀ env x, foldedSetIterable iter env x = pure x) (hg : ∀ it v, letOwnedTupleGo (.Name y py) it v = pure ()) :
    ∃ D H', Ev c n fr (.ListComp elt [⟨.Name y py, iter, [], 0⟩] scope pos) H l (.obj D) H' ∧ H'.o D = .list us ∧ Grew H₁ H' ∧ H₁.n ≤ D ∧ D < H'.n :=
  comp_one (fun j => .titer vs j) he it_tup (fun H' G hn hi => slf_tup (j := 0) (vs := vs) hn hi) (fun j H₂ u G hn hi hu => nx_tup hn hi hu hg)
    (fun H₂ G hn hi => nx_tup_end hn hi (Nat.le_refl _) hq) hle hlen hz helt hK hcl hcell hkind hnames hy hs
end
end Mine
end

section
namespace Mine
section
variable {c : Cx} {n : Nat} {fr : FrS} {H H₁ H₂ H₃ H₄ : Hp} {l l₁ l₂ l₃ : Loc} {Q : Fl → Hp → Loc → Prop} {ts : List Stmt} {G G₁ : V → Hp → Prop}
/-- an expression's value and heap told of only -/
noncomputable def EvE (c : Cx) (n : Nat) (fr : FrS) (e : Expr) (H : Hp) (l : Loc) (G : V → Hp → Prop) : Prop := ∃ v H', Ev c n fr e H l v H' ∧ G v H'
theorem eve_of {e : Expr} {v : V} (h : Ev c n fr e H l v H₁) (g : G v H₁) : EvE c n fr e H l G := ⟨_, _, h, g⟩
theorem eve_obj {e : Expr} {A : Nat → Hp → Prop} (h : ∃ D H', Ev c n fr e H l (.obj D) H' ∧ A D H') (g : ∀ D H', A D H' → G (.obj D) H') : EvE c n fr e H l G := let ⟨D, H', h1, h2⟩ := h; ⟨_, H', h1, g D H' h2⟩
theorem x_asg_e {y : Str} {e : Expr} {npos pos : Pos} (h : EvE c n fr e H l G) (q : ∀ v H₁, G v H₁ → ExsW c n fr ts H₁ (l.set y v) Q) (hx : fr.scope.names.lookup y = some .local) (hw : ∀ env, swapsWith e (some (.Name y npos)) pos.line env = pure false) :
    ExsW c n fr (.Assign [.Name y npos] e pos :: ts) H l Q := let ⟨_, _, h1, h2⟩ := h; x_assign h1 (q _ _ h2) hx hw
theorem ev_dict2 {y z : Str} {k₁ k₂ : Nat} {p₁ p₂ pos : Pos} {e₁ e₂ : Expr} (h : EvE c n fr e₁ (H.new (.sdict [])) l fun v H₁ => H₁.o H.n = .sdict [] ∧ ∃ u, Ev c n fr e₂ H₁ l u H₁ ∧ G (.obj H.n) (H₁.set H.n (.sdict [(y, v), (z, u)]))) (hn : ([y, z] : List Str).Nodup) : EvE c n fr (.Dict [some (.Constant (.str y) k₁ p₁), some (.Constant (.str z) k₂ p₂)] [e₁, e₂] pos) H l G := by
  obtain ⟨v, H₁, h1, h2, u, h3, h4⟩ := h
  exact ⟨_, _, ev_dict (eps_cons h1 (eps_cons h3 eps_nil)) hn h2 (by intro e; cases e) (hlen := by show 2 ≤ 15; lia), h4⟩
end
noncomputable def rank : Rl → Nat
  | .hp => 0 | .hpd => 1 | .things => 2 | .hdy => 3 | .bk => 4 | .kinds => 5 | .rows => 6 | .holders => 7 | .weak => 8 | .unow => 9 | .state => 10 | .bdy => 11 | .hand => 12 | .cells => 13 | .tmp k => 14 + k | _ => 0
noncomputable def unrank : Nat → Rl
  | 0 => .hp | 1 => .hpd | 2 => .things | 3 => .hdy | 4 => .bk | 5 => .kinds | 6 => .rows | 7 => .holders | 8 => .weak | 9 => .unow | 10 => .state | 11 => .bdy | 12 => .hand | 13 => .cells | k + 14 => .tmp k
theorem unrank_tmp (k : Nat) : unrank (14 + k) = .tmp k := by rw [Nat.add_comm]; rfl
/-- the first sight of the law's world -/
theorem Rep.first {α : Rl → Nat} {σ : St} {H : Hp} {as : List Nat} (h0 : σ.nt = 0) (h1 : σ.nr = 0) (h2 : σ.nh = 0) (nd : as.Nodup) (hlen : as.length = 14 + σ.tmp.length) (ha : ∀ r, ok σ r → as[rank r]? = some (adr α σ r)) (lt : ∀ a ∈ as, a < H.n)
    (ho : ∀ r, ok σ r → H.o (adr α σ r) = cont α σ r) : Rep α σ H := by
  have inv : ∀ r, ok σ r → unrank (rank r) = r := by
    intro r hr
    cases r
    case ti i => have hr : 1 ≤ i ∧ i ≤ σ.nt := hr; lia
    case td i => have hr : 1 ≤ i ∧ i ≤ σ.nt := hr; lia
    case tf i => have hr : 1 ≤ i ∧ i ≤ σ.nt := hr; lia
    case rl i => have hr : 1 ≤ i ∧ i ≤ σ.nr := hr; lia
    case hl i => have hr : 1 ≤ i ∧ i ≤ σ.nh := hr; lia
    case tmp k => exact unrank_tmp k
    all_goals rfl
  refine ⟨ho, fun r hr => lt _ (List.mem_of_getElem? (ha r hr)), fun r r' hr hr' e => ?_⟩
  have e1 := ha r hr
  have e2 := ha r' hr'
  rw [e] at e1
  obtain ⟨l1, q1⟩ := List.getElem?_eq_some_iff.mp e1
  obtain ⟨l2, q2⟩ := List.getElem?_eq_some_iff.mp e2
  have := (List.getElem_inj nd).mp (q1.trans q2.symm)
  rw [← inv r hr, ← inv r' hr', this]
end Mine
end

section
namespace Mine
/-- one object more -/
structure Step (H H' : Hp) (o : O) : Prop where
  n : H'.n = H.n + 1
  at_ : H'.o H.n = o
  old : ∀ b, b < H.n → H'.o b = H.o b
theorem step_new (H : Hp) (o : O) : Step H (H.new o) o := ⟨rfl, Hp.new_here _ _, fun b hb => Hp.new_old _ _ (Nat.ne_of_lt hb)⟩
section
variable {c : Cx} {n : Nat} {fr : FrS} {H H₁ H₂ H₃ H₄ : Hp} {l l₁ l₂ l₃ : Loc} {Q : Fl → Hp → Loc → Prop} {ts : List Stmt} {G : V → Hp → Prop} {F : List (Str × V) → Hp → Prop} {ks : List (Option Expr)} {es : List Expr}
noncomputable def EpsE (c : Cx) (n : Nat) (fr : FrS) (ks : List (Option Expr)) (es : List Expr) (H : Hp) (l : Loc) (F : List (Str × V) → Hp → Prop) : Prop := ∃ ps H', Eps c n fr ks es H l ps H' ∧ F ps H'
theorem epse_nil (h : F [] H) : EpsE c n fr [] [] H l F := ⟨_, _, eps_nil, h⟩
theorem epse_dict {y : Str} {k₀ : Nat} {kp p : Pos} (h : ∀ H', Step H H' (.idict []) → EpsE c n fr ks es H' l fun ps => F ((y, .obj H.n) :: ps)) : EpsE c n fr (some (.Constant (.str y) k₀ kp) :: ks) (.Dict [] [] p :: es) H l F :=
  let ⟨_, _, h1, h2⟩ := h _ (step_new H _); ⟨_, _, eps_cons ev_dict0 h1, h2⟩
theorem epse_list {y : Str} {k₀ : Nat} {kp p : Pos} (h : ∀ H', Step H H' (.list []) → EpsE c n fr ks es H' l fun ps => F ((y, .obj H.n) :: ps)) : EpsE c n fr (some (.Constant (.str y) k₀ kp) :: ks) (.List [] p :: es) H l F :=
  let ⟨_, _, h1, h2⟩ := h _ (step_new H _); ⟨_, _, eps_cons (ev_list eas_nil) h1, h2⟩
theorem ev_dictE {pos : Pos} (h : ∀ H', Step H H' (.sdict []) → EpsE c n fr ks es H' l fun ps H₁ => (ps.map (·.1)).Nodup ∧ H₁.o H.n = .sdict [] ∧ G (.obj H.n) (H₁.set H.n (.sdict ps))) (h0 : ks ≠ []) (hl : ks.length = es.length) (hlen : ks.length ≤ 15) (hall : ks.all (·.isSome) = true) :
    EvE c n fr (.Dict ks es pos) H l G :=
  let ⟨_, _, h1, h2, h3, h4⟩ := h _ (step_new H _); ⟨_, _, ev_dict h1 h2 h3 h0 hl hlen hall, h4⟩
end
end Mine
end

section
open Sem (wp)
set_option maxRecDepth 100000
namespace Mine
/-! an own exception class with an __init__ of the text: its instances made -/
section
variable {prog : Program} {w : World} {A : Around} {R : Result → Shared → Prop} {h : Heap} {g : Array GenState} {d : Drawn} {t : Nat} {os : OsState}
variable {nm q : Str} {C N : Addr} {bs bm : List Value} {hdct : Bool} {sn : List Str} {sub : List Value} {ab : Bool} {col : Option Bool} {dd : Option Addr} {k0 k1 k2 k3 k5 : Option Value}
theorem exc_checkNew {M : Model} {E : Value → Shared → Prop} (cB : (Value.ref C :: bm).contains (.type "Exception") = true) {rest : List Value} {Q : Unit → Shared → Prop} (hC : h.get? C = some (excClassObj nm q C N bs bm hdct sn sub ab col dd k0 k1 k2 k3 k5 "Exception.__new__"))
    (hq : Q () ⟨h, g, d, t, os⟩) : wpAny M A (checkBuiltinCall "Exception.__new__" ⟨.ref C :: rest, []⟩) Q E ⟨h, g, d, t, os⟩ := by
  have F := PySem.F.excBase_Exception
  have hstar := F.noStar
  simp only [checkBuiltinCall, F.newKind, F.newSplit, F.newRow]
  repeat (first | refine wpAny_loadPart_at hC ?_ | (refine wpAny_isSubtype_exc hC ?_; rw [cB]) | refine wpAny_staticBase_exc hC ?_ | refine wpAny_madeBy_exc hC ?_ | simp only [bne_self_eq_false, Bool.false_eq_true, if_false] | wp_step)
  exact hq
noncomputable abbrev excObj (C t : Addr) : Obj := { cls := .ref C, data := .fields #[.ref t, .none, .none, .none, .bool false, .none] }
theorem exc_new (cB : (Value.ref C :: bm).contains (.type "Exception") = true) (cA : (Value.ref C :: bm).contains (.type "AttributeError") = false) (cN : (Value.ref C :: bm).contains (.type "NameError") = false) {rest : List Value}
    (hC : h.get? C = some (excClassObj nm q C N bs bm hdct sn sub ab col dd k0 k1 k2 k3 k5 "Exception.__new__"))
    (hq : R (.ok (.ret (.ref (h.objs.size + 1)))) ⟨(h.push { cls := .type "tuple", data := .seq rest.toArray }).push (excObj C h.objs.size), g, d, t, os⟩) (hrest : rest.length ≤ sizeLine) :
    codeAny (model prog w) A (.builtin "Exception.__new__" ⟨.ref C :: rest, []⟩) R ⟨h, g, d, t, os⟩ := by
  have Fn := PySem.F.excBase_Exception
  have hends := Fn.ends
  refine codeAny_builtinAt Fn.entry ?_
  unfold Builtin.«BaseException.__new__»
  refine PySem.wpAt_bind ?_
  show PySem.wpAt _ _ _ (stack >>= _) _ _ _
  refine PySem.wpAt_bind (PySem.wpAt_stack fun p below => PySem.wpAt_of_wpAny ?_)
  wp_walk
  refine PySem.wpAt_of_wpAny ?_
  rw [Fn.owner]
  repeat (first | with_reducible refine wpAny_madeHere_exc Fn.canon hC ?_ | with_reducible refine wpAny_loadPart_at hC ?_ | (with_reducible refine wpAny_isSubtype_exc hC ?_; first | rw [cB] | rw [cA] | rw [cN]) | wp_step)
  show R _ _
  rw [Heap.size_push]
  exact hq
end
end Mine
end

section
open Sem (wp)
set_option maxRecDepth 100000
namespace Mine
section
variable {prog : Program} {w : World} {A : Around} {R : Result → Shared → Prop} {h : Heap} {g : Array GenState} {d : Drawn} {t : Nat} {os : OsState} {K : Frag}
variable {nm q : Str} {C N : Addr} {bs bm : List Value} {hdct : Bool} {sn : List Str} {sub : List Value} {ab : Bool} {col : Option Bool} {dd : Option Addr} {k0 k1 k2 k3 k5 : Option Value} {fI : Addr}
theorem exc_type_call (X : K.In h) (cB : (Value.ref C :: bm).contains (.type "Exception") = true) (cA : (Value.ref C :: bm).contains (.type "AttributeError") = false) (cN : (Value.ref C :: bm).contains (.type "NameError") = false) {rest : List Value}
    (hC : h.get? C = some (excClassObj nm q C N bs bm hdct sn sub ab col dd k0 k1 k2 k3 k5 "Exception.__new__")) (hi : findIn K (.ref C) "__init__" = some (some (.ref fI))) (hf : typeIn K (.ref fI) = some (.type "function")) (hrest : rest.length ≤ sizeLine)
    {Qf : PySem.Fin → Shared → Prop} {E : Value → Shared → Prop} (hq : codeAny (model prog w) A (.call (.ref fI) ⟨.ref (h.objs.size + 1) :: rest, []⟩) (fun r s' => match r with | .ok (.ret v) => v = .none ∧ Qf (.done (.ret (.ref (h.objs.size + 1)))) s' | .ok _ => False | .error e => E e s') ⟨(h.push { cls := .type "tuple", data := .seq rest.toArray }).push (excObj C h.objs.size), g, d, t, os⟩) :
    wpAny (model prog w) A (Builtin.«type.__call__» ⟨.ref C :: rest, []⟩) Qf E ⟨h, g, d, t, os⟩ := by
  have Fn := PySem.F.excBase_Exception
  repeat (first | with_reducible refine wpAny_loadPart_at hC ?_ | with_reducible refine wpAny_madeBy_exc hC ?_ | wp_step)
  refine codeAny_call_builtin_code (Code.quiet_builtin _ Fn.quiet) (exc_checkNew cB hC ?_)
  refine exc_new cB cA cN hC ?_ hrest
  show wpAny _ _ _ _ _ _
  have keep : ∀ b o, h.get? b = some o → ((h.push { cls := .type "tuple", data := .seq rest.toArray }).push (excObj C h.objs.size)).get? b = some o := fun b o e => Heap.get?_push_of_some _ (Heap.get?_push_of_some _ e)
  have hC₁ := keep _ _ hC
  have hget : ((h.push { cls := .type "tuple", data := .seq rest.toArray }).push (excObj C h.objs.size)).get? (h.objs.size + 1) = some (excObj C h.objs.size) := by heap_get
  have hcC : (Value.ref C :: bm).contains (.ref C) = true := by simp
  have X₁ : K.In ((h.push { cls := .type "tuple", data := .seq rest.toArray }).push (excObj C h.objs.size)) := X.keeps keep
  unfold isInstance
  repeat (first | with_reducible refine wpAny_loadPart_at hget ?_ | (with_reducible refine wpAny_isSubtype_exc hC₁ ?_; rw [hcC]) | wp_step)
  show wpAny _ _ (typeLookup (.ref C) _) _ _ _
  refine (looks_findIn X₁ hi).here ?_
  refine wpAny_holding (wpAny_bind ((bind_fn X₁ _ hf).here ?_))
  refine wpAny_bind (wpAny_call (codeAny_mono hq fun r s' z => ?_))
  rcases r with e | (v | _ | _ | _) <;> first | exact z | exact z.elim | skip
  obtain ⟨rfl, z⟩ := z
  exact wpAny_pure (wpAny_pure z)
theorem exc_call (X : K.In h) (cB : (Value.ref C :: bm).contains (.type "Exception") = true) (cA : (Value.ref C :: bm).contains (.type "AttributeError") = false) (cN : (Value.ref C :: bm).contains (.type "NameError") = false) {rest : List Value}
    (hC : h.get? C = some (excClassObj nm q C N bs bm hdct sn sub ab col dd k0 k1 k2 k3 k5 "Exception.__new__")) (hi : findIn K (.ref C) "__init__" = some (some (.ref fI))) (hf : typeIn K (.ref fI) = some (.type "function")) (hrest : rest.length ≤ sizeLine)
    (hq : codeAny (model prog w) (A.under (.builtin "type.__call__" ⟨.ref C :: rest, []⟩)) (.call (.ref fI) ⟨.ref (h.objs.size + 1) :: rest, []⟩) (InitBack (h.objs.size + 1) R) ⟨(h.push { cls := .type "tuple", data := .seq rest.toArray }).push (excObj C h.objs.size), g, d, t, os⟩) :
    codeAny (model prog w) A (.call (.ref C) ⟨rest, []⟩) R ⟨h, g, d, t, os⟩ := by
  have f1 := tc_lookup
  have f2 := tc_bind (.ref C)
  have hT : (⟨h, g, d, t, os⟩ : Shared).TypeIs (.ref C) "type" := ⟨_, hC, rfl⟩
  refine codeAny_of_tree ?_
  show wpAny _ _ (callAny (.ref C) _) _ _ _
  repeat (any_goals (first | assumption | with_reducible refine wpAny_loadPart_at hC ?_ | wp_step))
  refine ⟨rfl, ?_⟩
  refine codeAny_call_builtin_at (Code.quiet_builtin _ (by decide +kernel)) entry_typeCall (wpAny_check_type_call_sub hC (exc_type_call X cB cA cN hC hi hf hrest hq))
end
end Mine
end

section
open Sem (wp)
set_option maxRecDepth 100000
namespace Mine
section
variable {prog : Program} {w : World} {A : Around} {h : Heap} {g : Array GenState} {d : Drawn} {t : Nat} {os : OsState} {K : Frag}
variable {nm q : Str} {C N : Addr} {bs bm : List Value} {hdct : Bool} {sn : List Str} {sub : List Value} {ab : Bool} {col : Option Bool} {dd : Option Addr} {k0 k1 k2 k3 k5 : Option Value} {fI : Addr}
theorem exc_checkInit {M : Model} {E : Value → Shared → Prop} (cB : (Value.ref C :: bm).contains (.type "Exception") = true) {e : Addr} {oe : Obj} {rest : List Value} {Q : Unit → Shared → Prop}
    (hC : h.get? C = some (excClassObj nm q C N bs bm hdct sn sub ab col dd k0 k1 k2 k3 k5 "Exception.__new__")) (he : h.get? e = some oe) (hcls : oe.cls = .ref C) (hq : Q () ⟨h, g, d, t, os⟩) :
    wpAny M A (checkBuiltinCall "Exception.__init__" ⟨.ref e :: rest, []⟩) Q E ⟨h, g, d, t, os⟩ := by
  have F := PySem.F.excBase_Exception
  have hshort := F.noStar
  simp only [checkBuiltinCall, F.initKind, F.initSplit, F.initRow]
  repeat (first | (with_reducible refine wpAny_loadPart_at he ?_; rw [hcls]) | with_reducible refine wpAny_loadPart_at hC ?_ | (with_reducible refine wpAny_isSubtype_exc hC ?_; rw [cB]) | wp_step)
  refine wpAny_onRaise ?_
  rw [show ∀ (a b : String) (n : Nat), Bind.check ⟨.positional, "*", "Exception", .self, [⟨"args", .varPos, false⟩]⟩ a b n (List.map (fun x => x.fst) ({ pos := Value.ref e :: rest } : Args).kw) = pure () from
    fun a b n => check_star_args _ _ _ _ _ _]
  exact wpAny_pure hq
theorem exc_init {E : Value → Shared → Prop} (cB : (Value.ref C :: bm).contains (.type "Exception") = true) {e t0 : Addr} {word : Value} {Q : Value → Shared → Prop}
    (hC : h.get? C = some (excClassObj nm q C N bs bm hdct sn sub ab col dd k0 k1 k2 k3 k5 "Exception.__new__")) (he : h.get? e = some (excObj C t0))
    (hq : Q .none ⟨(h.push { cls := .type "tuple", data := .seq #[word] }).update e (Obj.mapFields (·.setIfInBounds 0 (.ref h.objs.size))), g, d, t, os⟩) :
    wpAny (model prog w) A (call (.builtin "Exception.__init__") [.ref e, word]) Q E ⟨h, g, d, t, os⟩ := by
  have F := PySem.F.excBase_Exception
  refine wpAny_call (codeAny_call_builtin F.init.plain F.initEntry (exc_checkInit cB hC he rfl ?_))
  wp_walk
  exact hq
end
end Mine
end

section
open Sem (wp)
set_option maxRecDepth 100000
namespace Mine
section
variable {prog : Program} {w : World} {A : Around} {R : Result → Shared → Prop} {s : Shared} {K : Frag} {C x : Addr} {cd : ClassData} {ox : Obj} {name : Str} {tk : Tok} {v : Value}
theorem lookIn_of_Ns {h : Heap} {a : Addr} {m : Str → Option Value} (hn : h.Ns a m) (hv : m name = some v) : ∃ o, h.get? a = some o ∧ lookIn name o = some (some v) := by
  obtain ⟨o, es, ep, e1, e2, e3, e4⟩ := hn
  refine ⟨o, e1, ?_⟩
  have := e4 name
  rw [hv] at this
  unfold lookIn
  rw [e2]
  dsimp only
  unfold nsFind findBy at this
  rw [← Array.find?_toList] at this
  obtain ⟨e, h1, h2⟩ := Option.map_eq_some_iff.mp this
  rw [h1, ← h2]
/-- an attribute's first store into an object without a dict -/
theorem osa_exc (X : K.In s.heap) (I : InstAt s.heap x ox C none) (hc : clsIn K C = some cd) (hob : cd.mro.contains (.type "object") = true) (hne : cd.mro.isEmpty = false) (hrf : refuseLoop (.ref x) "__setattr__" cd.mro = pure ()) (hh : cd.hasDict = true)
    (hfi : findIn K (.ref C) name = some none) (hd : ox.dict = none) {vs : Array Value} (hdat : ox.data = .fields vs)
    (h : ∀ h' od tk', (∀ b o, b ≠ x → s.heap.get? b = some o → h'.get? b = some o) → h'.get? x = some { ox with dict := some s.heap.objs.size } → h'.get? s.heap.objs.size = some od → lookIn name od = some (some v) → R (.ok (.ret .none)) { s with heap := h', toks := tk' }) :
    codeAny (model prog w) A (.call (.builtin "object.__setattr__") ⟨[.ref x, .str name tk, v], []⟩) R s := by
  have SF := PySem.F.store_object
  have sub : Looks (model prog w) s.heap (isInstance (.ref x) (.type "object")) true := I.type.andThen (looks_mroIn X (by unfold mroIn; rw [hc, Option.bind_some, if_neg (by rw [hne]; decide), hob]))
  refine codeAny_call_builtin SF.slot.plain SF.entry (@check_slot (model prog w) _ _ s "object.__setattr__" "object" "__setattr__" (.ref x) [.str name tk, v] [] _ SF.kind SF.split sub (SF.args (.ref x) (.str name tk) v) ?_)
  have hm : Looks (model prog w) s.heap (mroOf (.ref C)) cd.mro := (looks_clsIn X hc).andThen .now
  rw [osa_eq, refuse_eq]
  refine wpAny_bind (wpAny_bind (I.type.here (wpAny_bind (hm.here ?_))))
  rw [hrf]
  refine wpAny_pure (wpAny_bind (I.type.here (wpAny_bind ((looks_findIn X hfi).here (wpAny_bind ?_)))))
  show wpAny _ _ (pure none) _ _ _
  refine wpAny_pure ?_
  have hcd := looks_clsIn (M := model prog w) X hc
  obtain ⟨hx, hcl, hn, -⟩ := I
  obtain ⟨oc, odi, oda, osl⟩ := ox
  dsimp only at hcl hd hdat
  subst hcl hd hdat
  refine wpAny_bind (wpAny_pure (wpAny_bind (wpAny_bind (wpAny_loadPart hx (wpAny_bind (hcd.here ?_))))))
  rw [hh]
  dsimp only
  rw [if_neg (by decide), if_neg (by simp [typeHasDict])]
  have hx₁ : (s.heap.push { cls := .type "dict", data := .dict #[] }).get? x = some { cls := .ref C, data := .fields vs, slots := osl } := Heap.get?_push_of_some _ hx
  have hxs : x ≠ s.heap.objs.size := Nat.ne_of_lt (Heap.lt_size hx)
  refine wpAny_bind (wpAny_alloc (wpAny_bind (wpAny_update hx₁ (wpAny_pure ?_))))
  have hgd : ((s.heap.push { cls := .type "dict", data := .dict #[] }).update x fun o => { cls := o.cls, dict := some s.heap.objs.size, data := o.data, slots := o.slots }).get? s.heap.objs.size = some { cls := .type "dict", data := .dict #[] } :=
    (Heap.get?_update_other _ _ hxs).trans (Heap.get?_push_size _ rfl)
  have hgx : ((s.heap.push { cls := .type "dict", data := .dict #[] }).update x fun o => { cls := o.cls, dict := some s.heap.objs.size, data := o.data, slots := o.slots }).get? x = some { cls := .ref C, dict := some s.heap.objs.size, data := .fields vs, slots := osl } :=
    Heap.get?_update_self _ hx₁ rfl
  have hnd : ((s.heap.push { cls := .type "dict", data := .dict #[] }).update x fun o => { cls := o.cls, dict := some s.heap.objs.size, data := o.data, slots := o.slots }).Ns s.heap.objs.size (fun _ => none) :=
    ⟨_, #[], _, hgd, rfl, fun e he => absurd he (by simp), fun _ => rfl⟩
  show wpAny _ _ (Builtin.ObjectAttr.storeInDict s.heap.objs.size (.str name tk) name v) _ _ _
  unfold Builtin.ObjectAttr.storeInDict Builtin.ObjectAttr.newKeyGuard
  refine wpAny_bind (wpAny_pure (wpAny_bind (wpAny_nsSet1 (Heap.Ns1.of_empty hnd) fun h' hn' hs => ?_)))
  obtain ⟨oD, esD, epD, hoD, hdD, hcD⟩ := hn'.count (Within.cons name v Within.nil)
  refine wpAny_bind (wpAny_lookBehind hoD (by rw [hdD]; exact pastItsLine_dict (Nat.le_trans hcD (by rw [List.length_cons, List.length_nil, sizeLine_eq]; lia))) ?_)
  obtain ⟨od, g1, g2⟩ := lookIn_of_Ns (name := name) (v := v) hn'.ns (if_pos rfl)
  exact wpAny_pure (h h' od _ (fun b o hb e => (hs.2 b (Nat.ne_of_lt (Heap.lt_size e))).trans ((Heap.get?_update_other _ _ (Ne.symm hb)).trans (Heap.get?_push_of_some _ e))) ((hs.2 x hxs).trans hgx) g1 g2)
end
end Mine
end

section
set_option maxRecDepth 100000
namespace Mine
/-- what the written part says of an own exception class -/
structure ExcC (K : Frag) (C : Addr) (cd : ClassData) : Prop where
  obj : ∃ nm q N bs bm sn sub ab col dd k0 k1 k2 k3 k5, K.lookup C = some (excClassObj nm q C N bs bm true sn sub ab col dd k0 k1 k2 k3 k5 "Exception.__new__") ∧ (Value.ref C :: bm).contains (.type "Exception") = true ∧ (Value.ref C :: bm).contains (.type "AttributeError") = false ∧
    (Value.ref C :: bm).contains (.type "NameError") = false ∧ (Value.ref C :: bm).contains (.type "BaseException") = true
  cls : clsIn K C = some cd
  ob : cd.mro.contains (.type "object") = true
  ne : cd.mro.isEmpty = false
  rf : ∀ x, refuseLoop (.ref x) "__setattr__" cd.mro = pure ()
  hd : cd.hasDict = true
  set : findIn K (.ref C) "__setattr__" = some (some (.builtin "object.__setattr__"))
  word : findIn K (.ref C) "word" = some none
  init : findIn K (.ref C) "__init__" = some (some (.ref 35))
  fn : typeIn K (.ref 35) = some (.type "function")
  keep : keepIn K (.ref C) = true
section
variable {c : Cx} {n : Nat} {fr : FrS} {ω ω' : Wd} {H H₁ H₂ H₃ H₄ : Hp} {l l₁ l₂ l₃ : Loc} {x : Fx} {m : Str → Option Value} {s : Shared} {C : Addr} {cd : ClassData} {i : Nat}
theorem Ok.grown (k : Ok c n fr ω H l x m s) (o : Obj) (hf : o.isFreed = false) {tk : Nat} : Ok c n fr ω H l x m (Sh s (s.heap.push o) tk) :=
  k.at_ (Ext.refl ω) (k.F.push o) (k.N.grown fun _ _ e => Heap.get?_push_of_some _ e) k.R
theorem Ok.exc (k : Ok c n fr ω H l x m s) {d : Option Nat} (hi : i < H.n) (h : H.o i = .exc C d) : ∃ t, (ω.ρ i, ({ cls := .ref C, dict := d.map ω.ρ, data := .fields #[.ref t, .none, .none, .none, .bool false, .none] } : Obj)) ∈ ω.news ∧ (∀ j, d = some j → j < ω.n) := by
  obtain ⟨ob, h1, h2, h3⟩ := k.R.at_ i (k.R.n ▸ hi) (by rw [h]; intro q; cases q)
  rw [h] at h3
  obtain ⟨g1, t, rfl⟩ := h3
  exact ⟨t, h1, g1⟩
theorem notImm_exc {C : Addr} {d : Option Addr} {vs : Array Value} : ¬ Imm { cls := .ref C, dict := d, data := .fields vs } := fun q => by
  rcases q with ⟨_, q⟩ | ⟨_, _, q⟩ <;> cases q
theorem bi_excinit (X : ExcC c.K C cd) {v : V} (h : H.o i = .exc C none) : Bi2 c n fr "Exception.__init__" (.obj i) v H l .none H := by
  intro x ω r r2 h1 h2 m s Q E k ret
  unfold RV at h1
  obtain ⟨hi, rfl⟩ := h1
  obtain ⟨t, hm, _⟩ := k.exc (k.R.n.symm ▸ hi) h
  obtain ⟨nm, q, N, bs, bm, sn, sub, ab, col, dd, k0, k1, k2, k3, k5, e1, e2, _⟩ := X.obj
  refine exc_init (h := s.heap) (g := s.gens) (d := s.drawn) (t := s.toks) (os := s.os) (word := r2) e2 ((k.X.keeps k.F.keep) _ _ e1) (k.N _ hm).1 ?_
  have k₁ := k.grown { cls := .type "tuple", data := .seq #[r2] } rfl (tk := s.toks)
  have hm' := (k₁.N _ hm).1
  obtain ⟨k₂, x₂⟩ := k₁.put (o := .exc C none) (ob := { cls := .ref C, data := .fields #[.ref s.heap.objs.size, .none, .none, .none, .bool false, .none] }) (tk := s.toks) hi (by rw [h]; intro q; cases q) hm notImm_exc notImm_exc (Heap.SameBut.update (s.heap.push { cls := .type "tuple", data := .seq #[r2] }) (ω.ρ i) (Obj.mapFields (·.setIfInBounds 0 (.ref s.heap.objs.size))))
    (Heap.get?_update_self _ hm' rfl) ⟨fun j e => (by cases e), _, rfl⟩
  have e : H.set i (.exc C none) = H := by
    unfold Hp.set; congr; funext j; by_cases q : j = i
    · subst q; rw [if_pos rfl]; exact h.symm
    · rw [if_neg q]
  rw [e] at k₂
  exact ret _ _ m _ s.toks k₂ x₂ RV.none
/-- self.word = v, the first time -/
theorem ex_setword {o e : Expr} {apos pos : Pos} {v : V} (X : ExcC c.K C cd) (hv : Ev c n fr e H l v H₁) (ho : Ev c n fr o H₁ l (.obj i) H₂) (h : H₂.o i = .exc C none)
    (hw : ∀ env, swapsWith e (some (.Attribute o "word" apos)) pos.line env = pure false) :
    Ex c n fr (.Assign [.Attribute o "word" apos] e pos) H l .next ((H₂.new (.xd "word" v)).set i (.exc C (some H₂.n))) l := by
  intro x ω m s Q E k ret
  refine plainObj_wpAny_Assign_Attribute (hv x ω m s _ _ k fun rv ω₁ m₁ h' tk k₁ x₁ r₁ => ho x ω₁ m₁ _ _ _ k₁ fun ro ω₂ m₂ h'' tk' k₂ x₂ r₂ => ?_) (hw _)
  unfold RV at r₂
  obtain ⟨hi, rfl⟩ := r₂
  obtain ⟨t, hm, _⟩ := k₂.exc (k₂.R.n.symm ▸ hi) h
  have z := k₂.N _ hm
  refine set_plain (k₂.X.keeps k₂.F.keep) (C := C) (od := none) ⟨z.1, rfl, rfl, trivial⟩ X.set ?_
  refine osa_exc (s := { Sh s h'' tk' with toks := tk' + 1 }) (k₂.X.keeps k₂.F.keep) (C := C) ⟨z.1, rfl, rfl, trivial⟩ X.cls X.ob X.ne (X.rf _) X.hd X.word rfl rfl fun h₃ od tk₃ g1 g2 g3 g4 => ?_
  have hod : ¬ Imm od := fun q => by
    unfold lookIn at g4
    rcases q with ⟨_, q⟩ | ⟨_, _, q⟩ <;> rw [q] at g4 <;> cases g4
  have hx : Heap.ExtBut (ω₂.ρ i) h'' h₃ := fun b o hb e => g1 b o hb e
  have N₂ : News x.h₀ x.L h₃ ((h''.objs.size, od) :: ω₂.news.filter (fun p => decide (p.1 ≠ ω₂.ρ i))) := fun p hp => by
    rcases List.mem_cons.mp hp with rfl | hp
    · exact ⟨g3, Ne.symm (Nat.ne_of_lt k₂.F.ns.lt), next_is_new k₂.F⟩
    · have z' := k₂.N _ (List.mem_filter.mp hp).1
      exact ⟨g1 _ _ (of_decide_eq_true (List.mem_filter.mp hp).2) z'.1, z'.2⟩
  have lt : ∀ p ∈ ω₂.news, p.1 < h''.objs.size := fun p hp => Heap.lt_size (k₂.N p hp).1
  have hne : h''.objs.size ≠ ω₂.ρ i := Ne.symm (Nat.ne_of_lt (lt _ hm))
  have R₁ : Rel c (ω₂.add h''.objs.size od) (H₂.new (.xd "word" v)) := k₂.R.add lt hod ⟨_, g4, ((r₁.mono x₂).mono (Wd.add_ext ..))⟩
  have nn := k₂.R.n
  have ρi : (ω₂.add h''.objs.size od).ρ i = ω₂.ρ i := Wd.add_old _ _ _ (Nat.ne_of_lt hi)
  have hmA : ((ω₂.add h''.objs.size od).ρ i, ({ cls := .ref C, data := .fields #[.ref t, .none, .none, .none, .bool false, .none] } : Obj)) ∈ (ω₂.add h''.objs.size od).news := by rw [ρi]; exact .tail _ hm
  have hjA : (H₂.new (.xd "word" v)).o i ≠ .junk := by rw [Hp.new_old _ _ (by rw [nn]; exact Nat.ne_of_lt hi), h]; intro q; cases q
  have NA : News x.h₀ x.L (h''.push od) (ω₂.add h''.objs.size od).news := News.push k₂.F k₂.N od (by
    have := g3
    exact (Heap.get?_some_iff.mp g3).2)
  have e₃ : Ext (ω₂.add h''.objs.size od) ((ω₂.add h''.objs.size od).put ((ω₂.add h''.objs.size od).ρ i) { cls := .ref C, dict := some h''.objs.size, data := .fields #[.ref t, .none, .none, .none, .bool false, .none] }) := Wd.put_ext NA hmA notImm_exc _
  have R₂ := R₁.put (o := .exc C (some H₂.n)) (ob := { cls := .ref C, dict := some h''.objs.size, data := .fields #[.ref t, .none, .none, .none, .bool false, .none] }) NA (Nat.lt_succ_of_lt hi) hjA hmA notImm_exc notImm_exc
    ⟨fun j e => by cases e; show H₂.n < ω₂.n + 1; lia, t, by
      show Obj.mk _ (some h''.objs.size) _ _ = Obj.mk _ (some ((ω₂.add h''.objs.size od).ρ H₂.n)) _ _
      rw [nn, Wd.add_here]⟩
  have E₁ := (Wd.add_ext ω₂ h''.objs.size od).trans e₃
  refine ret _ _ m₂ h₃ tk₃ (k₂.at_ E₁ ⟨k₂.F.ns.at' fun o e => hx _ _ (Ne.symm z.2.1) e, fun b o e => hx _ _ (fun q => by rw [q, z.2.2] at e; cases e) (k₂.F.keep b o e), k₂.F.above⟩ (fun p hp => ?_) R₂) ((x₁.trans x₂).trans E₁) rfl
  rcases List.mem_cons.mp hp with rfl | hp
  · rw [ρi]; exact ⟨g2, z.2⟩
  · obtain ⟨hp1, hp2⟩ := List.mem_filter.mp hp
    rw [ρi] at hp2
    rcases List.mem_cons.mp hp1 with rfl | hp1
    · exact N₂ _ (.head _)
    · exact N₂ _ (.tail _ (List.mem_filter.mpr ⟨hp1, hp2⟩))
end
end Mine
end

section
set_option maxRecDepth 100000
namespace Mine
section
variable {c : Cx} {n : Nat} {fr : FrS} {ω ω' : Wd} {H H₁ H₂ H₃ H₄ : Hp} {l l₁ l₂ l₃ : Loc} {x : Fx} {m : Str → Option Value} {s : Shared} {C : Addr} {cd : ClassData} {i : Nat}
/-- the same frame, beneath a class's call -/
noncomputable abbrev Fx.under (x : Fx) (C : Addr) (vals : List Value) : Fx := { x with A := x.A.under (.builtin "type.__call__" ⟨.ref C :: vals, []⟩) }
theorem Ok.under (k : Ok c (n + 1) fr ω H l x m s) (C : Addr) (vals : List Value) : Ok c n fr ω H l (x.under C vals) m s :=
  ⟨k.B, k.X, k.T, k.fk, k.hh, k.tp, k.hfr, (by have := k.hd; show x.A.depth + 1 + 4 * n + 4 < _; lia), (by have := k.hu; show x.A.units + 1 + 16 * n + 16 < _; lia), k.F, k.N, k.R, k.l, k.cl⟩
theorem Ok.out {C : Addr} {vals : List Value} {ω' : Wd} {H' : Hp} {l' : Loc} {m' : Str → Option Value} {s' : Shared} (k : Ok c (n + 1) fr ω H l x m s) (k' : Ok c n fr ω' H' l' (x.under C vals) m' s') : Ok c (n + 1) fr ω' H' l' x m' s' :=
  ⟨k'.B, k'.X, k'.T, k'.fk, k.hh, k'.tp, k.hfr, k.hd, k.hu, k'.F, k'.N, k'.R, k'.l, k'.cl⟩
/-- a type's method, called as the type's attribute -/
theorem ev_ty_bm2 {o e e' : Expr} {name : Str} {apos pos : Pos} {pl : Env → Sem Bool} {T t : String} {u u' v : V} (ho : Ev c n fr o H l (.ty T) H₁) (ht : typeOf (.type T) = pure (.type "type")) (hs : Manifest.isStub T = false)
    (hf : findCls c.K (.type T) (.type "type") name = some (.val (.builtin t))) (hh : handedIn (.builtin t) = true) (ha : Ev c n fr e H₁ l u H₂) (ha' : Ev c n fr e' H₂ l u' H₃) (hc : Bi2 c n fr t u u' H₃ l v H₄)
    (he : MethCall o name apos pos [e, e'] pl) (h1 : ∀ env, starEach [e, e'] env = (false, eval e env) :: starEach [e'] env) (h1' : ∀ env, starEach [e'] env = (false, eval e' env) :: starEach [] env)
    (h2 : ∀ env, (backTo pos (starEach [e'] env)).any (·.1) = false) : Ev c n fr (.Call (.Attribute o name apos) [e, e'] [] pos) H l v H₄ :=
  fun x ω m s Q E k ret => MethodCall_ (ho x ω m s _ _ k fun ro ω₁ m₁ h' tk k₁ x₁ r₁ => by
    unfold RV at r₁
    subst r₁
    refine method_type k₁.F k₁.X ht hs hf hh ?_
    exact PyProof.Rows.callWith_builtin1 (args_cons (ha x ω₁ m₁ (Sh s h' (tk + 1)) _ _ (k₁.toks _) fun r ω₂ m₂ h'' tk' k₂ x₂ r₂ => args_cons (ha' x ω₂ m₂ _ _ _ k₂ fun r' ω₃ m₃ h₃ tk₃ k₃ x₃ r₃ => args_nil (hc x ω₃ r r' (r₂.mono x₃) r₃ m₃ _ _ _ k₃ fun rv ω₄ m₄ h₄ tk₄ k₄ x₄ r₄ =>
      ret rv ω₄ m₄ h₄ tk₄ k₄ (((x₁.trans x₂).trans x₃).trans x₄) r₄)) (h1' _)) (h1 _)) (h1 _) (h2 _)) (he _)
/-- the heap behind an own exception made -/
noncomputable abbrev excH (H : Hp) (C : Addr) (v : V) : Hp := (((H.new (.exc C none)).new (.xd "word" v)).set H.n (.exc C (some (H.n + 1))))
/-- the class called -/
theorem exc_made (X : ExcC c.K C cd) {v : V} (F : ∀ i (H : Hp), H.o i = .exc C none → Fn c n 35 [.obj i, v] H .none ((H.new (.xd "word" v)).set i (.exc C (some H.n)))) (hq : fr.q = true) :
    ∀ x ω rs, RVs ω [v] rs → At c (n + 1) fr x ω (call (.ref C) rs) H l (fun ω r => RV ω (.obj H.n) r) (excH H C v) l := by
  intro x ω rs hrs m s Q E k ret
  obtain ⟨nm, q, N, bs, bm, sn, sub, ab, col, dd, k0, k1, k2, k3, k5, e1, e2, e3, e4, e5⟩ := X.obj
  refine wpAny_call ?_
  have e : (s.heap.push { cls := .type "tuple", data := .seq rs.toArray }).objs.size = s.heap.objs.size + 1 := Heap.size_push ..
  have k₁ := k.grown { cls := .type "tuple", data := .seq rs.toArray } rfl (tk := s.toks)
  refine exc_call (h := s.heap) (g := s.gens) (d := s.drawn) (t := s.toks) (os := s.os) (k.X.keeps k.F.keep) e2 e3 e4 ((k.X.keeps k.F.keep) _ _ e1) X.init X.fn (by rw [hrs.len, sizeLine_eq]; exact Nat.le_of_ble_eq_true rfl) ?_
  obtain ⟨k₂, x₂, r₂⟩ := k₁.add (o := .exc C none) (tk := s.toks) (k₁.F.push (excObj C s.heap.objs.size)) (News.push k₁.F k₁.N (excObj C s.heap.objs.size) rfl) (fun p hp => Heap.lt_size (k₁.N p hp).1) notImm_exc ⟨fun j q => (by cases q), _, rfl⟩
  have r₂' := r₂
  rw [← e]
  refine F H.n (H.new (.exc C none)) (Hp.new_here _ _) fr l (x.under C rs) _ _ m _ _ hq (k₂.under C rs) (.cons r₂ (RVs.mono x₂ hrs)) fun rv ω' h' tk' k' x' r' => ?_
  unfold RV at r'
  exact ⟨r', ret _ ω' m h' tk' (k.out k') (x₂.trans x') (RV.mono x' r₂')⟩
end
end Mine
end

section
set_option maxRecDepth 100000
namespace Mine
/-- a frame with an exception on its way: object i of class C, its dict d -/
structure Th (c : Cx) (n : Nat) (fr : FrS) (ω : Wd) (H : Hp) (l : Loc) (x : Fx) (m : Str → Option Value) (i : Nat) (C : Addr) (d : Nat) (fl : Option Value) (h : Heap) : Prop where
  k : ∃ ω₀ H₀ l₀ m₀ s₀, Ok c n fr ω₀ H₀ l₀ x m₀ s₀
  g : ∃ g, Fr x.h₀ x.L g m ∧ g.UpToSlots h
  W : ∃ W, (∀ b o, x.h₀.get? b = some o → b ∉ x.outer.filterMap (·.frame) → W.get? b = some o) ∧ x.base.StaysIn W ∧ (∀ q ∈ ω.news, W.get? q.1 = some q.2) ∧ Hot W (x.env fr :: x.outer) (ω.ρ i) (.ref C) (some (ω.ρ d)) fl h
  nw : ∀ q ∈ ω.news, q.1 ≠ x.L ∧ x.h₀.get? q.1 = none
  en : ω.ρ i ≠ x.L ∧ x.h₀.get? (ω.ρ i) = none
  hi : i < ω.n
  dn : d < ω.n
  R : Rel c ω H
  jk : H.o i = .junk
  wm : warm x.L fl
  l : ∀ y v, l y = some v → ∃ r, m y = some r ∧ RV ω v r
  cl : ∀ y i, (y, i) ∈ fr.cells → i < ω.n ∧ x.cl.lookup y = some (ω.ρ i)
section
variable {c : Cx} {n : Nat} {fr : FrS} {ω ω' : Wd} {H H₁ H₂ H₃ H₄ : Hp} {l l₁ l₂ l₃ : Loc} {x : Fx} {m : Str → Option Value} {s : Shared} {C : Addr} {cd : ClassData} {i d : Nat} {fl : Option Value} {h : Heap}
theorem Ok.frames (k : Ok c n fr ω H l x m s) : s.heap.FunFrames x.base (x.env fr :: x.outer) := by
  refine .cons (L := x.L) (m := m) (by show fr.scope.kind ≠ .module; rw [k.fk]; decide) rfl k.F.ns ?_ (k.B.frames.of_keeps fun b o e _ => ⟨o, k.F.keep b o e, rfl⟩)
  cases q : x.base.get? x.L with
  | none => rfl
  | some o => exact absurd (Nat.lt_of_lt_of_le (Heap.lt_size (k.B.stays _ o q)) k.F.above) (Nat.lt_irrefl _)
theorem Ok.throw (k : Ok c n fr ω H l x m s) (hi : i < H.n) (h : H.o i = .exc C (some d)) : Th c n fr (ω.drop (ω.ρ i)) (H.set i .junk) l x m i C d none s.heap ∧ Ext ω (ω.drop (ω.ρ i)) ∧
    ∃ t, s.heap.get? (ω.ρ i) = some { cls := .ref C, dict := some (ω.ρ d), data := .fields #[.ref t, .none, .none, .none, .bool false, .none] } := by
  obtain ⟨t, hm, hd⟩ := k.exc hi h
  have z := k.N _ hm
  have hin : i < ω.n := k.R.n ▸ hi
  have e := Wd.drop_ext k.N hm notImm_exc
  have FF := k.frames
  have nL : ∀ b o, x.h₀.get? b = some o → b ≠ x.L := fun b o q => Nat.ne_of_lt (Nat.lt_of_lt_of_le (Heap.lt_size q) k.F.above)
  have w1 : ∀ b o, x.h₀.get? b = some o → b ∉ x.outer.filterMap (·.frame) → (hideAll s.heap (ω.ρ i :: x.L :: x.outer.filterMap (·.frame))).get? b = some o := fun b o q nb => hideAll_get _ (k.F.keep b o q) fun hm => by
    cases hm with
    | head => rw [z.2.2] at q; cases q
    | tail _ hm => cases hm with
      | head => exact nL _ o q rfl
      | tail _ hm => exact nb hm
  have R := k.R.drop k.N hin (by rw [h]; intro q; cases q) hm notImm_exc
  have sub : ∀ q ∈ (ω.drop (ω.ρ i)).news, q ∈ ω.news ∧ q.1 ≠ ω.ρ i := fun q hq => ⟨(List.mem_filter.mp hq).1, of_decide_eq_true (List.mem_filter.mp hq).2⟩
  refine ⟨⟨⟨_, _, _, _, _, k⟩, ⟨s.heap, k.F, Heap.UpToSlots.refl _⟩, ⟨_, w1, fun b o q => w1 b o (k.B.stays b o q) fun hb => ?_, fun q hq => ?_, ?_⟩, fun q hq => (k.N q (sub q hq).1).2, z.2, hin, hd d rfl, R, Hp.set_here _ _ _, .inl rfl,
    fun y v hy => let ⟨r, h1, h2⟩ := k.l y v hy; ⟨r, h1, h2.mono e⟩, fun y i hy => let ⟨h1, h2⟩ := k.cl y i hy; ⟨Nat.lt_of_lt_of_le h1 e.le, by rw [e.ρ i h1]; exact h2⟩⟩, e, t, z.1⟩
  · rw [(k.B.frames.mem hb).1] at q; cases q
  · obtain ⟨q1, q2⟩ := sub q hq
    refine hideAll_get _ (k.N q q1).1 fun hm => ?_
    rcases List.mem_cons.mp hm with z' | hm
    · exact q2 z'
    · rcases List.mem_cons.mp hm with z' | hm
      · exact (k.N q q1).2.1 z'
      · obtain ⟨o, ho, _⟩ := (k.B.frames.mem hm).2
        rw [(k.N q q1).2.2] at ho; cases ho
  · refine ⟨fun b o q => of_hideAll _ q, hideAll_none _ (.head _), funFrames_hide FF fun env he a ha => ?_, _, _, z.1, by show 1 < 6; decide, rfl⟩
    cases he with
    | head => cases ha; exact .tail _ (.head _)
    | tail _ he => exact .tail _ (.tail _ (List.mem_filterMap.mpr ⟨env, he, ha⟩))
/-- a tree that raises -/
noncomputable def Rz (c : Cx) (n : Nat) (fr : FrS) {α : Type} (t : Env → Sem α) (H : Hp) (l : Loc) (i : Nat) (C : Addr) (d : Nat) (H' : Hp) (l' : Loc) : Prop :=
  ∀ x ω m s (Q : α → Shared → Prop) (E : Value → Shared → Prop), Ok c n fr ω H l x m s → (∀ ω' m' h' tk' fl, Th c n fr ω' H' l' x m' i C d fl h' → Ext ω ω' → E (.ref (ω'.ρ i)) (Sh s h' tk')) → wpAny (model c.prog c.w) x.A (t (x.env fr)) Q E s
/-- a def's call that raises -/
noncomputable def FnE (c : Cx) (n : Nat) (a : Addr) (vs : List V) (H : Hp) (i : Nat) (C : Addr) (d : Nat) (H' : Hp) : Prop :=
  ∀ fr l x ω rs m s (R : Result → Shared → Prop), fr.q = true → Ok c n fr ω H l x m s → RVs ω vs rs →
    (∀ ω' h' tk', Th c n fr ω' H' l x m i C d (some .none) h' → Ext ω ω' → R (.error (.ref (ω'.ρ i))) (Sh s h' tk')) → codeAny (model c.prog c.w) x.A (.call (.ref a) ⟨rs, []⟩) R s
theorem fn_defE {a : Addr} {params : Arguments} {body : List Stmt} {fr' : FrS} {names : List Str} {vs : List V} {H' : Hp} (D : DefAt c.K a params body fr' names) (hl : vs.length = names.length)
    (h : Rz c n fr' (execs body) H (bindV names vs) i C d H' l₁) : FnE c (n + 1) a vs H i C d H' := by
  intro fr l x ω rs m s R hq k hrs ret
  obtain ⟨oc, od, name, dV, kV, doc, pm, an, ct, osl, hK, hb⟩ := D.at_
  have hb := hb rs (hrs.len.trans hl)
  have ef := D.f
  subst ef
  refine code_def k.B k.F k.X k.N k.T k.hfr rfl k.fk hK D.cd (by have := k.hd; lia) (BindsTo.of_eq hb) (fun y hy => D.loc _ (List.of_mem_zip (a := y.1) (b := y.2) hy).1) (fun g L' h₁ FG F N B X T => ?_) D.co D.gen D.kind D.nocell
  have k₁ := k.enter hq (tk := s.toks + (names.zip rs).length) D.kind D.top D.cells hrs F N B X T
  refine h _ ω _ _ _ _ k₁ fun ω₁ m₁ h' tk' fl t x₁ => ?_
  obtain ⟨W, w1, w2, w3, w4⟩ := t.W
  obtain ⟨g₂, F₂, u₂⟩ := t.g
  refine hot_leave (L := L') k₁.hfr rfl t.wm w4 fun h'' K u => ret ω₁ h'' tk' ?_ x₁
  obtain ⟨oL, es, ep, gL, _⟩ := FG.ns
  have nL : ∀ b o, x.h₀.get? b = some o → b ≠ x.L := fun b o q => Nat.ne_of_lt (Nat.lt_of_lt_of_le (Heap.lt_size q) FG.above)
  have low : ∀ b, g.get? b = none → b ≠ x.L ∧ x.h₀.get? b = none := fun b q => ⟨fun z => (by rw [z, gL] at q; cases q), by
    cases q' : x.h₀.get? b with
    | none => rfl
    | some o => rw [FG.keep b o q'] at q; cases q⟩
  refine ⟨⟨_, _, _, _, _, k⟩, ⟨g, FG, ((Heap.UpToSlots.of_keeps F₂.keep).trans u₂).trans u⟩, ⟨W, fun b o q nb => w1 b o (FG.keep b o q) fun hm => ?_, w2, w3, K⟩, fun q hq => low _ (t.nw q hq).2, low _ t.en.2, t.hi, t.dn, t.R, t.jk, .inr (.inl rfl),
    fun y v hy => let ⟨r, h1, h2⟩ := k.l y v hy; ⟨r, h1, h2.mono x₁⟩, fun y i hy => let ⟨h1, h2⟩ := k.cl y i hy; ⟨Nat.lt_of_lt_of_le h1 x₁.le, by rw [x₁.ρ i h1]; exact h2⟩⟩
  obtain ⟨env, he, ha⟩ := List.mem_filterMap.mp hm
  cases he with
  | head => cases ha; exact nL _ o q rfl
  | tail _ he => exact nb (List.mem_filterMap.mpr ⟨env, he, ha⟩)
/-! rules -/
theorem rz_raise {e : Expr} {pos : Pos} (X : ExcC c.K C cd) (h : Ev c n fr e H l (.obj i) H₁) (hx : H₁.o i = .exc C (some d)) (hq : fr.q = true) : Rz c n fr (exec (.Raise (some e) none pos)) H l i C d (H₁.set i .junk) l := by
  intro x ω m s Q E k ret
  obtain ⟨nm, q, N, bs, bm, sn, sub, ab, col, dd, k0, k1, k2, k3, k5, e1, e2, e3, e4, e5⟩ := X.obj
  rw [arm_exec_Raise]
  refine wpAny_bind (wpAny_standAt (raise_own (nm := nm) (q := q) (N := N) (bs := bs) (hdct := true) (sn := sn) (sub := sub) (ab := ab) (col := col) (dd := dd) (k0 := k0) (k1 := k1) (k2 := k2) (k3 := k3) (k5 := k5) (newId := "Exception.__new__") e5 (k.hh hq) ?_))
  refine wpAny_bind (wpAny_mono (h x ω m s _ _ k fun r ω₁ m₁ h' tk k₁ x₁ r₁ => ?_) (fun v s₃ h₃ => wpAny_bind (wpAny_standAt (wpAny_pure h₃))) fun _ _ z => z)
  unfold RV at r₁
  obtain ⟨hi, rfl⟩ := r₁
  obtain ⟨t, x₂, tp, he⟩ := k₁.throw (k₁.R.n.symm ▸ hi) hx
  exact ⟨_, tp, _, rfl, k₁.F.keep _ _ (k₁.X _ _ e1), he, ret (ω₁.drop (ω₁.ρ i)) m₁ h' tk none t (x₁.trans x₂)⟩
theorem re_meth {o e : Expr} {es : List Expr} {name : Str} {apos pos : Pos} {pl : Env → Sem Bool} {j b : Nat} {D f : Addr} {fs : List (Str × V)} {vs : List V} (ho : Ev c n fr o H l (.obj j) H₁) (I : Inst H₁ j D b fs) (hno : fget fs name = none)
    (hg : plainGet c.K D name = true) (hf : findIn c.K (.ref D) name = some (some (.ref f))) (ht : isFn c.K (.ref f) = true) (hk : keepIn c.K (.ref f) = true)
    (ha : Eas c n fr (e :: es) H₁ l vs H₂) (hc : FnE c n f (.obj j :: vs) H₂ i C d H₃) (hq : fr.q = true)
    (he : MethCall o name apos pos (e :: es) pl)
    (h1 : ∀ env, starEach (e :: es) env = (false, eval e env) :: starEach es env) (h2 : ∀ env, (backTo pos (starEach es env)).any (·.1) = false) :
    Rz c n fr (eval (.Call (.Attribute o name apos) (e :: es) [] pos)) H l i C d H₃ l :=
  fun x ω m s Q E k ret => MethodCall_ (ho x ω m s _ _ k fun ro ω₁ m₁ h' tk k₁ x₁ r₁ => by
    have hr := r₁
    obtain ⟨rfl, hn, hd, es', e', g1, g2, g3⟩ := k₁.inst r₁ I
    exact method_inst k₁.F k₁.X (k₁.instAt g1 g2) hg hf ht (g3.get.2.1 hno) (callWith_K k₁.X hk (ha pos x ω₁ m₁ _ _ _ k₁ fun rs ω₂ m₂ h'' tk' k₂ x₂ r₂ => ⟨k₂.X.keeps k₂.F.keep, wpAny_call (hc fr l x ω₂ _ m₂ _ _ hq k₂ (.cons (RV.mono x₂ hr) r₂) fun ω₃ h₃ tk₃ t x₃ =>
      ret ω₃ m₂ h₃ tk₃ _ t ((x₁.trans x₂).trans x₃))⟩) (h1 _) (h2 _))) (he _)
theorem re_bm1 {o e : Expr} {name : Str} {apos pos : Pos} {pl : Env → Sem Bool} {t : String} {u : V} (ho : Ev c n fr o H l u H₁) (hg : Gm c n fr u name t H₁ l) (ha : Rz c n fr (eval e) H₁ l i C d H₂ l)
    (he : MethCall o name apos pos [e] pl) (h1 : ∀ env, starEach [e] env = (false, eval e env) :: starEach [] env) (h2 : ∀ env, (backTo pos (starEach [] env)).any (·.1) = false) :
    Rz c n fr (eval (.Call (.Attribute o name apos) [e] [] pos)) H l i C d H₂ l :=
  fun x ω m s Q E k ret => MethodCall_ (ho x ω m s _ _ k fun ro ω₁ m₁ h' tk k₁ x₁ r₁ => hg x ω₁ ro _ r₁ m₁ _ _ _ k₁ fun z ω₂ m₂ h'' tk' k₂ x₂ r₂ => by
    obtain ⟨r', rfl, hr'⟩ := r₂
    exact callWith_method1 (args_cons (ha x ω₂ m₂ _ _ _ k₂ fun ω₃ m₃ h₃ tk₃ fl t x₃ => ret ω₃ m₃ h₃ tk₃ fl t ((x₁.trans x₂).trans x₃)) (h1 _)) (h1 _) (h2 _)) (he _)
theorem re_sub {o j : Expr} {pos : Pos} (ho : Rz c n fr (eval o) H l i C d H₁ l) : Rz c n fr (eval (.Subscript o j pos)) H l i C d H₁ l :=
  fun x ω m s Q E k ret => Subscript_ (ho x ω m s _ _ k ret)
theorem re_iff {t a b : Expr} {pos : Pos} (h : Te c n fr t H l false H₁) (h₂ : Rz c n fr (eval b) H₁ l i C d H₂ l) : Rz c n fr (eval (.IfExp t a b pos)) H l i C d H₂ l :=
  fun x ω m s Q E k ret => wpAny_IfExp (h x ω m s _ _ k fun r ω₁ m₁ h' tk k₁ x₁ r₁ => by
    subst r₁
    exact h₂ x ω₁ m₁ _ _ _ k₁ fun ω₃ m₃ h₃ tk₃ fl t x₃ => ret ω₃ m₃ h₃ tk₃ fl t (x₁.trans x₃))
theorem rx_assign {y : Str} {e : Expr} {npos pos : Pos} (h : Rz c n fr (eval e) H l i C d H₁ l) (hw : ∀ env, swapsWith e (some (.Name y npos)) pos.line env = pure false) : Rz c n fr (exec (.Assign [.Name y npos] e pos)) H l i C d H₁ l :=
  fun x ω m s Q E k ret => wpAny_Assign_Name (h x ω m s _ _ k ret) (hw _)
theorem rx_expr {e : Expr} {pos : Pos} (h : Rz c n fr (eval e) H l i C d H₁ l) (hw : ∀ env, swapsWith e none pos.line env = pure false) : Rz c n fr (exec (.Expr e pos)) H l i C d H₁ l :=
  fun x ω m s Q E k ret => wpAny_Expr_any (h x ω m s _ _ k ret) (by unfold interactive; rw [show (x.env fr).scope.kind = .function from k.fk]; rfl) (hw _)
theorem rx_if_t {t : Expr} {a b : List Stmt} {pos : Pos} (h : Te c n fr t H l true H₁) (h₂ : Rz c n fr (execs a) H₁ l i C d H₂ l₂) : Rz c n fr (exec (.If t a b pos)) H l i C d H₂ l₂ :=
  fun x ω m s Q E k ret => wpAny_If (h x ω m s _ _ k fun r ω₁ m₁ h' tk k₁ x₁ r₁ => by
    subst r₁
    exact h₂ x ω₁ m₁ _ _ _ k₁ fun ω₃ m₃ h₃ tk₃ fl t x₃ => ret ω₃ m₃ h₃ tk₃ fl t (x₁.trans x₃))
theorem rx_here {t : Stmt} {ts : List Stmt} (h : Rz c n fr (exec t) H l i C d H₁ l₁) : Rz c n fr (execs (t :: ts)) H l i C d H₁ l₁ :=
  fun x ω m s Q E k ret => wpAny_execs_cons (h x ω m s _ _ k ret)
theorem rx_then {t : Stmt} {ts : List Stmt} (h : Ex c n fr t H l .next H₁ l₁) (h₂ : Rz c n fr (execs ts) H₁ l₁ i C d H₂ l₂) : Rz c n fr (execs (t :: ts)) H l i C d H₂ l₂ :=
  fun x ω m s Q E k ret => wpAny_execs_cons (h x ω m s _ _ k fun r ω₁ m₁ h' tk k₁ x₁ r₁ => by
    cases r₁
    exact h₂ x ω₁ m₁ _ _ _ k₁ fun ω₃ m₃ h₃ tk₃ fl t x₃ => ret ω₃ m₃ h₃ tk₃ fl t (x₁.trans x₃))
theorem rx_while {t : Expr} {body : List Stmt} {pos : Pos} (h : Te c n fr t H l true H₁) (h₂ : Rz c n fr (execs body) H₁ l i C d H₂ l₂) : Rz c n fr (exec (.While t body [] pos)) H l i C d H₂ l₂ :=
  fun x ω m s Q E k ret => wpAny_While (while_step (M := model c.prog c.w) (h x ω m s _ _ k fun r ω₁ m₁ h' tk k₁ x₁ r₁ => by
    subst r₁
    refine h₂ x ω₁ m₁ _ _ _ k₁ fun ω₃ m₃ h₃ tk₃ fl t x₃ => ?_
    obtain ⟨W, w1, w2, w3, w4⟩ := t.W
    obtain ⟨g₂, F₂, u₂⟩ := t.g
    refine hot_note (L := x.L) k.hfr rfl t.wm w4 fun h₄ K₄ u₄ => ?_
    show cameBackBy (model c.prog c.w) x.A (x.env fr) E (.ref (ω₃.ρ i)) (Sh s h₄ tk₃)
    refine hot_came (s := Sh s h₄ tk₃) rfl K₄ fun h₅ K₅ u₅ => ret ω₃ m₃ h₅ tk₃ (some (rawInt x.L)) ?_ (x₁.trans x₃)
    exact ⟨t.k, ⟨g₂, F₂, (u₂.trans u₄).trans u₅⟩, ⟨W, w1, w2, w3, K₅⟩, t.nw, t.en, t.hi, t.dn, t.R, t.jk, .inr (.inr rfl), t.l, t.cl⟩))
end
end Mine
end

section
set_option maxRecDepth 100000
namespace Mine
section
variable {c : Cx} {n : Nat} {fr : FrS} {ω ω' : Wd} {H H₁ H₂ H₃ H₄ : Hp} {l l₁ l₂ l₃ : Loc} {x : Fx} {m : Str → Option Value} {s : Shared} {C : Addr} {cd : ClassData} {i d : Nat} {fl : Option Value} {h : Heap}
/-- a frame within a suite that handles -/
noncomputable abbrev FrS.calm (fr : FrS) : FrS := { fr with q := false, top := false }
noncomputable abbrev Fx.base' (x : Fx) (g : Heap) : Fx := { x with h₀ := g }
noncomputable abbrev Fx.mk' (x : Fx) (g : Heap) (e : Addr) : Fx := { x with h₀ := g, A := x.A.mark (some (.ref e)) }
theorem notImm_ref {C : Addr} {d : Option Addr} {vs : Array Value} {sl : Array (Option Value)} : ¬ Imm ⟨.ref C, d, .fields vs, sl⟩ := fun q => by
  rcases q with ⟨_, q⟩ | ⟨_, _, q⟩ <;> cases q
/-- the frame caught again, the exception's object held -/
theorem Th.hold (t : Th c n fr ω H l x m i C d fl h) (ho : ∃ env, x.outer = [env]) (X : c.K.In x.base) (T : Top c.p c.loose c.mean c.mg c.mb x.base)
    {W : Heap} {fl' : Option Value} (w1 : ∀ b o, x.h₀.get? b = some o → b ∉ x.outer.filterMap (·.frame) → W.get? b = some o) (w3 : ∀ q ∈ ω.news, W.get? q.1 = some q.2) (K : Hot W (x.env fr :: x.outer) (ω.ρ i) (.ref C) (some (ω.ρ d)) fl' s.heap)
    (hg : ∃ g, Fr x.h₀ x.L g m ∧ g.UpToSlots s.heap) :
    ∃ g' ω', x.h₀.UpToSlots g' ∧ Ext ω ω' ∧ ω'.ρ = ω.ρ ∧ ω'.n = ω.n ∧ Ok c n fr.calm ω' (H.set i (.held C d)) l (x.mk' g' (ω.ρ i)) m s := by
  obtain ⟨_, _, _, _, _, k⟩ := t.k
  obtain ⟨env, eo⟩ := ho
  obtain ⟨g, F, u⟩ := hg
  have BF := k.B.frames
  rw [eo] at BF
  obtain ⟨hk, ⟨L₀, o₀, hf, hn, ho₀, hnf⟩, _⟩ := BF
  obtain ⟨sl, hs⟩ := u L₀ o₀ (F.keep _ _ ho₀) hnf
  have free : ({ o₀ with slots := sl } : Obj).isFreed = false := (Heap.get?_some_iff.mp hs).2
  have self := Heap.get?_update_self (fun o => { o with slots := sl }) ho₀ free
  have other : ∀ b, b ≠ L₀ → (x.h₀.update L₀ (fun o => { o with slots := sl })).get? b = x.h₀.get? b := fun b q => Heap.get?_update_other _ _ (Ne.symm q)
  have nout : ∀ b, b ≠ L₀ → b ∉ x.outer.filterMap (·.frame) := fun b q hm => by
    rw [eo] at hm
    obtain ⟨env', he, ha⟩ := List.mem_filterMap.mp hm
    cases he with
    | head => rw [hf] at ha; exact q (Option.some.inj ha).symm
    | tail _ he => cases he
  have sub : ∀ b o, (x.h₀.update L₀ (fun o => { o with slots := sl })).get? b = some o → s.heap.get? b = some o := fun b o q => by
    by_cases e : b = L₀
    · subst e; rw [self] at q; cases q; exact hs
    · rw [other b e] at q; exact K.stays b o (w1 b o q (nout b e))
  have bs : ∀ b o, x.base.get? b = some o → (x.h₀.update L₀ (fun o => { o with slots := sl })).get? b = some o := fun b o q => by
    rw [other b fun z => by rw [z, hn] at q; cases q]
    exact k.B.stays b o q
  have no : ∀ b, x.h₀.get? b = none → (x.h₀.update L₀ (fun o => { o with slots := sl })).get? b = none := fun b q => by
    rw [other b fun z => by rw [z, ho₀] at q; cases q]; exact q
  obtain ⟨vs, sl', he, hz, _⟩ := K.obj
  have e := Wd.imm_ext ω (ω.ρ i) ⟨.ref C, some (ω.ρ d), .fields vs, sl'⟩
  refine ⟨x.h₀.update L₀ (fun o => { o with slots := sl }), ω.imm (ω.ρ i) ⟨.ref C, some (ω.ρ d), .fields vs, sl'⟩, fun b o q _ => ?_, e, rfl, rfl, ⟨k.B.stack, bs, ?_⟩, X.keeps bs, T.keeps bs, k.fk, fun q => (by cases q), fun q => (by cases q), k.hfr, k.hd, k.hu,
    ⟨u.ns F.ns, sub, by show (x.h₀.update L₀ _).objs.size ≤ x.L; rw [Heap.size_after_update]; exact k.F.above⟩, fun p hp => ?_, ⟨t.R.n, fun j hj jj => ?_, fun a b h1 h2 j1 j2 q => ?_⟩,
    fun y v hy => let ⟨r, h1, h2⟩ := t.l y v hy; ⟨r, h1, h2.mono e⟩, fun y i hy => t.cl y i hy⟩
  · by_cases z : b = L₀
    · subst z; rw [ho₀] at q; cases q; exact ⟨sl, self⟩
    · exact ⟨o.slots, (other b z).trans q⟩
  · show Heap.FunFrames _ _ x.outer
    rw [eo]
    exact ⟨hk, ⟨L₀, _, hf, hn, self, hnf⟩, trivial⟩
  · rcases List.mem_cons.mp hp with rfl | hp
    · exact ⟨he, t.en.1, no _ t.en.2⟩
    · exact ⟨K.stays _ _ (w3 p hp), (t.nw p hp).1, no _ (t.nw p hp).2⟩
  · by_cases q : j = i
    · subst q
      rw [Hp.set_here]
      exact ⟨_, .head _, notImm_ref, t.dn, vs, sl', rfl⟩
    · rw [Hp.set_old _ _ _ q] at jj ⊢
      obtain ⟨ob, o1, o2, o3⟩ := t.R.at_ j hj jj
      exact ⟨ob, .tail _ o1, o2, o3.mono e⟩
  · have key : ∀ b, b < ω.n → b ≠ i → (H.set i (.held C d)).o b ≠ .junk → ω.ρ b ≠ ω.ρ i := fun b hb qb jb z => by
      rw [Hp.set_old _ _ _ qb] at jb
      obtain ⟨ob, o1, _, _⟩ := t.R.at_ b hb jb
      have := w3 _ o1
      rw [show (ω.ρ b, ob).1 = ω.ρ i from z, K.new] at this
      cases this
    by_cases qa : a = i
    · by_cases qb : b = i
      · rw [qa, qb]
      · subst qa; exact absurd (Eq.symm q) (key b h2 qb j2)
    · by_cases qb : b = i
      · subst qb; exact absurd q (key a h1 qa j1)
      · rw [Hp.set_old _ _ _ qa] at j1
        rw [Hp.set_old _ _ _ qb] at j2
        exact t.R.inj a b h1 h2 j1 j2 q
/-- a def that catches, called from the law's own frame -/
noncomputable def FnB (c : Cx) (n : Nat) (a : Addr) (vs : List V) (H : Hp) (v : V) (H' : Hp) : Prop :=
  ∀ fr l x ω rs m s (R : Result → Shared → Prop), fr.q = true → fr.top = true → Ok c n fr ω H l x m s → RVs ω vs rs →
    (∀ rv ω' h' tk', Ok c n fr ω' H' l x m (Sh s h' tk') → Ext ω ω' → RV ω' v rv → R (.ok (.ret rv)) (Sh s h' tk')) → codeAny (model c.prog c.w) x.A (.call (.ref a) ⟨rs, []⟩) R s
theorem Fn.toB {a : Addr} {vs : List V} {v : V} (f : Fn c n a vs H v H₁) : FnB c n a vs H v H₁ := fun fr l x ω rs m s R hq _ k => f fr l x ω rs m s R hq k
theorem FnB.call {a : Addr} {vs : List V} {v : V} (f : FnB c n a vs H v H₁) (hq : fr.q = true) (ht : fr.top = true) : ∀ x ω rs, RVs ω vs rs → At c n fr x ω (call (.ref a) rs) H l (fun ω r => RV ω v r) H₁ l :=
  fun x ω rs hrs m s Q E k ret => wpAny_call (f fr l x ω rs m s _ hq ht k hrs fun rv ω' h' tk' k' x' r' => ret rv ω' m h' tk' k' x' r')
/-- its body -/
noncomputable def ExB (c : Cx) (n : Nat) (fr : FrS) (t : Env → Sem Flow) (H : Hp) (l : Loc) (f : Fl) (H' : Hp) : Prop :=
  ∀ x ω m s (Q : Flow → Shared → Prop) (E : Value → Shared → Prop), (∃ env, x.outer = [env]) → c.K.In x.base → Top c.p c.loose c.mean c.mg c.mb x.base → Ok c n fr ω H l x m s →
    (∀ a ω' l' m' h' tk' g', Ok c n fr ω' H' l' (x.base' g') m' (Sh s h' tk') → x.h₀.UpToSlots g' → Ext ω ω' → RFl ω' f a → Q a (Sh s h' tk')) → wpAny (model c.prog c.w) x.A (t (x.env fr)) Q E s
theorem exb_then {t : Stmt} {ts : List Stmt} {f : Fl} (h : Ex c n fr t H l .next H₁ l₁) (h₂ : ExB c n fr (execs ts) H₁ l₁ f H₂) : ExB c n fr (execs (t :: ts)) H l f H₂ :=
  fun x ω m s Q E ho X T k ret => wpAny_execs_cons (h x ω m s _ _ k fun r ω₁ m₁ h' tk k₁ x₁ r₁ => by
    cases r₁
    exact h₂ x ω₁ m₁ _ _ _ ho X T k₁ fun a ω₃ l₃ m₃ h₃ tk₃ g' k₃ u₃ x₃ r₃ => ret a ω₃ l₃ m₃ h₃ tk₃ g' k₃ u₃ (x₁.trans x₃) r₃)
theorem exb_ret {t : Stmt} {ts : List Stmt} {v : V} (h : ExB c n fr (exec t) H l (.ret v) H₁) : ExB c n fr (execs (t :: ts)) H l (.ret v) H₁ :=
  fun x ω m s Q E ho X T k ret => wpAny_execs_cons (h x ω m s _ _ ho X T k fun a ω₃ l₃ m₃ h₃ tk₃ g' k₃ u₃ x₃ r₃ => by
    obtain ⟨r, rfl, hv⟩ := r₃
    exact ret _ ω₃ l₃ m₃ h₃ tk₃ g' k₃ u₃ x₃ ⟨r, rfl, hv⟩)
theorem fn_defB {a : Addr} {params : Arguments} {body : List Stmt} {fr' : FrS} {names : List Str} {vs : List V} {f : Fl} (D : DefAt c.K a params body fr' names) (hl : vs.length = names.length)
    (h : ExB c n fr' (execs body) H (bindV names vs) f H₁) : FnB c (n + 1) a vs H f.val H₁ := by
  intro fr l x ω rs m s R hq ht k hrs ret
  obtain ⟨oc, od, name, dV, kV, doc, pm, an, ct, osl, hK, hb⟩ := D.at_
  have hb := hb rs (hrs.len.trans hl)
  have ef := D.f
  subst ef
  obtain ⟨tb, to, _⟩ := k.tp ht
  have nm : ∀ b o, x.h₀.get? b = some o → b ∉ ω.news.map (·.1) := fun b o e q => by
    obtain ⟨p, hp, rfl⟩ := List.mem_map.mp q
    rw [(k.N p hp).2.2] at e; cases e
  have st : x.h₀.StaysIn (hideAll s.heap (ω.news.map (·.1))) := fun b o e => hideAll_get _ (k.F.keep b o e) (nm b o e)
  obtain ⟨oL, es, ep, hL, hLd, hLr⟩ := id k.F.ns
  have nL : x.L ∉ ω.news.map (·.1) := fun q => by
    obtain ⟨p, hp, e⟩ := List.mem_map.mp q
    exact (k.N p hp).2.1 e
  have hLg := hideAll_get (ω.news.map (·.1)) hL nL
  have B₂ : Below x.A x.base (x.env fr :: x.outer) (hideAll s.heap (ω.news.map (·.1))) := ⟨k.hfr, fun b o e => st b o (k.B.stays b o e), funFrames_hideAll k.frames fun env he b hb hf => by
    cases he with
    | head => exact nL ((Option.some.inj hf : x.L = b) ▸ hb)
    | tail _ he => rw [to] at he; cases he⟩
  refine codeAny_call_def (fd := fnOf name fr'.qual params body fr'.scope dV kV doc pm an fr'.cdv ct) (body := body) (binds := names.zip rs) (by have := k.hd; lia) ((k.X.keeps k.F.keep) _ _ hK) rfl (k.T.nolimit.keeps k.F.keep)
    (codeRec_of (k.X.keeps k.F.keep) D.cd) rfl (BindsTo.of_eq hb) D.nocell (fun y hy => D.loc _ (List.of_mem_zip (a := y.1) (b := y.2) hy).1) (fun h₁ hns hk₁ => ?_) D.co D.gen D.kind
  have F : Fr (hideAll s.heap (ω.news.map (·.1))) s.heap.objs.size h₁ (fun y => (names.zip rs).reverse.lookup y) := ⟨hns, fun b o e => hk₁ b o (of_hideAll _ e), Nat.le_of_eq (hideAll_size _ _)⟩
  have N : News (hideAll s.heap (ω.news.map (·.1))) s.heap.objs.size h₁ ω.news := fun p hp => ⟨hk₁ _ _ (k.N p hp).1, Nat.ne_of_lt (Heap.lt_size (k.N p hp).1), hideAll_none _ (List.mem_map_of_mem hp)⟩
  have k₁ := k.enter hq (tk := s.toks + (names.zip rs).length) D.kind D.top D.cells hrs F N B₂ (k.X.keeps st) (k.T.keeps st)
  refine h _ ω _ _ _ _ ⟨_, by show x.env fr :: x.outer = _; rw [to]⟩ (tb ▸ k.X) (tb ▸ k.T) k₁ fun rf ω₁ l₁ m₁ h' tk' g' k₂ up x₁ r₁ => ?_
  have up' : Heap.Ns g' x.L m := Heap.UpToSlots.ns up ⟨oL, es, ep, hLg, hLd, hLr⟩
  have nl : ∀ b, g'.get? b = none → b ≠ x.L ∧ x.h₀.get? b = none := fun b q => ⟨fun z => (by obtain ⟨o', _, _, q', _⟩ := up'; rw [z, q'] at q; cases q), by
    cases q' : x.h₀.get? b with
    | none => rfl
    | some o => rw [tb] at q'; have this : g'.get? b = some o := k₂.B.stays b o q'; rw [this] at q; cases q⟩
  exact ret (flowV rf) ω₁ h' tk' (k.at_ x₁ ⟨up'.at' fun o e => k₂.F.keep _ _ e, fun b o e => k₂.F.keep _ _ (k₂.B.stays b o (tb ▸ e)), k.F.above⟩ (fun p hp => ⟨(k₂.N p hp).1, nl _ (k₂.N p hp).2.2⟩) k₂.R) x₁ r₁.val
end
end Mine
end

section
set_option maxRecDepth 100000
namespace Mine
section
variable {c : Cx} {n : Nat} {fr : FrS} {ω ω' : Wd} {H H₁ H₂ H₃ H₄ : Hp} {l l₁ l₂ l₃ : Loc} {x : Fx} {m : Str → Option Value} {s : Shared} {C : Addr} {cd : ClassData} {i d : Nat} {fl : Option Value} {h : Heap}
theorem base_of {C : Addr} {bm : List Value} (e : (Value.ref C :: bm).contains (.type "BaseException") = true) : bm.contains (.type "BaseException") = true := by
  rw [List.contains_cons] at e
  exact e
/-- back from the suite -/
theorem Ok.back {g' : Heap} {e : Addr} {m' : Str → Option Value} {s' : Shared} (k : Ok c n fr ω H l x m s) (ht : fr.top = false) (k' : Ok c n fr.calm ω' H₁ l₁ (x.mk' g' e) m' s') {l' : Loc} (hl : ∀ y v, l' y = some v → ∃ r, m' y = some r ∧ RV ω' v r) : Ok c n fr ω' H₁ l' (x.base' g') m' s' :=
  ⟨k'.B, k'.X, k'.T, k.fk, k.hh, fun q => absurd (ht.symm.trans q) (by decide), k.hfr, k.hd, k.hu, k'.F, k'.N, k'.R, hl, k'.cl⟩
theorem exb_try {body suite : List Stmt} {b₀ : Stmt} {y : Str} {np pos tpos : Pos} {v : V} (h : Rz c n fr (execs body) H l i C d H₁ l₁) (X : ExcC c.K C cd) (hn : nsIn c.K mainGlobals y = some (some (.ref C))) (hy : fr.scope.names.lookup y = some .globalImplicit) (hd : (y == ("__debug__" : Str)) = false)
    (ht : fr.top = false) (hs : Exs c n fr.calm (b₀ :: suite) (H₁.set i (.held C d)) l₁ (.ret v) H₂ l₂) :
    ExB c n fr (exec (.Try body [.ExceptHandler (some (.Name y np)) none (b₀ :: suite) pos] [] [] tpos)) H l (.ret v) H₂ := by
  intro x ω m s Q E ho Xb Tb k ret
  obtain ⟨nm, q, N, bs, bm, sn, sub, ab, col, dd, k0, k1, k2, k3, k5, e1, e2, e3, e4, e5⟩ := X.obj
  refine wpAny_Try_except (h x ω m s _ _ k fun ω₁ m₁ h' tk fl t x₁ => ?_)
  obtain ⟨W, w1, w2, w3, w4⟩ := t.W
  obtain ⟨g₂, F₂, u₂⟩ := t.g
  refine hot_note (L := x.L) k.hfr rfl t.wm w4 fun h₂ K₂ v₂ => hot_land (s := Sh s h₂ tk) K₂ fun h₃ K₃ v₃ => ?_
  refine wpAny_handleBy_cons (codeAny_handlers_test ?_) (by intro q; cases q)
  obtain ⟨ga, ωa, _, _, _, _, ka⟩ := Th.hold (s := Sh s h₃ tk) t ho Xb Tb w1 w3 K₃ ⟨g₂, F₂, (u₂.trans v₂).trans v₃⟩
  refine nameX_K (s := Sh s h₃ tk) ka.F ka.X ka.tr hn ?_ k.fk hy hd
  obtain ⟨vs, sl, he, _⟩ := id K₃.obj
  refine wpAny_excMatches_sub_self (ka.F.keep _ _ (ka.X _ _ e1)) he rfl (base_of e5) ?_
  refine codeAny_handlers_suite (s := Sh s h₃ tk) (hot_land K₃ fun h₄ K₄ v₄ => ?_)
  obtain ⟨g', ω', up, e₄, _, _, k₄⟩ := Th.hold (s := Sh s h₄ tk) t ho Xb Tb w1 w3 K₄ ⟨g₂, F₂, ((u₂.trans v₂).trans v₃).trans v₄⟩
  refine hs _ ω' m₁ _ _ _ k₄ fun rf ω₅ m₅ h₅ tk₅ k₅ x₅ r₅ => ?_
  obtain ⟨r, rfl, hv⟩ := r₅
  exact ret _ ω₅ l₂ m₅ h₅ tk₅ g' (k.back ht k₅ k₅.l) up ((x₁.trans e₄).trans x₅) ⟨r, rfl, hv⟩
theorem exb_tryAs {body suite : List Stmt} {b₀ : Stmt} {y z : Str} {np pos tpos : Pos} {v : V} (h : Rz c n fr (execs body) H l i C d H₁ l₁) (X : ExcC c.K C cd) (hn : nsIn c.K mainGlobals y = some (some (.ref C))) (hy : fr.scope.names.lookup y = some .globalImplicit) (hd : (y == ("__debug__" : Str)) = false)
    (hz : fr.scope.names.lookup z = some .local) (ht : fr.top = false) (hs : Exs c n fr.calm (b₀ :: suite) (H₁.set i (.held C d)) (l₁.set z (.obj i)) (.ret v) H₂ l₂) :
    ExB c n fr (exec (.Try body [.ExceptHandler (some (.Name y np)) (some z) (b₀ :: suite) pos] [] [] tpos)) H l (.ret v) H₂ := by
  intro x ω m s Q E ho Xb Tb k ret
  obtain ⟨nm, q, N, bs, bm, sn, sub, ab, col, dd, k0, k1, k2, k3, k5, e1, e2, e3, e4, e5⟩ := X.obj
  refine wpAny_Try_except (h x ω m s _ _ k fun ω₁ m₁ h' tk fl t x₁ => ?_)
  obtain ⟨W, w1, w2, w3, w4⟩ := t.W
  obtain ⟨g₂, F₂, u₂⟩ := t.g
  refine hot_note (L := x.L) k.hfr rfl t.wm w4 fun h₂ K₂ v₂ => hot_land (s := Sh s h₂ tk) K₂ fun h₃ K₃ v₃ => ?_
  refine wpAny_handleBy_cons (codeAny_handlers_test ?_) (by intro q; cases q)
  obtain ⟨ga, ωa, _, _, _, _, ka⟩ := Th.hold (s := Sh s h₃ tk) t ho Xb Tb w1 w3 K₃ ⟨g₂, F₂, (u₂.trans v₂).trans v₃⟩
  refine nameX_K (s := Sh s h₃ tk) ka.F ka.X ka.tr hn ?_ k.fk hy hd
  obtain ⟨vs, sl, he, _⟩ := id K₃.obj
  refine wpAny_excMatches_sub_self (ka.F.keep _ _ (ka.X _ _ e1)) he rfl (base_of e5) ?_
  refine codeAny_handlers_suite_as (s := Sh s h₃ tk) (hot_land K₃ fun h₄ K₄ v₄ => ?_)
  obtain ⟨g', ω', up, e₄, eρ, en, k₄⟩ := Th.hold (s := Sh s h₄ tk) t ho Xb Tb w1 w3 K₄ ⟨g₂, F₂, ((u₂.trans v₂).trans v₃).trans v₄⟩
  have re : RV ω' (.obj i) (.ref (ω₁.ρ i)) := by
    unfold RV
    exact ⟨en ▸ t.hi, by rw [eρ]⟩
  refine store_local (fr := fr.calm) hz (x.mk' g' (ω₁.ρ i)) ω' _ re m₁ _ _ _ k₄ fun _ ω₆ m₆ h₆ tk₆ k₆ x₆ _ => ?_
  refine hs _ ω₆ m₆ _ _ _ k₆ fun rf ω₅ m₅ h₅ tk₅ k₅ x₅ r₅ => ?_
  obtain ⟨r, rfl, hv⟩ := r₅
  refine wpAny_nameGoes (s := Sh s h₅ tk₅) (m := m₅) hz k₅.F.ns (by show ((fr.scope.kind == _) || _) = false; rw [k.fk]; rfl) fun h₇ m₇ hn₇ hb => ?_
  have k₇ : Ok c n fr.calm ω₅ H₂ (fun _ => none) (x.mk' g' (ω₁.ρ i)) m₇ (Sh s h₇ (tk₅ + 1)) :=
    ⟨k₅.B, k₅.X, k₅.T, k₅.fk, k₅.hh, k₅.tp, k₅.hfr, k₅.hd, k₅.hu, k₅.F.set hn₇ hb, fun p hp => ⟨(hb.2 _ (k₅.N p hp).2.1).trans (k₅.N p hp).1, (k₅.N p hp).2⟩, k₅.R, fun y v q => (by cases q), k₅.cl⟩
  exact ret _ ω₅ _ m₇ h₇ (tk₅ + 1) g' (k.back ht k₇ k₇.l) up (((x₁.trans e₄).trans x₆).trans x₅) ⟨r, rfl, hv⟩
/-- a bound method, called, raises -/
theorem re_act {fe e : Expr} {es : List Expr} {pos : Pos} {f : Addr} {j : Nat} {vs : List V} (hf : Ev c n fr fe H l (.meth f j) H₁) (hfn : fnIn c.K f = true) (ha : Eas c n fr (e :: es) H₁ l vs H₂) (hc : FnE c n f (.obj j :: vs) H₂ i C d H₃) (hq : fr.q = true)
    (he : ∀ env, eval (.Call fe (e :: es) [] pos) env = (do callWith pos (← eval fe env) [] (backTo pos (starEach (e :: es) env)) (backToKw pos (keywordEach [] env))))
    (h1 : ∀ env, starEach (e :: es) env = (false, eval e env) :: starEach es env) (h2 : ∀ env, (backTo pos (starEach es env)).any (·.1) = false) :
    Rz c n fr (eval (.Call fe (e :: es) [] pos)) H l i C d H₃ l :=
  fun x ω m s Q E k ret => Call_ (hf x ω m s _ _ k fun rf ω₁ m₁ h' tk k₁ x₁ r₁ => by
    unfold RV at r₁
    obtain ⟨hj, q, rfl, hq'⟩ := r₁
    refine callWith_M k₁.X k₁.N hq' hfn (ha pos x ω₁ m₁ _ _ _ k₁ fun rs ω₂ m₂ h'' tk' k₂ x₂ r₂ => ?_) (h1 _) (h2 _)
    have hm := x₂.imm _ hq' (.inr ⟨_, _, rfl⟩)
    refine ⟨methP k₂.N hm (k₂.X.keeps k₂.F.keep), call_meth k₂.N hm (hc fr l x ω₂ _ m₂ _ _ hq k₂ (.cons (by unfold RV; exact ⟨Nat.lt_of_lt_of_le hj x₂.le, by rw [x₂.ρ _ hj]⟩) r₂) fun ω₃ h₃ tk₃ t x₃ => ret ω₃ m₂ h₃ tk₃ _ t ((x₁.trans x₂).trans x₃))⟩) (he _)
end
end Mine
end

section
set_option maxRecDepth 100000
open Sem (wp)
namespace Mine
section
variable {prog : Program} {w : World} {A : Around} {E : Value → Shared → Prop} {h : Heap} {g : Array GenState} {d : Drawn} {t : Nat} {os : OsState} {K : Frag} {x : Addr} {ox : Obj} {od : Option Obj} {name : Str} {v : Value}
variable {nm q : Str} {C N : Addr} {bs bm : List Value} {hdct : Bool} {sn : List Str} {sub : List Value} {ab : Bool} {col : Option Bool} {dd : Option Addr} {k0 k1 k2 k3 k5 : Option Value} {newId : String}
theorem exc_check {M : Model} {nameV : Value} {Q : Unit → Shared → Prop} (cB : (Value.ref C :: bm).contains (.type "BaseException") = true) (hC : h.get? C = some (excClassObj nm q C N bs bm hdct sn sub ab col dd k0 k1 k2 k3 k5 newId)) (I : InstAt h x ox C od)
    (hq : Q () ⟨h, g, d, t, os⟩) : wpAny M A (checkBuiltinCall "BaseException.__getattribute__" ⟨[.ref x, nameV], []⟩) Q E ⟨h, g, d, t, os⟩ := by
  have hk : builtinKind "BaseException.__getattribute__" = some .slot := by decide +kernel
  have hsplit : splitId "BaseException.__getattribute__" = some ("BaseException", "__getattribute__") := by decide +kernel
  have ha := F.args_bexc_ga (.ref x) nameV
  have hx := I.at_
  have hc := I.cls
  simp only [checkBuiltinCall, hk, hsplit]
  unfold isInstance
  repeat (first | (with_reducible refine wpAny_loadPart_at hx ?_; rw [hc]) | (with_reducible refine wpAny_isSubtype_exc hC ?_; rw [cB]) | wp_step)
  exact hq
theorem exc_entry {tk : Tok} {Q : Fin → Shared → Prop} (X : K.In h) (I : InstAt h x ox C od) (hf : findObj K C od name = some (.value v)) (hq : Q (.done (.ret v)) ⟨h, g, d, t, os⟩) :
    wpAny (model prog w) A (Builtin.«object.__getattribute__» ⟨[.ref x, .str name tk], []⟩) Q E ⟨h, g, d, t, os⟩ := by
  have L0 := I.type (M := model prog w)
  have L1 := looks_find (M := model prog w) X I hf
  unfold Builtin.«object.__getattribute__»
  refine wpAny_bind (wpAny_pure (wpAny_bind (wpAny_pure (wpAny_bind (L0.at (wpAny_bind (L1.at ?_)))))))
  exact wpAny_pure hq
theorem exc_attr {expr : Bool} {Q : Value → Shared → Prop} (X : K.In h) (I : InstAt h x ox C od) (cB : (Value.ref C :: bm).contains (.type "BaseException") = true) (hC : h.get? C = some (excClassObj nm q C N bs bm hdct sn sub ab col dd k0 k1 k2 k3 k5 newId))
    (hga : findIn K (.ref C) "__getattribute__" = some (some (.builtin "BaseException.__getattribute__"))) (hgn : findIn K (.ref C) "__getattr__" = some none) (hf : findObj K C od name = some (.value v)) (hh : handedIn v = true)
    (hq : Q v ⟨h, g, d, t + 1, os⟩) : wpAny (model prog w) A (getAttr (.ref x) name expr) Q E ⟨h, g, d, t, os⟩ := by
  have L0 := I.type (M := model prog w)
  have L1 := looks_findIn (M := model prog w) X hga
  have L2 := looks_findIn (M := model prog w) X hgn
  unfold getAttr getAttrBy
  refine wpAny_bind (wpAny_mkText (wpAny_holding (wpAny_bind (L0.at (wpAny_bind (L1.at ?_))))))
  have hx2 : (Value.builtin "BaseException.__getattribute__" == Value.builtin "object.__getattribute__") = false := by decide +kernel
  have f3 := (PySem.F.attr_Exception.ga).bind (.ref x)
  dsimp only
  rw [if_neg (by rw [hx2]; simp)]
  unfold getAttrByItsOwn hookBefore
  refine wpAny_bind (L2.at ?_)
  unfold callGetattribute
  rw [if_neg (by cases expr <;> decide)]
  repeat (first | with_reducible assumption | wp_step)
  refine codeAny_call_builtin PySem.F.attr_Exception.ga.plain PySem.F.entry_bexc_ga (exc_check cB hC I (exc_entry X I hf ?_))
  show wpAny _ _ (handedOut v) _ _ _
  rw [handedOut_of hh]; exact wpAny_pure hq
end
section
variable {c : Cx} {n : Nat} {fr : FrS} {ω ω' : Wd} {H H₁ H₂ H₃ H₄ : Hp} {l l₁ l₂ l₃ : Loc} {x : Fx} {m : Str → Option Value} {s : Shared} {C : Addr} {cd : ClassData} {i d : Nat} {fl : Option Value} {h : Heap}
theorem ev_word {o : Expr} {name : Str} {pos : Pos} {v : V} (ho : Ev c n fr o H l (.obj i) H₁) (g1 : H₁.o i = .held C d) (g2 : H₁.o d = .xd name v) (hp : plainV v = true) (X : ExcC c.K C cd) (hga : findIn c.K (.ref C) "__getattribute__" = some (some (.builtin "BaseException.__getattribute__"))) (hgn : findIn c.K (.ref C) "__getattr__" = some none) (hh : hasDictIn c.K C = true) (ha : findIn c.K (.ref C) name = some none)
    (he : ∀ env, eval (.Attribute o name pos) env = (do
      let v ← eval o env
      standAt pos.atName
      let r ← holding [v] (getAttr v name true)
      letTemporaryGo o v r
      pure r)) : Ev c n fr (.Attribute o name pos) H l v H₁ := by
  intro x ω m s Q E k ret
  refine Attribute_any_ (ho x ω m s _ _ k fun r ω₁ m₁ h' tk k₁ x₁ r₁ => ?_) (he _)
  unfold RV at r₁
  obtain ⟨hi, rfl⟩ := r₁
  obtain ⟨ob, o1, o2, o3⟩ := k₁.R.at_ i hi (by rw [g1]; intro q; cases q)
  rw [g1] at o3
  obtain ⟨hd, vs, sl, rfl⟩ := o3
  obtain ⟨od, p1, p2, p3⟩ := k₁.R.at_ d hd (by rw [g2]; intro q; cases q)
  rw [g2] at p3
  obtain ⟨r, q1, q2⟩ := p3
  obtain ⟨nm, q, N, bs, bm, sn, sub, ab, col, dd, k0, k1, k2, k3, k5, e1, e2, e3, e4, e5⟩ := X.obj
  have KX := k₁.X.keeps k₁.F.keep
  exact exc_attr KX (C := C) (od := some od) ⟨(k₁.N _ o1).1, rfl, rfl, (k₁.N _ p1).1⟩ e5 (KX _ _ e1) hga hgn (findObj_own hh ha rfl q1) (handed_of hp q2) (ret r ω₁ m₁ h' (tk + 1) (k₁.toks _) x₁ q2)
end
noncomputable section
variable {P : Params}
noncomputable abbrev bmF : List Value := [.ref 38, .type "Exception", .type "BaseException", .type "object"]
noncomputable abbrev cdF : ClassData := { name := "FormFault", bases := [.ref 38], mro := .ref 51 :: bmF, ns := 50, qualname := "FormFault", hasDict := true, slotNames := [], subclasses := [], abstract := false, collection := none, hasDel := false }
noncomputable abbrev cdT : ClassData := { name := "Trap", bases := [.ref 38], mro := .ref 63 :: bmF, ns := 62, qualname := "Trap", hasDict := true, slotNames := [], subclasses := [], abstract := false, collection := none, hasDel := false }
theorem exFF : ExcC (K P) 51 cdF :=
  ⟨⟨"FormFault", "FormFault", 50, [.ref 38], bmF, [], [], false, none, none, some (.ref 42), none, some (.str "FormFault" 225), some (.str "FormFault" 233), some (.bool true), by kernel_rfl, by decide +kernel, by decide +kernel, by decide +kernel, by decide +kernel⟩, by kernel_rfl, by kernel_rfl, by kernel_rfl, fun x => by kernel_rfl, by kernel_rfl, by kernel_rfl, by kernel_rfl, by kernel_rfl, by kernel_rfl, by kernel_rfl⟩
theorem exTr : ExcC (K P) 63 cdT :=
  ⟨⟨"Trap", "Trap", 62, [.ref 38], bmF, [], [], false, none, none, some (.ref 54), none, some (.str "Trap" 241), some (.str "Trap" 249), some (.bool true), by kernel_rfl, by decide +kernel, by decide +kernel, by decide +kernel, by decide +kernel⟩, by kernel_rfl, by kernel_rfl, by kernel_rfl, fun x => by kernel_rfl, by kernel_rfl, by kernel_rfl, by kernel_rfl, by kernel_rfl, by kernel_rfl, by kernel_rfl⟩
theorem tr_ga : findIn (K P) (.ref 63) "__getattribute__" = some (some (.builtin "BaseException.__getattribute__")) := by kernel_rfl
theorem tr_gn : findIn (K P) (.ref 63) "__getattr__" = some none := by kernel_rfl
theorem tr_hd : hasDictIn (K P) 63 = true := by kernel_rfl
theorem tr_no : findIn (K P) (.ref 63) "word" = some none := by kernel_rfl
theorem ei_meth : findCls (K P) (.type "Exception") (.type "type") "__init__" = some (.val (.builtin "Exception.__init__")) := by kernel_rfl
theorem ei_hand : handedIn (.builtin "Exception.__init__") = true := by kernel_rfl
theorem ei_type : typeOf (.type "Exception") = pure (.type "type") := by kernel_rfl
theorem ei_stub : Manifest.isStub "Exception" = false := by kernel_rfl
theorem ei_ns : nsIn (K P) mainGlobals "Exception" = some none := by kernel_rfl
end
end Mine
end

section
set_option maxRecDepth 100000
namespace Mine
/-- statements that raise; what is left is told by P -/
noncomputable def RW (c : Cx) (n : Nat) (fr : FrS) (C : Addr) (ts : List Stmt) (H : Hp) (l : Loc) (P : Nat → Nat → Hp → Prop) : Prop := ∃ i d H' l', Rz c n fr (execs ts) H l i C d H' l' ∧ P i d H'
noncomputable def RE (c : Cx) (n : Nat) (fr : FrS) (C : Addr) (e : Expr) (H : Hp) (l : Loc) (P : Nat → Nat → Hp → Prop) : Prop := ∃ i d H', Rz c n fr (eval e) H l i C d H' l ∧ P i d H'
noncomputable def RF (c : Cx) (n : Nat) (C : Addr) (a : Addr) (vs : List V) (H : Hp) (P : Nat → Nat → Hp → Prop) : Prop := ∃ i d H', FnE c n a vs H i C d H' ∧ P i d H'
section
variable {c : Cx} {n : Nat} {fr : FrS} {H H₁ H₂ H₃ : Hp} {l l₁ l₂ l₃ : Loc} {C : Addr} {P P' : Nat → Nat → Hp → Prop} {ts : List Stmt}
theorem RF.mono {a : Addr} {vs : List V} (h : RF c n C a vs H P) (g : ∀ i d H', P i d H' → P' i d H') : RF c n C a vs H P' := let ⟨i, d, H', h1, h2⟩ := h; ⟨i, d, H', h1, g _ _ _ h2⟩
theorem rw_then {t : Stmt} (e : Ex c n fr t H l .next H₁ l₁) (q : RW c n fr C ts H₁ l₁ P) : RW c n fr C (t :: ts) H l P := let ⟨i, d, H', l', h1, h2⟩ := q; ⟨i, d, H', l', rx_then e h1, h2⟩
theorem rw_asg {y : Str} {e : Expr} {npos pos : Pos} {v : V} (h : Ev c n fr e H l v H₁) (q : RW c n fr C ts H₁ (l.set y v) P) (hx : fr.scope.names.lookup y = some .local) (hw : ∀ env, swapsWith e (some (.Name y npos)) pos.line env = pure false) :
    RW c n fr C (.Assign [.Name y npos] e pos :: ts) H l P := rw_then (ex_assign h hx hw) q
theorem rw_tup2 {y z : Str} {yp zp tpos pos : Pos} {k₀ : Nat} {e : Expr} {u v : V} (h : Ev c n fr e H l (.tup [u, v]) H₁) (q : RW c n fr C ts H₁ ((l.set y u).set z v) P)
    (hy : fr.scope.names.lookup y = some .local) (hz : fr.scope.names.lookup z = some .local) (hq : fr.q = true)
    (h1 : ∀ env, swapsWithSole [.Tuple [.Name y yp, .Name z zp] k₀ tpos] e pos.line env = pure false) (h2 : ∀ x : Fx, swappedStores [.Tuple [.Name y yp, .Name z zp] k₀ tpos] e (x.env fr) = pure none) :
    RW c n fr C (.Assign [.Tuple [.Name y yp, .Name z zp] k₀ tpos] e pos :: ts) H l P := rw_then (ex_assign_tup h (asl_cons (as_name hy) (asl_cons (as_name hz) asl_nil)) hq h1 h2) q
theorem rw_if_t {t : Expr} {a b : List Stmt} {pos : Pos} (h : Te c n fr t H l true H₁) (q : RW c n fr C a H₁ l P) : RW c n fr C (.If t a b pos :: ts) H l P := let ⟨i, d, H', l', h1, h2⟩ := q; ⟨i, d, H', l', rx_here (rx_if_t h h1), h2⟩
theorem rw_while {t : Expr} {a : List Stmt} {pos : Pos} (h : Te c n fr t H l true H₁) (q : RW c n fr C a H₁ l P) : RW c n fr C (.While t a [] pos :: ts) H l P := let ⟨i, d, H', l', h1, h2⟩ := q; ⟨i, d, H', l', rx_here (rx_while h h1), h2⟩
theorem rw_expr {e : Expr} {pos : Pos} (q : RE c n fr C e H l P) (hw : ∀ env, swapsWith e none pos.line env = pure false) : RW c n fr C (.Expr e pos :: ts) H l P := let ⟨i, d, H', h1, h2⟩ := q; ⟨i, d, H', l, rx_here (rx_expr h1 hw), h2⟩
theorem rw_assign {y : Str} {e : Expr} {npos pos : Pos} (q : RE c n fr C e H l P) (hw : ∀ env, swapsWith e (some (.Name y npos)) pos.line env = pure false) : RW c n fr C (.Assign [.Name y npos] e pos :: ts) H l P := let ⟨i, d, H', h1, h2⟩ := q; ⟨i, d, H', l, rx_here (rx_assign h1 hw), h2⟩
theorem rw_raise {e : Expr} {pos : Pos} {cd : ClassData} {i d : Nat} (X : ExcC c.K C cd) (h : Ev c n fr e H l (.obj i) H₁) (hx : H₁.o i = .exc C (some d)) (hq : fr.q = true) (p : P i d (H₁.set i .junk)) : RW c n fr C (.Raise (some e) none pos :: ts) H l P :=
  ⟨i, d, _, l, rx_here (rz_raise X h hx hq), p⟩
theorem fn_rw {a : Addr} {params : Arguments} {body : List Stmt} {fr' : FrS} {names : List Str} {vs : List V} (D : DefAt c.K a params body fr' names) (hl : vs.length = names.length) (h : RW c n fr' C body H (bindV names vs) P) : RF c (n + 1) C a vs H P :=
  let ⟨i, d, H', l', h1, h2⟩ := h; ⟨i, d, H', fn_defE D hl h1, h2⟩
theorem rv_meth {o e : Expr} {es : List Expr} {name : Str} {apos pos : Pos} {pl : Env → Sem Bool} {j b : Nat} {D f : Addr} {fs : List (Str × V)} {vs : List V} (ho : Ev c n fr o H l (.obj j) H₁) (I : Inst H₁ j D b fs) (hno : fget fs name = none)
    (hg : plainGet c.K D name = true) (hf : findIn c.K (.ref D) name = some (some (.ref f))) (ht : isFn c.K (.ref f) = true) (hk : keepIn c.K (.ref f) = true)
    (ha : Eas c n fr (e :: es) H₁ l vs H₂) (hc : RF c n C f (.obj j :: vs) H₂ P) (hq : fr.q = true)
    (he : MethCall o name apos pos (e :: es) pl)
    (h1 : ∀ env, starEach (e :: es) env = (false, eval e env) :: starEach es env) (h2 : ∀ env, (backTo pos (starEach es env)).any (·.1) = false) :
    RE c n fr C (.Call (.Attribute o name apos) (e :: es) [] pos) H l P := let ⟨i, d, H', g1, g2⟩ := hc; ⟨i, d, H', re_meth ho I hno hg hf ht hk ha g1 hq he h1 h2, g2⟩
theorem rv_bm1 {o e : Expr} {name : Str} {apos pos : Pos} {pl : Env → Sem Bool} {t : String} {u : V} (ho : Ev c n fr o H l u H₁) (hg : Gm c n fr u name t H₁ l) (ha : RE c n fr C e H₁ l P)
    (he : MethCall o name apos pos [e] pl) (h1 : ∀ env, starEach [e] env = (false, eval e env) :: starEach [] env) (h2 : ∀ env, (backTo pos (starEach [] env)).any (·.1) = false) :
    RE c n fr C (.Call (.Attribute o name apos) [e] [] pos) H l P := let ⟨i, d, H', g1, g2⟩ := ha; ⟨i, d, H', re_bm1 ho hg g1 he h1 h2, g2⟩
theorem rv_sub {o j : Expr} {pos : Pos} (ho : RE c n fr C o H l P) : RE c n fr C (.Subscript o j pos) H l P := let ⟨i, d, H', g1, g2⟩ := ho; ⟨i, d, H', re_sub g1, g2⟩
theorem rv_iff {t a b : Expr} {pos : Pos} (h : Te c n fr t H l false H₁) (h₂ : RE c n fr C b H₁ l P) : RE c n fr C (.IfExp t a b pos) H l P := let ⟨i, d, H', g1, g2⟩ := h₂; ⟨i, d, H', re_iff h g1, g2⟩
theorem rv_act {fe e : Expr} {es : List Expr} {pos : Pos} {f : Addr} {j : Nat} {vs : List V} (hf : Ev c n fr fe H l (.meth f j) H₁) (hfn : fnIn c.K f = true) (ha : Eas c n fr (e :: es) H₁ l vs H₂) (hc : RF c n C f (.obj j :: vs) H₂ P) (hq : fr.q = true)
    (he : ∀ env, eval (.Call fe (e :: es) [] pos) env = (do callWith pos (← eval fe env) [] (backTo pos (starEach (e :: es) env)) (backToKw pos (keywordEach [] env))))
    (h1 : ∀ env, starEach (e :: es) env = (false, eval e env) :: starEach es env) (h2 : ∀ env, (backTo pos (starEach es env)).any (·.1) = false) :
    RE c n fr C (.Call fe (e :: es) [] pos) H l P := let ⟨i, d, H', g1, g2⟩ := hc; ⟨i, d, H', re_act hf hfn ha g1 hq he h1 h2, g2⟩
theorem bw_try {body suite : List Stmt} {b₀ : Stmt} {y : Str} {np pos tpos : Pos} {cd : ClassData} {v : V} {G : Hp → Prop} (h : RW c n fr C body H l P) (X : ExcC c.K C cd) (hn : nsIn c.K mainGlobals y = some (some (.ref C))) (hy : fr.scope.names.lookup y = some .globalImplicit) (hd : (y == ("__debug__" : Str)) = false)
    (ht : fr.top = false) (hs : ∀ i d H' l', P i d H' → ExsW c n fr.calm (b₀ :: suite) (H'.set i (.held C d)) l' (fun f H'' _ => f = .ret v ∧ G H'')) :
    ∃ H', ExB c n fr (exec (.Try body [.ExceptHandler (some (.Name y np)) none (b₀ :: suite) pos] [] [] tpos)) H l (.ret v) H' ∧ G H' := by
  obtain ⟨i, d, H', l', g1, g2⟩ := h
  obtain ⟨f, H'', l'', s1, rfl, s2⟩ := hs i d H' l' g2
  exact ⟨H'', exb_try g1 X hn hy hd ht s1, s2⟩
end
end Mine
end

section
set_option maxRecDepth 100000
namespace Mine
/-- the body of a def that catches, onwards -/
noncomputable def BW (c : Cx) (n : Nat) (fr : FrS) (ts : List Stmt) (H : Hp) (l : Loc) (v : V) (G : Hp → Prop) : Prop := ∃ H', ExB c n fr (execs ts) H l (.ret v) H' ∧ G H'
section
variable {c : Cx} {n : Nat} {fr : FrS} {H H₁ H₂ H₃ : Hp} {l l₁ l₂ l₃ : Loc} {C : Addr} {P P' : Nat → Nat → Hp → Prop} {ts : List Stmt} {v : V} {G : Hp → Prop} {Q : Fl → Hp → Loc → Prop}
theorem bw_then {t : Stmt} (e : Ex c n fr t H l .next H₁ l₁) (q : BW c n fr ts H₁ l₁ v G) : BW c n fr (t :: ts) H l v G := let ⟨H', h1, h2⟩ := q; ⟨H', exb_then e h1, h2⟩
theorem bw_asg {y : Str} {e : Expr} {npos pos : Pos} {u : V} (h : Ev c n fr e H l u H₁) (q : BW c n fr ts H₁ (l.set y u) v G) (hx : fr.scope.names.lookup y = some .local) (hw : ∀ env, swapsWith e (some (.Name y npos)) pos.line env = pure false) :
    BW c n fr (.Assign [.Name y npos] e pos :: ts) H l v G := bw_then (ex_assign h hx hw) q
theorem bw_swap {y z : Str} {us : List Expr} {k₀ : Nat} {tpos pos : Pos} {e : Expr} {u u' : V} (h : Ev c n fr e H l (.tup [u, u']) H₁) (q : BW c n fr ts H₁ ((l.set z u').set y u) v G) (h2 : ∀ x : Fx, swappedStores [.Tuple us k₀ tpos] e (x.env fr) = pure (some [y, z]))
    (hy : fr.scope.names.lookup y = some .local) (hz : fr.scope.names.lookup z = some .local) (hq : fr.q = true)
    (h1 : ∀ env, swapsWithSole [.Tuple us k₀ tpos] e pos.line env = pure false) : BW c n fr (.Assign [.Tuple us k₀ tpos] e pos :: ts) H l v G := bw_then (ex_swap h hy hz hq h2 h1) q
theorem bw_if_f0 {t : Expr} {a : List Stmt} {pos : Pos} (h : Te c n fr t H l false H₁) (q : BW c n fr ts H₁ l v G) : BW c n fr (.If t a [] pos :: ts) H l v G := bw_then (ex_if (q := false) h exs_nil) q
theorem bw_tryAs {e : Expr} {suite : List Stmt} {b₀ : Stmt} {x y z : Str} {xp np ap pos tpos : Pos} {cd : ClassData} (h : RE c n fr C e H l P) (hw : ∀ env, swapsWith e (some (.Name x xp)) ap.line env = pure false) (X : ExcC c.K C cd) (hn : nsIn c.K mainGlobals y = some (some (.ref C))) (hy : fr.scope.names.lookup y = some .globalImplicit) (hd : (y == ("__debug__" : Str)) = false)
    (hz : fr.scope.names.lookup z = some .local) (ht : fr.top = false) (hs : ∀ i d H', P i d H' → ExsW c n fr.calm (b₀ :: suite) (H'.set i (.held C d)) (l.set z (.obj i)) (fun f H'' _ => f = .ret v ∧ G H'')) :
    BW c n fr (.Try [.Assign [.Name x xp] e ap] [.ExceptHandler (some (.Name y np)) (some z) (b₀ :: suite) pos] [] [] tpos :: ts) H l v G := by
  obtain ⟨i, d, H', g1, g2⟩ := h
  obtain ⟨f, H'', l'', s1, rfl, s2⟩ := hs i d H' g2
  exact ⟨H'', exb_ret (exb_tryAs (rx_here (rx_assign g1 hw)) X hn hy hd hz ht s1), s2⟩
theorem fn_bw {a : Addr} {params : Arguments} {body : List Stmt} {fr' : FrS} {names : List Str} {vs : List V} (D : DefAt c.K a params body fr' names) (hl : vs.length = names.length) (h : BW c n fr' body H (bindV names vs) v G) : ∃ H', FnB c (n + 1) a vs H v H' ∧ G H' :=
  let ⟨H', h1, h2⟩ := h; ⟨H', fn_defB D hl h1, h2⟩
/-- nothing raised: on behind the try -/
theorem ex_try {body : List Stmt} {h₀ : ExceptHandler} {hs : List ExceptHandler} {pos : Pos} (h : Exs c n fr body H l .next H₁ l₁) : Ex c n fr (.Try body (h₀ :: hs) [] [] pos) H l .next H₁ l₁ :=
  fun x ω m s Q E k ret => wpAny_Try_except (h x ω m s _ _ k fun r ω₁ m₁ h' tk k₁ x₁ r₁ => by
    cases r₁
    exact wpAny_execs_nil (ret _ ω₁ m₁ h' tk k₁ x₁ rfl))
theorem x_try {body : List Stmt} {h₀ : ExceptHandler} {hs : List ExceptHandler} {pos : Pos} (h : ExsW c n fr body H l (fun f H' l' => f = .next ∧ ExsW c n fr ts H' l' Q)) : ExsW c n fr (.Try body (h₀ :: hs) [] [] pos :: ts) H l Q := by
  obtain ⟨f, H', l', h1, rfl, h2⟩ := h
  obtain ⟨f₂, H₂, l₂, h3, h4⟩ := h2
  exact ⟨f₂, H₂, l₂, exs_cons (ex_try h1) h3, h4⟩
/-- an assignment whose heap is told of only -/
theorem x_asg_ex {y : Str} {e : Expr} {npos pos : Pos} {G : Hp → Prop} (h : ∃ H₁, Ev c n fr e H l v H₁ ∧ G H₁) (q : ∀ H₁, G H₁ → ExsW c n fr ts H₁ (l.set y v) Q) (hx : fr.scope.names.lookup y = some .local) (hw : ∀ env, swapsWith e (some (.Name y npos)) pos.line env = pure false) :
    ExsW c n fr (.Assign [.Name y npos] e pos :: ts) H l Q := let ⟨_, h1, h2⟩ := h; x_assign h1 (q _ h2) hx hw
end
end Mine
end

section
namespace Mine
/-! the plain law: both sides run in step -/
structure Ps where
  hd : Nat → List Hd
  wk : Nat → Int
  un : Nat → Int
  st : Nat → Str
  fl : Nat → List Lk
  dy : List Nat
noncomputable def Ps.h (P : Ps) : Hs := { sg := fun g => ((P.hd g).length : Int), wk := P.wk, un := P.un, st := P.st, fl := P.fl, dy := P.dy }
noncomputable def Ps.b (P : Ps) : Bs := { hd := P.hd, bw := P.wk, bu := P.un, bs := P.st, rw := P.fl, bd := P.dy }
noncomputable def pst (kd : Nat → Str) (P : Ps) (hol : Hd) (k : Lk) : Ps × List Lk :=
  if k.1 = "strong" then
    if (P.hd k.2).erase hol ≠ [] then ({ P with hd := upd P.hd k.2 ((P.hd k.2).erase hol) }, [])
    else if kd k.2 = "object" then ({ P with hd := upd P.hd k.2 [], st := upd P.st k.2 "dying", dy := P.dy ++ [k.2] }, [])
    else ({ P with hd := upd P.hd k.2 [], st := upd P.st k.2 "gone", fl := upd P.fl k.2 [] }, P.fl k.2)
  else if k.1 = "weak" then ({ P with wk := upd P.wk k.2 (P.wk k.2 - 1) }, [])
  else ({ P with un := upd P.un k.2 (P.un k.2 - 1) }, [])
theorem pst_b (kd : Nat → Str) (P : Ps) (hol : Hd) (k : Lk) : bst kd P.b hol k = ((pst kd P hol k).1.b, (pst kd P hol k).2) := by
  unfold bst pst
  by_cases h1 : k.1 = "strong"
  · rw [if_pos h1, if_pos h1]
    by_cases h2 : (P.hd k.2).erase hol ≠ []
    · rw [if_pos h2, if_pos (show (P.b.hd k.2).erase hol ≠ [] from h2)]; rfl
    · rw [if_neg h2, if_neg (show ¬ (P.b.hd k.2).erase hol ≠ [] from h2)]
      by_cases h3 : kd k.2 = "object"
      · rw [if_pos h3, if_pos h3]; rfl
      · rw [if_neg h3, if_neg h3]; rfl
  · rw [if_neg h1, if_neg h1]
    by_cases h2 : k.1 = "weak"
    · rw [if_pos h2, if_pos h2]; rfl
    · rw [if_neg h2, if_neg h2]; rfl
theorem len_upd (f : Nat → List Hd) (g : Nat) (v : List Hd) : (fun i => ((upd f g v i).length : Int)) = upd (fun i => ((f i).length : Int)) g (v.length : Int) := by
  funext i; unfold upd; split <;> rfl
theorem pst_h (kd : Nat → Str) (P : Ps) (hol : Hd) (k : Lk) (hm : k.1 = "strong" → hol ∈ P.hd k.2) : dst kd P.h k = ((pst kd P hol k).1.h, (pst kd P hol k).2) := by
  unfold dst pst
  by_cases h1 : k.1 = "strong"
  · rw [if_pos h1, if_pos h1]
    have m := hm h1
    have l := List.length_erase_of_mem m
    have pos : 0 < (P.hd k.2).length := List.length_pos_of_mem m
    have sg : P.h.sg k.2 = ((P.hd k.2).length : Int) := rfl
    by_cases h2 : (P.hd k.2).erase hol ≠ []
    · have : 0 < ((P.hd k.2).erase hol).length := List.length_pos_iff.mpr h2
      rw [if_pos h2, if_pos (by rw [sg]; lia)]
      refine Prod.ext ?_ rfl
      show ({ P.h with sg := upd P.h.sg k.2 (P.h.sg k.2 - 1) } : Hs) = { P.h with sg := fun g => ((upd P.hd k.2 ((P.hd k.2).erase hol) g).length : Int) }
      rw [len_upd, l, sg, show (((P.hd k.2).length - 1 : Nat) : Int) = ((P.hd k.2).length : Int) - 1 by lia]
      rfl
    · have e0 : ((P.hd k.2).erase hol).length = 0 := by
        cases q : (P.hd k.2).erase hol with
        | nil => rfl
        | cons _ _ => exact absurd (by rw [q]; intro e; cases e) h2
      rw [if_neg h2, if_neg (by rw [sg]; lia)]
      by_cases h3 : kd k.2 = "object"
      · rw [if_pos h3, if_pos h3]
        refine Prod.ext ?_ rfl
        show (⟨upd P.h.sg k.2 0, P.wk, P.un, upd P.st k.2 "dying", P.fl, P.dy ++ [k.2]⟩ : Hs) = ⟨fun g => ((upd P.hd k.2 [] g).length : Int), P.wk, P.un, upd P.st k.2 "dying", P.fl, P.dy ++ [k.2]⟩
        rw [len_upd]; rfl
      · rw [if_neg h3, if_neg h3]
        refine Prod.ext ?_ rfl
        show (⟨upd P.h.sg k.2 0, P.wk, P.un, upd P.st k.2 "gone", upd P.fl k.2 [], P.dy⟩ : Hs) = ⟨fun g => ((upd P.hd k.2 [] g).length : Int), P.wk, P.un, upd P.st k.2 "gone", upd P.fl k.2 [], P.dy⟩
        rw [len_upd]; rfl
  · rw [if_neg h1, if_neg h1]
    by_cases h2 : k.1 = "weak"
    · rw [if_pos h2, if_pos h2]; rfl
    · rw [if_neg h2, if_neg h2]; rfl
/-! sums -/
noncomputable def sumN : Nat → (Nat → Nat) → Nat
  | 0, _ => 0
  | n + 1, f => sumN n f + f (n + 1)
theorem sum_upd {α : Type} (F : α → Nat) (f : Nat → α) (v : α) {g : Nat} (h1 : 1 ≤ g) : ∀ {N : Nat}, g ≤ N → sumN N (fun i => F (upd f g v i)) + F (f g) = sumN N (fun i => F (f i)) + F v := by
  have low : ∀ {N : Nat}, N < g → sumN N (fun i => F (upd f g v i)) = sumN N (fun i => F (f i)) := by
    intro N
    induction N with
    | zero => intro _; rfl
    | succ N ih =>
      intro h
      show sumN N _ + F (upd f g v (N + 1)) = sumN N _ + F (f (N + 1))
      rw [ih (by lia), upd_old _ _ (by lia)]
  intro N
  induction N with
  | zero => intro h; lia
  | succ N ih =>
    intro h
    show sumN N _ + F (upd f g v (N + 1)) + F (f g) = sumN N _ + F (f (N + 1)) + F v
    by_cases q : g = N + 1
    · subst q; rw [low (by lia), upd_here]; lia
    · have := ih (by lia)
      rw [upd_old _ _ (Ne.symm q)]; lia
theorem le_sum (f : Nat → Nat) {g : Nat} (h1 : 1 ≤ g) : ∀ {N : Nat}, g ≤ N → f g ≤ sumN N f := by
  intro N
  induction N with
  | zero => intro h; lia
  | succ N ih =>
    intro h
    show f g ≤ sumN N f + f (N + 1)
    by_cases q : g = N + 1
    · subst q; lia
    · have := ih (by lia); lia
noncomputable abbrev sfl (N : Nat) (P : Ps) : Nat := sumN N fun i => (P.fl i).length
noncomputable abbrev slv (N : Nat) (P : Ps) : Nat := sumN N fun i => if P.st i = "live" then 1 else 0
noncomputable abbrev sng (N : Nat) (P : Ps) : Nat := sumN N fun i => if P.st i = "gone" then 0 else 1
/-- who holds g, as told by the links and by the law -/
noncomputable def owe (P : Ps) (lw : List Nat) (g : Nat) : Hd → Nat
  | none => lw.count g
  | some i => (P.fl i).count (("strong" : Str), g)
structure Inv (N : Nat) (kd : Nat → Str) (P : Ps) (pend : List (Hd × Lk)) (lw : List Nat) : Prop where
  cnt : ∀ g hol, 1 ≤ g → g ≤ N → (P.hd g).count hol = pend.count (hol, (("strong" : Str), g)) + owe P lw g hol
  lv : ∀ g, 1 ≤ g → g ≤ N → (P.st g = "live" ↔ P.hd g ≠ [])
  pr : ∀ x ∈ pend, wayOk x.2.1 ∧ 1 ≤ x.2.2 ∧ x.2.2 ≤ N
  fr : ∀ i, ∀ p ∈ P.fl i, wayOk p.1 ∧ 1 ≤ p.2 ∧ p.2 ≤ N
  so : ∀ g, stOk (P.st g)
  hl : ∀ g, (P.hd g).length ≤ 100
  sz : pend.length + sfl N P ≤ 40
  dl : P.dy.length + slv N P ≤ 10
  dc : ∀ g, P.dy.count g = if P.st g = "dying" then 1 else 0
  dr : ∀ g ∈ P.dy, 1 ≤ g ∧ g ≤ N
/-- the world while links are drawn -/
structure Bd (N : Nat) (P : Ps) (lw : List Nat) (c : Nat) : Prop where
  st : P.st = fun _ => ("live" : Str)
  dy : P.dy = []
  cnt : ∀ g hol, 1 ≤ g → g ≤ N → (P.hd g).count hol = owe P lw g hol
  ne : ∀ g, 1 ≤ g → g ≤ N → P.hd g ≠ []
  fr : ∀ i, ∀ p ∈ P.fl i, wayOk p.1 ∧ 1 ≤ p.2 ∧ p.2 ≤ N
  hl : ∀ g, (P.hd g).length ≤ 1 + c
  sz : sfl N P ≤ c
theorem sum_one : ∀ N, sumN N (fun _ => 1) = N
  | 0 => rfl
  | N + 1 => by show sumN N _ + 1 = _; rw [sum_one N]
theorem Bd.inv {N : Nat} {kd : Nat → Str} {P : Ps} {lw : List Nat} {c : Nat} (B : Bd N P lw c) (hc : c ≤ 40) (hN : N ≤ 10) : Inv N kd P [] lw := by
  refine ⟨fun g hol h1 h2 => by rw [B.cnt g hol h1 h2]; simp, fun g h1 h2 => ⟨fun _ => B.ne g h1 h2, fun _ => by rw [B.st]⟩, (fun x hx => by cases hx), B.fr, fun g => by rw [B.st]; exact .inl rfl, fun g => Nat.le_trans (B.hl g) (by lia), by have := B.sz; simp; lia, ?_, fun g => ?_, fun g hg => by rw [B.dy] at hg; cases hg⟩
  · have e : slv N P = N := by
      show sumN N (fun i => if P.st i = "live" then 1 else 0) = N
      rw [B.st]; simp only [if_pos]; exact sum_one N
    rw [B.dy, e]; simpa using hN
  · rw [B.dy, B.st]
    have : ¬ (("live" : Str) = "dying") := by decide +kernel
    simp [this]
noncomputable def P0 : Ps := { hd := fun _ => [none], wk := fun _ => 0, un := fun _ => 0, st := fun _ => "live", fl := fun _ => [], dy := [] }
theorem sum_zero : ∀ N, sumN N (fun _ => 0) = 0
  | 0 => rfl
  | N + 1 => by show sumN N _ + 0 = _; rw [sum_zero N]
theorem bd0 {N : Nat} {lw : List Nat} (h : ∀ g, 1 ≤ g → g ≤ N → lw.count g = 1) : Bd N P0 lw 0 := by
  refine ⟨rfl, rfl, fun g hol h1 h2 => ?_, fun g _ _ => (by intro e; cases e), (fun i p hp => by cases hp), fun g => Nat.le_refl _, Nat.le_of_eq (sum_zero N)⟩
  cases hol with
  | none => show List.count none [none] = lw.count g; rw [h g h1 h2]; rfl
  | some i => rfl
noncomputable def Ps.lay (P : Ps) (o : Nat) (way : Str) (g : Nat) : Ps :=
  { hd := if way = "strong" then upd P.hd g (P.hd g ++ [some o]) else P.hd
    wk := if way = "weak" then upd P.wk g (P.wk g + 1) else P.wk
    un := if way = "unowned" then upd P.un g (P.un g + 1) else P.un
    st := P.st, fl := upd P.fl o (P.fl o ++ [(way, g)]), dy := P.dy }
theorem Bd.lay {N : Nat} {P : Ps} {lw : List Nat} {c : Nat} (B : Bd N P lw c) {o g : Nat} {way : Str} (hw : wayOk way) (o1 : 1 ≤ o) (oN : o ≤ N) (g1 : 1 ≤ g) (gN : g ≤ N) : Bd N (P.lay o way g) lw (c + 1) := by
  have hfl : ∀ i, (P.lay o way g).fl i = if i = o then P.fl o ++ [(way, g)] else P.fl i := fun i => rfl
  refine ⟨B.st, B.dy, fun x hol h1 h2 => ?_, fun x h1 h2 => ?_, fun i p hp => ?_, fun x => ?_, ?_⟩
  · have c0 := B.cnt x hol h1 h2
    cases hol with
    | none =>
      show List.count none ((if way = "strong" then upd P.hd g (P.hd g ++ [some o]) else P.hd) x) = lw.count x
      have c0 : (P.hd x).count none = lw.count x := c0
      split
      · unfold upd; split
        · rename_i e; subst e; rw [List.count_append, c0]; simp
        · exact c0
      · exact c0
    | some i =>
      have c0 : (P.hd x).count (some i) = (P.fl i).count ((("strong" : Str), x) : Lk) := c0
      show List.count (some i) ((if way = "strong" then upd P.hd g (P.hd g ++ [some o]) else P.hd) x) = ((P.lay o way g).fl i).count ((("strong" : Str), x) : Lk)
      rw [hfl]
      by_cases hs : way = "strong"
      · subst hs
        rw [if_pos rfl]
        unfold upd
        by_cases q : x = g
        · subst q
          rw [if_pos rfl, List.count_append, c0]
          by_cases q' : i = o
          · subst q'; rw [if_pos rfl, List.count_append]; simp
          · rw [if_neg q']
            have : List.count (some i) [some o] = 0 := by rw [List.count_singleton]; simp; exact fun e => q' e.symm
            rw [this]; rfl
        · rw [if_neg q, c0]
          by_cases q' : i = o
          · subst q'; rw [if_pos rfl, List.count_append]
            have : List.count ((("strong" : Str), x) : Lk) [((("strong" : Str), g) : Lk)] = 0 := by rw [List.count_singleton]; simp; exact fun e => q e.symm
            rw [this]; rfl
          · rw [if_neg q']
      · rw [if_neg hs, c0]
        by_cases q' : i = o
        · subst q'; rw [if_pos rfl, List.count_append]
          have : List.count ((("strong" : Str), x) : Lk) [((way, g) : Lk)] = 0 := by rw [List.count_singleton]; simp; intro e; exact absurd e hs
          rw [this]; rfl
        · rw [if_neg q']
  · show (if way = "strong" then upd P.hd g (P.hd g ++ [some o]) else P.hd) x ≠ []
    split
    · unfold upd; split
      · simp
      · exact B.ne x h1 h2
    · exact B.ne x h1 h2
  · rw [hfl] at hp
    split at hp
    · rcases List.mem_append.mp hp with hp | hp
      · exact B.fr o p hp
      · rw [List.mem_singleton.mp hp]; exact ⟨hw, g1, gN⟩
    · exact B.fr i p hp
  · show ((if way = "strong" then upd P.hd g (P.hd g ++ [some o]) else P.hd) x).length ≤ 1 + (c + 1)
    have := B.hl x
    split
    · unfold upd; split
      · rename_i e; subst e; rw [List.length_append]; simp; lia
      · lia
    · lia
  · have := sum_upd (fun l : List Lk => l.length) P.fl (P.fl o ++ [(way, g)]) o1 oN
    have e : (P.fl o ++ [(way, g)]).length = (P.fl o).length + 1 := by simp
    rw [e] at this
    have h0 := B.sz
    show sumN N (fun i => (upd P.fl o (P.fl o ++ [(way, g)]) i).length) ≤ c + 1
    have h0 : sumN N (fun i => (P.fl i).length) ≤ c := h0
    lia
noncomputable def Ps.keep (P : Ps) (g : Nat) : Ps := { P with hd := upd P.hd g (P.hd g ++ [none]) }
theorem Bd.keep {N : Nat} {P : Ps} {lw : List Nat} {c : Nat} (B : Bd N P lw c) {g : Nat} : Bd N (P.keep g) (lw ++ [g]) (c + 1) := by
  refine ⟨B.st, B.dy, fun x hol h1 h2 => ?_, fun x h1 h2 => ?_, B.fr, fun x => ?_, Nat.le_succ_of_le B.sz⟩
  · have c0 := B.cnt x hol h1 h2
    show List.count hol (upd P.hd g (P.hd g ++ [none]) x) = _
    cases hol with
    | none =>
      have c0 : (P.hd x).count none = lw.count x := c0
      show _ = (lw ++ [g]).count x
      rw [List.count_append]
      unfold upd
      by_cases q : x = g
      · subst q; rw [if_pos rfl, List.count_append, c0]; simp
      · rw [if_neg q, c0]
        have : List.count x [g] = 0 := by rw [List.count_singleton]; simp; exact fun e => q e.symm
        rw [this]; rfl
    | some i =>
      have c0 : (P.hd x).count (some i) = (P.fl i).count ((("strong" : Str), x) : Lk) := c0
      show _ = (P.fl i).count ((("strong" : Str), x) : Lk)
      unfold upd; split
      · rename_i e; subst e; rw [List.count_append, c0]; simp
      · exact c0
  · show upd P.hd g (P.hd g ++ [none]) x ≠ []
    unfold upd; split
    · simp
    · exact B.ne x h1 h2
  · show (upd P.hd g (P.hd g ++ [none]) x).length ≤ _
    have := B.hl x
    unfold upd; split
    · rename_i e; subst e; rw [List.length_append]; simp; lia
    · lia
end Mine
end

section
namespace Mine
noncomputable abbrev sk (g : Nat) : Lk := ((("strong" : Str), g) : Lk)
theorem cnt_s (ks : List (Hd × Lk)) (hol hol' : Hd) (g x : Nat) : ((hol, sk g) :: ks).count (hol', sk x) = ks.count (hol', sk x) + if hol = hol' ∧ g = x then 1 else 0 := by
  rw [List.count_cons]
  congr 1
  by_cases h : hol = hol' ∧ g = x
  · obtain ⟨rfl, rfl⟩ := h; simp
  · rw [if_neg h, if_neg]
    intro e
    have e := eq_of_beq e
    injection e with e1 e2
    injection e2 with _ e3
    exact h ⟨e1, e3⟩
theorem cnt_n (ks : List (Hd × Lk)) (hol hol' : Hd) {way : Str} (g x : Nat) (hw : way ≠ "strong") : ((hol, ((way, g) : Lk)) :: ks).count (hol', sk x) = ks.count (hol', sk x) := by
  rw [List.count_cons, if_neg]
  · rfl
  · intro e
    have e := eq_of_beq e
    injection e with e1 e2
    injection e2 with e3 _
    exact hw e3
theorem cnt_map (l : List Lk) (g x : Nat) (hol' : Hd) : (l.map fun k => ((some g : Hd), k)).count (hol', sk x) = if hol' = some g then l.count (sk x) else 0 := by
  induction l with
  | nil => simp
  | cons k l ih =>
    rw [List.map_cons, List.count_cons, List.count_cons, ih]
    by_cases h : hol' = some g
    · rw [if_pos h, if_pos h]
      congr 1
      subst h
      by_cases q : k = sk x
      · subst q; simp
      · have e1 : ((((some g : Hd), k) : Hd × Lk) == ((some g : Hd), sk x)) = false := beq_eq_false_iff_ne.mpr fun e => q (by injection e)
        have e2 : (k == sk x) = false := beq_eq_false_iff_ne.mpr q
        rw [e1, e2]
    · rw [if_neg h, if_neg h, if_neg]
      intro e
      have e := eq_of_beq e
      injection e with e1 _
      exact h e1.symm
theorem cnt_er (l : List Hd) (hol hol' : Hd) : (l.erase hol).count hol' = l.count hol' - if hol = hol' then 1 else 0 := by
  rw [List.count_erase]
  by_cases h : hol = hol'
  · subst h; simp
  · rw [if_neg h, if_neg]
    intro e; exact h (eq_of_beq e)
theorem dy_nl : ¬ (("dying" : Str) = "live") := by decide +kernel
theorem go_nl : ¬ (("gone" : Str) = "live") := by decide +kernel
theorem go_nd : ¬ (("gone" : Str) = "dying") := by decide +kernel
theorem li_nd : ¬ (("live" : Str) = "dying") := by decide +kernel
section
variable {N : Nat} {kd : Nat → Str} {P : Ps} {hol : Hd} {k : Lk} {ks : List (Hd × Lk)} {lw : List Nat}
theorem Inv.mem {g : Nat} (I : Inv N kd P ((hol, sk g) :: ks) lw) : 1 ≤ g ∧ g ≤ N ∧ hol ∈ P.hd g ∧ P.st g = "live" := by
  obtain ⟨_, g1, g2⟩ := I.pr _ (.head _)
  have c := I.cnt g hol g1 g2
  rw [cnt_s, if_pos ⟨rfl, rfl⟩] at c
  have hm : hol ∈ P.hd g := List.count_pos_iff.mp (by lia)
  exact ⟨g1, g2, hm, (I.lv g g1 g2).mpr (List.ne_nil_of_mem hm)⟩
/-- what a step leaves -/
structure Stp (N : Nat) (kd : Nat → Str) (P : Ps) (hol : Hd) (k : Lk) (ks : List (Hd × Lk)) (lw : List Nat) : Prop where
  I : Inv N kd (pst kd P hol k).1 ((pst kd P hol k).2.map (fun l => ((some k.2 : Hd), l)) ++ ks) lw
  sz : ((pst kd P hol k).2.map (fun l => ((some k.2 : Hd), l)) ++ ks).length + sfl N (pst kd P hol k).1 + 1 = ((hol, k) :: ks).length + sfl N P
  fr : ∀ x, P.st x ≠ "live" → (pst kd P hol k).1.st x = P.st x ∧ (pst kd P hol k).1.fl x = P.fl x
  ng : sng N (pst kd P hol k).1 ≤ sng N P
  sf : sfl N (pst kd P hol k).1 ≤ sfl N P
theorem cnt_main {g : Nat} (I : Inv N kd P ((hol, sk g) :: ks) lw) (x : Nat) (hol' : Hd) (x1 : 1 ≤ x) (x2 : x ≤ N) : (upd P.hd g ((P.hd g).erase hol) x).count hol' = ks.count (hol', sk x) + owe P lw x hol' := by
  have c := I.cnt x hol' x1 x2
  rw [cnt_s] at c
  by_cases q : x = g
  · subst q
    rw [upd_here, cnt_er, c]
    by_cases h : hol = hol'
    · subst h; rw [if_pos ⟨rfl, rfl⟩, if_pos rfl]; lia
    · rw [if_neg (fun e => h e.1), if_neg h]; lia
  · rw [upd_old _ _ q, c, if_neg (fun e => q e.2.symm)]; lia
theorem step_s {g : Nat} (I : Inv N kd P ((hol, sk g) :: ks) lw) : Stp N kd P hol (sk g) ks lw := by
  obtain ⟨g1, g2, hm, hl⟩ := I.mem
  have hmain := cnt_main I
  have hpr : ∀ x ∈ ks, wayOk x.2.1 ∧ 1 ≤ x.2.2 ∧ x.2.2 ≤ N := fun x hx => I.pr x (.tail _ hx)
  have hsz : ks.length + 1 + sfl N P ≤ 40 := I.sz
  by_cases h1 : (P.hd g).erase hol ≠ []
  · have e : pst kd P hol (sk g) = ({ P with hd := upd P.hd g ((P.hd g).erase hol) }, []) := by unfold pst; rw [if_pos rfl, if_pos h1]
    refine ⟨?_, ?_, ?_, ?_, ?_⟩ <;> rw [e]
    · refine ⟨fun x hol' x1 x2 => by rw [List.map_nil, List.nil_append]; exact hmain x hol' x1 x2, fun x x1 x2 => ?_, hpr, I.fr, I.so, fun x => ?_, by show ks.length + sfl N P ≤ 40; lia, I.dl, I.dc, I.dr⟩
      · show P.st x = "live" ↔ upd P.hd g ((P.hd g).erase hol) x ≠ []
        by_cases q : x = g
        · subst q; rw [upd_here]; exact ⟨fun _ => h1, fun _ => hl⟩
        · rw [upd_old _ _ q]; exact I.lv x x1 x2
      · show (upd P.hd g ((P.hd g).erase hol) x).length ≤ 100
        have := I.hl x
        unfold upd; split
        · rename_i q; subst q; exact Nat.le_trans (List.length_erase_le) this
        · exact this
    · show ks.length + sfl N P + 1 = ks.length + 1 + sfl N P; lia
    · exact fun x _ => ⟨rfl, rfl⟩
    · exact Nat.le_refl _
    · exact Nat.le_refl _
  · have h0 : (P.hd g).erase hol = [] := Classical.byContradiction h1
    rw [h0] at hmain
    have hlv : ∀ (s : Str), s ≠ "live" → ∀ x, 1 ≤ x → x ≤ N → (upd P.st g s x = "live" ↔ upd P.hd g [] x ≠ []) := fun s hs x x1 x2 => by
      by_cases q : x = g
      · subst q; rw [upd_here, upd_here]; exact ⟨fun e => absurd e hs, fun e => absurd rfl e⟩
      · rw [upd_old _ _ q, upd_old _ _ q]; exact I.lv x x1 x2
    have hhl : ∀ x, (upd P.hd g [] x).length ≤ 100 := fun x => by
      have := I.hl x
      unfold upd; split
      · exact Nat.zero_le _
      · exact this
    have hslv : ∀ (s : Str), s ≠ "live" → (sumN N fun i => if upd P.st g s i = "live" then 1 else 0) + 1 = slv N P := fun s hs => by
      have := sum_upd (fun t : Str => if t = "live" then 1 else 0) P.st s g1 g2
      rw [if_pos hl, if_neg hs] at this
      exact this
    have hfrm : ∀ (s : Str) x, P.st x ≠ "live" → upd P.st g s x = P.st x := fun s x hx => upd_old _ _ (fun q => hx (by rw [q]; exact hl))
    have hdl := I.dl
    have hdg : P.dy.count g = 0 := by rw [I.dc g, hl, if_neg li_nd]
    by_cases h3 : kd g = "object"
    · have e : pst kd P hol (sk g) = ({ P with hd := upd P.hd g [], st := upd P.st g "dying", dy := P.dy ++ [g] }, []) := by unfold pst; rw [if_pos rfl, if_neg h1, if_pos h3]
      refine ⟨?_, ?_, ?_, ?_, ?_⟩ <;> rw [e]
      · refine ⟨fun x hol' x1 x2 => by rw [List.map_nil, List.nil_append]; exact hmain x hol' x1 x2, hlv _ dy_nl, hpr, I.fr, fun x => ?_, hhl, by show ks.length + sfl N P ≤ 40; lia, ?_, fun x => ?_, fun x hx => ?_⟩
        · show stOk (upd P.st g "dying" x)
          unfold upd; split
          · exact .inr (.inl rfl)
          · exact I.so x
        · show (P.dy ++ [g]).length + (sumN N fun i => if upd P.st g "dying" i = "live" then 1 else 0) ≤ 10
          have := hslv "dying" dy_nl
          rw [List.length_append, List.length_singleton]; lia
        · show (P.dy ++ [g]).count x = if upd P.st g "dying" x = "dying" then 1 else 0
          rw [List.count_append]
          by_cases q : x = g
          · subst q; rw [hdg, upd_here, if_pos rfl]; simp
          · rw [upd_old _ _ q, I.dc x]
            have : List.count x [g] = 0 := by rw [List.count_singleton]; simp; exact fun e => q e.symm
            rw [this]; rfl
        · rcases List.mem_append.mp hx with hx | hx
          · exact I.dr x hx
          · rw [List.mem_singleton.mp hx]; exact ⟨g1, g2⟩
      · show ks.length + sfl N P + 1 = ks.length + 1 + sfl N P; lia
      · exact fun x hx => ⟨hfrm _ x hx, rfl⟩
      · show (sumN N fun i => if upd P.st g "dying" i = "gone" then 0 else 1) ≤ sng N P
        have := sum_upd (fun t : Str => if t = "gone" then 0 else 1) P.st "dying" g1 g2
        rw [hl, if_neg (fun e => go_nl e.symm), if_neg (fun e => go_nd e.symm)] at this
        have this : (sumN N fun i => if upd P.st g "dying" i = "gone" then 0 else 1) + 1 = sng N P + 1 := this
        lia
      · exact Nat.le_refl _
    · have e : pst kd P hol (sk g) = ({ P with hd := upd P.hd g [], st := upd P.st g "gone", fl := upd P.fl g [] }, P.fl g) := by unfold pst; rw [if_pos rfl, if_neg h1, if_neg h3]
      have hsf : (sumN N fun i => (upd P.fl g [] i).length) + (P.fl g).length = sfl N P := by
        have := sum_upd (fun t : List Lk => t.length) P.fl [] g1 g2
        exact this
      refine ⟨?_, ?_, ?_, ?_, ?_⟩ <;> rw [e]
      · refine ⟨fun x hol' x1 x2 => ?_, hlv _ go_nl, fun x hx => ?_, fun i p hp => ?_, fun x => ?_, hhl, ?_, ?_, fun x => ?_, I.dr⟩
        · show (upd P.hd g [] x).count hol' = ((P.fl g).map (fun l => ((some g : Hd), l)) ++ ks).count (hol', sk x) + owe { P with hd := upd P.hd g [], st := upd P.st g "gone", fl := upd P.fl g [] } lw x hol'
          rw [hmain x hol' x1 x2, List.count_append, cnt_map]
          cases hol' with
          | none => rw [if_neg (by intro e; cases e)]; show _ + lw.count x = 0 + _ + lw.count x; lia
          | some i =>
            show _ + (P.fl i).count (sk x) = _ + _ + (upd P.fl g [] i).count (sk x)
            by_cases q : i = g
            · subst q; rw [if_pos rfl, upd_here]; simp; lia
            · rw [if_neg (by intro e; cases e; exact q rfl), upd_old _ _ q]; lia
        · rcases List.mem_append.mp hx with hx | hx
          · obtain ⟨p, hp, rfl⟩ := List.mem_map.mp hx
            exact I.fr g p hp
          · exact hpr x hx
        · have hp : p ∈ upd P.fl g [] i := hp
          unfold upd at hp; split at hp
          · cases hp
          · exact I.fr i p hp
        · show stOk (upd P.st g "gone" x)
          unfold upd; split
          · exact .inr (.inr rfl)
          · exact I.so x
        · show ((P.fl g).map (fun l => ((some g : Hd), l)) ++ ks).length + (sumN N fun i => (upd P.fl g [] i).length) ≤ 40
          rw [List.length_append, List.length_map]; lia
        · show P.dy.length + (sumN N fun i => if upd P.st g "gone" i = "live" then 1 else 0) ≤ 10
          have := hslv "gone" go_nl; lia
        · show P.dy.count x = if upd P.st g "gone" x = "dying" then 1 else 0
          by_cases q : x = g
          · subst q; rw [hdg, upd_here, if_neg go_nd]
          · rw [upd_old _ _ q]; exact I.dc x
      · show ((P.fl g).map (fun l => ((some g : Hd), l)) ++ ks).length + (sumN N fun i => (upd P.fl g [] i).length) + 1 = ks.length + 1 + sfl N P
        rw [List.length_append, List.length_map]; lia
      · exact fun x hx => ⟨hfrm _ x hx, upd_old _ _ (fun q => hx (by rw [q]; exact hl))⟩
      · show (sumN N fun i => if upd P.st g "gone" i = "gone" then 0 else 1) ≤ sng N P
        have := sum_upd (fun t : Str => if t = "gone" then 0 else 1) P.st "gone" g1 g2
        rw [hl, if_neg (fun e => go_nl e.symm), if_pos rfl] at this
        have this : (sumN N fun i => if upd P.st g "gone" i = "gone" then 0 else 1) + 1 = sng N P + 0 := this
        lia
      · show (sumN N fun i => (upd P.fl g [] i).length) ≤ sfl N P; lia
theorem step_n {way : Str} {g : Nat} (I : Inv N kd P ((hol, ((way, g) : Lk)) :: ks) lw) (hw : way ≠ "strong") : Stp N kd P hol (way, g) ks lw := by
  have hpr : ∀ x ∈ ks, wayOk x.2.1 ∧ 1 ≤ x.2.2 ∧ x.2.2 ≤ N := fun x hx => I.pr x (.tail _ hx)
  have hsz : ks.length + 1 + sfl N P ≤ 40 := I.sz
  have hc : ∀ x hol', 1 ≤ x → x ≤ N → (P.hd x).count hol' = ks.count (hol', sk x) + owe P lw x hol' := fun x hol' x1 x2 => by
    have := I.cnt x hol' x1 x2; rw [cnt_n _ _ _ _ _ hw] at this; exact this
  by_cases h2 : way = "weak"
  · have e : pst kd P hol (way, g) = ({ P with wk := upd P.wk g (P.wk g - 1) }, []) := by unfold pst; rw [if_neg hw, if_pos h2]
    refine ⟨?_, ?_, ?_, ?_, ?_⟩ <;> rw [e]
    · exact ⟨fun x hol' x1 x2 => by rw [List.map_nil, List.nil_append]; exact hc x hol' x1 x2, I.lv, hpr, I.fr, I.so, I.hl, by show ks.length + sfl N P ≤ 40; lia, I.dl, I.dc, I.dr⟩
    · show ks.length + sfl N P + 1 = ks.length + 1 + sfl N P; lia
    · exact fun x _ => ⟨rfl, rfl⟩
    · exact Nat.le_refl _
    · exact Nat.le_refl _
  · have e : pst kd P hol (way, g) = ({ P with un := upd P.un g (P.un g - 1) }, []) := by unfold pst; rw [if_neg hw, if_neg h2]
    refine ⟨?_, ?_, ?_, ?_, ?_⟩ <;> rw [e]
    · exact ⟨fun x hol' x1 x2 => by rw [List.map_nil, List.nil_append]; exact hc x hol' x1 x2, I.lv, hpr, I.fr, I.so, I.hl, by show ks.length + sfl N P ≤ 40; lia, I.dl, I.dc, I.dr⟩
    · show ks.length + sfl N P + 1 = ks.length + 1 + sfl N P; lia
    · exact fun x _ => ⟨rfl, rfl⟩
    · exact Nat.le_refl _
    · exact Nat.le_refl _
theorem step_inv (I : Inv N kd P ((hol, k) :: ks) lw) : Stp N kd P hol k ks lw := by
  obtain ⟨way, g⟩ := k
  by_cases hw : way = "strong"
  · subst hw; exact step_s I
  · exact step_n I hw
/-- both runs -/
theorem run (N : Nat) (kd : Nat → Str) (lw : List Nat) : ∀ (M : Nat) (P : Ps) (pend : List (Hd × Lk)), Inv N kd P pend lw → pend.length + sfl N P ≤ M →
    ∃ P' m, DR N kd P.h (pend.map (·.2)) P'.h ∧ BR N kd m P.b pend P'.b ∧ m ≤ M ∧ Inv N kd P' [] lw ∧ (∀ x, P.st x ≠ "live" → P'.st x = P.st x ∧ P'.fl x = P.fl x) ∧ sng N P' ≤ sng N P ∧ sfl N P' ≤ sfl N P := by
  intro M
  induction M with
  | zero =>
    intro P pend I h
    cases pend with
    | nil => exact ⟨P, 0, .nil _, .nil _, Nat.le_refl _, I, fun _ _ => ⟨rfl, rfl⟩, Nat.le_refl _, Nat.le_refl _⟩
    | cons x pend => simp at h
  | succ M ih =>
    intro P pend I h
    cases pend with
    | nil => exact ⟨P, 0, .nil _, .nil _, Nat.zero_le _, I, fun _ _ => ⟨rfl, rfl⟩, Nat.le_refl _, Nat.le_refl _⟩
    | cons x ks =>
      obtain ⟨hol, k⟩ := x
      have S := step_inv I
      have hs := S.sz
      obtain ⟨P', m, d, br, hm, I', fr, ng, sf⟩ := ih (pst kd P hol k).1 ((pst kd P hol k).2.map (fun l => ((some k.2 : Hd), l)) ++ ks) S.I (by lia)
      obtain ⟨w1, w2, w3⟩ := I.pr _ (.head _)
      have hmem : k.1 = "strong" → hol ∈ P.hd k.2 ∧ P.st k.2 = "live" := fun e => by
        obtain ⟨way, g⟩ := k
        have e : way = "strong" := e
        subst e
        exact I.mem.2.2
      have szI := I.sz
      have fz : ∀ g, 1 ≤ g → g ≤ N → (P.fl g).length ≤ 40 := fun g a1 a2 => by
        have := le_sum (fun i => (P.fl i).length) a1 a2
        have szI : ((hol, k) :: ks).length + sfl N P ≤ 40 := szI
        have this : (P.fl g).length ≤ sfl N P := this
        lia
      have dl := I.dl
      refine ⟨P', m + 1, ?_, ?_, by lia, I', fun x hx => ?_, Nat.le_trans ng S.ng, Nat.le_trans sf S.sf⟩
      · refine .step ⟨w1, w2, w3, fun e => ?_⟩ ?_ ?_
        · obtain ⟨m1, m2⟩ := hmem e
          refine ⟨m2, ?_, ?_, ?_, ?_⟩
          · show (1 : Int) ≤ ((P.hd k.2).length : Int)
            have := List.length_pos_of_mem m1; lia
          · show P.dy.length ≤ 100; lia
          · show (P.fl k.2).length ≤ 100; have := fz k.2 w2 w3; lia
          · exact fun p hp => ⟨(I.fr k.2 p hp).1, (I.fr k.2 p hp).2.1⟩
        · rw [List.length_map]; simp at szI; lia
        · rw [pst_h kd P hol k fun e => (hmem e).1]
          have e : ((pst kd P hol k).2.map (fun l => ((some k.2 : Hd), l)) ++ ks).map (·.2) = (pst kd P hol k).2 ++ ks.map (·.2) := by
            rw [List.map_append, List.map_map]; congr 1; exact List.map_id _
          rw [← e]; exact d
      · refine .step ⟨w1, w2, w3, fun e => ?_⟩ ?_
        · obtain ⟨m1, m2⟩ := hmem e
          exact ⟨m1, I.hl k.2, by show P.dy.length ≤ 100; lia⟩
        · rw [pst_b]; exact br
      · obtain ⟨a1, a2⟩ := S.fr x hx
        obtain ⟨b1, b2⟩ := fr x (by rw [a1]; exact hx)
        exact ⟨b1.trans a1, b2.trans a2⟩
end
end Mine
end

section
namespace Mine
theorem upd_comm {β : Type} (f : Nat → β) {i j : Nat} (a b : β) (h : i ≠ j) : upd (upd f i a) j b = upd (upd f j b) i a := by
  funext x; unfold upd
  by_cases q : x = j
  · subst q; rw [if_pos rfl, if_neg (Ne.symm h), if_pos rfl]
  · rw [if_neg q]
    by_cases q' : x = i
    · rw [if_pos q', if_pos q']
    · rw [if_neg q', if_neg q', if_neg q]
theorem upd_upd {β : Type} (f : Nat → β) (i : Nat) (a b : β) : upd (upd f i a) i b = upd f i b := by
  funext x; unfold upd; split <;> rfl
theorem upd_id {β : Type} (f : Nat → β) (i : Nat) (b : β) (h : f i = b) : upd f i b = f := by subst h; exact upd_same f i
noncomputable def hmod (h : Hs) (g : Nat) (v : List Lk) (s : Str) : Hs := { h with fl := upd h.fl g v, st := upd h.st g s }
noncomputable def bmod (b : Bs) (g : Nat) (s : Str) : Bs := { b with bs := upd b.bs g s }
theorem dst_mod (kd : Nat → Str) (h : Hs) (k : Lk) {g : Nat} (v : List Lk) (s : Str) (hk : k.1 = "strong" → k.2 ≠ g) : dst kd (hmod h g v s) k = (hmod (dst kd h k).1 g v s, (dst kd h k).2) := by
  unfold dst
  by_cases h1 : k.1 = "strong"
  · have ne := hk h1
    rw [if_pos h1, if_pos h1]
    by_cases h2 : 2 ≤ h.sg k.2
    · rw [if_pos h2, if_pos (show 2 ≤ (hmod h g v s).sg k.2 from h2)]; rfl
    · rw [if_neg h2, if_neg (show ¬ 2 ≤ (hmod h g v s).sg k.2 from h2)]
      by_cases h3 : kd k.2 = "object"
      · rw [if_pos h3, if_pos h3]
        refine Prod.ext ?_ rfl
        show (⟨upd h.sg k.2 0, h.wk, h.un, upd (upd h.st g s) k.2 "dying", upd h.fl g v, h.dy ++ [k.2]⟩ : Hs) = ⟨upd h.sg k.2 0, h.wk, h.un, upd (upd h.st k.2 "dying") g s, upd h.fl g v, h.dy ++ [k.2]⟩
        rw [upd_comm h.st _ _ ne]
      · rw [if_neg h3, if_neg h3]
        refine Prod.ext ?_ (upd_old _ _ ne)
        show (⟨upd h.sg k.2 0, h.wk, h.un, upd (upd h.st g s) k.2 "gone", upd (upd h.fl g v) k.2 [], h.dy⟩ : Hs) = ⟨upd h.sg k.2 0, h.wk, h.un, upd (upd h.st k.2 "gone") g s, upd (upd h.fl k.2 []) g v, h.dy⟩
        rw [upd_comm h.st _ _ ne, upd_comm h.fl _ _ ne]
  · rw [if_neg h1, if_neg h1]
    by_cases h2 : k.1 = "weak"
    · rw [if_pos h2, if_pos h2]; rfl
    · rw [if_neg h2, if_neg h2]; rfl
theorem dst_st (kd : Nat → Str) (h : Hs) (k : Lk) {g : Nat} (hk : k.1 = "strong" → k.2 ≠ g) : (dst kd h k).1.st g = h.st g := by
  unfold dst
  by_cases h1 : k.1 = "strong"
  · have ne := hk h1
    rw [if_pos h1]
    by_cases h2 : 2 ≤ h.sg k.2
    · rw [if_pos h2]
    · rw [if_neg h2]
      by_cases h3 : kd k.2 = "object"
      · rw [if_pos h3]; exact upd_old _ _ (Ne.symm ne)
      · rw [if_neg h3]; exact upd_old _ _ (Ne.symm ne)
  · rw [if_neg h1]
    by_cases h2 : k.1 = "weak"
    · rw [if_pos h2]
    · rw [if_neg h2]
theorem DR.frame {nt : Nat} {kd : Nat → Str} {h h' : Hs} {ks : List Lk} (d : DR nt kd h ks h') {g : Nat} (v : List Lk) (s : Str) : h.st g ≠ "live" → DR nt kd (hmod h g v s) ks (hmod h' g v s) := by
  induction d with
  | nil h => intro _; exact .nil _
  | @step h h' k ks p b d ih =>
    intro hg
    have ne : k.1 = "strong" → k.2 ≠ g := fun e q => hg (q ▸ (p.live e).1)
    refine .step ⟨p.way, p.lo, p.hi, fun e => ?_⟩ b ?_
    · obtain ⟨a1, a2, a3, a4, a5⟩ := p.live e
      have n1 := ne e
      have f1 : (hmod h g v s).fl k.2 = h.fl k.2 := upd_old _ _ n1
      refine ⟨(upd_old _ _ n1).trans a1, a2, a3, by rw [f1]; exact a4, by rw [f1]; exact a5⟩
    · rw [dst_mod kd h k v s ne]
      exact ih (by rw [dst_st kd h k ne]; exact hg)
theorem bst_mod (bk : Nat → Str) (b : Bs) (hol : Hd) (k : Lk) {g : Nat} (s : Str) (hk : k.1 = "strong" → k.2 ≠ g) : bst bk (bmod b g s) hol k = (bmod (bst bk b hol k).1 g s, (bst bk b hol k).2) := by
  unfold bst
  by_cases h1 : k.1 = "strong"
  · have ne := hk h1
    rw [if_pos h1, if_pos h1]
    by_cases h2 : (b.hd k.2).erase hol ≠ []
    · rw [if_pos h2, if_pos (show ((bmod b g s).hd k.2).erase hol ≠ [] from h2)]; rfl
    · rw [if_neg h2, if_neg (show ¬ ((bmod b g s).hd k.2).erase hol ≠ [] from h2)]
      by_cases h3 : bk k.2 = "object"
      · rw [if_pos h3, if_pos h3]
        refine Prod.ext ?_ rfl
        show (⟨upd b.hd k.2 [], b.bw, b.bu, upd (upd b.bs g s) k.2 "dying", b.rw, b.bd ++ [k.2]⟩ : Bs) = ⟨upd b.hd k.2 [], b.bw, b.bu, upd (upd b.bs k.2 "dying") g s, b.rw, b.bd ++ [k.2]⟩
        rw [upd_comm b.bs _ _ ne]
      · rw [if_neg h3, if_neg h3]
        refine Prod.ext ?_ rfl
        show (⟨upd b.hd k.2 [], b.bw, b.bu, upd (upd b.bs g s) k.2 "gone", upd b.rw k.2 [], b.bd⟩ : Bs) = ⟨upd b.hd k.2 [], b.bw, b.bu, upd (upd b.bs k.2 "gone") g s, upd b.rw k.2 [], b.bd⟩
        rw [upd_comm b.bs _ _ ne]
  · rw [if_neg h1, if_neg h1]
    by_cases h2 : k.1 = "weak"
    · rw [if_pos h2, if_pos h2]; rfl
    · rw [if_neg h2, if_neg h2]; rfl
theorem bst_hd (bk : Nat → Str) (b : Bs) (hol : Hd) (k : Lk) {g : Nat} (hk : k.1 = "strong" → k.2 ≠ g) : (bst bk b hol k).1.hd g = b.hd g := by
  unfold bst
  by_cases h1 : k.1 = "strong"
  · have ne := hk h1
    rw [if_pos h1]
    by_cases h2 : (b.hd k.2).erase hol ≠ []
    · rw [if_pos h2]; exact upd_old _ _ (Ne.symm ne)
    · rw [if_neg h2]
      by_cases h3 : bk k.2 = "object"
      · rw [if_pos h3]; exact upd_old _ _ (Ne.symm ne)
      · rw [if_neg h3]; exact upd_old _ _ (Ne.symm ne)
  · rw [if_neg h1]
    by_cases h2 : k.1 = "weak"
    · rw [if_pos h2]
    · rw [if_neg h2]
theorem BR.frame {N m : Nat} {bk : Nat → Str} {b b' : Bs} {ks : List (Hd × Lk)} (d : BR N bk m b ks b') {g : Nat} (s : Str) : b.hd g = [] → BR N bk m (bmod b g s) ks (bmod b' g s) := by
  induction d with
  | nil b => intro _; exact .nil _
  | @step m b b' hol k ks p d ih =>
    intro hg
    have ne : k.1 = "strong" → k.2 ≠ g := fun e q => by
      have := (p.live e).1
      rw [q, hg] at this; cases this
    refine .step ⟨p.way, p.lo, p.hi, p.live⟩ ?_
    rw [bst_mod bk b hol k s ne]
    exact ih (by rw [bst_hd bk b hol k ne]; exact hg)
section
variable {N : Nat} {kd : Nat → Str} {P : Ps} {lw : List Nat} {σ : St}
theorem fl_len (I : Inv N kd P [] lw) {i : Nat} (h1 : 1 ≤ i) (h2 : i ≤ N) : (P.fl i).length ≤ 40 := by
  have := le_sum (fun i => (P.fl i).length) h1 h2
  have sz := I.sz
  have sz : 0 + sfl N P ≤ 40 := sz
  have this : (P.fl i).length ≤ sfl N P := this
  lia
theorem so_of (I : Inv N kd P [] lw) (hN : SameN σ N) (h1 : 1 ≤ N) (hk : σ.bk = σ.kd) (hok : ∀ i, kdOk (σ.kd i)) : So (σ.wHB P.h t0 P.b t0) N := by
  have dl := I.dl
  refine ⟨⟨hN.k, hN.r, hN.h, hN.w, hN.u, hN.s, hN.t, hN.le⟩, h1, rfl, ?_, fun i _ _ => ?_, fun i _ _ => ?_, fun _ _ _ => rfl, fun _ _ _ => rfl, fun _ _ _ => rfl, fun i _ _ => I.so i, hk, fun i _ _ => hok i, fun _ _ _ => rfl, fun i a1 a2 => ?_, fun i _ _ p hp => I.fr i p hp⟩
  · show P.dy.length ≤ 100; lia
  · show ((P.hd i).length : Int) = (((P.hd i).map hv).length : Int); rw [List.length_map]
  · show ((P.hd i).map hv).length ≤ 100; rw [List.length_map]; exact I.hl i
  · show (P.fl i).length ≤ 100; have := fl_len I a1 a2; lia
/-- the first of the dying, taken out -/
theorem Inv.out {g : Nat} {r : List Nat} (I : Inv N kd P [] lw) (e : P.dy = g :: r) : 1 ≤ g ∧ g ≤ N ∧ P.st g = "dying" ∧ P.hd g = [] ∧
    Inv N kd { P with dy := r, fl := upd P.fl g [], st := upd P.st g "gone" } ((P.fl g).map fun l => ((some g : Hd), l)) lw ∧ sng N { P with dy := r, fl := upd P.fl g [], st := upd P.st g "gone" } + 1 = sng N P := by
  obtain ⟨g1, g2⟩ := I.dr g (by rw [e]; exact .head _)
  have dcg := I.dc g
  rw [e, List.count_cons, if_pos (beq_self_eq_true g)] at dcg
  have hst : P.st g = "dying" := Classical.byContradiction fun q => by rw [if_neg q] at dcg; lia
  have hcr : r.count g = 0 := by rw [if_pos hst] at dcg; lia
  have hd : P.hd g = [] := Classical.byContradiction fun q => by
    have := (I.lv g g1 g2).mpr q
    rw [hst] at this; exact dy_nl this
  refine ⟨g1, g2, hst, hd, ?_, ?_⟩
  · have hsf : (sumN N fun i => (upd P.fl g [] i).length) + (P.fl g).length = sfl N P := sum_upd (fun t : List Lk => t.length) P.fl [] g1 g2
    have sz := I.sz
    have sz : 0 + sfl N P ≤ 40 := sz
    refine ⟨fun x hol' x1 x2 => ?_, fun x x1 x2 => ?_, fun x hx => ?_, fun i p hp => ?_, fun x => ?_, I.hl, ?_, ?_, fun x => ?_, fun x hx => I.dr x (by rw [e]; exact .tail _ hx)⟩
    · show (P.hd x).count hol' = ((P.fl g).map fun l => ((some g : Hd), l)).count (hol', sk x) + owe { P with dy := r, fl := upd P.fl g [], st := upd P.st g "gone" } lw x hol'
      have c := I.cnt x hol' x1 x2
      have c : (P.hd x).count hol' = 0 + owe P lw x hol' := c
      rw [c, cnt_map]
      cases hol' with
      | none => rw [if_neg (by intro e; cases e)]; rfl
      | some i =>
        show 0 + (P.fl i).count (sk x) = _ + (upd P.fl g [] i).count (sk x)
        by_cases q : i = g
        · subst q; rw [if_pos rfl, upd_here]; simp
        · rw [if_neg (by intro e; cases e; exact q rfl), upd_old _ _ q]
    · show upd P.st g "gone" x = "live" ↔ P.hd x ≠ []
      by_cases q : x = g
      · subst q; rw [upd_here]; exact ⟨fun h => absurd h go_nl, fun h => absurd hd h⟩
      · rw [upd_old _ _ q]; exact I.lv x x1 x2
    · obtain ⟨p, hp, rfl⟩ := List.mem_map.mp hx
      exact I.fr g p hp
    · have hp : p ∈ upd P.fl g [] i := hp
      unfold upd at hp; split at hp
      · cases hp
      · exact I.fr i p hp
    · show stOk (upd P.st g "gone" x)
      unfold upd; split
      · exact .inr (.inr rfl)
      · exact I.so x
    · show ((P.fl g).map fun l => ((some g : Hd), l)).length + (sumN N fun i => (upd P.fl g [] i).length) ≤ 40
      rw [List.length_map]; lia
    · show r.length + (sumN N fun i => if upd P.st g "gone" i = "live" then 1 else 0) ≤ 10
      have := sum_upd (fun t : Str => if t = "live" then 1 else 0) P.st "gone" g1 g2
      rw [hst, if_neg dy_nl, if_neg go_nl] at this
      have this : (sumN N fun i => if upd P.st g "gone" i = "live" then 1 else 0) + 0 = slv N P + 0 := this
      have dl := I.dl
      rw [e, List.length_cons] at dl
      lia
    · show r.count x = if upd P.st g "gone" x = "dying" then 1 else 0
      by_cases q : x = g
      · subst q; rw [hcr, upd_here, if_neg go_nd]
      · rw [upd_old _ _ q, ← I.dc x, e, List.count_cons, if_neg (by intro h; exact q (eq_of_beq h).symm)]; rfl
  · show (sumN N fun i => if upd P.st g "gone" i = "gone" then 0 else 1) + 1 = sng N P
    have := sum_upd (fun t : Str => if t = "gone" then 0 else 1) P.st "gone" g1 g2
    rw [hst, if_pos rfl, if_neg (fun h => go_nd h.symm)] at this
    exact this
theorem dy_ng : ¬ (("dying" : Str) = "gone") := fun h => go_nd h.symm
/-- all the dying are taken down -/
theorem td (hN : SameN σ N) (h1 : 1 ≤ N) (hk : σ.bk = σ.kd) (hok : ∀ i, kdOk (σ.kd i)) : ∀ (q : Nat) (P : Ps), Inv N σ.kd P [] lw → sng N P ≤ q → ∃ P', TD σ N 40 P.h P.b P'.h P'.b ∧ Inv N σ.kd P' [] lw ∧ P'.dy = [] ∧ sfl N P' ≤ sfl N P := by
  intro q
  induction q with
  | zero =>
    intro P I hq
    cases e : P.dy with
    | nil => exact ⟨P, .done e, I, e, Nat.le_refl _⟩
    | cons g r => obtain ⟨_, _, _, _, _, h⟩ := I.out e; lia
  | succ q ih =>
    intro P I hq
    cases e : P.dy with
    | nil => exact ⟨P, .done e, I, e, Nat.le_refl _⟩
    | cons g r =>
      obtain ⟨g1, g2, hst, hhd, I₁, hng⟩ := I.out e
      obtain ⟨P', m, d, br, hm, I', fr, ng, sf⟩ := run N σ.kd lw 40 _ _ I₁ (by have := I₁.sz; exact this)
      obtain ⟨f1, f2⟩ := fr g (by show upd P.st g "gone" g ≠ "live"; rw [upd_here]; exact go_nl)
      have f1 : P'.st g = "gone" := f1.trans (upd_here _ _ _)
      have f2 : P'.fl g = [] := f2.trans (upd_here _ _ _)
      obtain ⟨P'', t, I'', e'', sf'⟩ := ih P' I' (by lia)
      have sf1 : sfl N { P with dy := r, fl := upd P.fl g [], st := upd P.st g "gone" : Ps } ≤ sfl N P := by
        have : (sumN N fun i => (upd P.fl g [] i).length) + (P.fl g).length = sfl N P := sum_upd (fun t : List Lk => t.length) P.fl [] g1 g2
        show (sumN N fun i => (upd P.fl g [] i).length) ≤ sfl N P; lia
      refine ⟨P'', ?_, I'', e'', by lia⟩
      have fz := fl_len I g1 g2
      have dl := I.dl
      rw [e, List.length_cons] at dl
      have d' := DR.frame d (g := g) (P.fl g) "dying" (by show upd P.st g "gone" g ≠ "live"; rw [upd_here]; exact go_nl)
      have b' := BR.frame br (g := g) "dying" hhd
      have E1 : hmod { P with dy := r, fl := upd P.fl g [], st := upd P.st g "gone" : Ps }.h g (P.fl g) "dying" = { P.h with dy := r } := by
        show (⟨_, _, _, upd (upd P.st g "gone") g "dying", upd (upd P.fl g []) g (P.fl g), r⟩ : Hs) = ⟨_, _, _, P.st, P.fl, r⟩
        rw [upd_upd, upd_upd, upd_id _ _ _ hst, upd_same]
        rfl
      have E2 : bmod { P with dy := r, fl := upd P.fl g [], st := upd P.st g "gone" : Ps }.b g "dying" = { P.b with bd := r, rw := upd P.b.rw g [] } := by
        show (⟨_, _, _, upd (upd P.st g "gone") g "dying", upd P.fl g [], r⟩ : Bs) = ⟨_, _, _, P.st, upd P.fl g [], r⟩
        rw [upd_upd, upd_id _ _ _ hst]
        rfl
      have E3 : ({ hmod P'.h g (P.fl g) "dying" with st := upd (hmod P'.h g (P.fl g) "dying").st g "gone", fl := upd (hmod P'.h g (P.fl g) "dying").fl g [] } : Hs) = P'.h := by
        show (⟨_, _, _, upd (upd P'.st g "dying") g "gone", upd (upd P'.fl g (P.fl g)) g [], P'.dy⟩ : Hs) = ⟨_, _, _, P'.st, P'.fl, P'.dy⟩
        rw [upd_upd, upd_upd, upd_id _ _ _ f1, upd_id _ _ _ f2]
        rfl
      have E4 : ({ bmod P'.b g "dying" with bs := upd (bmod P'.b g "dying").bs g "gone" } : Bs) = P'.b := by
        show (⟨_, _, _, upd (upd P'.st g "dying") g "gone", P'.fl, P'.dy⟩ : Bs) = ⟨_, _, _, P'.st, P'.fl, P'.dy⟩
        rw [upd_upd, upd_id _ _ _ f1]
        rfl
      rw [E1] at d'
      rw [E2] at b'
      have em : ((P.fl g).map fun l => ((some g : Hd), l)).map (·.2) = P.fl g := by rw [List.map_map]; exact List.map_id _
      rw [em] at d'
      refine TD.step (g := g) (m := m) (dy := r) (bd := r) (h2 := hmod P'.h g (P.fl g) "dying") (b2 := bmod P'.b g "dying") e e (by lia) (by lia) g1 g2 ?_ ?_ ?_ ?_ ?_ ?_ hm ?_ ?_ ?_
      · show P.st g ≠ "gone"; rw [hst]; exact dy_ng
      · exact fun p hp => ⟨(I.fr g p hp).1, (I.fr g p hp).2.1⟩
      · show (P.fl g).length ≤ 100; lia
      · show (P.fl g).length ≤ 100; lia
      · rw [hN.t]; exact d'
      · show upd P'.st g "dying" g ≠ "gone"; rw [upd_here]; exact dy_ng
      · rw [hk]; exact b'
      · rw [E3, E4]; exact so_of I' hN h1 hk hok
      · rw [E3, E4]; exact t
/-- a hold of the law's let go -/
theorem let_go {g : Nat} {pre post : List Nat} (I : Inv N kd P [] (pre ++ g :: post)) (hs : sfl N P ≤ 39) (g1 : 1 ≤ g) (g2 : g ≤ N) : ∃ P' m, DR N kd P.h [("strong", g)] P'.h ∧ BR N kd m P.b [((none : Hd), sk g)] P'.b ∧ m ≤ 40 ∧ Inv N kd P' [] (pre ++ post) ∧ sfl N P' ≤ sfl N P := by
  have I1 : Inv N kd P [((none : Hd), sk g)] (pre ++ post) := by
    refine ⟨fun x hol x1 x2 => ?_, I.lv, fun x hx => ?_, I.fr, I.so, I.hl, by show 1 + sfl N P ≤ 40; lia, I.dl, I.dc, I.dr⟩
    · have c := I.cnt x hol x1 x2
      have c : (P.hd x).count hol = 0 + owe P (pre ++ g :: post) x hol := c
      rw [c, cnt_s]
      cases hol with
      | none =>
        show 0 + (pre ++ g :: post).count x = _ + (pre ++ post).count x
        rw [List.count_append, List.count_append, List.count_cons]
        by_cases q : g = x
        · subst q; rw [if_pos (beq_self_eq_true g), if_pos ⟨rfl, rfl⟩]; simp; lia
        · rw [if_neg (fun e => q (eq_of_beq e)), if_neg (fun e => q e.2)]; simp
      | some i =>
        rw [if_neg (fun e => by cases e.1)]; rfl
    · rw [List.mem_singleton.mp hx]; exact ⟨.inl rfl, g1, g2⟩
  obtain ⟨P', m, d, br, hm, I', _, _, sf⟩ := run N kd (pre ++ post) 40 P _ I1 (by show 1 + sfl N P ≤ 40; lia)
  exact ⟨P', m, d, br, hm, I', sf⟩
end
end Mine
end

namespace Mine
section
set_option maxRecDepth 100000
local macro_rules | `(tactic| wtm_at "k2") => `(tactic| k_dflt (intro _ _; kernel_rfl))
local macro_rules | `(tactic| wtm_at "k") => `(tactic| k_dflt (intro _; kernel_rfl))
local macro_rules | `(tactic| wtm_at "r") => `(tactic| k_dflt (intro _; rfl))
local macro_rules | `(tactic| wtm_at "z") => `(tactic| k_dflt (exact Nat.le_of_ble_eq_true (by kernel_rfl)))
local macro_rules | `(tactic| wtm_at "b") => `(tactic| k_dflt (wtm_at "m.bd"))
local macro_rules | `(tactic| wtm_at "c") => `(tactic| exact Fn.call (by assumption) (by kernel_rfl))
local macro_rules | `(tactic| wtm_at "m.loc") => `(tactic| with_reducible first | exact loc_here | assumption | exact bind_here (by kernel_rfl) | (refine' loc_old (by kernel_rfl) ?g; (case g => wtm_at "m.loc")) | (refine' bind_old ?g; (case g => wtm_at "m.loc")))
local macro_rules | `(tactic| wtm_at "m.bd") => `(tactic| first | assumption | lia | (simp only [] at *; lia))
local macro_rules | `(tactic| wtm_at "m.at") => `(tactic| with_reducible first | assumption | exact Hp.new_here _ _ | exact Hp.set_here _ _ _ | exact Rep.at_bk (by assumption) | exact Rep.at_hand (by assumption) | exact Rep.at_cells (by assumption) | exact Rep.at_things (by assumption) | exact Rep.at_hdy (by assumption) | exact Rep.at_kinds (by assumption) | exact Rep.at_rows (by assumption) | exact Rep.at_holders (by assumption) | exact Rep.at_weak (by assumption) | exact Rep.at_unow (by assumption) | exact Rep.at_state (by assumption) | exact Rep.at_bdy (by assumption) | (refine' Rep.at_tf (by assumption) ?g1 ?g2; (case g1 => wtm_at "b"); (case g2 => wtm_at "b")) | (refine' Rep.at_rl (by assumption) ?g1 ?g2; (case g1 => wtm_at "b"); (case g2 => wtm_at "b")) | (refine' Rep.at_hl (by assumption) ?g1 ?g2; (case g1 => wtm_at "b"); (case g2 => wtm_at "b")))
local macro_rules | `(tactic| wtm_at "m.inst") => `(tactic| first | with_reducible assumption | with_reducible exact Rep.at_hp (by assumption) | (with_reducible refine' Rep.at_ti (by assumption) ?g1 ?g2; (case g1 => wtm_at "b"); (case g2 => wtm_at "b")))
local macro_rules | `(tactic| wtm_at "m.vget") => `(tactic| with_reducible first | assumption | exact vget_here | (refine' vget_old (by kernel_rfl) ?g; (case g => wtm_at "m.vget")) | (refine' vget_tab ?g1 ?g2; (case g1 => wtm_at "b"); (case g2 => wtm_at "b")))
local macro_rules | `(tactic| wtm_at "m.fget") => `(tactic| with_reducible first | exact fget_here | (refine' fget_old (by kernel_rfl) ?g; (case g => wtm_at "m.fget")))
local macro_rules | `(tactic| wtm_at "m.plain") => `(tactic| first | with_reducible exact pl_Heap | with_reducible exact pl_Thing)
local macro_rules | `(tactic| wtm_at "m.num") => `(tactic| first | assumption | lia | (simp only [List.length_map, List.length_cons, List.length_nil, List.length_append, List.length_take, List.length_reverse, tab_len] <;> lia) | decide)
local macro_rules | `(tactic| wtm_at "m.get") => `(tactic| first | assumption | rfl)
local macro_rules | `(tactic| wtm_at "m.sub") => `(tactic| first
  | ((with_reducible refine' sub_sdict ?h ?v (hs := by wtm_at "k2")); (case h => wtm_at "m.at"); (case v => wtm_at "m.vget"))
  | ((with_reducible refine' sub_idict ?h ?v (hs := by wtm_at "k2")); (case h => wtm_at "m.at"); (case v => wtm_at "m.vget"))
  | ((with_reducible refine' sub_tup ?a ?b ?v (hs := by wtm_at "k2")); (case a => wtm_at "m.num"); (case b => wtm_at "m.num"); (case v => wtm_at "m.get"))
  | ((with_reducible refine' sub_list ?h ?a ?b ?v (hs := by wtm_at "k2")); (case h => wtm_at "m.at"); (case v => wtm_at "m.get"); (case a => wtm_at "m.num"); (case b => wtm_at "m.num"))
  | ((with_reducible refine' sub_last ?h (hs := by wtm_at "k2")); (case h => wtm_at "m.at")))
local macro_rules | `(tactic| wtm_at "m.glob") => `(tactic| first | ((with_reducible first | refine' ev_glob g_next ?a ?b | refine' ev_glob g_link ?a ?b | refine' ev_glob g_lay ?a ?b | refine' ev_glob g_letgo ?a ?b | refine' ev_glob g_isso ?a ?b | refine' ev_glob g_taken ?a ?b | refine' ev_glob g_read ?a ?b | refine' ev_glob g_refused ?a ?b | refine' ev_glob g_menu ?a ?b | refine' ev_glob g_counted ?a ?b | refine' ev_glob g_COUNTED ?a ?b | refine' ev_glob g_FormFault ?a ?b | refine' ev_glob g_Trap ?a ?b); (case a => kernel_rfl); (case b => kernel_rfl)) | ((with_reducible first | refine' ev_bi (t := "len") g_len ?a ?b ?c ?d | refine' ev_ty (t := "list") g_list ?a ?b ?c ?d | refine' ev_ty (t := "str") g_str ?a ?b ?c ?d | refine' ev_ty (t := "tuple") g_tuple ?a ?b ?c ?d | refine' ev_ty (t := "range") g_range ?a ?b ?c ?d | refine' ev_bi (t := "sorted") g_sorted ?a ?b ?c ?d | refine' ev_bi (t := "isinstance") g_isinst ?a ?b ?c ?d | refine' ev_bi (t := "all") g_all ?a ?b ?c ?d); (case a => kernel_rfl); (case b => kernel_rfl); (case c => with_unfolding_all decide); (case d => kernel_rfl)))
local macro_rules | `(tactic| wtm_at "m.bi1") => `(tactic| first
  | ((with_reducible refine' bi_len ?h ?z); (case h => wtm_at "m.at"); (case z => wtm_at "m.num")))
local macro_rules | `(tactic| wtm_at "m.eas") => `(tactic| first | with_reducible exact eas_nil | ((with_reducible refine' eas_cons ?a ?b (he := by wtm_at "k")); (case a => wtm_at "m.ev"); (case b => wtm_at "m.eas")))
local macro_rules | `(tactic| wtm_at "m.me") => `(tactic| with_reducible first | exact me_thing | exact me_retain | exact me_release | exact me_drop | exact me_dropped | exact me_lost | exact me_buried | exact me_copied | exact me_destroyed | exact me_weak_to | exact me_weak_read | exact me_unowned_to | exact me_unowned_read | exact me_live | exact me_made)
local macro_rules | `(tactic| wtm_at "m.fno") => `(tactic| with_reducible first | exact fget_nil | (refine' fget_no (by kernel_rfl) ?g; (case g => wtm_at "m.fno")))
local macro_rules | `(tactic| wtm_at "m.list1") => `(tactic| ((with_reducible refine' ev_call_ty1 ?f ?a (ty_list ?h ?z) (he := by wtm_at "k") (h1 := by wtm_at "k") (h2 := by wtm_at "k")); (case f => wtm_at "m.glob"); (case a => wtm_at "m.ev"); (case h => wtm_at "m.at"); (case z => wtm_at "m.num")))
local macro_rules | `(tactic| wtm_at "m.ev") => `(tactic| first
  | with_reducible assumption
  | with_reducible exact ev_str | with_reducible exact ev_int | with_reducible exact ev_bool | with_reducible exact ev_none
  | ((with_reducible refine' ev_local ?l (by kernel_rfl) (by kernel_rfl)); (case l => wtm_at "m.loc"))
  | ((with_reducible refine' ev_cell ?c ?h (by kernel_rfl) (by kernel_rfl)); (case c => first | exact List.Mem.head _ | assumption); (case h => wtm_at "m.at"))
  | ((with_reducible refine' ev_ix ?o ?i ?s); (case o => wtm_at "m.ev"); (case i => wtm_at "m.ev"); (case s => wtm_at "m.sub"))
  | ((with_reducible refine' ev_attr ?o ?I ?v ?p ?P (by kernel_rfl) (by kernel_rfl) (he := by wtm_at "k")); (case o => wtm_at "m.ev"); (case I => wtm_at "m.inst"); (case v => wtm_at "m.fget"); (case p => rfl); (case P => wtm_at "m.plain"))
  | ((with_reducible refine' ev_add ?a ?b); (case a => wtm_at "m.ev"); (case b => wtm_at "m.ev"))
  | ((with_reducible refine' ev_sub ?a ?b); (case a => wtm_at "m.ev"); (case b => wtm_at "m.ev"))
  | ((with_reducible refine' ev_tuple ?a ?z); (case a => wtm_at "m.eas"); (case z => wtm_at "z"))
  | ((with_reducible refine' ev_call_bi1 ?f ?a ?b (he := by wtm_at "k") (h1 := by wtm_at "k") (h2 := by wtm_at "k")); (case f => wtm_at "m.glob"); (case a => wtm_at "m.ev"); (case b => wtm_at "m.bi1"))
  | ((with_reducible refine' ev_append ?o ?h ?a ?h2 ?z (he := by wtm_at "r") (h1 := by wtm_at "k") (h2 := by wtm_at "k")); (case o => wtm_at "m.ev"); (case h => wtm_at "m.at"); (case a => wtm_at "m.ev"); (case h2 => wtm_at "m.at"); (case z => wtm_at "m.num"))
  | ((with_reducible refine' ev_pop ?o ?h ?z (he := by wtm_at "r")); (case o => wtm_at "m.ev"); (case h => wtm_at "m.at"); (case z => wtm_at "m.num"))
  | ((with_reducible refine' ev_extend ?o ?h ?a ?h2 ?h3 ?z (he := by wtm_at "r") (h1 := by wtm_at "k") (h2 := by wtm_at "k")); (case o => wtm_at "m.ev"); (case h => wtm_at "m.at"); (case a => wtm_at "m.ev"); (case h2 => wtm_at "m.at"); (case h3 => wtm_at "m.at"); (case z => wtm_at "m.num"))
  | ((with_reducible refine' ev_rev ?o ?h ?z ?e (by k_dflt (intro _ _; exact ⟨_, rfl⟩))); (case o => wtm_at "m.ev"); (case h => wtm_at "m.at"); (case z => wtm_at "m.num"); (case e => with_reducible exact ev_neg))
  | wtm_at "m.list1"
  | ((with_reducible refine' ev_call_st ?f ?a (by kernel_rfl) ?k (he := by wtm_at "k") (h1 := by wtm_at "k") (h2 := by wtm_at "k")); (case f => wtm_at "m.glob"); (case a => wtm_at "m.eas"); (case k => wtm_at "c"))
  | ((with_reducible refine' ev_meth ?o ?I ?no (by kernel_rfl) ?me (by kernel_rfl) (by kernel_rfl) ?a ?k (he := by wtm_at "r") (h1 := by wtm_at "k") (h2 := by wtm_at "k")); (case o => wtm_at "m.ev"); (case I => wtm_at "m.inst"); (case me => wtm_at "m.me"); (case no => wtm_at "m.fno"); (case a => wtm_at "m.eas"); (case k => wtm_at "c"))
  | ((with_reducible refine' ev_meth0 ?o ?I ?no (by kernel_rfl) ?me (by kernel_rfl) (by kernel_rfl) ?k (he := by wtm_at "r")); (case o => wtm_at "m.ev"); (case I => wtm_at "m.inst"); (case me => wtm_at "m.me"); (case no => wtm_at "m.fno"); (case k => wtm_at "c"))
  | ((with_reducible refine' name_id ?g); (case g => wtm_at "m.glob"))
  | ((with_reducible refine' ev_list ?a ?z); (case a => wtm_at "m.eas"); (case z => wtm_at "z"))
  | with_reducible exact ev_neg)
local macro_rules | `(tactic| wtm_at "m.cmp") => `(tactic| with_reducible first | exact cmp_eq_str | exact cmp_ne_str | exact cmp_eq_int | exact cmp_ne_int | exact cmp_lt_int | exact cmp_gt_int | exact cmp_le_int)
local macro_rules | `(tactic| wtm_at "m.tr") => `(tactic| first | with_reducible exact tr_bool | ((with_reducible refine' tr_list ?h ?z); (case h => wtm_at "m.at"); (case z => wtm_at "m.num")))
local macro_rules | `(tactic| wtm_at "m.te") => `(tactic| first
  | ((with_reducible refine' te_cmp ?a ?b ?c (by kernel_rfl)); (case a => wtm_at "m.ev"); (case b => wtm_at "m.ev"); (case c => wtm_at "m.cmp"))
  | ((with_reducible refine' te_not ?a); (case a => wtm_at "m.te"))
  | ((with_reducible refine' te_val ?a ?t (by wtm_at "k")); (case a => wtm_at "m.ev"); (case t => wtm_at "m.tr")))
local macro_rules | `(tactic| wtm_at "m.set") => `(tactic| first
  | ((with_reducible refine' set_sdict ?h ?z); (case h => wtm_at "m.at"); (case z => wtm_at "m.num"))
  | ((with_reducible refine' set_idict ?h ?z); (case h => wtm_at "m.at"); (case z => wtm_at "m.num")))
local macro_rules | `(tactic| wtm_at "m.b") => `(tactic| first | rfl | assumption | (simp; done) | (simp [*]; done) | (simp; lia) | (simp at *; lia))
section
set_option maxRecDepth 100000
set_option maxHeartbeats 0
section
variable {n : Nat} {w : World} {mean : ExcName → Option Value} {mg mb : Str → Option Value} {α : Rl → Nat} {σ : St} {H : Hp}
noncomputable def nx (σ : St) (b : Nat) : Nat := if σ.at_ < σ.cells.length then (σ.cells.getD σ.at_ 0) % b else 0
theorem c_next (R : Rep α σ H) {b : Nat} (hb : 0 < b) (hc : σ.cells.length ≤ 60) : ∃ v H', Fn (CX w mean mg mb) (n + 1) 249 [.obj (α .hand), .int b] H v H' ∧ v = .int (nx σ b) ∧ Rep α (σ.w_at (σ.at_ + 1)) H' := by
  refine fn_w d_next rfl ?_
  refine' w_cons (w_setitem ?a ?b ?c (set_sdict ?d ?z) ?q)
  case a => wtm_at "m.ev"
  case b => wtm_at "m.ev"
  case c => wtm_at "m.ev"
  case d => wtm_at "m.at"
  case z => wtm_at "m.num"
  case q =>
    have R := R.set_at (σ.at_ + 1) (o := .sdict (vput [("cells", V.obj (α .cells)), ("at", .int σ.at_)] "at" (.int (σ.at_ + 1)))) (by kernel_rfl)
    generalize H.set (α .hand) _ = H at R ⊢
    by_cases h : σ.at_ < σ.cells.length
    · have e : nx σ b = σ.cells[σ.at_] % b := by unfold nx; rw [if_pos h]; simp [h]
      refine' w_cons (w_return (ev_ift (te_is ?t ?tt) (ev_mod (ev_ix ?o ?i (sub_list ?h ?z0 ?z1 ?g)) ?a2 ?a3)) ?q1)
      case t => wtm_at "m.te"
      case tt => simp; lia
      case o => wtm_at "m.ev"
      case i => wtm_at "m.ev"
      case h => wtm_at "m.at"
      case g => exact get_nat (j := σ.at_) (by push_cast; lia) (List.getElem?_eq_getElem h)
      case z0 => push_cast; lia
      case z1 => push_cast; lia
      case a2 => wtm_at "m.ev"
      case a3 => lia
      case q1 => exact ⟨by rw [e]; exact congrArg V.int (by rw [Int.fmod_eq_emod_of_nonneg _ (by lia)]; norm_cast), R⟩
    · have e : nx σ b = 0 := by unfold nx; rw [if_neg h]
      refine' w_cons (w_return (ev_iff (te_is ?t ?tt) ?a) ?q1)
      case t => wtm_at "m.te"
      case tt => simp; lia
      case a => wtm_at "m.ev"
      case q1 => exact ⟨by rw [e]; rfl, R⟩
end
end

section
set_option maxRecDepth 100000
set_option maxHeartbeats 0
section
variable {n : Nat} {w : World} {mean : ExcName → Option Value} {mg mb : Str → Option Value} {α : Rl → Nat} {σ : St} {H : Hp}
theorem word_get (k : Str) : (vget [((("object" : String) : Str), V.str "ref"), ((("box" : String) : Str), .str "box"), ((("buffer" : String) : Str), .str "buf")] k).getD (.str "fn") = .str (wordOf k) := by
  unfold wordOf
  by_cases h1 : k = "object"
  · subst h1; rw [if_pos rfl]; unfold vget; rw [if_pos rfl]; rfl
  · rw [if_neg h1]
    unfold vget; rw [if_neg (Ne.symm h1)]
    by_cases h2 : k = "box"
    · subst h2; rw [if_pos rfl]; unfold vget; rw [if_pos rfl]; rfl
    · rw [if_neg h2]; unfold vget; rw [if_neg (Ne.symm h2)]
      by_cases h3 : k = "buffer"
      · subst h3; rw [if_pos rfl]; unfold vget; rw [if_pos rfl]; rfl
      · rw [if_neg h3]; unfold vget; rw [if_neg (Ne.symm h3)]; rfl
theorem c_link (R : Rep α σ H) {p : Lk} (h1 : 1 ≤ p.2) (h2 : p.2 ≤ σ.nk) : ∃ v H', Fn (CX w mean mg mb) (n + 1) 256 [.obj (α .bk), .str p.1, .int p.2] H v H' ∧ v = linkV σ.bk p ∧ Grew H H' := by
  obtain ⟨way, g⟩ := p
  refine fn_x d_link rfl ?_
  by_cases hw : way = "strong"
  · subst hw
    have R0 := R
    ((first | with_reducible refine' x_if_f0 (te_is ?za1 ?zb1) ?zq1 | refine' x_if_f0 (te_is ?za1 ?zb1) ?zq1); (case za1 => wtm_at "m.te"); (case zb1 => wtm_at "m.b"))
    with_reducible refine' x_assign (ev_bm2 (t := "dict.get") (ev_dict ?d1 ?d2 ?d3 ?d4 (by kernel_rfl) (by k_dflt decide) (by kernel_rfl)) (gm_get (dS _) ?g1) ?a1 ?a2 (bi_get2 (dS _) ?g2 (word_get (σ.bk g))) (he := by k_dflt (intro _; rfl)) (h1 := by k_dflt (intro _; kernel_rfl)) (h1' := by k_dflt (intro _; kernel_rfl)) (h2 := by k_dflt (intro _; kernel_rfl))) ?q (by kernel_rfl) (by k_dflt (intro _; kernel_rfl))
    case d1 => exact eps_cons ev_str (eps_cons ev_str (eps_cons ev_str eps_nil))
    case d2 => decide +kernel
    case d3 => exact Hp.new_here _ _
    case d4 => intro h; cases h
    case g1 => exact Hp.set_here _ _ _
    case a1 =>
      have R := R0.grew (((Grew.new H (.sdict [])).set (Nat.le_refl H.n) (.sdict [("object", .str "ref"), ("box", .str "box"), ("buffer", .str "buf")])))
      wtm_at "m.ev"
    case a2 => exact ev_str
    case g2 => exact Hp.set_here _ _ _
    case q =>
      have G := (((Grew.new H (.sdict [])).set (Nat.le_refl H.n) (.sdict [("object", .str "ref"), ("box", .str "box"), ("buffer", .str "buf")])))
      generalize (H.new _).set H.n _ = H2 at G ⊢
      by_cases hf : wordOf (σ.bk g) = "fn"
      · refine' x_return (ev_ift (te_is ?t ?tt) ?a) ?q
        case t => wtm_at "m.te"
        case tt => exact beq_iff_eq.mpr hf
        case a => wtm_at "m.ev"
        case q => exact ⟨by unfold linkV; rw [if_pos rfl, if_pos hf]; rfl, G⟩
      · refine' x_return (ev_iff (te_is ?t ?tt) ?a) ?q
        case t => wtm_at "m.te"
        case tt => exact beq_eq_false_iff_ne.mpr hf
        case a => wtm_at "m.ev"
        case q => exact ⟨by unfold linkV; rw [if_pos rfl, if_neg hf]; rfl, G⟩
  · refine' x_if_ret (te_is ?a ?b) ?c ?q
    case a => wtm_at "m.te"
    case b => exact bne_iff_ne.mpr hw
    case c => wtm_at "m.ev"
    case q => exact ⟨by unfold linkV; rw [if_neg hw]; rfl, Grew.refl H⟩
end
end

section
set_option maxRecDepth 100000
set_option maxHeartbeats 0
section
variable {n : Nat} {w : World} {mean : ExcName → Option Value} {mg mb : Str → Option Value} {α : Rl → Nat} {σ : St} {H : Hp}
theorem lk66 {P : Params} : (K P).lookup 66 = some ⟨.type "tuple", none, .seq [Value.str "ref" 259, .str "buf" 260, .str "box" 261].toArray 0, #[]⟩ := by kernel_rfl
theorem wordOk (k : Str) : wordOf k = "ref" ∨ wordOf k = "box" ∨ wordOf k = "buf" ∨ wordOf k = "fn" := by
  unfold wordOf; split
  · exact .inl rfl
  · split
    · exact .inr (.inl rfl)
    · split
      · exact .inr (.inr (.inl rfl))
      · exact .inr (.inr (.inr rfl))
theorem link_word (kd : Nat → Str) (g : Nat) {way : Str} (hw : wayOk way) : ∃ wd vs, linkV kd (way, g) = .tup (.str wd :: vs) ∧ (V.str wd :: vs).all flat1 = true ∧
        ((("ref" : Str) = wd ∨ ("buf" : Str) = wd ∨ ("box" : Str) = wd) ∧ vs = [.int g] ∧ way = "strong" ∨ wd = "fn" ∧ vs = [.str "f", .int g] ∧ way = "strong" ∨ wd = "unowned" ∧ vs = [.int g] ∧ way = "unowned" ∨ wd = "weak" ∧ vs = [.int g] ∧ way = "weak") := by
  rcases hw with rfl | rfl | rfl
  · rcases wordOk (kd g) with h | h | h | h
    · exact ⟨"ref", [.int g], by unfold linkV; rw [if_pos rfl, if_neg (by rw [h]; decide +kernel), h], by kernel_rfl, .inl ⟨.inl rfl, rfl, rfl⟩⟩
    · exact ⟨"box", [.int g], by unfold linkV; rw [if_pos rfl, if_neg (by rw [h]; decide +kernel), h], by kernel_rfl, .inl ⟨.inr (.inr rfl), rfl, rfl⟩⟩
    · exact ⟨"buf", [.int g], by unfold linkV; rw [if_pos rfl, if_neg (by rw [h]; decide +kernel), h], by kernel_rfl, .inl ⟨.inr (.inl rfl), rfl, rfl⟩⟩
    · exact ⟨"fn", [.str "f", .int g], by unfold linkV; rw [if_pos rfl, if_pos h], by kernel_rfl, .inr (.inl ⟨rfl, rfl, rfl⟩)⟩
  · exact ⟨"weak", [.int g], by unfold linkV; rw [if_neg (show ¬ (("weak" : Str) = "strong") by decide +kernel)], by kernel_rfl, .inr (.inr (.inr ⟨rfl, rfl, rfl⟩))⟩
  · exact ⟨"unowned", [.int g], by unfold linkV; rw [if_neg (show ¬ (("unowned" : Str) = "strong") by decide +kernel)], by kernel_rfl, .inr (.inr (.inl ⟨rfl, rfl, rfl⟩))⟩
theorem c_counted {kd : Nat → Str} {p : Lk} (hw : wayOk p.1) (h1 : 1 ≤ p.2) : ∃ v H', Fn (CX w mean mg mb) (n + 4) 80 [linkV kd p] H v H' ∧ ∃ a, v = .obj a ∧ H.n ≤ a ∧ a < H'.n ∧ H'.o a = .list [rowV p] ∧ Grew H H' := by
  obtain ⟨way, g⟩ := p
  refine fn_x d_counted rfl ?_
  ((first | with_reducible refine' x_swap ?za1 ?zq1 (by wtm_at "r") (by kernel_rfl) (by kernel_rfl) (by kernel_rfl) (by wtm_at "k") | refine' x_swap ?za1 ?zq1 (by wtm_at "r") (by kernel_rfl) (by kernel_rfl) (by kernel_rfl) (by wtm_at "k")); (case za1 => wtm_at "m.ev"))
  have G := (Grew.new H (.list [])).add (.list [linkV kd (way, g)])
  have e1 : (H.new (.list [])).n = H.n + 1 := rfl
  have f1 : ((H.new (.list [])).new (.list [linkV kd (way, g)])).o H.n = .list [] := by simp [Hp.new]
  have f2 : ((H.new (.list [])).new (.list [linkV kd (way, g)])).o (H.new (.list [])).n = .list ([] ++ [linkV kd (way, g)]) := by simp [Hp.new]
  have e2 : ((H.new (.list [])).new (.list [linkV kd (way, g)])).n = H.n + 2 := rfl
  generalize (H.new (.list [])).new (.list [linkV kd (way, g)]) = H2 at *
  generalize (H.new (.list [])).n = b at *
  -- the loop: one turn
  with_reducible refine' x_while (wl_go ?te ?body)
  case te =>
    refine' te_is ?t1 ?t2
    case t1 => wtm_at "m.te"
    case t2 => rfl
  case body =>
    ((first | with_reducible refine' x_assign ?za2 ?zq2 (by kernel_rfl) (by wtm_at "k") | refine' x_assign ?za2 ?zq2 (by kernel_rfl) (by wtm_at "k")); (case za2 => wtm_at "m.ev"))
    have G := G.set (i := b) (by lia) (.list [])
    have f1 : (H2.set b (.list [])).o H.n = .list [] := by rw [Hp.set_old _ _ _ (by lia)]; exact f1
    have f2 : (H2.set b (.list [])).o b = .list [] := Hp.set_here _ _ _
    have e2 : (H2.set b (.list [])).n = H.n + 2 := e2
    generalize H2.set b (.list []) = H3 at *
    obtain ⟨wd, vs, hv, hf, hs⟩ := link_word kd g hw
    rw [hv]
    refine' w_cons (w_if_t (te_bools (tes_and_t (te_val (ev_call_bi2 ?f ?a1 ?a2 bi_isinst) tr_bool) (tes_and_t (te_cmp ?c1 (ev_tuple eas_nil) (cmp_ne_tup0 hf (by lia))) tes_and_n))) ?q)
    case f => wtm_at "m.glob"
    case a1 => wtm_at "m.ev"
    case a2 => wtm_at "m.ev"
    case c1 => wtm_at "m.ev"
    case q =>
      ((first | with_reducible refine' x_assign ?za3 ?zq3 (by kernel_rfl) (by wtm_at "k") | refine' x_assign ?za3 ?zq3 (by kernel_rfl) (by wtm_at "k")); (case za3 => wtm_at "m.ev"))
      have fin : ∀ (H4 : Hp), H4 = H3.set H.n (.list [rowV (way, g)]) → H4.o H.n = .list [rowV (way, g)] ∧ H4.o b = .list [] ∧ Grew H H4 ∧ H.n < H4.n := by
        rintro _ rfl
        exact ⟨Hp.set_here _ _ _, by rw [Hp.set_old _ _ _ (by lia)]; exact f2, G.set (Nat.le_refl _) _, by show H.n < H3.n; lia⟩
      by_cases hc : (("ref" : Str) = wd ∨ ("buf" : Str) = wd ∨ ("box" : Str) = wd)
      · obtain ⟨rfl, rfl⟩ : vs = [.int g] ∧ way = "strong" := by
          rcases hs with h | h | h | h
          · exact ⟨h.2.1, h.2.2⟩
          · rw [h.1] at hc; exact absurd hc (by decide +kernel)
          · rw [h.1] at hc; exact absurd hc (by decide +kernel)
          · rw [h.1] at hc; exact absurd hc (by decide +kernel)
        refine' x_if_t (te_is (te_cmp ?a ?b (cmp_in_strs lk66 (.cons _ _ (.cons _ _ (.cons _ _ .nil))))) ?tt) ?q
        case a => wtm_at "m.ev"
        case b => wtm_at "m.ev"
        case tt => simpa using hc
        case q =>
          ((first | with_reducible refine' x_expr ?za4 ?zq4 (by wtm_at "k") | refine' x_expr ?za4 ?zq4 (by wtm_at "k")); (case za4 => wtm_at "m.ev"))
          obtain ⟨i1, i2, i3, i4⟩ := fin _ rfl
          generalize hH4 : H3.set H.n _ = H4
          have hH4 : H4 = H3.set H.n (.list [rowV ("strong", g)]) := hH4.symm
          rw [← hH4] at i1 i2 i3 i4
          (refine' x_nil (x_nil (x_nil ?zg5)); (refine' wl_stop (te_is ?zt6 ?ztt6) ?zq6; (case zt6 => wtm_at "m.te"); (case ztt6 => rfl); (case zq6 => (((first | with_reducible refine' x_return ?za7 ?zq7 | refine' x_return ?za7 ?zq7); (case za7 => wtm_at "m.ev")); exact ⟨_, rfl, Nat.le_refl _, by assumption, by assumption, by assumption⟩))))
      · have hc' : (["ref", "buf", "box"] : List Str).any (· == wd) = false := by
          rw [Bool.eq_false_iff]; intro h; apply hc; simpa using h
        refine' x_if_f (te_is (te_cmp ?a ?b (cmp_in_strs lk66 (.cons _ _ (.cons _ _ (.cons _ _ .nil))))) hc') ?q
        case a => wtm_at "m.ev"
        case b => wtm_at "m.ev"
        case q =>
          by_cases hfn : wd = "fn"
          · obtain ⟨rfl, rfl⟩ : vs = [.str "f", .int g] ∧ way = "strong" := by
              rcases hs with h | h | h | h
              · exact absurd h.1 hc
              · exact h.2
              · rw [hfn] at h; exact absurd h.1 (by decide +kernel)
              · rw [hfn] at h; exact absurd h.1 (by decide +kernel)
            refine' x_if_t (te_bools (tes_and_t (te_is ?a1 ?b1) (tes_and_t (te_is ?a2 ?b2) tes_and_n))) ?q
            case a1 => wtm_at "m.te"
            case b1 => exact beq_iff_eq.mpr hfn
            case a2 => wtm_at "m.te"
            case b2 => simp; lia
            case q =>
              ((first | with_reducible refine' x_expr ?za8 ?zq8 (by wtm_at "k") | refine' x_expr ?za8 ?zq8 (by wtm_at "k")); (case za8 => wtm_at "m.ev"))
              obtain ⟨i1, i2, i3, i4⟩ := fin _ rfl
              generalize hH4 : H3.set H.n _ = H4
              have hH4 : H4 = H3.set H.n (.list [rowV ("strong", g)]) := hH4.symm
              rw [← hH4] at i1 i2 i3 i4
              (refine' x_nil (x_nil (x_nil (x_nil ?zg9))); (refine' wl_stop (te_is ?zt10 ?ztt10) ?zq10; (case zt10 => wtm_at "m.te"); (case ztt10 => rfl); (case zq10 => (((first | with_reducible refine' x_return ?za11 ?zq11 | refine' x_return ?za11 ?zq11); (case za11 => wtm_at "m.ev")); exact ⟨_, rfl, Nat.le_refl _, by assumption, by assumption, by assumption⟩))))
          · obtain ⟨rfl, h⟩ : vs = [.int g] ∧ (wd = "unowned" ∧ way = "unowned" ∨ wd = "weak" ∧ way = "weak") := by
              rcases hs with h | h | h | h
              · exact absurd h.1 hc
              · exact absurd h.1 hfn
              · exact ⟨h.2.1, .inl ⟨h.1, h.2.2⟩⟩
              · exact ⟨h.2.1, .inr ⟨h.1, h.2.2⟩⟩
            refine' x_if_f (te_bools (tes_and_f (te_is ?a1 ?b1))) ?q
            case a1 => wtm_at "m.te"
            case b1 => exact beq_eq_false_iff_ne.mpr hfn
            case q =>
              rcases h with ⟨rfl, rfl⟩ | ⟨rfl, rfl⟩
              · refine' x_if_t (te_bools (tes_or_t (te_is ?a1 ?b1))) ?q
                case a1 => wtm_at "m.te"
                case b1 => exact beq_iff_eq.mpr rfl
                case q =>
                  ((first | with_reducible refine' x_expr ?za12 ?zq12 (by wtm_at "k") | refine' x_expr ?za12 ?zq12 (by wtm_at "k")); (case za12 => wtm_at "m.ev"))
                  obtain ⟨i1, i2, i3, i4⟩ := fin _ rfl
                  generalize hH4 : H3.set H.n _ = H4
                  have hH4 : H4 = H3.set H.n (.list [rowV ("unowned", g)]) := hH4.symm
                  rw [← hH4] at i1 i2 i3 i4
                  (refine' x_nil (x_nil (x_nil (x_nil (x_nil ?zg13)))); (refine' wl_stop (te_is ?zt14 ?ztt14) ?zq14; (case zt14 => wtm_at "m.te"); (case ztt14 => rfl); (case zq14 => (((first | with_reducible refine' x_return ?za15 ?zq15 | refine' x_return ?za15 ?zq15); (case za15 => wtm_at "m.ev")); exact ⟨_, rfl, Nat.le_refl _, by assumption, by assumption, by assumption⟩))))
              · refine' x_if_t (te_bools (tes_or_f (te_is ?a1 ?b1) (tes_or_t (te_bools (tes_and_t (te_is ?a2 ?b2) (tes_and_t (te_is ?a3 ?b3) tes_and_n)))))) ?q
                case a1 => wtm_at "m.te"
                case b1 => exact beq_eq_false_iff_ne.mpr (by decide +kernel)
                case a2 => wtm_at "m.te"
                case b2 => exact beq_iff_eq.mpr rfl
                case a3 => wtm_at "m.te"
                case b3 => simp; lia
                case q =>
                  ((first | with_reducible refine' x_expr ?za16 ?zq16 (by wtm_at "k") | refine' x_expr ?za16 ?zq16 (by wtm_at "k")); (case za16 => wtm_at "m.ev"))
                  obtain ⟨i1, i2, i3, i4⟩ := fin _ rfl
                  generalize hH4 : H3.set H.n _ = H4
                  have hH4 : H4 = H3.set H.n (.list [rowV ("weak", g)]) := hH4.symm
                  rw [← hH4] at i1 i2 i3 i4
                  (refine' x_nil (x_nil (x_nil (x_nil (x_nil ?zg17)))); (refine' wl_stop (te_is ?zt18 ?ztt18) ?zq18; (case zt18 => wtm_at "m.te"); (case ztt18 => rfl); (case zq18 => (((first | with_reducible refine' x_return ?za19 ?zq19 | refine' x_return ?za19 ?zq19); (case za19 => wtm_at "m.ev")); exact ⟨_, rfl, Nat.le_refl _, by assumption, by assumption, by assumption⟩))))
end
end

section
set_option maxRecDepth 100000
set_option maxHeartbeats 0
section
variable {n : Nat} {w : World} {mean : ExcName → Option Value} {mg mb : Str → Option Value} {α : Rl → Nat} {σ : St} {H : Hp} {i : Nat}
theorem c_thing (R : Rep α σ H) (h1 : 1 ≤ i) (h2 : i ≤ σ.nt) (hs : σ.st i ≠ "gone") : Fn (CX w mean mg mb) (n + 1) 129 [.obj (α .hp), .int i] H (.obj (α (.ti i))) H := by
  suffices h : ∃ v H', Fn (CX w mean mg mb) (n + 1) 129 [.obj (α .hp), .int i] H v H' ∧ v = .obj (α (.ti i)) ∧ H' = H by
    obtain ⟨_, _, h, rfl, rfl⟩ := h; exact h
  refine fn_x d_h_thing rfl ?_
  refine' x_assign (ev_bm1 (t := "dict.get") ?o (gm_get (dI _) R.at_things) ?a (bi_get1 (dI _) (v := .obj (α (.ti i))) R.at_things ?v) (he := by k_dflt (intro _; rfl)) (h1 := by k_dflt (intro _; kernel_rfl)) (h2 := by k_dflt (intro _; kernel_rfl))) ?q (by kernel_rfl) (by k_dflt (intro _; kernel_rfl))
  case o => wtm_at "m.ev"
  case a => wtm_at "m.ev"
  case v => rw [vget_tab h1 h2]; rfl
  case q =>
    refine' x_if_f0 (te_bools (tes_or_f (te_cmp ?a1 ?a2 (cmp_is_none (v := .obj (α (.ti i))) (by intro h; cases h))) (tes_or_f (te_is ?t ?tt) tes_or_n))) ?q
    case a1 => wtm_at "m.ev"
    case a2 => wtm_at "m.ev"
    case t => wtm_at "m.te"
    case tt => exact beq_eq_false_iff_ne.mpr hs
    case q =>
      ((first | with_reducible refine' x_return ?za1 ?zq1 | refine' x_return ?za1 ?zq1); (case za1 => wtm_at "m.ev"))
      exact ⟨rfl, rfl⟩
theorem c_retain (R : Rep α σ H) (h1 : 1 ≤ i) (h2 : i ≤ σ.nt) (hs : σ.st i ≠ "gone") : ∃ v H', Fn (CX w mean mg mb) (n + 2) 136 [.obj (α .hp), .int i] H v H' ∧ v = .none ∧ Rep α (σ.w_sg (upd σ.sg i (σ.sg i + 1))) H' := by
  have F := c_thing (n := n) (w := w) (mean := mean) (mg := mg) (mb := mb) R h1 h2 hs
  refine fn_x d_h_retain rfl ?_
  ((first | with_reducible refine' x_assign ?za2 ?zq2 (by kernel_rfl) (by wtm_at "k") | refine' x_assign ?za2 ?zq2 (by kernel_rfl) (by wtm_at "k")); (case za2 => wtm_at "m.ev"))
  ((first | with_reducible refine' x_setattr ?za3 ?zb3 ?zI3 ?zP3 (by kernel_rfl) ?zz3 ?zq3 (by wtm_at "k") | refine' x_setattr ?za3 ?zb3 ?zI3 ?zP3 (by kernel_rfl) ?zz3 ?zq3 (by wtm_at "k")); (case za3 => wtm_at "m.ev"); (case zb3 => wtm_at "m.ev"); (case zI3 => wtm_at "m.inst"); (case zP3 => wtm_at "m.plain"); (case zz3 => wtm_at "z"))
  generalize hH : H.set (α (.td i)) _ = H1
  have R1 : Rep α (σ.w_sg (upd σ.sg i (σ.sg i + 1))) H1 := by rw [← hH]; exact R.set_sg h1 h2 _ (by kernel_rfl)
  refine x_nil ⟨rfl, R1⟩
theorem c_lost_w (R : Rep α σ H) (h1 : 1 ≤ i) (h2 : i ≤ σ.nt) : ∃ v H', Fn (CX w mean mg mb) (n + 1) 164 [.obj (α .hp), .str "weak", .int i] H v H' ∧ v = .none ∧ Rep α (σ.w_wk (upd σ.wk i (σ.wk i - 1))) H' := by
  refine fn_x d_h_lost rfl ?_
  ((first | with_reducible refine' x_assign ?za4 ?zq4 (by kernel_rfl) (by wtm_at "k") | refine' x_assign ?za4 ?zq4 (by kernel_rfl) (by wtm_at "k")); (case za4 => wtm_at "m.ev"))
  ((first | with_reducible refine' x_if_t (te_is ?za5 ?zb5) ?zq5 | refine' x_if_t (te_is ?za5 ?zb5) ?zq5); (case za5 => wtm_at "m.te"); (case zb5 => wtm_at "m.b"))
  ((first | with_reducible refine' x_setattr ?za6 ?zb6 ?zI6 ?zP6 (by kernel_rfl) ?zz6 ?zq6 (by wtm_at "k") | refine' x_setattr ?za6 ?zb6 ?zI6 ?zP6 (by kernel_rfl) ?zz6 ?zq6 (by wtm_at "k")); (case za6 => wtm_at "m.ev"); (case zb6 => wtm_at "m.ev"); (case zI6 => wtm_at "m.inst"); (case zP6 => wtm_at "m.plain"); (case zz6 => wtm_at "z"))
  generalize hH : H.set (α (.td i)) _ = H1
  have R1 : Rep α (σ.w_wk (upd σ.wk i (σ.wk i - 1))) H1 := by rw [← hH]; exact R.set_wk h1 h2 _ (by kernel_rfl)
  exact x_nil (x_nil ⟨rfl, R1⟩)
theorem c_lost_u (R : Rep α σ H) (h1 : 1 ≤ i) (h2 : i ≤ σ.nt) : ∃ v H', Fn (CX w mean mg mb) (n + 1) 164 [.obj (α .hp), .str "unowned", .int i] H v H' ∧ v = .none ∧ Rep α (σ.w_un (upd σ.un i (σ.un i - 1))) H' := by
  refine fn_x d_h_lost rfl ?_
  ((first | with_reducible refine' x_assign ?za7 ?zq7 (by kernel_rfl) (by wtm_at "k") | refine' x_assign ?za7 ?zq7 (by kernel_rfl) (by wtm_at "k")); (case za7 => wtm_at "m.ev"))
  refine' x_if_f (te_is ?t (show (("unowned" : Str) == "weak") = false by decide +kernel)) ?q
  case t => wtm_at "m.te"
  case q =>
    ((first | with_reducible refine' x_setattr ?za8 ?zb8 ?zI8 ?zP8 (by kernel_rfl) ?zz8 ?zq8 (by wtm_at "k") | refine' x_setattr ?za8 ?zb8 ?zI8 ?zP8 (by kernel_rfl) ?zz8 ?zq8 (by wtm_at "k")); (case za8 => wtm_at "m.ev"); (case zb8 => wtm_at "m.ev"); (case zI8 => wtm_at "m.inst"); (case zP8 => wtm_at "m.plain"); (case zz8 => wtm_at "z"))
    generalize hH : H.set (α (.td i)) _ = H1
    have R1 : Rep α (σ.w_un (upd σ.un i (σ.un i - 1))) H1 := by rw [← hH]; exact R.set_un h1 h2 _ (by kernel_rfl)
    exact x_nil (x_nil ⟨rfl, R1⟩)
theorem c_buried (R : Rep α σ H) (h1 : 1 ≤ i) (h2 : i ≤ σ.nt) (hs : σ.st i ≠ "gone") : ∃ v H', Fn (CX w mean mg mb) (n + 2) 171 [.obj (α .hp), .int i] H v H' ∧ v = .none ∧ ∃ t, Rep α (((σ.w_st (upd σ.st i "gone")).w_fl (upd σ.fl i [])).w_tfa t) H' := by
  have F := c_thing (n := n) (w := w) (mean := mean) (mg := mg) (mb := mb) R h1 h2 hs
  refine fn_x d_h_buried rfl ?_
  ((first | with_reducible refine' x_assign ?za9 ?zq9 (by kernel_rfl) (by wtm_at "k") | refine' x_assign ?za9 ?zq9 (by kernel_rfl) (by wtm_at "k")); (case za9 => wtm_at "m.ev"))
  ((first | with_reducible refine' x_setattr ?za10 ?zb10 ?zI10 ?zP10 (by kernel_rfl) ?zz10 ?zq10 (by wtm_at "k") | refine' x_setattr ?za10 ?zb10 ?zI10 ?zP10 (by kernel_rfl) ?zz10 ?zq10 (by wtm_at "k")); (case za10 => wtm_at "m.ev"); (case zb10 => wtm_at "m.ev"); (case zI10 => wtm_at "m.inst"); (case zP10 => wtm_at "m.plain"); (case zz10 => wtm_at "z"))
  generalize hH : H.set (α (.td i)) _ = H1
  have R1 : Rep α (σ.w_st (upd σ.st i "gone")) H1 := by rw [← hH]; exact R.set_st h1 h2 _ (by kernel_rfl)
  have R2 := R1.new (.list [])
  have h2' : i ≤ St.nt (σ.w_st (upd σ.st i "gone")) := h2
  ((first | with_reducible refine' x_setattr ?za11 ?zb11 ?zI11 ?zP11 (by kernel_rfl) ?zz11 ?zq11 (by wtm_at "k") | refine' x_setattr ?za11 ?zb11 ?zI11 ?zP11 (by kernel_rfl) ?zz11 ?zq11 (by wtm_at "k")); (case za11 => wtm_at "m.ev"); (case zb11 => wtm_at "m.ev"); (case zI11 => wtm_at "m.inst"); (case zP11 => wtm_at "m.plain"); (case zz11 => wtm_at "z"))
  generalize hH2 : Hp.set (H1.new (.list [])) (α (.td i)) _ = H2
  have R3 : Rep α (((σ.w_st (upd σ.st i "gone")).w_tfa (upd σ.tfa i H1.n)).w_fl (upd σ.fl i [])) H2 := by
    rw [← hH2]; exact R2.set_tfa h1 h2 (a := H1.n) (Nat.lt_succ_self _) (fun r hr => Nat.ne_of_lt (R1.lt r hr)) (v := []) (Hp.new_here _ _) (by kernel_rfl)
  exact x_nil ⟨rfl, _, R3⟩
theorem c_weak_to (R : Rep α σ H) (h1 : 1 ≤ i) (h2 : i ≤ σ.nt) : ∃ v H', Fn (CX w mean mg mb) (n + 1) 192 [.obj (α .hp), .int i] H v H' ∧ v = .tup [.str "weak", .int i] ∧ Rep α (σ.w_wk (upd σ.wk i (σ.wk i + 1))) H' := by
  refine fn_x d_h_weak_to rfl ?_
  refine' x_if_t (te_is ?t (show (((i : Nat) : Int) != 0) = true by simp; lia)) ?q
  case t => wtm_at "m.te"
  case q =>
    ((first | with_reducible refine' x_setattr ?za12 ?zb12 ?zI12 ?zP12 (by kernel_rfl) ?zz12 ?zq12 (by wtm_at "k") | refine' x_setattr ?za12 ?zb12 ?zI12 ?zP12 (by kernel_rfl) ?zz12 ?zq12 (by wtm_at "k")); (case za12 => wtm_at "m.ev"); (case zb12 => wtm_at "m.ev"); (case zI12 => wtm_at "m.inst"); (case zP12 => wtm_at "m.plain"); (case zz12 => wtm_at "z"))
    generalize hH : H.set (α (.td i)) _ = H1
    have R1 : Rep α (σ.w_wk (upd σ.wk i (σ.wk i + 1))) H1 := by rw [← hH]; exact R.set_wk h1 h2 _ (by kernel_rfl)
    refine' x_nil ?g
    ((first | with_reducible refine' x_return ?za13 ?zq13 | refine' x_return ?za13 ?zq13); (case za13 => wtm_at "m.ev"))
    exact ⟨rfl, R1⟩
theorem c_unowned_to (R : Rep α σ H) (h1 : 1 ≤ i) (h2 : i ≤ σ.nt) (hs : σ.st i ≠ "gone") : ∃ v H', Fn (CX w mean mg mb) (n + 2) 206 [.obj (α .hp), .int i] H v H' ∧ v = .tup [.str "unowned", .int i] ∧ Rep α (σ.w_un (upd σ.un i (σ.un i + 1))) H' := by
  have F := c_thing (n := n) (w := w) (mean := mean) (mg := mg) (mb := mb) R h1 h2 hs
  refine fn_x d_h_unowned_to rfl ?_
  ((first | with_reducible refine' x_assign ?za14 ?zq14 (by kernel_rfl) (by wtm_at "k") | refine' x_assign ?za14 ?zq14 (by kernel_rfl) (by wtm_at "k")); (case za14 => wtm_at "m.ev"))
  ((first | with_reducible refine' x_setattr ?za15 ?zb15 ?zI15 ?zP15 (by kernel_rfl) ?zz15 ?zq15 (by wtm_at "k") | refine' x_setattr ?za15 ?zb15 ?zI15 ?zP15 (by kernel_rfl) ?zz15 ?zq15 (by wtm_at "k")); (case za15 => wtm_at "m.ev"); (case zb15 => wtm_at "m.ev"); (case zI15 => wtm_at "m.inst"); (case zP15 => wtm_at "m.plain"); (case zz15 => wtm_at "z"))
  generalize hH : H.set (α (.td i)) _ = H1
  have R1 : Rep α (σ.w_un (upd σ.un i (σ.un i + 1))) H1 := by rw [← hH]; exact R.set_un h1 h2 _ (by kernel_rfl)
  ((first | with_reducible refine' x_return ?za16 ?zq16 | refine' x_return ?za16 ?zq16); (case za16 => wtm_at "m.ev"))
  exact ⟨rfl, R1⟩
end
end

section
set_option maxRecDepth 100000
set_option maxHeartbeats 0
section
variable {n : Nat} {w : World} {mean : ExcName → Option Value} {mg mb : Str → Option Value} {α : Rl → Nat} {σ : St} {H : Hp} {i : Nat}
theorem c_dropped1 (R : Rep α σ H) (h1 : 1 ≤ i) (h2 : i ≤ σ.nt) (hs : σ.st i = "live") (hg : 2 ≤ σ.sg i) :
    ∃ v H', Fn (CX w mean mg mb) (n + 2) 157 [.obj (α .hp), .int i] H v H' ∧ ∃ a, v = .obj a ∧ Rep α ((σ.w_sg (upd σ.sg i (σ.sg i - 1))).w_tmp (σ.tmp ++ [(a, .list [])])) H' := by
  have F := c_thing (n := n) (w := w) (mean := mean) (mg := mg) (mb := mb) R h1 h2 (by rw [hs]; decide +kernel)
  refine fn_x d_h_dropped rfl ?_
  ((first | with_reducible refine' x_assign ?za1 ?zq1 (by kernel_rfl) (by wtm_at "k") | refine' x_assign ?za1 ?zq1 (by kernel_rfl) (by wtm_at "k")); (case za1 => wtm_at "m.ev"))
  refine' x_if_f0 (te_is ?t ?tt) ?q
  case t => wtm_at "m.te"
  case tt => simp; lia
  case q =>
    ((first | with_reducible refine' x_setattr ?za2 ?zb2 ?zI2 ?zP2 (by kernel_rfl) ?zz2 ?zq2 (by wtm_at "k") | refine' x_setattr ?za2 ?zb2 ?zI2 ?zP2 (by kernel_rfl) ?zz2 ?zq2 (by wtm_at "k")); (case za2 => wtm_at "m.ev"); (case zb2 => wtm_at "m.ev"); (case zI2 => wtm_at "m.inst"); (case zP2 => wtm_at "m.plain"); (case zz2 => wtm_at "z"))
    generalize hH : H.set (α (.td i)) _ = H1
    have R1 : Rep α (σ.w_sg (upd σ.sg i (σ.sg i - 1))) H1 := by rw [← hH]; exact R.set_sg h1 h2 _ (by kernel_rfl)
    have h2' : i ≤ St.nt (σ.w_sg (upd σ.sg i (σ.sg i - 1))) := h2
    refine' x_if_ret (te_bools (tes_or_t (te_is ?t ?tt))) ?c ?q
    case t => wtm_at "m.te"
    case tt => show decide ((0 : Int) < upd σ.sg i (σ.sg i - 1) i) = true; rw [upd_here]; simp; lia
    case c => wtm_at "m.ev"
    case q => exact ⟨_, rfl, R1.tmp' _⟩
theorem c_dropped2 (R : Rep α σ H) (h1 : 1 ≤ i) (h2 : i ≤ σ.nt) (hs : σ.st i = "live") (hg : σ.sg i = 1) (hk : σ.kd i = "object") (hd : σ.dy.length ≤ 100) :
    ∃ v H', Fn (CX w mean mg mb) (n + 2) 157 [.obj (α .hp), .int i] H v H' ∧ ∃ a, v = .obj a ∧ Rep α ((((σ.w_sg (upd σ.sg i 0)).w_st (upd σ.st i "dying")).w_dy (σ.dy ++ [i])).w_tmp (σ.tmp ++ [(a, .list [])])) H' := by
  have F := c_thing (n := n) (w := w) (mean := mean) (mg := mg) (mb := mb) R h1 h2 (by rw [hs]; decide +kernel)
  refine fn_x d_h_dropped rfl ?_
  ((first | with_reducible refine' x_assign ?za3 ?zq3 (by kernel_rfl) (by wtm_at "k") | refine' x_assign ?za3 ?zq3 (by kernel_rfl) (by wtm_at "k")); (case za3 => wtm_at "m.ev"))
  refine' x_if_f0 (te_is ?t ?tt) ?q
  case t => wtm_at "m.te"
  case tt => simp; lia
  case q =>
    ((first | with_reducible refine' x_setattr ?za4 ?zb4 ?zI4 ?zP4 (by kernel_rfl) ?zz4 ?zq4 (by wtm_at "k") | refine' x_setattr ?za4 ?zb4 ?zI4 ?zP4 (by kernel_rfl) ?zz4 ?zq4 (by wtm_at "k")); (case za4 => wtm_at "m.ev"); (case zb4 => wtm_at "m.ev"); (case zI4 => wtm_at "m.inst"); (case zP4 => wtm_at "m.plain"); (case zz4 => wtm_at "z"))
    generalize hH : H.set (α (.td i)) _ = H1
    have R1 : Rep α (σ.w_sg (upd σ.sg i 0)) H1 := by rw [← hH]; exact R.set_sg h1 h2 _ (by rw [hg]; kernel_rfl)
    have h2' : i ≤ St.nt (σ.w_sg (upd σ.sg i 0)) := h2
    refine' x_if_f0 (te_bools (tes_or_f (te_is ?t ?tt) (tes_or_f (te_is ?s ?ss) tes_or_n))) ?q
    case t => wtm_at "m.te"
    case tt => show decide ((0 : Int) < upd σ.sg i 0 i) = false; rw [upd_here]; rfl
    case s => wtm_at "m.te"
    case ss => show (σ.st i != "live") = false; rw [hs]; decide +kernel
    case q =>
      refine' x_if_t (te_is ?t ?tt) ?q
      case t => wtm_at "m.te"
      case tt => exact beq_iff_eq.mpr hk
      case q =>
        ((first | with_reducible refine' x_setattr ?za5 ?zb5 ?zI5 ?zP5 (by kernel_rfl) ?zz5 ?zq5 (by wtm_at "k") | refine' x_setattr ?za5 ?zb5 ?zI5 ?zP5 (by kernel_rfl) ?zz5 ?zq5 (by wtm_at "k")); (case za5 => wtm_at "m.ev"); (case zb5 => wtm_at "m.ev"); (case zI5 => wtm_at "m.inst"); (case zP5 => wtm_at "m.plain"); (case zz5 => wtm_at "z"))
        generalize hH : H1.set (α (.td i)) _ = H2
        have R2 : Rep α ((σ.w_sg (upd σ.sg i 0)).w_st (upd σ.st i "dying")) H2 := by rw [← hH]; exact R1.set_st h1 h2 _ (by kernel_rfl)
        ((first | with_reducible refine' x_expr ?za6 ?zq6 (by wtm_at "k") | refine' x_expr ?za6 ?zq6 (by wtm_at "k")); (case za6 => wtm_at "m.ev"))
        generalize hH : H2.set (α .hdy) _ = H3
        have R3 : Rep α (((σ.w_sg (upd σ.sg i 0)).w_st (upd σ.st i "dying")).w_dy (σ.dy ++ [i])) H3 := by rw [← hH]; exact R2.set_dy (σ.dy ++ [i]) (by rw [List.map_append]; rfl)
        ((first | with_reducible refine' x_return ?za7 ?zq7 | refine' x_return ?za7 ?zq7); (case za7 => wtm_at "m.ev"))
        exact ⟨_, rfl, R3.tmp' _⟩
theorem c_dropped3 (R : Rep α σ H) (h1 : 1 ≤ i) (h2 : i ≤ σ.nt) (hs : σ.st i = "live") (hg : σ.sg i = 1) (hk : σ.kd i ≠ "object") (hf : ∀ p ∈ σ.fl i, wayOk p.1 ∧ 1 ≤ p.2) (hl : (σ.fl i).length ≤ 100) :
    ∃ v H', Fn (CX w mean mg mb) (n + 5) 157 [.obj (α .hp), .int i] H v H' ∧ ∃ a t, v = .obj a ∧ Rep α (((((σ.w_sg (upd σ.sg i 0)).w_st (upd σ.st i "gone")).w_fl (upd σ.fl i [])).w_tfa t).w_tmp (σ.tmp ++ [(a, .list ((σ.fl i).map rowV))])) H' := by
  have F := c_thing (n := n + 3) (w := w) (mean := mean) (mg := mg) (mb := mb) R h1 h2 (by rw [hs]; decide +kernel)
  refine fn_x d_h_dropped rfl ?_
  ((first | with_reducible refine' x_assign ?za8 ?zq8 (by kernel_rfl) (by wtm_at "k") | refine' x_assign ?za8 ?zq8 (by kernel_rfl) (by wtm_at "k")); (case za8 => wtm_at "m.ev"))
  refine' x_if_f0 (te_is ?t ?tt) ?q
  case t => wtm_at "m.te"
  case tt => simp; lia
  case q =>
    ((first | with_reducible refine' x_setattr ?za9 ?zb9 ?zI9 ?zP9 (by kernel_rfl) ?zz9 ?zq9 (by wtm_at "k") | refine' x_setattr ?za9 ?zb9 ?zI9 ?zP9 (by kernel_rfl) ?zz9 ?zq9 (by wtm_at "k")); (case za9 => wtm_at "m.ev"); (case zb9 => wtm_at "m.ev"); (case zI9 => wtm_at "m.inst"); (case zP9 => wtm_at "m.plain"); (case zz9 => wtm_at "z"))
    generalize hH : H.set (α (.td i)) _ = H1
    have R1 : Rep α (σ.w_sg (upd σ.sg i 0)) H1 := by rw [← hH]; exact R.set_sg h1 h2 _ (by rw [hg]; kernel_rfl)
    have h2' : i ≤ St.nt (σ.w_sg (upd σ.sg i 0)) := h2
    refine' x_if_f0 (te_bools (tes_or_f (te_is ?t ?tt) (tes_or_f (te_is ?s ?ss) tes_or_n))) ?q
    case t => wtm_at "m.te"
    case tt => show decide ((0 : Int) < upd σ.sg i 0 i) = false; rw [upd_here]; rfl
    case s => wtm_at "m.te"
    case ss => show (σ.st i != "live") = false; rw [hs]; decide +kernel
    case q =>
      refine' x_if_f0 (te_is ?t ?tt) ?q
      case t => wtm_at "m.te"
      case tt => exact beq_eq_false_iff_ne.mpr hk
      case q =>
        ((first | with_reducible refine' x_assign ?za10 ?zq10 (by kernel_rfl) (by wtm_at "k") | refine' x_assign ?za10 ?zq10 (by kernel_rfl) (by wtm_at "k")); (case za10 => wtm_at "m.ev"))
        have R2 := R1.tmp' (.list [])
        generalize H1.new (.list []) = H2 at R2 ⊢
        generalize H1.n = f at R2 ⊢
        have R3 := R2.tmp' (.iter (σ.tfa i) 0)
        have h2' : i ≤ St.nt ((σ.w_sg (upd σ.sg i 0)).w_tmp (σ.tmp ++ [(f, .list [])])) := h2
        refine' x_for_name (fun j H l => Rep α ((σ.w_sg (upd σ.sg i 0)).w_tmp (σ.tmp ++ [(f, .list (((σ.fl i).take j).map rowV)), (H2.n, .iter (σ.tfa i) j)])) H ∧ l "found" = some (.obj f) ∧ l "self" = some (.obj (α .hp)) ∧ l "number" = some (.int i)) ?he ?hr ?start ?hI ?step ?stop (by kernel_rfl) (by kernel_rfl) (by k_dflt (intro _ _; kernel_rfl)) (by k_dflt (intro _ _; kernel_rfl))
        case he => wtm_at "m.ev"
        case hr => wtm_at "m.at"
        case start => exact ⟨by simpa using R3, by wtm_at "m.loc", by wtm_at "m.loc", by wtm_at "m.loc"⟩
        case hI =>
          rintro j H l ⟨R, _⟩
          exact ⟨(R.at2 rfl).1, R.at_tf h1 h2⟩
        case step =>
          rintro j v H l hv ⟨R, l1, l2, l3⟩
          rw [List.getElem?_map] at hv
          obtain ⟨p, hp, rfl⟩ := Option.map_eq_some_iff.mp hv
          have Ra := R.put2 rfl (.iter (σ.tfa i) (j + 1))
          generalize H.set H2.n _ = Ha at Ra ⊢
          have hp' := hf p (List.mem_of_getElem? hp)
          obtain ⟨_, Hb, Fb, b, rfl, hb1, hb2, hb3, hb4⟩ := c_counted (n := n) (w := w) (mean := mean) (mg := mg) (mb := mb) (H := Ha) (kd := σ.kd) hp'.1 hp'.2
          have Rb := Ra.grew hb4
          have q0 := (Ra.at1 rfl).1
          have q1 := (Rb.at1 rfl).1
          ((first | with_reducible refine' x_expr ?za11 ?zq11 (by wtm_at "k") | refine' x_expr ?za11 ?zq11 (by wtm_at "k")); (case za11 => wtm_at "m.ev"))
          refine' x_nil ⟨?_, by wtm_at "m.loc", by wtm_at "m.loc", by wtm_at "m.loc"⟩
          rw [take_snoc hp, List.map_append]
          exact Rb.put1 rfl _
        case stop =>
          rintro H l ⟨R, l1, l2, l3⟩
          rw [List.length_map, List.take_length] at R
          have Ra := R.put2 rfl .junk
          generalize H.set H2.n _ = Ha at Ra ⊢
          have Rb : Rep α ((σ.w_sg (upd σ.sg i 0)).w_tmp (σ.tmp ++ [(f, .list ((σ.fl i).map rowV))])) Ha := Ra.pop (pre := σ.tmp ++ [(f, .list ((σ.fl i).map rowV))]) (post := [(H2.n, .junk)]) (by simp)
          obtain ⟨_, Hc, Fc, rfl, t, Rc⟩ := c_buried (n := n + 2) (w := w) (mean := mean) (mg := mg) (mb := mb) Rb h1 h2 (by show σ.st i ≠ "gone"; rw [hs]; decide +kernel)
          ((first | with_reducible refine' x_expr ?za12 ?zq12 (by wtm_at "k") | refine' x_expr ?za12 ?zq12 (by wtm_at "k")); (case za12 => wtm_at "m.ev"))
          ((first | with_reducible refine' x_return ?za13 ?zq13 | refine' x_return ?za13 ?zq13); (case za13 => wtm_at "m.ev"))
          exact ⟨f, t, rfl, Rc⟩
end
end

section
set_option maxRecDepth 100000
set_option maxHeartbeats 0
section
variable {n : Nat} {w : World} {mean : ExcName → Option Value} {mg mb : Str → Option Value} {α : Rl → Nat} {σ : St} {H : Hp} {g : Nat} {h : Hs} {t : Nat → Nat}
theorem c_dropped (R : Rep α (σ.wH h t) H) (p : Dpre σ.nt h ("strong", g)) :
    ∃ v H', Fn (CX w mean mg mb) (n + 5) 157 [.obj (α .hp), .int g] H v H' ∧ ∃ a t', v = .obj a ∧ Rep α ((σ.wH (dst σ.kd h ("strong", g)).1 t').w_tmp (σ.tmp ++ [(a, .list ((dst σ.kd h ("strong", g)).2.map rowV))])) H' := by
  obtain ⟨p1, p2, p3, p4, p5⟩ := p.live rfl
  by_cases h2 : 2 ≤ h.sg g
  · obtain ⟨v, H', F, a, e, R'⟩ := c_dropped1 (n := n + 3) (w := w) (mean := mean) (mg := mg) (mb := mb) R p.lo p.hi p1 h2
    refine ⟨v, H', F, a, t, e, ?_⟩
    have e : dst σ.kd h ("strong", g) = ({ h with sg := upd h.sg g (h.sg g - 1) }, []) := by unfold dst; rw [if_pos rfl, if_pos h2]
    rw [e]; exact R'
  · have h3 : h.sg g = 1 := by have : 1 ≤ h.sg g := p2; lia
    by_cases hk : σ.kd g = "object"
    · obtain ⟨v, H', F, a, e, R'⟩ := c_dropped2 (n := n + 3) (w := w) (mean := mean) (mg := mg) (mb := mb) R p.lo p.hi p1 h3 hk p3
      refine ⟨v, H', F, a, t, e, ?_⟩
      have e : dst σ.kd h ("strong", g) = ({ h with sg := upd h.sg g 0, st := upd h.st g "dying", dy := h.dy ++ [g] }, []) := by unfold dst; rw [if_pos rfl, if_neg h2, if_pos hk]
      rw [e]; exact R'
    · obtain ⟨v, H', F, a, t', e, R'⟩ := c_dropped3 (n := n) (w := w) (mean := mean) (mg := mg) (mb := mb) R p.lo p.hi p1 h3 hk p5 p4
      refine ⟨v, H', F, a, t', e, ?_⟩
      have e : dst σ.kd h ("strong", g) = ({ h with sg := upd h.sg g 0, st := upd h.st g "gone", fl := upd h.fl g [] }, h.fl g) := by unfold dst; rw [if_pos rfl, if_neg h2, if_neg hk]
      rw [e]; exact R'
theorem c_drop {ks : List Lk} {h' : Hs} (d : DR σ.nt σ.kd h ks h') {a : Nat} (R : Rep α (σ.wH h t) H) (ha : H.o a = .list (ks.map rowV)) (hz : ks.length ≤ 500) :
    ∃ v H', Fn (CX w mean mg mb) (n + 6) 150 [.obj (α .hp), .obj a] H v H' ∧ v = .none ∧ ∃ t', Rep α (σ.wH h' t') H' := by
  refine fn_x d_h_drop rfl ?_
  ((first | with_reducible refine' x_assign ?za1 ?zq1 (by kernel_rfl) (by wtm_at "k") | refine' x_assign ?za1 ?zq1 (by kernel_rfl) (by wtm_at "k")); (case za1 => wtm_at "m.ev"))
  have R2 := (R.new (.list (ks.map rowV))).tmp' (.list (ks.map rowV).reverse)
  generalize (H.new (.list (ks.map rowV))).n = b at R2 ⊢
  generalize (H.new (.list (ks.map rowV))).new (.list (ks.map rowV).reverse) = H2 at R2 ⊢
  refine' x_while ?wl
  rw [← List.map_reverse] at R2
  have l1 : ((bindV ["self", "counts"] [V.obj (α .hp), .obj a]).set "waiting" (.obj b)) "self" = some (.obj (α .hp)) := by wtm_at "m.loc"
  have l2 : ((bindV ["self", "counts"] [V.obj (α .hp), .obj a]).set "waiting" (.obj b)) "waiting" = some (.obj b) := by wtm_at "m.loc"
  generalize ((bindV ["self", "counts"] [V.obj (α .hp), .obj a]).set "waiting" (.obj b)) = l at l1 l2 ⊢
  have R2 : Rep α ((σ.wH h t).w_tmp (σ.tmp ++ [(b, .list (ks.reverse.map rowV))])) H2 := R2
  clear R ha hz
  induction d generalizing H2 l t with
  | nil h =>
    have q0 := (R2.at0 rfl).1
    refine' wl_stop (te_is ?t ?tt) ?q
    case t => wtm_at "m.te"
    case tt => rfl
    case q => exact x_nil ⟨rfl, t, R2.pop (pre := σ.tmp) rfl⟩
  | @step h h' k ks p b500 d ih =>
    have q0 : H2.o b = .list (ks.reverse.map rowV ++ [.tup [.str k.1, .int k.2]]) := by have := (R2.at0 rfl).1; rw [this, List.reverse_cons, List.map_append]; rfl
    refine' wl_go (te_is ?t ?tt) ?body
    case t => wtm_at "m.te"
    case tt => simp
    case body =>
      ((first | with_reducible refine' x_tup2 ?za2 ?zq2 (by kernel_rfl) (by kernel_rfl) (by kernel_rfl) (by wtm_at "k") (by wtm_at "k") | refine' x_tup2 ?za2 ?zq2 (by kernel_rfl) (by kernel_rfl) (by kernel_rfl) (by wtm_at "k") (by wtm_at "k")); (case za2 => wtm_at "m.ev"))
      have R3 : Rep α ((σ.wH h t).w_tmp (σ.tmp ++ [(b, .list (ks.reverse.map rowV))])) (H2.set b (.list (ks.reverse.map rowV))) := R2.put rfl _
      generalize H2.set b _ = H3 at R3 ⊢
      obtain ⟨way, g⟩ := k
      rcases p.way with hw | hw | hw
      · have hw : way = "strong" := hw
        subst hw
        obtain ⟨_, H4, F, a', t', rfl, R4⟩ := c_dropped (n := n) (w := w) (mean := mean) (mg := mg) (mb := mb) (σ := σ.w_tmp (σ.tmp ++ [(b, .list (ks.reverse.map rowV))])) R3 p
        have R4 : Rep α ((σ.wH (dst σ.kd h ("strong", g)).1 t').w_tmp ((σ.tmp ++ [(b, .list (ks.reverse.map rowV))]) ++ [(a', .list ((dst σ.kd h ("strong", g)).2.map rowV))])) H4 := R4
        rw [List.append_assoc] at R4
        have q3 := (R3.at0 rfl).1
        have q4 := (R4.at2 rfl).1
        have R5 := R4.new (.list ((dst σ.kd h ("strong", g)).2.map rowV).reverse)
        have q5 := (R5.at1 rfl).1
        have hl : (dst σ.kd h ("strong", g)).2.length ≤ 100 := by
          unfold dst; rw [if_pos rfl]
          split
          · exact Nat.zero_le _
          · split
            · exact Nat.zero_le _
            · exact (p.live rfl).2.2.2.1
        refine' x_if_t (te_is ?t ?tt) ?q
        case t => wtm_at "m.te"
        case tt => exact beq_iff_eq.mpr rfl
        case q =>
          ((first | with_reducible refine' x_expr ?za3 ?zq3 (by wtm_at "k") | refine' x_expr ?za3 ?zq3 (by wtm_at "k")); (case za3 => wtm_at "m.ev"))
          refine' x_nil (x_nil ?_)
          have R6 := (R5.put1 rfl (.list (ks.reverse.map rowV ++ ((dst σ.kd h ("strong", g)).2.map rowV).reverse))).pop (pre := σ.tmp ++ [(b, .list (ks.reverse.map rowV ++ ((dst σ.kd h ("strong", g)).2.map rowV).reverse))]) (post := [(a', .list ((dst σ.kd h ("strong", g)).2.map rowV))]) (by simp)
          have e : ks.reverse.map rowV ++ ((dst σ.kd h ("strong", g)).2.map rowV).reverse = ((dst σ.kd h ("strong", g)).2 ++ ks).reverse.map rowV := by simp [List.map_reverse]
          rw [e] at R6 ⊢
          exact ih _ R6 _ (by wtm_at "m.loc") (by wtm_at "m.loc") R6
      · have hw : way = "weak" := hw
        subst hw
        have e : dst σ.kd h ("weak", g) = ({ h with wk := upd h.wk g (h.wk g - 1) }, []) := by unfold dst; rw [if_neg weak_ne, if_pos rfl]
        obtain ⟨_, H4, F, rfl, R4⟩ := c_lost_w (n := n + 4) (w := w) (mean := mean) (mg := mg) (mb := mb) R3 p.lo p.hi
        refine' x_if_f (te_is ?t ?tt) ?q
        case t => wtm_at "m.te"
        case tt => exact beq_eq_false_iff_ne.mpr weak_ne
        case q =>
          ((first | with_reducible refine' x_expr ?za4 ?zq4 (by wtm_at "k") | refine' x_expr ?za4 ?zq4 (by wtm_at "k")); (case za4 => wtm_at "m.ev"))
          refine' x_nil (x_nil ?_)
          rw [e] at ih
          exact ih (t := t) _ R4 _ (by wtm_at "m.loc") (by wtm_at "m.loc") R4
      · have hw : way = "unowned" := hw
        subst hw
        have e : dst σ.kd h ("unowned", g) = ({ h with un := upd h.un g (h.un g - 1) }, []) := by unfold dst; rw [if_neg unow_ne, if_neg unow_nw]
        obtain ⟨_, H4, F, rfl, R4⟩ := c_lost_u (n := n + 4) (w := w) (mean := mean) (mg := mg) (mb := mb) R3 p.lo p.hi
        refine' x_if_f (te_is ?t ?tt) ?q
        case t => wtm_at "m.te"
        case tt => exact beq_eq_false_iff_ne.mpr unow_ne
        case q =>
          ((first | with_reducible refine' x_expr ?za5 ?zq5 (by wtm_at "k") | refine' x_expr ?za5 ?zq5 (by wtm_at "k")); (case za5 => wtm_at "m.ev"))
          refine' x_nil (x_nil ?_)
          rw [e] at ih
          exact ih (t := t) _ R4 _ (by wtm_at "m.loc") (by wtm_at "m.loc") R4
theorem c_release {h' : Hs} (d : DR σ.nt σ.kd h [("strong", g)] h') (R : Rep α (σ.wH h t) H) :
    ∃ v H', Fn (CX w mean mg mb) (n + 7) 143 [.obj (α .hp), .int g] H v H' ∧ v = .none ∧ ∃ t', Rep α (σ.wH h' t') H' := by
  have R1 := R.new (.list [.tup [.str "strong", .int g]])
  obtain ⟨_, H', F, rfl, t', R'⟩ := c_drop (n := n) (w := w) (mean := mean) (mg := mg) (mb := mb) d R1 (Hp.new_here _ _) (by simp)
  refine fn_x d_h_release rfl ?_
  ((first | with_reducible refine' x_expr ?za6 ?zq6 (by wtm_at "k") | refine' x_expr ?za6 ?zq6 (by wtm_at "k")); (case za6 => wtm_at "m.ev"))
  exact x_nil ⟨rfl, t', R'⟩
theorem c_destroyed {p : Lk} {h' : Hs} (hp : wayOk p.1) (hp' : 1 ≤ p.2) (d : DR σ.nt σ.kd h [p] h') (R : Rep α (σ.wH h t) H) :
    ∃ v H', Fn (CX w mean mg mb) (n + 7) 185 [.obj (α .hp), linkV σ.kd p] H v H' ∧ v = .none ∧ ∃ t', Rep α (σ.wH h' t') H' := by
  obtain ⟨_, H1, F1, a, rfl, _, _, ha, G⟩ := c_counted (n := n + 2) (w := w) (mean := mean) (mg := mg) (mb := mb) (H := H) (kd := σ.kd) hp hp'
  obtain ⟨_, H', F, rfl, t', R'⟩ := c_drop (n := n) (w := w) (mean := mean) (mg := mg) (mb := mb) d (R.grew G) ha (by simp)
  refine fn_x d_h_destroyed rfl ?_
  ((first | with_reducible refine' x_expr ?za7 ?zq7 (by wtm_at "k") | refine' x_expr ?za7 ?zq7 (by wtm_at "k")); (case za7 => wtm_at "m.ev"))
  exact x_nil ⟨rfl, t', R'⟩
end
end

section
set_option maxRecDepth 100000
set_option maxHeartbeats 0
section
variable {n : Nat} {w : World} {mean : ExcName → Option Value} {mg mb : Str → Option Value} {α : Rl → Nat} {σ : St} {H : Hp}
theorem hv_flat (x : Hd) : flat2 (hv x) = true := by
  cases x with
  | none => kernel_rfl
  | some j => rfl
theorem c_letgo {N : Nat} (hN : SameN σ N) : ∀ (m : Nat) {b b' : Bs} {r : Nat → Nat} {T : List (Nat × O)} {H : Hp} {hol : Hd} {k : Lk}, BR N σ.bk m b [(hol, k)] b' → Rep α ((σ.wB b r).w_tmp T) H →
    ∃ v H', Fn (CX w mean mg mb) (n + m + 4) 270 [.obj (α .bk), hv hol, .str k.1, .int k.2] H v H' ∧ v = .none ∧ ∃ r', Rep α ((σ.wB b' r').w_tmp T) H' := by
  intro m
  induction m using Nat.strongRecOn with
  | _ m ih =>
  intro b b' r T H hol k d R
  cases d with
  | @step m _ _ _ _ _ p d =>
  obtain ⟨way, g⟩ := k
  have hk : g ≤ σ.nk := by rw [hN.k]; exact p.hi
  have hr : g ≤ σ.nr := by rw [hN.r]; exact p.hi
  have hh : g ≤ σ.nh := by rw [hN.h]; exact p.hi
  have hw : g ≤ σ.nw := by rw [hN.w]; exact p.hi
  have hu : g ≤ σ.nu := by rw [hN.u]; exact p.hi
  have hs : g ≤ σ.ns := by rw [hN.s]; exact p.hi
  have h1 : 1 ≤ g := p.lo
  have z1 : σ.nw ≤ 10 := hN.w ▸ hN.le
  have z2 : σ.nu ≤ 10 := hN.u ▸ hN.le
  have z3 : σ.ns ≤ 10 := hN.s ▸ hN.le
  have z4 : σ.nr ≤ 10 := hN.r ▸ hN.le
  refine fn_x d_letgo rfl ?_
  rcases p.way with hway | hway | hway
  · have hway : way = "strong" := hway
    subst hway
    obtain ⟨p1, p2, p3⟩ := p.live rfl
    have p1 : hol ∈ b.hd g := p1
    have p2 : (b.hd g).length ≤ 100 := p2
    obtain ⟨vs, us, e1, e2, e3⟩ := List.exists_erase_eq p1
    have l2 : vs.length + us.length ≤ 100 := by rw [e2, List.length_append, List.length_cons] at p2; lia
    ((first | with_reducible refine' x_if_f0 (te_is ?za1 ?zb1) ?zq1 | refine' x_if_f0 (te_is ?za1 ?zb1) ?zq1); (case za1 => wtm_at "m.te"); (case zb1 => wtm_at "m.b"))
    have q0 : H.o (α (.hl g)) = .list (vs.map hv ++ hv hol :: us.map hv) := by have := R.at_hl h1 hh; rw [this]; show O.list ((b.hd g).map hv) = _; rw [e2, List.map_append]; rfl
    refine' x_expr (ev_remove (us := us.map hv) (vs := vs.map hv) ?o ?h ?a q0 ?z ?n ?s (he := by k_dflt (intro _; rfl)) (h1 := by k_dflt (intro _; kernel_rfl)) (h2 := by k_dflt (intro _; kernel_rfl))) ?q (by k_dflt (intro _; kernel_rfl))
    case o => wtm_at "m.ev"
    case h => exact q0
    case a => wtm_at "m.ev"
    case z => simp only [List.length_map]; lia
    case n => intro hm; obtain ⟨x, hx, e⟩ := List.mem_map.mp hm; rw [hv_inj e] at hx; exact e1 hx
    case s => simp [List.all_eq_true, hv_si]
    case q =>
      rw [← List.map_append, ← e3]
      have R1 : Rep α ((σ.wB { b with hd := upd b.hd g ((b.hd g).erase hol) } r).w_tmp T) (H.set (α (.hl g)) (.list (((b.hd g).erase hol).map hv))) := by
        have := R.set_hd h1 hh (((b.hd g).erase hol).map hv) rfl
        have e := St.wB_hd (σ := σ) (b := b) (r := r) (g := g) ((b.hd g).erase hol)
        rw [← e]; exact this
      generalize H.set (α (.hl g)) _ = H1 at R1 ⊢
      have R2 := R1.new (.list [])
      have l3 : ((b.hd g).erase hol).length ≤ 100 := by rw [e3, List.length_append]; exact l2
      have q1 : (H1.new (.list [])).o (α (.hl g)) = .list (((b.hd g).erase hol).map hv) := by
        have := R2.at_hl h1 hh
        rw [this]
        show O.list ((upd b.hd g ((b.hd g).erase hol) g).map hv) = _
        rw [upd_here]
      by_cases hne : (b.hd g).erase hol ≠ []
      · have e : bst σ.bk b hol ("strong", g) = ({ b with hd := upd b.hd g ((b.hd g).erase hol) }, []) := by unfold bst; rw [if_pos rfl, if_pos hne]
        rw [e] at d
        cases d
        obtain ⟨x, xs, hx⟩ := List.exists_cons_of_ne_nil hne
        rw [hx, List.map_cons] at q1
        refine' x_if_ret0 (te_cmp ?a1 ?a2 (cmp_ne_nil q1 ?a3 ?a4 ?a5)) ?q
        case a1 => wtm_at "m.ev"
        case a2 => wtm_at "m.ev"
        case a3 => exact Hp.new_here _ _
        case a4 => rw [← List.map_cons]; simp [List.all_eq_true]; exact ⟨hv_flat x, fun y _ => hv_flat y⟩
        case a5 => lia
        case q => exact ⟨rfl, r, R2⟩
      · have hne : (b.hd g).erase hol = [] := Classical.not_not.mp hne
        rw [hne] at q1 R2 R1
        refine' x_if_f0 (te_cmp ?a1 ?a2 (cmp_ne_lists q1 ?a3 rfl ?a5)) ?q
        case a1 => wtm_at "m.ev"
        case a2 => wtm_at "m.ev"
        case a3 => exact Hp.new_here _ _
        case a5 => lia
        case q =>
          clear q1 R1
          generalize H1.new (.list []) = H2 at R2 ⊢
          by_cases hob : σ.bk g = "object"
          · have e : bst σ.bk b hol ("strong", g) = ({ b with hd := upd b.hd g [], bs := upd b.bs g "dying", bd := b.bd ++ [g] }, []) := by unfold bst; rw [if_pos rfl, if_neg (by exact fun h => h hne), if_pos hob]
            rw [e] at d
            cases d
            refine' x_if_t (te_is ?t ?tt) ?q
            case t => wtm_at "m.te"
            case tt => exact beq_iff_eq.mpr hob
            case q =>
              ((first | with_reducible refine' x_setitem ?za2 ?zb2 ?zc2 ?zs2 ?zq2 (by wtm_at "k") | refine' x_setitem ?za2 ?zb2 ?zc2 ?zs2 ?zq2 (by wtm_at "k")); (case za2 => wtm_at "m.ev"); (case zb2 => wtm_at "m.ev"); (case zc2 => wtm_at "m.ev"); (case zs2 => wtm_at "m.set"))
              generalize hH : H2.set (α .state) _ = H3
              have R3 : Rep α ((σ.wB { b with hd := upd b.hd g [], bs := upd b.bs g "dying" } r).w_tmp T) H3 := by rw [← hH]; exact R2.set_bs h1 hs "dying" rfl
              ((first | with_reducible refine' x_expr ?za3 ?zq3 (by wtm_at "k") | refine' x_expr ?za3 ?zq3 (by wtm_at "k")); (case za3 => wtm_at "m.ev"))
              generalize hH : H3.set (α .bdy) _ = H4
              have R4 : Rep α ((σ.wB { b with hd := upd b.hd g [], bs := upd b.bs g "dying", bd := b.bd ++ [g] } r).w_tmp T) H4 := by rw [← hH]; exact R3.set_bd (b.bd ++ [g]) (by rw [List.map_append]; rfl)
              refine' x_return0 ?_
              exact ⟨rfl, r, R4⟩
          · have e : bst σ.bk b hol ("strong", g) = ({ b with hd := upd b.hd g [], bs := upd b.bs g "gone", rw := upd b.rw g [] }, b.rw g) := by unfold bst; rw [if_pos rfl, if_neg (by exact fun h => h hne), if_neg hob]
            rw [e] at d
            refine' x_if_f0 (te_is ?t ?tt) ?q
            case t => wtm_at "m.te"
            case tt => exact beq_eq_false_iff_ne.mpr hob
            case q =>
              have R3 := R2.new (.list [])
              have hf := fun r hr => Nat.ne_of_lt (R2.lt r hr)
              have R4 := R3.set_rla h1 hr (a := H2.n) (Nat.lt_succ_self _) hf (v := []) (Hp.new_here _ _) rfl
              have a1 : r g < (H2.new (.list [])).n := R3.lt (.rl g) ⟨h1, hr⟩
              have a2 : (H2.new (.list [])).o (r g) = .list ((b.rw g).map rowV) := R3.at_rl h1 hr
              have a3 : r g ≠ α .rows := fun e => by have := R3.inj (.rl g) .rows ⟨h1, hr⟩ trivial e; cases this
              have R5 := R4.push (a := r g) (o := .list ((b.rw g).map rowV)) a1 (by rw [Hp.set_old _ _ _ a3]; exact a2) (R3.old_rla h1 hr hf)
              refine' x_tup3 ?e1 ?o1 ?i1 ?s1 ?o2 ?i2 ?s2 ?q (by kernel_rfl) (by kernel_rfl) (by k_dflt (intro _; kernel_rfl)) (by k_dflt (intro _; kernel_rfl))
              case e1 => wtm_at "m.ev"
              case o1 => wtm_at "m.ev"
              case i1 => wtm_at "m.ev"
              case s1 => wtm_at "m.set"
              case o2 => wtm_at "m.ev"
              case i2 => wtm_at "m.ev"
              case s2 => wtm_at "m.set"
              case q =>
                clear R4
                generalize (H2.new (.list [])).set (α .rows) _ = H3 at R5 ⊢
                generalize hH : H3.set (α .state) _ = H4
                have R6 : Rep α ((σ.wB { b with hd := upd b.hd g [], bs := upd b.bs g "gone", rw := upd b.rw g [] } (upd r g H2.n)).w_tmp (T ++ [(r g, .list ((b.rw g).map rowV))])) H4 := by rw [← hH]; exact R5.set_bs h1 hs "gone" rfl
                have q6 := (R6.at0 rfl).1
                have R7 := R6.tmp' (.iter (r g) 0)
                have e0 : ((b.rw g).map fun l => (some g, l)) ++ [] = ((b.rw g).drop 0).map fun l => ((some g : Hd), l) := by simp
                have d : BR N σ.bk m { b with hd := upd b.hd g [], bs := upd b.bs g "gone", rw := upd b.rw g [] } (((b.rw g).drop 0).map fun l => ((some g : Hd), l)) b' := e0 ▸ d
                refine' x_for_pair (fun j H l => ∃ m1 b1 r1, m1 ≤ m ∧ BR N σ.bk m1 b1 (((b.rw g).drop j).map fun l => ((some g : Hd), l)) b' ∧ Rep α ((σ.wB b1 r1).w_tmp (T ++ [(r g, .list ((b.rw g).map rowV)), (H4.n, .iter (r g) j)])) H ∧ l "book" = some (.obj (α .bk)) ∧ l "goal" = some (.int g)) ?he ?hr ?start ?hI ?hp ?step ?stop (by kernel_rfl) (by kernel_rfl) (by kernel_rfl) (by k_dflt (intro _ _; kernel_rfl))
                case he => wtm_at "m.ev"
                case hr => exact q6
                case start => exact ⟨m, _, _, Nat.le_refl _, d, by simpa using R7, by wtm_at "m.loc", by wtm_at "m.loc"⟩
                case hI =>
                  rintro j H l ⟨m1, b1, r1, _, _, R, _⟩
                  exact ⟨(R.at2 rfl).1, (R.at1 rfl).1⟩
                case hp => intro v hv; obtain ⟨p, _, rfl⟩ := List.mem_map.mp hv; exact ⟨_, _, rfl⟩
                case step =>
                  rintro j u v H l hj ⟨m1, b1, r1, hm, d1, R, l1, l2⟩
                  rw [List.getElem?_map] at hj
                  obtain ⟨p, hp, hq⟩ := Option.map_eq_some_iff.mp hj
                  obtain ⟨pw, pg⟩ := p
                  injection hq with hq
                  injection hq with hq1 hq
                  injection hq with hq2 hq
                  subst hq1 hq2
                  have ed : ((b.rw g).drop j).map (fun l => ((some g : Hd), l)) = [(some g, (pw, pg))] ++ ((b.rw g).drop (j + 1)).map fun l => ((some g : Hd), l) := by
                    rw [List.drop_eq_getElem_cons (List.getElem?_eq_some_iff.mp hp).1, List.map_cons, (List.getElem?_eq_some_iff.mp hp).2]; rfl
                  obtain ⟨m2, m3, b2, em, d2, d3⟩ := d1.split ed
                  have Ra := R.put2 rfl (.iter (r g) (j + 1))
                  generalize H.set H4.n _ = Ha at Ra ⊢
                  obtain ⟨_, Hb, Fb, rfl, r2, Rb⟩ := ih m2 (by lia) d2 Ra
                  have Fb := Fb.up (m := n + (m + 1) + 3) (by lia)
                  ((first | with_reducible refine' x_expr ?za4 ?zq4 (by wtm_at "k") | refine' x_expr ?za4 ?zq4 (by wtm_at "k")); (case za4 => wtm_at "m.ev"))
                  refine x_nil ?_
                  exact ⟨m3, b2, r2, by lia, d3, Rb, by wtm_at "m.loc", by wtm_at "m.loc"⟩
                case stop =>
                  rintro H l ⟨m1, b1, r1, hm, d1, R, l1, l2⟩
                  rw [List.length_map, List.drop_length] at d1
                  cases d1
                  have Ra := (R.put2 rfl .junk).pop (pre := T) rfl
                  exact x_nil ⟨rfl, r1, Ra⟩
  · have hway : way = "weak" := hway
    subst hway
    have e : bst σ.bk b hol ("weak", g) = ({ b with bw := upd b.bw g (b.bw g - 1) }, []) := by unfold bst; rw [if_neg weak_ne, if_pos rfl]
    rw [e] at d
    cases d
    refine' x_if_t (te_is ?t ?tt) ?q
    case t => wtm_at "m.te"
    case tt => exact bne_iff_ne.mpr weak_ne
    case q =>
      ((first | with_reducible refine' x_setitem ?za5 ?zb5 ?zc5 ?zs5 ?zq5 (by wtm_at "k") | refine' x_setitem ?za5 ?zb5 ?zc5 ?zs5 ?zq5 (by wtm_at "k")); (case za5 => wtm_at "m.ev"); (case zb5 => wtm_at "m.ev"); (case zc5 => wtm_at "m.ev"); (case zs5 => wtm_at "m.set"))
      generalize hH : H.set (α .weak) _ = H1
      have R1 : Rep α ((σ.wB { b with bw := upd b.bw g (b.bw g - 1) } r).w_tmp T) H1 := by rw [← hH]; exact R.set_bw h1 hw (b.bw g - 1) rfl
      refine' x_return0 ?_
      exact ⟨rfl, r, R1⟩
  · have hway : way = "unowned" := hway
    subst hway
    have e : bst σ.bk b hol ("unowned", g) = ({ b with bu := upd b.bu g (b.bu g - 1) }, []) := by unfold bst; rw [if_neg unow_ne, if_neg unow_nw]
    rw [e] at d
    cases d
    refine' x_if_t (te_is ?t ?tt) ?q
    case t => wtm_at "m.te"
    case tt => exact bne_iff_ne.mpr unow_ne
    case q =>
      ((first | with_reducible refine' x_setitem ?za6 ?zb6 ?zc6 ?zs6 ?zq6 (by wtm_at "k") | refine' x_setitem ?za6 ?zb6 ?zc6 ?zs6 ?zq6 (by wtm_at "k")); (case za6 => wtm_at "m.ev"); (case zb6 => wtm_at "m.ev"); (case zc6 => wtm_at "m.ev"); (case zs6 => wtm_at "m.set"))
      generalize hH : H.set (α .unow) _ = H1
      have R1 : Rep α ((σ.wB { b with bu := upd b.bu g (b.bu g - 1) } r).w_tmp T) H1 := by rw [← hH]; exact R.set_bu h1 hu (b.bu g - 1) rfl
      refine' x_return0 ?_
      exact ⟨rfl, r, R1⟩
end
end

section
set_option maxRecDepth 100000
set_option maxHeartbeats 0
section
variable {n : Nat} {w : World} {mean : ExcName → Option Value} {mg mb : Str → Option Value} {α : Rl → Nat} {σ : St} {H : Hp}
/-- what lives of the first j, by kind and name -/
noncomputable def liveP (kd st : Nat → Str) : Nat → List V
  | 0 => []
  | j + 1 => if st (j + 1) = "gone" then liveP kd st j else liveP kd st j ++ [.tup [.str (kd (j + 1)), .str (nameOf (j + 1))]]
theorem liveP_len {kd st : Nat → Str} : ∀ j, (liveP kd st j).length ≤ j
  | 0 => Nat.le_refl _
  | j + 1 => by
    have := liveP_len (kd := kd) (st := st) j
    unfold liveP; split
    · lia
    · rw [List.length_append, List.length_singleton]; lia
theorem tab_fst {β : Type} (n : Nat) (f : Nat → β) : (tab n f).map (·.1) = (List.range n).map fun i => ((i + 1 : Nat) : Int) := by
  unfold tab; rw [List.map_map]; rfl
theorem le10 {n : Nat} (h : n ≤ 10) : n = 0 ∨ n = 1 ∨ n = 2 ∨ n = 3 ∨ n = 4 ∨ n = 5 ∨ n = 6 ∨ n = 7 ∨ n = 8 ∨ n = 9 ∨ n = 10 := (show ∀ n : Nat, n < 11 → (n = 0 ∨ n = 1 ∨ n = 2 ∨ n = 3 ∨ n = 4 ∨ n = 5 ∨ n = 6 ∨ n = 7 ∨ n = 8 ∨ n = 9 ∨ n = 10) by decide) n (Nat.lt_succ_of_le h)
theorem asc_tab (n : Nat) (h : n ≤ 10) (f : Nat → V) : lks_asc ((tab n f).map (·.1)) = true := by
  rw [tab_fst]
  rcases le10 h with h | h | h | h | h | h | h | h | h | h | h <;> subst h <;> decide
theorem tab_vs (n : Nat) (f : Nat → V) : (tab n f).map (fun p => V.int p.1) = (List.range n).map fun i => V.int ((i + 1 : Nat) : Int) := by
  unfold tab; rw [List.map_map]; rfl
theorem range_get {n j : Nat} {v : V} (h : ((List.range n).map fun i => V.int ((i + 1 : Nat) : Int))[j]? = some v) : j < n ∧ v = .int ((j + 1 : Nat) : Int) := by
  rw [List.getElem?_map] at h
  obtain ⟨a, ha, rfl⟩ := Option.map_eq_some_iff.mp h
  have := List.getElem?_eq_some_iff.mp ha
  obtain ⟨h1, h2⟩ := this
  rw [List.length_range] at h1
  rw [List.getElem_range] at h2
  subst h2
  exact ⟨h1, rfl⟩
theorem c_live (R : Rep α σ H) (h1 : 0 < σ.nt) (h2 : σ.nt ≤ 10) : ∃ v H', Fn (CX w mean mg mb) (n + 1) 234 [.obj (α .hp)] H v H' ∧ ∃ a, v = .obj a ∧ H'.o a = .list (liveP σ.kd σ.st σ.nt) ∧ H.n ≤ a ∧ a < H'.n ∧ Grew H H' := by
  refine fn_x d_h_live rfl ?_
  ((first | with_reducible refine' x_assign ?za1 ?zq1 (by kernel_rfl) (by wtm_at "k") | refine' x_assign ?za1 ?zq1 (by kernel_rfl) (by wtm_at "k")); (case za1 => wtm_at "m.ev"))
  have R1 := R.tmp' (.list [])
  have q1 : (H.new (.list [])).o H.n = .list [] := Hp.new_here _ _
  have G1 := Grew.new H (.list [])
  have e1 : (H.new (.list [])).n = H.n + 1 := rfl
  generalize H.new (.list []) = H1 at *
  have q2 : (H1.new (.list ((List.range σ.nt).map fun i => V.int ((i + 1 : Nat) : Int)))).o H1.n = .list ((List.range σ.nt).map fun i => V.int ((i + 1 : Nat) : Int)) := Hp.new_here _ _
  have e2 : (H1.new (.list ((List.range σ.nt).map fun i => V.int ((i + 1 : Nat) : Int)))).n = H.n + 2 := by show H1.n + 1 = _; lia
  refine' x_for_name (r := H1.n) (H₁ := H1.new (.list ((List.range σ.nt).map fun i => V.int ((i + 1 : Nat) : Int)))) (vs := (List.range σ.nt).map fun i => V.int ((i + 1 : Nat) : Int))
    (fun j H' l => Grew H H' ∧ H.n + 2 < H'.n ∧ H'.o H.n = .list (liveP σ.kd σ.st j) ∧ H'.o (H.n + 1) = .list ((List.range σ.nt).map fun i => V.int ((i + 1 : Nat) : Int)) ∧ H'.o (H.n + 2) = .iter (H.n + 1) j ∧ l "found" = some (.obj H.n) ∧ l "self" = some (.obj (α .hp))) ?he q2 ?start ?hI ?step ?stop (by kernel_rfl) (by kernel_rfl) (by k_dflt (intro _ _; kernel_rfl)) (by k_dflt (intro _ _; kernel_rfl))
  case he =>
    rw [← tab_vs σ.nt fun i => .obj (α (.ti i))]
    refine' ev_call_bi1 ?f ?a (bi_sorted ?h ?z (asc_tab σ.nt h2 _) (by kernel_rfl)) (he := by k_dflt (intro _; kernel_rfl)) (h1 := by k_dflt (intro _; kernel_rfl)) (h2 := by k_dflt (intro _; kernel_rfl))
    case f => wtm_at "m.glob"
    case a => wtm_at "m.ev"
    case h => exact R1.at_things
    case z => rw [tab_len]; lia
  case start =>
    refine ⟨(G1.add _).add _, by show H.n + 2 < H1.n + 1 + 1; lia, ?_, ?_, ?_, by wtm_at "m.loc", by wtm_at "m.loc"⟩
    · rw [Hp.new_old _ _ (by show H.n ≠ H1.n + 1; lia), Hp.new_old _ _ (by lia)]; exact q1
    · rw [Hp.new_old _ _ (by show H.n + 1 ≠ H1.n + 1; lia), ← e1]; exact q2
    · rw [show H.n + 2 = (H1.new (.list ((List.range σ.nt).map fun i => V.int ((i + 1 : Nat) : Int)))).n by show _ = H1.n + 1; lia, ← e1]; exact Hp.new_here _ _
  case hI => rintro j H' l ⟨_, _, _, a, b, _⟩; rw [e2, e1]; exact ⟨b, a⟩
  case step =>
    rintro j v H' l hv ⟨G, hn, a1, a2, a3, l1, l2⟩
    obtain ⟨hj, rfl⟩ := range_get hv
    rw [e2, e1]
    have Ga : Grew H (H'.set (H.n + 2) (.iter (H.n + 1) (j + 1))) := G.set (by lia) _
    have Ra := R.grew Ga
    have b1 : (H'.set (H.n + 2) (.iter (H.n + 1) (j + 1))).o H.n = .list (liveP σ.kd σ.st j) := by rw [Hp.set_old _ _ _ (by lia), a1]
    have b2 : (H'.set (H.n + 2) (.iter (H.n + 1) (j + 1))).o (H.n + 1) = .list ((List.range σ.nt).map fun i => V.int ((i + 1 : Nat) : Int)) := by rw [Hp.set_old _ _ _ (by lia), a2]
    have b3 : (H'.set (H.n + 2) (.iter (H.n + 1) (j + 1))).o (H.n + 2) = .iter (H.n + 1) (j + 1) := Hp.set_here _ _ _
    have b4 : H.n + 2 < (H'.set (H.n + 2) (.iter (H.n + 1) (j + 1))).n := hn
    generalize H'.set (H.n + 2) (.iter (H.n + 1) (j + 1)) = H2 at *
    have j1 : 1 ≤ j + 1 := by lia
    have j2 : j + 1 ≤ σ.nt := hj
    have ll := liveP_len (kd := σ.kd) (st := σ.st) j
    by_cases hg : σ.st (j + 1) = "gone"
    · refine' x_if_f0 (te_is ?t ?tt) ?q
      case t => wtm_at "m.te"
      case tt => exact bne_eq_false_iff_eq.mpr hg
      case q =>
        refine x_nil ⟨Ga, b4, ?_, b2, b3, by wtm_at "m.loc", by wtm_at "m.loc"⟩
        rw [b1]; unfold liveP; rw [if_pos hg]; cases j <;> rfl
    · refine' x_if_t (te_is ?t ?tt) ?q
      case t => wtm_at "m.te"
      case tt => exact bne_iff_ne.mpr hg
      case q =>
        ((first | with_reducible refine' x_expr ?za2 ?zq2 (by wtm_at "k") | refine' x_expr ?za2 ?zq2 (by wtm_at "k")); (case za2 => wtm_at "m.ev"))
        refine x_nil (x_nil ⟨Ga.set (Nat.le_refl _) _, b4, ?_, ?_, ?_, by wtm_at "m.loc", by wtm_at "m.loc"⟩)
        · rw [Hp.set_here, show liveP σ.kd σ.st (j + 1) = liveP σ.kd σ.st j ++ [.tup [.str (σ.kd (j + 1)), .str (nameOf (j + 1))]] by conv => lhs; unfold liveP; rw [if_neg hg]]
        · rw [Hp.set_old _ _ _ (by lia)]; exact b2
        · rw [Hp.set_old _ _ _ (by lia)]; exact b3
  case stop =>
    rintro H' l ⟨G, hn, a1, a2, a3, l1, l2⟩
    rw [List.length_map, List.length_range] at a1
    rw [e2]
    ((first | with_reducible refine' x_return ?za3 ?zq3 | refine' x_return ?za3 ?zq3); (case za3 => wtm_at "m.ev"))
    refine ⟨H.n, rfl, ?_, Nat.le_refl _, by show H.n < H'.n; lia, G.set (by lia) _⟩
    rw [Hp.set_old _ _ _ (by lia)]; exact a1
end
end

section
set_option maxRecDepth 100000
set_option maxHeartbeats 0
section
variable {n : Nat} {w : World} {mean : ExcName → Option Value} {mg mb : Str → Option Value} {α : Rl → Nat} {σ : St} {H : Hp}
noncomputable def f_isso (i : Nat) : FrS := { qual := "_law_is_so", scope := fS (stAt 18), f := 275, cdv := .ref 274, cells := [("book", i)], q := true }
theorem d_isso {P : Params} (i : Nat) : DefAtC (K P) 275 (fA (stAt 18)) (fB (stAt 18)) (f_isso i) ["heap", "book"] "book" :=
  ⟨⟨.type "function", none, "_law_is_so", .none, .none, .none, (.str "law_pc0019_01" 504), none, .none, #[], by kernel_rfl, (lenS fun heap_ => (lenS fun book_ => (len0 (by kernel_rfl))))⟩, rfl, rfl, by kernel_rfl, (show ∀ z ∈ (["heap", "book"] : List Str), (fS (stAt 18)).names.lookup z = some .local ∨ (fS (stAt 18)).names.lookup z = some .cell by decide +kernel), by kernel_rfl, by kernel_rfl, by kernel_rfl, fun L => by kernel_rfl, by kernel_rfl, (show ((cellsFrom 0 (fS (stAt 18)).names []).map (·.1)).Nodup by decide +kernel), rfl⟩
theorem fn_xC {c : Cx} {a : Addr} {params : Arguments} {body : List Stmt} {fr' : FrS} {names : List Str} {y : Str} {vs : List V} {P : V → Hp → Prop} (D : DefAtC c.K a params body fr' names y) (hl : vs.length = names.length) (hcs : fr'.cells = [(y, H.n)])
    (h : ExsW c n fr' body (H.new (.cell (bindV names vs y))) (bindVL fr' names vs) (fun f H' _ => P f.val H')) : ∃ v H', Fn c (n + 1) a vs H v H' ∧ P v H' := by
  obtain ⟨f, H', l', h1, h2⟩ := h
  exact ⟨_, _, fn_defC D hl hcs h1, h2⟩
theorem bindVL_at {fr : FrS} {names : List Str} {vs : List V} {z : Str} {v : V} (h1 : fr.scope.names.lookup z = some .local) (h2 : bindV names vs z = some v) : bindVL fr names vs z = some v := by unfold bindVL; rw [if_pos h1]; exact h2
theorem tew_cmp {c : Cx} {fr : FrS} {l : Loc} {H₁ : Hp} {e₁ e₂ : Expr} {op : CmpOp} {pos : Pos} {a : V} {P : Bool → Hp → Prop} (h₁ : Ev c n fr e₁ H l a H₁) (h₂ : ∃ b H₂, Ev c n fr e₂ H₁ l b H₂ ∧ ∃ r, Cmp c n fr op a b H₂ l r ∧ P r H₂) (hm : behindInMarks op e₂ = false) :
    ∃ r H₂, Te c n fr (.Compare e₁ [op] [e₂] pos) H l r H₂ ∧ P r H₂ :=
  let ⟨_, _, h2, _, h3, h4⟩ := h₂
  ⟨_, _, te_cmp h₁ h2 h3 hm, h4⟩
theorem evw_of {c : Cx} {fr : FrS} {l : Loc} {e : Expr} {A : Nat → Hp → Prop} {P : V → Hp → Prop} (h : ∃ D H', Ev c n fr e H l (.obj D) H' ∧ A D H') (g : ∀ D H', A D H' → P (.obj D) H') : ∃ v H', Ev c n fr e H l v H' ∧ P v H' :=
  let ⟨D, H', h1, h2⟩ := h
  ⟨_, _, h1, g D H' h2⟩
theorem liveP_s {kd st : Nat → Str} {j : Nat} (h : st (j + 1) = "gone") : liveP kd st (j + 1) = liveP kd st j := if_pos h
theorem liveP_a {kd st : Nat → Str} {j : Nat} (h : ¬ st (j + 1) = "gone") : liveP kd st (j + 1) = liveP kd st j ++ [.tup [.str (kd (j + 1)), .str (nameOf (j + 1))]] := if_neg h
theorem stOk_ok {s : Str} (h : stOk s) : PyData.strOk s = true := by rcases h with rfl | rfl | rfl <;> kernel_rfl
theorem kdOk_ok {s : Str} (h : kdOk s) : PyData.strOk s = true := by rcases h with rfl | rfl | rfl | rfl <;> kernel_rfl
theorem name_ok {i : Nat} (h : i ≤ 10) : PyData.strOk (nameOf i) = true ∧ (("K" : Str).length + (Str.ofString (toString (i : Int))).length ≤ 1000) := by
  rcases le10 h with h | h | h | h | h | h | h | h | h | h | h <;> subst h <;> exact ⟨by kernel_rfl, by decide +kernel⟩
theorem liveP_flat {kd st : Nat → Str} (hk : ∀ i, 1 ≤ i → i ≤ n → kdOk (kd i)) (hn : n ≤ 10) : ∀ j, j ≤ n → (liveP kd st j).all flat2 = true
  | 0, _ => rfl
  | j + 1, hj => by
    have ih := liveP_flat (st := st) hk hn j (by lia)
    unfold liveP; split
    · exact ih
    · rw [List.all_append, ih, List.all_cons, List.all_nil]
      show (flat1 (.str _) && (flat1 (.str _) && true)) && true = true
      simp only [flat1, kdOk_ok (hk (j + 1) (by lia) hj), (name_ok (i := j + 1) (by lia)).1]; rfl
theorem liveP_congr {kd st st' : Nat → Str} : ∀ j, (∀ i, 1 ≤ i → i ≤ j → st i = st' i) → liveP kd st j = liveP kd st' j
  | 0, _ => rfl
  | j + 1, h => by
    have ih := liveP_congr (kd := kd) j fun i a b => h i a (by lia)
    unfold liveP; rw [h (j + 1) (by lia) (Nat.le_refl _), ih]
theorem link_flat (kd : Nat → Str) {p : Lk} (hw : wayOk p.1) : flat2 (linkV kd p) = true := by
  obtain ⟨way, g⟩ := p
  obtain ⟨wd, vs, e, hf, _⟩ := link_word kd g hw
  rw [e]; exact hf
theorem ints_flat (l : List Nat) : (l.map fun i : Nat => V.int (i : Int)).all flat2 = true := by
  induction l with
  | nil => rfl
  | cons a l ih => rw [List.map_cons, List.all_cons, ih]; rfl
theorem c_isso {N : Nat} (R : Rep α σ H) (S : So σ N) : ∃ v H', Fn (CX w mean mg mb) (n + 5) 275 [.obj (α .hp), .obj (α .bk)] H v H' ∧ v = .bool true ∧ Grew H H' := by
  refine fn_xC (d_isso H.n) rfl rfl ?_
  have G0 := Grew.new H (.cell (some (.obj (α .bk))))
  have hc : (H.new (.cell (some (.obj (α .bk))))).o H.n = .cell (some (.obj (α .bk))) := Hp.new_here _ _
  have n0 : (H.new (.cell (some (.obj (α .bk))))).n = H.n + 1 := rfl
  rw [show bindV ["heap", "book"] [V.obj (α .hp), .obj (α .bk)] "book" = some (.obj (α .bk)) by wtm_at "m.loc"]
  have l1 : bindVL (f_isso H.n) ["heap", "book"] [V.obj (α .hp), .obj (α .bk)] "heap" = some (.obj (α .hp)) := bindVL_at (by kernel_rfl) (by wtm_at "m.loc")
  generalize bindVL (f_isso H.n) ["heap", "book"] [V.obj (α .hp), .obj (α .bk)] = l at l1 ⊢
  have R0 := R.grew G0
  generalize H.new (.cell (some (.obj (α .bk)))) = H0 at *
  have hdy : H0.o (α .hdy) = .list (σ.bd.map fun i : Nat => V.int (i : Int)) := by rw [R0.at_hdy, S.dy]
  refine' x_if_f0 (te_cmp ?a ?b (cmp_ne_lists hdy R0.at_bdy (ints_flat _) (by lia)) (by kernel_rfl)) ?q
  case a => wtm_at "m.ev"
  case b => wtm_at "m.ev"
  case q =>
    ((first | with_reducible refine' x_assign ?za1 ?zq1 (by kernel_rfl) (by wtm_at "k") | refine' x_assign ?za1 ?zq1 (by kernel_rfl) (by wtm_at "k")); (case za1 => wtm_at "m.ev"))
    have hN : σ.nk = N := S.nn.k
    have hNt : σ.nt = N := S.nn.t
    have hle := S.nn.le
    have hn1 := S.n1
    have R1 := R0.new (.list [])
    have q1 : (H0.new (.list [])).o H0.n = .list [] := Hp.new_here _ _
    have G1 := Grew.new H0 (.list [])
    have hc1 := (G1.o H.n (by lia)).trans hc
    have e1 : (H0.new (.list [])).n = H.n + 2 := by show H0.n + 1 = _; lia
    rw [n0] at q1 ⊢
    generalize H0.new (.list []) = H1 at *
    have q2 : (H1.new (.list ((List.range N).map fun i => V.int ((i + 1 : Nat) : Int)))).o H1.n = .list ((List.range N).map fun i => V.int ((i + 1 : Nat) : Int)) := Hp.new_here _ _
    have e2 : (H1.new (.list ((List.range N).map fun i => V.int ((i + 1 : Nat) : Int)))).n = H.n + 3 := by show H1.n + 1 = _; lia
    refine' x_for_name (r := H1.n) (H₁ := H1.new (.list ((List.range N).map fun i => V.int ((i + 1 : Nat) : Int)))) (vs := (List.range N).map fun i => V.int ((i + 1 : Nat) : Int))
      (fun j H' l => Grew H0 H' ∧ H.n + 3 < H'.n ∧ H'.o (H.n + 1) = .list (liveP σ.bk σ.bs j) ∧ H'.o (H.n + 2) = .list ((List.range N).map fun i => V.int ((i + 1 : Nat) : Int)) ∧ H'.o (H.n + 3) = .iter (H.n + 2) j ∧ l "left" = some (.obj (H.n + 1)) ∧ l "heap" = some (.obj (α .hp))) ?he q2 ?start ?hI ?step ?stop (by kernel_rfl) (by kernel_rfl) (by k_dflt (intro _ _; kernel_rfl)) (by k_dflt (intro _ _; kernel_rfl))
    case he =>
      rw [← hN, ← tab_vs σ.nk fun i => .str (σ.bk i)]
      refine' ev_call_bi1 ?f ?a (bi_sorted ?h ?z (asc_tab σ.nk (hN ▸ hle) _) (by kernel_rfl)) (he := by k_dflt (intro _; kernel_rfl)) (h1 := by k_dflt (intro _; kernel_rfl)) (h2 := by k_dflt (intro _; kernel_rfl))
      case f => wtm_at "m.glob"
      case a => wtm_at "m.ev"
      case h => exact R1.at_kinds
      case z => rw [tab_len, hN]; lia
    case start =>
      refine ⟨(G1.add _).add _, by show H.n + 3 < H1.n + 1 + 1; lia, ?_, ?_, ?_, by wtm_at "m.loc", by wtm_at "m.loc"⟩
      · rw [Hp.new_old _ _ (by show H.n + 1 ≠ H1.n + 1; lia), Hp.new_old _ _ (by lia)]; exact q1
      · rw [Hp.new_old _ _ (by show H.n + 2 ≠ H1.n + 1; lia), ← e1]; exact q2
      · rw [show H.n + 3 = (H1.new (.list ((List.range N).map fun i => V.int ((i + 1 : Nat) : Int)))).n by show _ = H1.n + 1; lia, ← e1]; exact Hp.new_here _ _
    case hI => rintro j H' l ⟨_, _, _, a, b, _⟩; rw [e2, e1]; exact ⟨b, a⟩
    case step =>
      rintro j v H' l hv ⟨G, hn, a1, a2, a3, l1, l2⟩
      obtain ⟨hj, rfl⟩ := range_get hv
      rw [e2, e1]
      have Ga : Grew H0 (H'.set (H.n + 3) (.iter (H.n + 2) (j + 1))) := G.set (by lia) _
      have b1 : (H'.set (H.n + 3) (.iter (H.n + 2) (j + 1))).o (H.n + 1) = .list (liveP σ.bk σ.bs j) := by rw [Hp.set_old _ _ _ (by lia), a1]
      have b2 : (H'.set (H.n + 3) (.iter (H.n + 2) (j + 1))).o (H.n + 2) = .list ((List.range N).map fun i => V.int ((i + 1 : Nat) : Int)) := by rw [Hp.set_old _ _ _ (by lia), a2]
      have b3 : (H'.set (H.n + 3) (.iter (H.n + 2) (j + 1))).o (H.n + 3) = .iter (H.n + 2) (j + 1) := Hp.set_here _ _ _
      have b4 : H.n + 3 < (H'.set (H.n + 3) (.iter (H.n + 2) (j + 1))).n := hn
      generalize H'.set (H.n + 3) (.iter (H.n + 2) (j + 1)) = H2 at *
      have Ra := R0.grew Ga
      have hc2 := (Ga.o H.n (by lia)).trans hc
      obtain ⟨g, hg⟩ : ∃ g, g = j + 1 := ⟨_, rfl⟩
      rw [← hg] at hv ⊢
      have j1 : 1 ≤ g := by lia
      have j2 : g ≤ N := by lia
      have t1 : g ≤ σ.nt := by lia
      have t2 : g ≤ σ.nh := by rw [S.nn.h]; exact j2
      have t3 : g ≤ σ.nw := by rw [S.nn.w]; exact j2
      have t4 : g ≤ σ.nu := by rw [S.nn.u]; exact j2
      have t5 : g ≤ σ.ns := by rw [S.nn.s]; exact j2
      have t6 : g ≤ σ.nr := by rw [S.nn.r]; exact j2
      have t7 : g ≤ σ.nk := by lia
      have hdl := S.hdl g j1 j2
      have rwl := S.rwl g j1 j2
      have ll := liveP_len (kd := σ.bk) (st := σ.bs) j
      ((first | with_reducible refine' x_assign ?za2 ?zq2 (by kernel_rfl) (by wtm_at "k") | refine' x_assign ?za2 ?zq2 (by kernel_rfl) (by wtm_at "k")); (case za2 => wtm_at "m.ev"))
      ((first | with_reducible refine' x_assign ?za3 ?zq3 (by kernel_rfl) (by wtm_at "k") | refine' x_assign ?za3 ?zq3 (by kernel_rfl) (by wtm_at "k")); (case za3 => wtm_at "m.ev"))
      have hcnt : (V.tup [.int (σ.sg g), .int (σ.wk g), .int (σ.un g), .str (σ.st g)]) = .tup [.int (σ.hd g).length, .int (σ.bw g), .int (σ.bu g), .str (σ.bs g)] := by rw [S.sg g j1 j2, S.wk g j1 j2, S.un g j1 j2, S.st g j1 j2]
      refine' x_if_f0 (te_cmp (ev_is ?a hcnt) ?b (cmp_ne_tups ?c (by lia)) (by kernel_rfl)) ?q
      case a => wtm_at "m.ev"
      case b => wtm_at "m.ev"
      case c => simp only [List.all_cons, List.all_nil, flat1, stOk_ok (S.stOk g j1 j2)]; rfl
      case q =>
        have hfl : H2.o (σ.tfa g) = .list ((σ.rw g).map (linkV σ.bk)) := by rw [Ra.at_tf j1 t1, S.fl g j1 j2, S.kd]
        have hrl := Ra.at_rl j1 t6
        have hrlt := Ra.lt (.rl g) ⟨j1, t6⟩
        have htlt := Ra.lt (.tf g) ⟨j1, t1⟩
        refine' x_if_w (tew_cmp (a := .obj (σ.tfa g)) ?a (evw_of (comp_pair (H₁ := H2) (clN := [("book", H.n)]) (us := (σ.rw g).map (linkV σ.bk)) ?he hrl hrlt (Nat.le_refl _) ?hlen ?hz ?hp ?helt ?hK ?hyz ?hcl ?hcell (by kernel_rfl) ?hnames (by kernel_rfl) (by kernel_rfl) (by kernel_rfl) (by k_dflt (intro _ _; kernel_rfl))) ?g) (by kernel_rfl))
        case a => wtm_at "m.ev"
        case he => wtm_at "m.ev"
        case hlen => rw [List.length_map, List.length_map]
        case hz => rw [List.length_map]; lia
        case hp => intro v hv; obtain ⟨p, _, rfl⟩ := List.mem_map.mp hv; exact ⟨_, _, rfl⟩
        case helt =>
          rintro i a b u H3 fs h1 h2 G3 K h3 h4 h5
          rw [List.getElem?_map] at h1 h2
          obtain ⟨p, hp, hq⟩ := Option.map_eq_some_iff.mp h1
          rw [hp] at h2
          injection h2 with h2
          subst h2
          injection hq with hq
          injection hq with hq1 hq
          injection hq with hq2 hq
          subst hq1 hq2
          obtain ⟨w1, w2, w3⟩ := S.rwo g j1 j2 p (List.mem_of_getElem? hp)
          obtain ⟨_, H4, F, rfl, G4⟩ := c_link (n := n + 3) (w := w) (mean := mean) (mg := mg) (mb := mb) (Ra.grew G3) w2 (by rw [hN]; exact w3)
          have hc3 := (G3.o H.n (by lia)).trans hc2
          refine ⟨H4, evk_call_st K (evk_glob g_link ?x1 (by kernel_rfl) (by kernel_rfl)) (eask_cons K (evk_cell (i := H.n) rfl ?x2 hc3 ?x3 (by kernel_rfl) (by kernel_rfl)) (eask_cons K (evk_local K.ns h3 h4 (by kernel_rfl) (by kernel_rfl) (by kernel_rfl)) (eask_cons K (evk_local K.ns h3 h5 (by kernel_rfl) (by kernel_rfl) (by kernel_rfl)) eask_nil ?x4) ?x5) ?x6) (by kernel_rfl) (Fn.call F (by kernel_rfl)) ?x7 ?x8 ?x9, G4⟩
          case x1 => intro _ _; kernel_rfl
          case x2 => have := G3.n; lia
          case x3 => intro _ _; kernel_rfl
          case x4 => intro _; kernel_rfl
          case x5 => intro _; kernel_rfl
          case x6 => intro _; kernel_rfl
          case x7 => intro _; kernel_rfl
          case x8 => intro _; kernel_rfl
          case x9 => intro _; kernel_rfl
        case hK => intro p hp; have := List.mem_singleton.mp hp; subst this; have := Ga.n; show H.n < H2.n; lia
        case hyz => decide +kernel
        case hcl =>
          intro x ω hx
          refine (closure_of (ad := fun _ => ω.ρ H.n) ?_).trans (by kernel_rfl)
          intro p hp hf
          have hb : p.1 = "book" := by revert p; decide +kernel
          rw [hb]; exact (hx "book" H.n (.head _)).2
        case hcell => decide +kernel
        case hnames => decide +kernel
        case g =>
          rintro D H3 ⟨d1, G3, d2, d3⟩
          refine ⟨false, cmp_ne_lists ((G3.o _ htlt).trans hfl) d1 ?_ (by lia), ?_⟩
          · rw [List.all_eq_true]; intro v hv; obtain ⟨p, hp, rfl⟩ := List.mem_map.mp hv; exact link_flat _ (S.rwo g j1 j2 p hp).1
          · refine x_nil ?_
            have Rb := Ra.grew G3
            have Gb := Ga.trans G3
            have hc3 := (Gb.o H.n (by lia)).trans hc
            have c1 := (G3.o (H.n + 1) (by lia)).trans b1
            have c2 := (G3.o (H.n + 2) (by lia)).trans b2
            have c3 := (G3.o (H.n + 3) (by lia)).trans b3
            have c4 : H.n + 3 < H3.n := Nat.lt_of_lt_of_le b4 G3.n
            by_cases hgn : σ.bs g = "gone"
            · refine' x_if_f0 (te_is ?t ?tt) ?q
              case t => wtm_at "m.te"
              case tt => exact bne_eq_false_iff_eq.mpr hgn
              case q =>
                subst hg
                exact x_nil ⟨Gb, c4, by rw [c1, liveP_s hgn], c2, c3, by wtm_at "m.loc", by wtm_at "m.loc"⟩
            · refine' x_if_t (te_is ?t ?tt) ?q
              case t => wtm_at "m.te"
              case tt => exact bne_iff_ne.mpr hgn
              case q =>
                refine' x_expr (ev_append ?o c1 (ev_tuple (eas_cons ?k (eas_cons (ev_binop ev_str (ev_call_ty1 ?f ?a (ty_str (by lia) (by lia)) (he := by k_dflt (intro _; kernel_rfl)) (h1 := by k_dflt (intro _; kernel_rfl)) (h2 := by k_dflt (intro _; kernel_rfl))) (op_str (name_ok (i := g) (by lia)).2)) eas_nil (he := by k_dflt (intro _; kernel_rfl))) (he := by k_dflt (intro _; kernel_rfl))) (by k_dflt (exact Nat.le_of_ble_eq_true (by kernel_rfl)))) c1 (by lia) (he := by k_dflt (intro _; rfl)) (h1 := by k_dflt (intro _; kernel_rfl)) (h2 := by k_dflt (intro _; kernel_rfl))) ?q (by k_dflt (intro _; kernel_rfl))
                case o => wtm_at "m.ev"
                case k => wtm_at "m.ev"
                case f => wtm_at "m.glob"
                case a => wtm_at "m.ev"
                case q =>
                  subst hg
                  refine x_nil (x_nil ⟨Gb.set (by lia) _, c4, ?_, ?_, ?_, by wtm_at "m.loc", by wtm_at "m.loc"⟩)
                  · rw [Hp.set_here, liveP_a hgn]; rfl
                  · rw [Hp.set_old _ _ _ (by lia)]; exact c2
                  · rw [Hp.set_old _ _ _ (by lia)]; exact c3
    case stop =>
      rintro H' l ⟨G, hn, a1, a2, a3, l1, l2⟩
      rw [List.length_map, List.length_range] at a1
      rw [e2]
      have Ga : Grew H0 (H'.set (H.n + 3) .junk) := G.set (by lia) _
      have b1 : (H'.set (H.n + 3) .junk).o (H.n + 1) = .list (liveP σ.bk σ.bs N) := by rw [Hp.set_old _ _ _ (by lia), a1]
      have b4 : H.n + 3 < (H'.set (H.n + 3) .junk).n := hn
      generalize H'.set (H.n + 3) .junk = H2 at *
      have Ra := R0.grew Ga
      obtain ⟨_, H3, F, a, rfl, f1, f2, f3, G3⟩ := c_live (n := n + 3) (w := w) (mean := mean) (mg := mg) (mb := mb) Ra (by lia) (by lia)
      have f1 : H3.o a = .list (liveP σ.bk σ.bs N) := by rw [f1, hNt, S.kd, liveP_congr N fun i a b => S.st i a b]
      have g1 := (G3.o (H.n + 1) (by lia)).trans b1
      refine' x_return (ev_cmp ?a ?b (cmp_eq_lists f1 g1 ?c (by lia)) (by kernel_rfl)) ?q
      case a => wtm_at "m.ev"
      case b => wtm_at "m.ev"
      case c => rw [S.kd]; exact liveP_flat (n := N) S.kdOk hle N (Nat.le_refl _)
      case q => exact ⟨rfl, (G0.trans Ga).trans G3⟩
end
end

section
set_option maxRecDepth 100000
set_option maxHeartbeats 0
section
variable {n : Nat} {w : World} {mean : ExcName → Option Value} {mg mb : Str → Option Value} {α : Rl → Nat} {σ : St} {H : Hp}
theorem c_taken {N M : Nat} {h h' : Hs} {b b' : Bs} {t r : Nat → Nat} {T : List (Nat × O)} (hN : SameN σ N) (d : TD σ N M h b h' b') (R : Rep α ((σ.wHB h t b r).w_tmp T) H) :
    ∃ v H', Fn (CX w mean mg mb) (n + M + 9) 282 [.obj (α .hp), .obj (α .bk)] H v H' ∧ v = .bool true ∧ ∃ t' r', Rep α ((σ.wHB h' t' b' r').w_tmp T) H' := by
  refine fn_x d_taken rfl ?_
  have l1 : bindV ["heap", "book"] [V.obj (α .hp), .obj (α .bk)] "heap" = some (.obj (α .hp)) := by wtm_at "m.loc"
  have l2 : bindV ["heap", "book"] [V.obj (α .hp), .obj (α .bk)] "book" = some (.obj (α .bk)) := by wtm_at "m.loc"
  generalize bindV ["heap", "book"] [V.obj (α .hp), .obj (α .bk)] = l at l1 l2 ⊢
  refine' x_while ?wl
  induction d generalizing H l t r with
  | @done h b e =>
    have q : H.o (α .bdy) = .list [] := by have := R.at_bdy; rw [this]; show O.list (b.bd.map _) = _; rw [e]; rfl
    have R1 := R.new (.list [])
    have q1 := ((Grew.new H (.list [])).o (α .bdy) (R.lt .bdy trivial)).trans q
    refine' wl_stop (te_cmp ?a1 ?a2 (cmp_ne_lists q1 (Hp.new_here _ _) rfl (by lia)) (by kernel_rfl)) ?q
    case a1 => wtm_at "m.ev"
    case a2 => wtm_at "m.ev"
    case q =>
      refine' x_return ?e ?g
      case e => wtm_at "m.ev"
      case g => exact ⟨rfl, t, r, R1⟩
  | @step h h2 h' b b2 b' g m dy bd e1 e2 dl1 dl2 g1 g2 hs fo fl rl d hs2 hm e so _ ih =>
    have q : H.o (α .bdy) = .list (.int g :: bd.map fun i : Nat => V.int (i : Int)) := by have := R.at_bdy; rw [this]; show O.list (b.bd.map _) = _; rw [e1]; rfl
    have R1 := R.new (.list [])
    have q1 := ((Grew.new H (.list [])).o (α .bdy) (R.lt .bdy trivial)).trans q
    have q2 : (H.new (.list [])).o (α .bdy) = .list ([] ++ V.int g :: bd.map fun i : Nat => V.int (i : Int)) := q1
    refine' wl_go (te_cmp ?a1 ?a2 (cmp_ne_nil q1 (Hp.new_here _ _) ?f (by lia)) (by kernel_rfl)) ?body
    case a1 => wtm_at "m.ev"
    case a2 => wtm_at "m.ev"
    case f => have := ints_flat (g :: bd); exact this
    case body =>
      clear q q1
      generalize H.new (.list []) = H1 at R1 q2 ⊢
      refine' x_assign (ev_popAt ?o q2 (ev_int (i := 0)) q2 ?z rfl (he := by k_dflt (intro _; rfl)) (h1 := by k_dflt (intro _; kernel_rfl)) (h2 := by k_dflt (intro _; kernel_rfl))) ?q (by kernel_rfl) (by k_dflt (intro _; kernel_rfl))
      case o => wtm_at "m.ev"
      case z => simp only [List.length_nil, List.length_map]; lia
      case q =>
        rw [List.nil_append]
        have R2 : Rep α ((σ.wHB h t { b with bd := bd } r).w_tmp T) (H1.set (α .bdy) (.list (bd.map fun i : Nat => V.int (i : Int)))) := R1.set_bd bd rfl
        generalize H1.set (α .bdy) _ = H2 at R2 ⊢
        have q3 : H2.o (α .hdy) = .list ([] ++ V.int g :: dy.map fun i : Nat => V.int (i : Int)) := by have := R2.at_hdy; rw [this]; show O.list (h.dy.map _) = _; rw [e2]; rfl
        refine' x_expr (ev_popAt ?o q3 (ev_int (i := 0)) q3 ?z rfl (he := by k_dflt (intro _; rfl)) (h1 := by k_dflt (intro _; kernel_rfl)) (h2 := by k_dflt (intro _; kernel_rfl))) ?q (by k_dflt (intro _; kernel_rfl))
        case o => wtm_at "m.ev"
        case z => simp only [List.length_nil, List.length_map]; lia
        case q =>
          rw [List.nil_append]
          have R3 : Rep α ((σ.wHB { h with dy := dy } t { b with bd := bd } r).w_tmp T) (H2.set (α .hdy) (.list (dy.map fun i : Nat => V.int (i : Int)))) := R2.set_dy dy rfl
          generalize H2.set (α .hdy) _ = H3 at R3 ⊢
          have hr : g ≤ σ.nr := by rw [hN.r]; exact g2
          have ht : g ≤ σ.nt := by rw [hN.t]; exact g2
          have hns : g ≤ σ.ns := by rw [hN.s]; exact g2
          have z3 : σ.ns ≤ 10 := hN.s ▸ hN.le
          have z4 : σ.nr ≤ 10 := hN.r ▸ hN.le
          have R4 := R3.new (.list [])
          have hf := fun r hr => Nat.ne_of_lt (R3.lt r hr)
          have R5 := R4.set_rla g1 hr (a := H3.n) (Nat.lt_succ_self _) hf (v := []) (Hp.new_here _ _) rfl
          have a1 : r g < (H3.new (.list [])).n := R4.lt (.rl g) ⟨g1, hr⟩
          have a2 : (H3.new (.list [])).o (r g) = .list ((b.rw g).map rowV) := R4.at_rl g1 hr
          have a3 : r g ≠ α .rows := fun e => by have := R4.inj (.rl g) .rows ⟨g1, hr⟩ trivial e; cases this
          have R6 := R5.push (a := r g) (o := .list ((b.rw g).map rowV)) a1 (by rw [Hp.set_old _ _ _ a3]; exact a2) (R4.old_rla g1 hr hf)
          refine' x_tup2s ?e1 ?o1 ?i1 ?s1 ?q (by kernel_rfl) (by kernel_rfl) (by k_dflt (intro _; kernel_rfl)) (by k_dflt (intro _; kernel_rfl))
          case e1 => wtm_at "m.ev"
          case o1 => wtm_at "m.ev"
          case i1 => wtm_at "m.ev"
          case s1 => wtm_at "m.set"
          case q =>
            clear R5
            have R6 : Rep α ((σ.wHB { h with dy := dy } t { b with bd := bd, rw := upd b.rw g [] } (upd r g H3.n)).w_tmp (T ++ [(r g, .list ((b.rw g).map rowV))])) ((H3.new (.list [])).set (α .rows) (.idict (vput (tab σ.nr fun i => .obj (r i)) g (.obj H3.n)))) := R6
            generalize (H3.new (.list [])).set (α .rows) _ = H4 at R6 ⊢
            generalize upd r g H3.n = r4 at R6
            have F := c_thing (n := n + M + 7) (w := w) (mean := mean) (mg := mg) (mb := mb) R6 g1 ht hs
            have q4 : H4.o (t g) = .list ((h.fl g).map (linkV σ.kd)) := R6.at_tf g1 ht
            have R7 := R6.tmpA rfl (.list ((h.fl g).map (linkV σ.kd)))
            rw [List.append_assoc] at R7
            have q5 : (H4.new (.list ((h.fl g).map (linkV σ.kd)))).o H4.n = .list ((h.fl g).map (linkV σ.kd)) := Hp.new_here _ _
            have hsN : SameN (σ.wHB h2 t0 b r) N := ⟨hN.k, hN.r, hN.h, hN.w, hN.u, hN.s, hN.t, hN.le⟩
            refine' x_for_name (r := H4.n) (H₁ := H4.new (.list ((h.fl g).map (linkV σ.kd)))) (vs := (h.fl g).map (linkV σ.kd))
              (fun j H' l => ∃ hj tj, DR σ.nt σ.kd hj ((h.fl g).drop j) h2 ∧ Rep α ((σ.wHB hj tj { b with bd := bd, rw := upd b.rw g [] } r4).w_tmp (T ++ [(r g, .list ((b.rw g).map rowV)), (H4.n, .list ((h.fl g).map (linkV σ.kd))), ((H4.new (.list ((h.fl g).map (linkV σ.kd)))).n, .iter H4.n j)])) H' ∧ l "heap" = some (.obj (α .hp)) ∧ l "book" = some (.obj (α .bk)) ∧ l "goal" = some (.int g) ∧ l "rows" = some (.obj (r g))) ?he q5 ?start ?hI ?step ?stop (by kernel_rfl) (by kernel_rfl) (by k_dflt (intro _ _; kernel_rfl)) (by k_dflt (intro _ _; kernel_rfl))
            case he => wtm_at "m.ev"
            case start =>
              have R8 := R7.tmpA rfl (.iter H4.n 0)
              rw [List.append_assoc] at R8
              exact ⟨_, t, by rw [List.drop_zero]; exact d, R8, by wtm_at "m.loc", by wtm_at "m.loc", by wtm_at "m.loc", by wtm_at "m.loc"⟩
            case hI =>
              rintro j H' l ⟨hj, tj, _, R, _⟩
              exact ⟨(R.at33 rfl).1, (R.at32 rfl).1⟩
            case step =>
              rintro j v H' l hv ⟨hj, tj, dj, R, k1, k2, k3, k4⟩
              rw [List.getElem?_map] at hv
              obtain ⟨p, hp, rfl⟩ := Option.map_eq_some_iff.mp hv
              obtain ⟨w1, w2⟩ := fo p (List.mem_of_getElem? hp)
              have ed : (h.fl g).drop j = [p] ++ (h.fl g).drop (j + 1) := by rw [List.drop_eq_getElem_cons (List.getElem?_eq_some_iff.mp hp).1, (List.getElem?_eq_some_iff.mp hp).2]; rfl
              obtain ⟨h1, d1, d2⟩ := dj.split ed
              have Ra := R.put3 rfl (.iter H4.n (j + 1))
              generalize H'.set (H4.new (.list ((h.fl g).map (linkV σ.kd)))).n _ = Ha at Ra ⊢
              obtain ⟨_, Hb, Fb, rfl, tb, Rb⟩ := c_destroyed (n := n + M + 1) (w := w) (mean := mean) (mg := mg) (mb := mb) (σ := (σ.wB { b with bd := bd, rw := upd b.rw g [] } r4).w_tmp (T ++ [(r g, .list ((b.rw g).map rowV)), (H4.n, .list ((h.fl g).map (linkV σ.kd))), ((H4.new (.list ((h.fl g).map (linkV σ.kd)))).n, .iter H4.n (j + 1))])) w1 w2 d1 Ra
              ((first | with_reducible refine' x_expr ?za1 ?zq1 (by wtm_at "k") | refine' x_expr ?za1 ?zq1 (by wtm_at "k")); (case za1 => wtm_at "m.ev"))
              exact x_nil ⟨h1, tb, d2, Rb, by wtm_at "m.loc", by wtm_at "m.loc", by wtm_at "m.loc", by wtm_at "m.loc"⟩
            case stop =>
              rintro H' l ⟨hj, tj, dj, R, k1, k2, k3, k4⟩
              rw [List.length_map, List.drop_length] at dj
              cases dj
              have Ra := (R.put3 rfl .junk).pop (pre := T ++ [(r g, .list ((b.rw g).map rowV))]) (post := [(H4.n, .list ((h.fl g).map (linkV σ.kd))), ((H4.new (.list ((h.fl g).map (linkV σ.kd)))).n, .junk)]) (by show T ++ _ = _; simp)
              have Ra : Rep α ((σ.wHB h2 tj { b with bd := bd, rw := upd b.rw g [] } r4).w_tmp (T ++ [(r g, .list ((b.rw g).map rowV))])) (H'.set (H4.new (.list ((h.fl g).map (linkV σ.kd)))).n .junk) := Ra
              generalize H'.set (H4.new (.list ((h.fl g).map (linkV σ.kd)))).n .junk = Ha at Ra ⊢
              have q6 := (Ra.at0 rfl).1
              refine' x_for_pair (fun j H' l => ∃ m1 bj rj, m1 ≤ m ∧ BR N σ.bk m1 bj (((b.rw g).drop j).map fun l => ((some g : Hd), l)) b2 ∧ Rep α ((σ.wHB h2 tj bj rj).w_tmp (T ++ [(r g, .list ((b.rw g).map rowV)), (Ha.n, .iter (r g) j)])) H' ∧ l "heap" = some (.obj (α .hp)) ∧ l "book" = some (.obj (α .bk)) ∧ l "goal" = some (.int g)) ?he2 q6 ?start2 ?hI2 ?hp2 ?step2 ?stop2 (by kernel_rfl) (by kernel_rfl) (by kernel_rfl) (by k_dflt (intro _ _; kernel_rfl))
              case he2 => wtm_at "m.ev"
              case start2 =>
                have R8 := Ra.tmpA rfl (.iter (r g) 0)
                rw [List.append_assoc] at R8
                exact ⟨m, _, r4, Nat.le_refl _, by rw [List.drop_zero]; exact e, R8, by wtm_at "m.loc", by wtm_at "m.loc", by wtm_at "m.loc"⟩
              case hI2 =>
                rintro j H' l ⟨m1, bj, rj, _, _, R, _⟩
                exact ⟨(R.at2 rfl).1, (R.at1 rfl).1⟩
              case hp2 => intro v hv; obtain ⟨p, _, rfl⟩ := List.mem_map.mp hv; exact ⟨_, _, rfl⟩
              case step2 =>
                rintro j u v H' l hj' ⟨m1, bj, rj, hm1, ej, R, k1, k2, k3⟩
                rw [List.getElem?_map] at hj'
                obtain ⟨p, hp, hq⟩ := Option.map_eq_some_iff.mp hj'
                injection hq with hq
                injection hq with hq1 hq
                injection hq with hq2 hq
                subst hq1 hq2
                have ed : ((b.rw g).drop j).map (fun l => ((some g : Hd), l)) = [(some g, p)] ++ ((b.rw g).drop (j + 1)).map fun l => ((some g : Hd), l) := by
                  rw [List.drop_eq_getElem_cons (List.getElem?_eq_some_iff.mp hp).1, List.map_cons, (List.getElem?_eq_some_iff.mp hp).2]; rfl
                obtain ⟨m2, m3, b3, em, d2, d3⟩ := ej.split ed
                have Rb := R.put2 rfl (.iter (r g) (j + 1))
                generalize H'.set Ha.n _ = Hb at Rb ⊢
                obtain ⟨_, Hc, Fc, rfl, r2, Rc⟩ := c_letgo (n := n) (w := w) (mean := mean) (mg := mg) (mb := mb) (σ := σ.wH h2 tj) ⟨hN.k, hN.r, hN.h, hN.w, hN.u, hN.s, hN.t, hN.le⟩ m2 d2 Rb
                have Fc := Fc.up (m := n + M + 8) (by lia)
                ((first | with_reducible refine' x_expr ?za2 ?zq2 (by wtm_at "k") | refine' x_expr ?za2 ?zq2 (by wtm_at "k")); (case za2 => wtm_at "m.ev"))
                exact x_nil ⟨m3, b3, r2, by lia, d3, Rc, by wtm_at "m.loc", by wtm_at "m.loc", by wtm_at "m.loc"⟩
              case stop2 =>
                rintro H' l ⟨m1, bj, rj, hm1, ej, R, k1, k2, k3⟩
                rw [List.length_map, List.drop_length] at ej
                cases ej
                have Rb := (R.put2 rfl .junk).pop (pre := T) rfl
                have Rb : Rep α ((σ.wHB h2 tj b2 rj).w_tmp T) (H'.set Ha.n .junk) := Rb
                generalize H'.set Ha.n .junk = Hb at Rb ⊢
                obtain ⟨_, Hc, Fc, rfl, tc, Rc⟩ := c_buried (n := n + M + 6) (w := w) (mean := mean) (mg := mg) (mb := mb) Rb g1 ht hs2
                ((first | with_reducible refine' x_expr ?za3 ?zq3 (by wtm_at "k") | refine' x_expr ?za3 ?zq3 (by wtm_at "k")); (case za3 => wtm_at "m.ev"))
                have Rc : Rep α ((σ.wHB { h2 with st := upd h2.st g "gone", fl := upd h2.fl g [] } tc b2 rj).w_tmp T) Hc := Rc
                ((first | with_reducible refine' x_setitem ?za4 ?zb4 ?zc4 ?zs4 ?zq4 (by wtm_at "k") | refine' x_setitem ?za4 ?zb4 ?zc4 ?zs4 ?zq4 (by wtm_at "k")); (case za4 => wtm_at "m.ev"); (case zb4 => wtm_at "m.ev"); (case zc4 => wtm_at "m.ev"); (case zs4 => wtm_at "m.set"))
                generalize hH : Hc.set (α .state) _ = Hd
                have Rd : Rep α ((σ.wHB { h2 with st := upd h2.st g "gone", fl := upd h2.fl g [] } tc { b2 with bs := upd b2.bs g "gone" } rj).w_tmp T) Hd := by rw [← hH]; exact Rc.set_bs g1 hns "gone" rfl
                obtain ⟨_, He, Fe, rfl, Ge⟩ := c_isso (n := n + M + 3) (w := w) (mean := mean) (mg := mg) (mb := mb) Rd (so.at tc rj T)
                refine' x_if_f0 (te_not (b := true) ?t) ?q
                case t => wtm_at "m.te"
                case q =>
                  refine x_nil ?_
                  exact ih (Rd.grew Ge) _ (by wtm_at "m.loc") (by wtm_at "m.loc")
end
end

section
set_option maxRecDepth 100000
set_option maxHeartbeats 0
section
variable {n : Nat} {w : World} {mean : ExcName → Option Value} {mg mb : Str → Option Value} {α : Rl → Nat} {σ : St} {H : Hp} {i : Nat} {fr : FrS} {l : Loc}
theorem c_fault {C : Addr} {cd : ClassData} (X : ExcC (K w.params) C cd) {v : V} (h : H.o i = .exc C none) : Fn (CX w mean mg mb) (n + 1) 35 [.obj i, v] H .none ((H.new (.xd "word" v)).set i (.exc C (some H.n))) := by
  suffices h : ∃ v' H', Fn (CX w mean mg mb) (n + 1) 35 [.obj i, v] H v' H' ∧ v' = .none ∧ H' = ((H.new (.xd "word" v)).set i (.exc C (some H.n))) by
    obtain ⟨_, _, h, rfl, rfl⟩ := h; exact h
  refine fn_x d_fault rfl ?_
  refine' x_expr (ev_ty_bm2 ?o ei_type ei_stub ei_meth ei_hand ?a ?b (bi_excinit X h) (by k_dflt (intro _; rfl)) (by k_dflt (intro _; kernel_rfl)) (by k_dflt (intro _; kernel_rfl)) (by k_dflt (intro _; kernel_rfl))) ?q (by k_dflt (intro _; kernel_rfl))
  case o => exact ev_ty ei_ns PyProof.Rows.Boot.«Exception» (by kernel_rfl) (by decide) (by kernel_rfl)
  case a => wtm_at "m.ev"
  case b => wtm_at "m.ev"
  case q =>
    refine' w_cons ⟨_, _, _, ex_setword X ?v ?o h ?w, ?q⟩
    case v => wtm_at "m.ev"
    case o => wtm_at "m.ev"
    case w => k_dflt (intro _; kernel_rfl)
    case q => exact x_nil ⟨rfl, rfl⟩
/-- a class of the text called with a word -/
theorem ev_fault {C : Addr} {cd : ClassData} (X : ExcC (K w.params) C cd) {fe e : Expr} {pos : Pos} {v : V} (hf : Ev (CX w mean mg mb) (n + 2) fr fe H l (.st C) H) (ha : Eas (CX w mean mg mb) (n + 2) fr [e] H l [v] H) (hq : fr.q = true)
    (he : ∀ env, eval (.Call fe [e] [] pos) env = (do callWith pos (← eval fe env) [] (backTo pos (starEach [e] env)) (backToKw pos (keywordEach [] env))))
    (h1 : ∀ env, starEach [e] env = (false, eval e env) :: starEach [] env) (h2 : ∀ env, (backTo pos (starEach [] env)).any (·.1) = false) :
    Ev (CX w mean mg mb) (n + 2) fr (.Call fe [e] [] pos) H l (.obj H.n) (excH H C v) :=
  ev_call_st hf ha X.keep (exc_made X (fun i H h => c_fault X h) hq) he h1 h2
theorem excH_grew (H : Hp) (C : Addr) (v : V) : Grew H ((excH H C v).set H.n .junk) := (((Grew.new H _).add _).set (Nat.le_refl _) _).set (Nat.le_refl _) _
theorem excH_at (H : Hp) (C : Addr) (v : V) : (excH H C v).o H.n = .exc C (some (H.n + 1)) := Hp.set_here _ _ _
theorem excH_word (H : Hp) (C : Addr) (v : V) (j : O) : (((excH H C v).set H.n .junk).set H.n j).o (H.n + 1) = .xd "word" v := by
  rw [Hp.set_old _ _ _ (Nat.succ_ne_self _), Hp.set_old _ _ _ (Nat.succ_ne_self _), Hp.set_old _ _ _ (Nat.succ_ne_self _)]
  exact Hp.new_here _ _
/-- what a refusal leaves -/
noncomputable abbrev Rfd (H : Hp) : Nat → Nat → Hp → Prop := fun i _ H' => Grew H H' ∧ H.n ≤ i
theorem e_thing (R : Rep α σ H) (h1 : 1 ≤ i) (h2 : i ≤ σ.nt) (hs : σ.st i = "gone") : RF (CX w mean mg mb) (n + 3) 51 129 [.obj (α .hp), .int i] H (Rfd H) := by
  refine' fn_rw d_h_thing rfl (rw_asg (ev_bm1 (t := "dict.get") ?o (gm_get (dI _) R.at_things) ?a (bi_get1 (dI _) (v := .obj (α (.ti i))) R.at_things ?v) (he := by k_dflt (intro _; rfl)) (h1 := by k_dflt (intro _; kernel_rfl)) (h2 := by k_dflt (intro _; kernel_rfl))) ?q (by kernel_rfl) (by k_dflt (intro _; kernel_rfl)))
  case o => wtm_at "m.ev"
  case a => wtm_at "m.ev"
  case v => rw [vget_tab h1 h2]; rfl
  case q =>
    refine' rw_if_t (te_bools (tes_or_f (te_cmp ?a1 ?a2 (cmp_is_none (v := .obj (α (.ti i))) (by intro h; cases h))) (tes_or_t (te_is ?t ?tt)))) ?q
    case a1 => wtm_at "m.ev"
    case a2 => wtm_at "m.ev"
    case t => wtm_at "m.te"
    case tt => rw [hs]; exact beq_self_eq_true _
    case q =>
      refine' rw_raise exFF (ev_fault exFF ?f ?a rfl (by k_dflt (intro _; kernel_rfl)) (by k_dflt (intro _; kernel_rfl)) (by k_dflt (intro _; kernel_rfl))) (excH_at _ _ _) rfl ⟨excH_grew _ _ _, Nat.le_refl _⟩
      case f => exact ev_glob g_FormFault (by kernel_rfl) (by kernel_rfl)
      case a => wtm_at "m.eas"
theorem e_retain (R : Rep α σ H) (h1 : 1 ≤ i) (h2 : i ≤ σ.nt) (hs : σ.st i = "gone") : RF (CX w mean mg mb) (n + 4) 51 136 [.obj (α .hp), .int i] H (Rfd H) := by
  have F := e_thing (n := n) (w := w) (mean := mean) (mg := mg) (mb := mb) R h1 h2 hs
  refine fn_rw d_h_retain rfl ?_
  (refine' rw_assign ?zr1 (by wtm_at "k"); (case zr1 => ((first | with_reducible refine' rv_meth ?zo2 ?zI2 ?zno2 (by kernel_rfl) ?zme2 (by kernel_rfl) (by kernel_rfl) ?za2 ?zk2 (by kernel_rfl) (by wtm_at "r") (by wtm_at "k") (by wtm_at "k") | refine' rv_meth ?zo2 ?zI2 ?zno2 (by kernel_rfl) ?zme2 (by kernel_rfl) (by kernel_rfl) ?za2 ?zk2 (by kernel_rfl) (by wtm_at "r") (by wtm_at "k") (by wtm_at "k")); (case zo2 => wtm_at "m.ev"); (case zI2 => wtm_at "m.inst"); (case zme2 => wtm_at "m.me"); (case zno2 => wtm_at "m.fno"); (case za2 => wtm_at "m.eas"); (case zk2 => with_reducible assumption))))
theorem e_unowned_to (R : Rep α σ H) (h1 : 1 ≤ i) (h2 : i ≤ σ.nt) (hs : σ.st i = "gone") : RF (CX w mean mg mb) (n + 4) 51 206 [.obj (α .hp), .int i] H (Rfd H) := by
  have F := e_thing (n := n) (w := w) (mean := mean) (mg := mg) (mb := mb) R h1 h2 hs
  refine fn_rw d_h_unowned_to rfl ?_
  (refine' rw_assign ?zr3 (by wtm_at "k"); (case zr3 => ((first | with_reducible refine' rv_meth ?zo4 ?zI4 ?zno4 (by kernel_rfl) ?zme4 (by kernel_rfl) (by kernel_rfl) ?za4 ?zk4 (by kernel_rfl) (by wtm_at "r") (by wtm_at "k") (by wtm_at "k") | refine' rv_meth ?zo4 ?zI4 ?zno4 (by kernel_rfl) ?zme4 (by kernel_rfl) (by kernel_rfl) ?za4 ?zk4 (by kernel_rfl) (by wtm_at "r") (by wtm_at "k") (by wtm_at "k")); (case zo4 => wtm_at "m.ev"); (case zI4 => wtm_at "m.inst"); (case zme4 => wtm_at "m.me"); (case zno4 => wtm_at "m.fno"); (case za4 => wtm_at "m.eas"); (case zk4 => with_reducible assumption))))
theorem e_dropped (R : Rep α σ H) (h1 : 1 ≤ i) (h2 : i ≤ σ.nt) (hs : σ.st i = "gone") : RF (CX w mean mg mb) (n + 4) 51 157 [.obj (α .hp), .int i] H (Rfd H) := by
  have F := e_thing (n := n) (w := w) (mean := mean) (mg := mg) (mb := mb) R h1 h2 hs
  refine fn_rw d_h_dropped rfl ?_
  (refine' rw_assign ?zr5 (by wtm_at "k"); (case zr5 => ((first | with_reducible refine' rv_meth ?zo6 ?zI6 ?zno6 (by kernel_rfl) ?zme6 (by kernel_rfl) (by kernel_rfl) ?za6 ?zk6 (by kernel_rfl) (by wtm_at "r") (by wtm_at "k") (by wtm_at "k") | refine' rv_meth ?zo6 ?zI6 ?zno6 (by kernel_rfl) ?zme6 (by kernel_rfl) (by kernel_rfl) ?za6 ?zk6 (by kernel_rfl) (by wtm_at "r") (by wtm_at "k") (by wtm_at "k")); (case zo6 => wtm_at "m.ev"); (case zI6 => wtm_at "m.inst"); (case zme6 => wtm_at "m.me"); (case zno6 => wtm_at "m.fno"); (case za6 => wtm_at "m.eas"); (case zk6 => with_reducible assumption))))
theorem e_drop (R : Rep α σ H) (h1 : 1 ≤ i) (h2 : i ≤ σ.nt) (hs : σ.st i = "gone") {a : Nat} (ha : H.o a = .list [.tup [.str "strong", .int i]]) : RF (CX w mean mg mb) (n + 5) 51 150 [.obj (α .hp), .obj a] H (Rfd H) := by
  refine fn_rw d_h_drop rfl ?_
  refine' rw_asg ?a ?q (by kernel_rfl) (by k_dflt (intro _; kernel_rfl))
  case a => wtm_at "m.ev"
  case q =>
    have R2 := (R.new (.list [.tup [.str "strong", .int i]])).new (.list [V.tup [.str "strong", .int i]].reverse)
    have G := (Grew.new H (.list [.tup [.str "strong", .int i]])).add (.list [V.tup [.str "strong", .int i]].reverse)
    have hb : ((H.new (.list [.tup [.str "strong", .int i]])).new (.list [V.tup [.str "strong", .int i]].reverse)).o (H.new (.list [.tup [.str "strong", .int i]])).n = .list ([] ++ [.tup [.str "strong", .int i]]) := Hp.new_here _ _
    have lb : H.n ≤ (H.new (.list [.tup [.str "strong", .int i]])).n := Nat.le_succ _
    generalize (H.new (.list [.tup [.str "strong", .int i]])).n = b at hb lb ⊢
    generalize (H.new (.list [.tup [.str "strong", .int i]])).new (.list [V.tup [.str "strong", .int i]].reverse) = H2 at R2 G hb ⊢
    refine' rw_while (te_is ?t ?tt) ?q
    case t => wtm_at "m.te"
    case tt => rfl
    case q =>
      refine' rw_tup2 ?a ?q (by kernel_rfl) (by kernel_rfl) (by kernel_rfl) (by k_dflt (intro _; kernel_rfl)) (by k_dflt (intro _; kernel_rfl))
      case a => wtm_at "m.ev"
      case q =>
        have G3 := G.set lb (.list [])
        have R3 := R.grew G3
        have hb3 : (H2.set b (.list [])).o b = .list [] := Hp.set_here _ _ _
        generalize H2.set b (.list []) = H3 at R3 G3 hb3 ⊢
        have F := (e_dropped (n := n) (w := w) (mean := mean) (mg := mg) (mb := mb) R3 h1 h2 hs).mono (P' := Rfd H) fun i d H' p => ⟨G3.trans p.1, Nat.le_trans G3.n p.2⟩
        refine' rw_if_t (te_is ?t ?tt) ?q
        case t => wtm_at "m.te"
        case tt => exact beq_iff_eq.mpr rfl
        case q =>
          refine' rw_expr (rv_bm1 (t := "list.extend") ?o (gm_list hb3 PySem.F.slot_list_extend (by kernel_rfl)) (rv_sub ?r) (by k_dflt (intro _; rfl)) (by k_dflt (intro _; kernel_rfl)) (by k_dflt (intro _; kernel_rfl))) (by k_dflt (intro _; kernel_rfl))
          case o => wtm_at "m.ev"
          case r => ((first | with_reducible refine' rv_meth ?zo7 ?zI7 ?zno7 (by kernel_rfl) ?zme7 (by kernel_rfl) (by kernel_rfl) ?za7 ?zk7 (by kernel_rfl) (by wtm_at "r") (by wtm_at "k") (by wtm_at "k") | refine' rv_meth ?zo7 ?zI7 ?zno7 (by kernel_rfl) ?zme7 (by kernel_rfl) (by kernel_rfl) ?za7 ?zk7 (by kernel_rfl) (by wtm_at "r") (by wtm_at "k") (by wtm_at "k")); (case zo7 => wtm_at "m.ev"); (case zI7 => wtm_at "m.inst"); (case zme7 => wtm_at "m.me"); (case zno7 => wtm_at "m.fno"); (case za7 => wtm_at "m.eas"); (case zk7 => with_reducible assumption))
theorem e_release (R : Rep α σ H) (h1 : 1 ≤ i) (h2 : i ≤ σ.nt) (hs : σ.st i = "gone") : RF (CX w mean mg mb) (n + 6) 51 143 [.obj (α .hp), .int i] H (Rfd H) := by
  have G := Grew.new H (.list [.tup [.str "strong", .int i]])
  have R1 := R.grew G
  have F := (e_drop (n := n) (w := w) (mean := mean) (mg := mg) (mb := mb) R1 h1 h2 hs (Hp.new_here _ _)).mono (P' := Rfd H) fun i d H' p => ⟨G.trans p.1, Nat.le_trans G.n p.2⟩
  refine fn_rw d_h_release rfl ?_
  refine' rw_expr ?r (by k_dflt (intro _; kernel_rfl))
  ((first | with_reducible refine' rv_meth ?zo8 ?zI8 ?zno8 (by kernel_rfl) ?zme8 (by kernel_rfl) (by kernel_rfl) ?za8 ?zk8 (by kernel_rfl) (by wtm_at "r") (by wtm_at "k") (by wtm_at "k") | refine' rv_meth ?zo8 ?zI8 ?zno8 (by kernel_rfl) ?zme8 (by kernel_rfl) (by kernel_rfl) ?za8 ?zk8 (by kernel_rfl) (by wtm_at "r") (by wtm_at "k") (by wtm_at "k")); (case zo8 => wtm_at "m.ev"); (case zI8 => wtm_at "m.inst"); (case zme8 => wtm_at "m.me"); (case zno8 => wtm_at "m.fno"); (case za8 => wtm_at "m.eas"); (case zk8 => with_reducible assumption))
end
end

section
set_option maxRecDepth 100000
set_option maxHeartbeats 0
section
variable {n : Nat} {w : World} {mean : ExcName → Option Value} {mg mb : Str → Option Value} {α : Rl → Nat} {σ : St} {H : Hp} {i : Nat} {fr : FrS} {l : Loc}
theorem c_weak_read1 (R : Rep α σ H) (h1 : 1 ≤ i) (h2 : i ≤ σ.nt) (hs : σ.st i = "live") : ∃ v H', Fn (CX w mean mg mb) (n + 3) 199 [.obj (α .hp), .tup [.str "weak", .int i]] H v H' ∧ v = .int i ∧ Rep α (σ.w_sg (upd σ.sg i (σ.sg i + 1))) H' := by
  obtain ⟨_, H', F, rfl, R'⟩ := c_retain (n := n) (w := w) (mean := mean) (mg := mg) (mb := mb) R h1 h2 (by rw [hs]; decide +kernel)
  refine fn_x d_h_weak_read rfl ?_
  ((first | with_reducible refine' x_assign ?za1 ?zq1 (by kernel_rfl) (by wtm_at "k") | refine' x_assign ?za1 ?zq1 (by kernel_rfl) (by wtm_at "k")); (case za1 => wtm_at "m.ev"))
  refine' x_if_f0 (te_bools (tes_or_f (te_is ?t ?tt) (tes_or_f (te_is ?s ?ss) tes_or_n))) ?q
  case t => wtm_at "m.te"
  case tt => simp; lia
  case s => wtm_at "m.te"
  case ss => show (σ.st i != "live") = false; rw [hs]; decide +kernel
  case q =>
    ((first | with_reducible refine' x_expr ?za2 ?zq2 (by wtm_at "k") | refine' x_expr ?za2 ?zq2 (by wtm_at "k")); (case za2 => wtm_at "m.ev"))
    ((first | with_reducible refine' x_return ?za3 ?zq3 | refine' x_return ?za3 ?zq3); (case za3 => wtm_at "m.ev"))
    exact ⟨rfl, R'⟩
theorem c_weak_read0 (R : Rep α σ H) (h1 : 1 ≤ i) (h2 : i ≤ σ.nt) (hs : σ.st i ≠ "live") : Fn (CX w mean mg mb) (n + 1) 199 [.obj (α .hp), .tup [.str "weak", .int i]] H (.int 0) H := by
  suffices h : ∃ v H', Fn (CX w mean mg mb) (n + 1) 199 [.obj (α .hp), .tup [.str "weak", .int i]] H v H' ∧ v = .int 0 ∧ H' = H by
    obtain ⟨_, _, h, rfl, rfl⟩ := h; exact h
  refine fn_x d_h_weak_read rfl ?_
  ((first | with_reducible refine' x_assign ?za4 ?zq4 (by kernel_rfl) (by wtm_at "k") | refine' x_assign ?za4 ?zq4 (by kernel_rfl) (by wtm_at "k")); (case za4 => wtm_at "m.ev"))
  refine' x_if_ret (te_bools (tes_or_f (te_is ?t ?tt) (tes_or_t (te_is ?s ?ss)))) ?c ?q
  case t => wtm_at "m.te"
  case tt => simp; lia
  case s => wtm_at "m.te"
  case ss => show (σ.st i != "live") = true; exact bne_iff_ne.mpr hs
  case c => wtm_at "m.ev"
  case q => exact ⟨rfl, rfl⟩
theorem c_unowned_read1 (R : Rep α σ H) (h1 : 1 ≤ i) (h2 : i ≤ σ.nt) (hs : σ.st i = "live") : ∃ v H', Fn (CX w mean mg mb) (n + 3) 213 [.obj (α .hp), .tup [.str "unowned", .int i]] H v H' ∧ v = .int i ∧ Rep α (σ.w_sg (upd σ.sg i (σ.sg i + 1))) H' := by
  obtain ⟨_, H', F, rfl, R'⟩ := c_retain (n := n) (w := w) (mean := mean) (mg := mg) (mb := mb) R h1 h2 (by rw [hs]; decide +kernel)
  refine fn_x d_h_unowned_read rfl ?_
  refine' x_if_f0 (te_is ?s ?ss) ?q
  case s => wtm_at "m.te"
  case ss => show (σ.st i != "live") = false; rw [hs]; decide +kernel
  case q =>
    ((first | with_reducible refine' x_expr ?za5 ?zq5 (by wtm_at "k") | refine' x_expr ?za5 ?zq5 (by wtm_at "k")); (case za5 => wtm_at "m.ev"))
    ((first | with_reducible refine' x_return ?za6 ?zq6 | refine' x_return ?za6 ?zq6); (case za6 => wtm_at "m.ev"))
    exact ⟨rfl, R'⟩
/-- what a trap leaves -/
noncomputable abbrev Trp (H : Hp) : Nat → Nat → Hp → Prop := fun i d H' => Grew H H' ∧ H.n ≤ i ∧ ∀ j, (H'.set i j).o d = .xd "word" (.str "unowned")
theorem e_unowned_read (R : Rep α σ H) (h1 : 1 ≤ i) (h2 : i ≤ σ.nt) (hs : σ.st i ≠ "live") : RF (CX w mean mg mb) (n + 3) 63 213 [.obj (α .hp), .tup [.str "unowned", .int i]] H (Trp H) := by
  refine fn_rw d_h_unowned_read rfl ?_
  refine' rw_if_t (te_is ?s ?ss) ?q
  case s => wtm_at "m.te"
  case ss => show (σ.st i != "live") = true; exact bne_iff_ne.mpr hs
  case q =>
    refine' rw_raise exTr (ev_fault exTr ?f ?a rfl (by k_dflt (intro _; kernel_rfl)) (by k_dflt (intro _; kernel_rfl)) (by k_dflt (intro _; kernel_rfl))) (excH_at _ _ _) rfl ⟨excH_grew _ _ _, Nat.le_refl _, fun j => excH_word _ _ _ j⟩
    case f => exact ev_glob g_Trap (by kernel_rfl) (by kernel_rfl)
    case a => wtm_at "m.eas"
theorem isFn_129 {P : Params} : fnIn (K P) 129 = true := by kernel_rfl
theorem isFn_136 {P : Params} : fnIn (K P) 136 = true := by kernel_rfl
theorem isFn_143 {P : Params} : fnIn (K P) 143 = true := by kernel_rfl
theorem isFn_206 {P : Params} : fnIn (K P) 206 = true := by kernel_rfl
/-- a refusal, told of -/
theorem c_refused {f : Addr} {a : Nat} {v : V} (hf : fnIn (K w.params) f = true) (F : RF (CX w mean mg mb) n 51 f [.obj a, v] H (Rfd H)) :
    ∃ H', FnB (CX w mean mg mb) (n + 1) 296 [.meth f a, v] H (.bool true) H' ∧ Grew H H' := by
  have key : ∃ H', ExB (CX w mean mg mb) n f_refused (execs (fB (stAt 21))) H (bindV ["act", "goal"] [.meth f a, v]) (.ret (.bool true)) H' ∧ Grew H H' := by
    suffices h : ∃ H', ExB (CX w mean mg mb) n f_refused (exec _) H (bindV ["act", "goal"] [.meth f a, v]) (.ret (.bool true)) H' ∧ Grew H H' by
      obtain ⟨H', h1, h2⟩ := h; exact ⟨H', exb_ret h1, h2⟩
    refine' bw_try (P := Rfd H) (rw_expr (rv_act ?o hf ?a F rfl (by k_dflt (intro _; kernel_rfl)) (by k_dflt (intro _; kernel_rfl)) (by k_dflt (intro _; kernel_rfl))) (by k_dflt (intro _; kernel_rfl))) exFF g_FormFault (by kernel_rfl) (by kernel_rfl) (by kernel_rfl) ?s
    case o => wtm_at "m.ev"
    case a => wtm_at "m.eas"
    case s =>
      intro i d H' l' p
      ((first | with_reducible refine' x_return ?za7 ?zq7 | refine' x_return ?za7 ?zq7); (case za7 => wtm_at "m.ev"))
      exact ⟨rfl, p.1.set p.2 _⟩
  obtain ⟨H', h1, h2⟩ := key
  exact ⟨H', fn_defB d_refused rfl h1, h2⟩
end
end

section
set_option maxRecDepth 100000
set_option maxHeartbeats 0
section
variable {n : Nat} {w : World} {mean : ExcName → Option Value} {mg mb : Str → Option Value} {α : Rl → Nat} {σ : St} {H : Hp} {i : Nat} {fr : FrS} {l : Loc} {N g way : Nat}
theorem nx_lt (σ : St) {b : Nat} (h : 0 < b) : nx σ b < b := by
  unfold nx; split
  · exact Nat.mod_lt _ h
  · exact h
theorem c_release2 (R : Rep α σ H) (h1 : 1 ≤ i) (h2 : i ≤ σ.nt) (hs : σ.st i = "live") (hg : 2 ≤ σ.sg i) (hd : σ.dy.length ≤ 100) (hf : (σ.fl i).length ≤ 100) (ho : ∀ p ∈ σ.fl i, wayOk p.1 ∧ 1 ≤ p.2) :
    ∃ v H', Fn (CX w mean mg mb) (n + 7) 143 [.obj (α .hp), .int i] H v H' ∧ v = .none ∧ ∃ t, Rep α ((σ.w_sg (upd σ.sg i (σ.sg i - 1))).w_tfa t) H' := by
  have e : (dst σ.kd ⟨σ.sg, σ.wk, σ.un, σ.st, σ.fl, σ.dy⟩ ("strong", i)) = (⟨upd σ.sg i (σ.sg i - 1), σ.wk, σ.un, σ.st, σ.fl, σ.dy⟩, []) := by unfold dst; rw [if_pos rfl, if_pos hg]
  have d : DR σ.nt σ.kd ⟨σ.sg, σ.wk, σ.un, σ.st, σ.fl, σ.dy⟩ [("strong", i)] ⟨upd σ.sg i (σ.sg i - 1), σ.wk, σ.un, σ.st, σ.fl, σ.dy⟩ := by
    refine .step ⟨.inl rfl, h1, h2, fun _ => ⟨hs, by show 1 ≤ σ.sg i; lia, hd, hf, ho⟩⟩ (Nat.zero_le _) ?_
    rw [e]; exact .nil _
  exact c_release (σ := σ) (t := σ.tfa) d R
/-- what the reading needs of the thing read -/
structure Rd (σ : St) (N g : Nat) : Prop where
  g1 : 1 ≤ g
  gn : g ≤ N
  nn : SameN σ N
  st : σ.st g = σ.bs g
  kd : σ.bk = σ.kd
  sg : σ.sg g = (σ.hd g).length
  hdl : (σ.hd g).length ≤ 100
  dyl : σ.dy.length ≤ 100
  pos : σ.bs g = "live" → 1 ≤ σ.sg g
  fl : (σ.fl g).length ≤ 100
  fo : ∀ p ∈ σ.fl g, wayOk p.1 ∧ 1 ≤ p.2
theorem c_read1 (R : Rep α σ H) (D : Rd σ N g) (hg : g = 1 + nx σ N) (hn : 0 < N) (hw : way = nx (σ.w_at (σ.at_ + 1)) 3) (hc : σ.cells.length ≤ 60) (no : ¬ (way = 2 ∧ σ.kd g = "object" ∧ σ.st g ≠ "live")) :
    ∃ v H', Fn (CX w mean mg mb) (n + 9) 289 [.obj (α .hand), .obj (α .hp), .obj (α .bk), .int N] H v H' ∧ v = .bool true ∧ ∃ t', Rep α ((σ.w_at (σ.at_ + 2)).w_tfa t') H' := by
  have hz : σ.cells.length ≤ 60 := hc
  obtain ⟨_, H1, F1, rfl, R1⟩ := c_next (n := n + 7) (w := w) (mean := mean) (mg := mg) (mb := mb) (b := N) R hn hc
  obtain ⟨_, H2, F2, rfl, R2⟩ := c_next (n := n + 7) (w := w) (mean := mean) (mg := mg) (mb := mb) (b := 3) R1 (by decide) hc
  have e1 : (1 : Int) + (nx σ N : Nat) = ((g : Nat) : Int) := by subst hg; push_cast; rfl
  have hw3 : way < 3 := by subst hw; exact nx_lt _ (by decide)
  rw [← hw] at F2
  refine fn_x d_read rfl ?_
  refine' x_swap (u := .int (g : Nat)) (v := .int (way : Nat)) (ev_is ?a ?aa) ?q (by k_dflt (intro _; rfl)) (by kernel_rfl) (by kernel_rfl) (by kernel_rfl) (by k_dflt (intro _; kernel_rfl))
  case a => wtm_at "m.ev"
  case aa => rw [← e1]
  case q =>
    clear F1 F2 R R1
    have gk : g ≤ σ.nk := by rw [D.nn.k]; exact D.gn
    have gs : g ≤ σ.ns := by rw [D.nn.s]; exact D.gn
    have gh : g ≤ σ.nh := by rw [D.nn.h]; exact D.gn
    have gt : g ≤ σ.nt := by rw [D.nn.t]; exact D.gn
    have g1 := D.g1
    have R2 : Rep α (σ.w_at (σ.at_ + 2)) H2 := R2
    by_cases h0 : way = 0
    · subst h0
      refine' x_if_ret (te_bools (tes_or_t (te_is ?t ?tt))) ?c ?q
      case t => wtm_at "m.te"
      case tt => rfl
      case c => wtm_at "m.ev"
      case q => exact ⟨rfl, σ.tfa, R2⟩
    by_cases hk : σ.kd g = "object"
    · refine' x_if_f0 (te_bools (tes_or_f (te_is ?t ?tt) (tes_or_f (te_is ?s ?ss) tes_or_n))) ?q
      case t => wtm_at "m.te"
      case tt => simp; lia
      case s => wtm_at "m.te"
      case ss => show (σ.bk g != "object") = false; rw [D.kd, hk]; decide +kernel
      case q =>
        by_cases hl : σ.bs g = "live"
        · have hs : σ.st g = "live" := D.st.trans hl
          refine' x_assign (ev_is (v' := .bool true) (ev_cmp ?a ?b cmp_eq_str) ?aa) ?q (by kernel_rfl) (by k_dflt (intro _; kernel_rfl))
          case a => wtm_at "m.ev"
          case b => wtm_at "m.ev"
          case aa => show V.bool (σ.bs g == "live") = .bool true; rw [hl]; rfl
          case q =>
            obtain ⟨_, H3, F3, rfl, R3⟩ := c_weak_read1 (n := n + 5) (w := w) (mean := mean) (mg := mg) (mb := mb) R2 g1 gt hs
            obtain ⟨_, H3', F3', rfl, R3'⟩ := c_unowned_read1 (n := n + 5) (w := w) (mean := mean) (mg := mg) (mb := mb) R2 g1 gt hs
            refine' x_try (x_asg_ex (v := .int g) (G := fun H3 => Rep α ((σ.w_at (σ.at_ + 2)).w_sg (upd σ.sg g (σ.sg g + 1))) H3) ?ev (fun H3 R3 => x_nil ⟨rfl, ?q⟩) (by kernel_rfl) (by k_dflt (intro _; kernel_rfl)))
            case ev =>
              rcases (show way = 1 ∨ way = 2 by lia) with h1 | h2
              · subst h1
                refine' ⟨H3, ev_ift (te_is ?t ?tt) ?a, R3⟩
                case t => wtm_at "m.te"
                case tt => rfl
                case a => wtm_at "m.ev"
              · subst h2
                refine' ⟨H3', ev_iff (te_is ?t ?tt) ?a, R3'⟩
                case t => wtm_at "m.te"
                case tt => rfl
                case a => wtm_at "m.ev"
            case q =>
              clear F3 F3' R2
              have R3 : Rep α ((σ.w_at (σ.at_ + 2)).w_sg (upd σ.sg g (σ.sg g + 1))) H3 := R3
              have pp := D.pos hl
              obtain ⟨_, H4, F4, rfl, t', R4⟩ := c_release2 (n := n + 1) (w := w) (mean := mean) (mg := mg) (mb := mb) (σ := (σ.w_at (σ.at_ + 2)).w_sg (upd σ.sg g (σ.sg g + 1))) R3 g1 gt hs (by show 2 ≤ upd σ.sg g (σ.sg g + 1) g; rw [upd_here]; lia) D.dyl D.fl D.fo
              have e : upd (upd σ.sg g (σ.sg g + 1)) g (upd σ.sg g (σ.sg g + 1) g - 1) = σ.sg := by
                funext j
                by_cases q : j = g
                · subst q; rw [upd_here, upd_here]; lia
                · rw [upd_old _ _ q, upd_old _ _ q]
              have R4 : Rep α (((σ.w_at (σ.at_ + 2)).w_sg (upd (upd σ.sg g (σ.sg g + 1)) g (upd σ.sg g (σ.sg g + 1) g - 1))).w_tfa t') H4 := R4
              rw [e] at R4
              have hdl : (σ.hd g).length ≤ 100 := D.hdl
              refine' x_if_f0 (te_not (b := true) ?nt) ?q
              case nt => wtm_at "m.te"
              case q =>
                refine' x_if_f0 (te_bools (tes_or_f (te_is ?t ?tt) (tes_or_f (te_is ?s ?ss) tes_or_n))) ?q
                case t => wtm_at "m.te"
                case tt => simp
                case s => wtm_at "m.te"
                case ss => show (upd σ.sg g (σ.sg g + 1) g != ((σ.hd g).length : Int) + 1) = false; rw [upd_here, D.sg]; simp
                case q =>
                  ((first | with_reducible refine' x_expr ?za1 ?zq1 (by wtm_at "k") | refine' x_expr ?za1 ?zq1 (by wtm_at "k")); (case za1 => wtm_at "m.ev"))
                  ((first | with_reducible refine' x_return ?za2 ?zq2 | refine' x_return ?za2 ?zq2); (case za2 => wtm_at "m.ev"))
                  exact ⟨rfl, t', R4⟩
        · have hs : σ.st g ≠ "live" := by rw [D.st]; exact hl
          have h1 : way = 1 := by
            have : way ≠ 2 := fun q => no ⟨q, hk, hs⟩
            lia
          subst h1
          have F3 := c_weak_read0 (n := n + 7) (w := w) (mean := mean) (mg := mg) (mb := mb) R2 g1 gt hs
          refine' x_assign (ev_is (v' := .bool false) (ev_cmp ?a ?b cmp_eq_str) ?aa) ?q (by kernel_rfl) (by k_dflt (intro _; kernel_rfl))
          case a => wtm_at "m.ev"
          case b => wtm_at "m.ev"
          case aa => show V.bool (σ.bs g == "live") = .bool false; rw [beq_eq_false_iff_ne.mpr hl]
          case q =>
            refine' x_try (x_assign (ev_ift (te_is ?t ?tt) ?a) (x_nil ⟨rfl, ?q⟩) (by kernel_rfl) (by k_dflt (intro _; kernel_rfl)))
            case t => wtm_at "m.te"
            case tt => rfl
            case a => wtm_at "m.ev"
            case q =>
              refine' x_if_ret (te_not (b := false) ?nt) (ev_is (v' := .bool true) (ev_and_t (ev_is (v' := .bool true) (ev_cmp ?a ?b cmp_eq_int) ?e1) tr_bool (ev_and_1 (ev_cmp ?c ?d cmp_eq_int))) ?e2) ?q2
              case nt => wtm_at "m.te"
              case a => wtm_at "m.ev"
              case b => wtm_at "m.ev"
              case c => wtm_at "m.ev"
              case d => wtm_at "m.ev"
              case e1 => rfl
              case e2 => rfl
              case q2 => exact ⟨rfl, σ.tfa, R2⟩
    · refine' x_if_ret (te_bools (tes_or_f (te_is ?t ?tt) (tes_or_t (te_is ?s ?ss)))) ?c ?q
      case t => wtm_at "m.te"
      case tt => simp; lia
      case s => wtm_at "m.te"
      case ss => show (σ.bk g != "object") = true; rw [D.kd]; exact bne_iff_ne.mpr hk
      case c => wtm_at "m.ev"
      case q => exact ⟨rfl, σ.tfa, R2⟩
theorem c_read2 (R : Rep α σ H) (D : Rd σ N g) (hg : g = 1 + nx σ N) (hn : 0 < N) (hw : 2 = nx (σ.w_at (σ.at_ + 1)) 3) (hc : σ.cells.length ≤ 60) (hk : σ.kd g = "object") (hs : σ.st g ≠ "live") :
    ∃ H', FnB (CX w mean mg mb) (n + 9) 289 [.obj (α .hand), .obj (α .hp), .obj (α .bk), .int N] H (.bool true) H' ∧ Rep α (σ.w_at (σ.at_ + 2)) H' := by
  obtain ⟨_, H1, F1, rfl, R1⟩ := c_next (n := n + 7) (w := w) (mean := mean) (mg := mg) (mb := mb) (b := N) R hn hc
  obtain ⟨_, H2, F2, rfl, R2⟩ := c_next (n := n + 7) (w := w) (mean := mean) (mg := mg) (mb := mb) (b := 3) R1 (by decide) hc
  have e1 : (1 : Int) + (nx σ N : Nat) = ((g : Nat) : Int) := by subst hg; push_cast; rfl
  rw [← hw] at F2
  have hl : σ.bs g ≠ "live" := by rw [← D.st]; exact hs
  refine fn_bw d_read rfl ?_
  refine' bw_swap (u := .int (g : Nat)) (u' := .int (2 : Nat)) (ev_is ?a ?aa) ?q (by k_dflt (intro _; rfl)) (by kernel_rfl) (by kernel_rfl) (by kernel_rfl) (by k_dflt (intro _; kernel_rfl))
  case a => wtm_at "m.ev"
  case aa => rw [← e1]
  case q =>
    clear F1 F2 R R1
    have gk : g ≤ σ.nk := by rw [D.nn.k]; exact D.gn
    have gs : g ≤ σ.ns := by rw [D.nn.s]; exact D.gn
    have gt : g ≤ σ.nt := by rw [D.nn.t]; exact D.gn
    have g1 := D.g1
    have R2 : Rep α (σ.w_at (σ.at_ + 2)) H2 := R2
    have F3 := e_unowned_read (n := n + 5) (w := w) (mean := mean) (mg := mg) (mb := mb) R2 g1 gt hs
    refine' bw_if_f0 (te_bools (tes_or_f (te_is ?t ?tt) (tes_or_f (te_is ?s ?ss) tes_or_n))) ?q
    case t => wtm_at "m.te"
    case tt => rfl
    case s => wtm_at "m.te"
    case ss => show (σ.bk g != "object") = false; rw [D.kd, hk]; decide +kernel
    case q =>
      refine' bw_asg (ev_is (v' := .bool false) (ev_cmp ?a ?b cmp_eq_str) ?aa) ?q (by kernel_rfl) (by k_dflt (intro _; kernel_rfl))
      case a => wtm_at "m.ev"
      case b => wtm_at "m.ev"
      case aa => show V.bool (σ.bs g == "live") = .bool false; rw [beq_eq_false_iff_ne.mpr hl]
      case q =>
        refine' bw_tryAs (P := Trp H2) (rv_iff (te_is ?t ?tt) ?r) (by k_dflt (intro _; kernel_rfl)) exTr g_Trap (by kernel_rfl) (by kernel_rfl) (by kernel_rfl) (by kernel_rfl) ?s
        case t => wtm_at "m.te"
        case tt => rfl
        case r =>
          refine' rv_meth ?o ?I ?no (by kernel_rfl) ?me (by kernel_rfl) (by kernel_rfl) ?a F3 (by kernel_rfl) (by k_dflt (intro _; rfl)) (by k_dflt (intro _; kernel_rfl)) (by k_dflt (intro _; kernel_rfl))
          case o => wtm_at "m.ev"
          case I => wtm_at "m.inst"
          case me => wtm_at "m.me"
          case no => wtm_at "m.fno"
          case a => wtm_at "m.eas"
        case s =>
          intro i d H' p
          obtain ⟨p1, p2, p3⟩ := p
          refine' x_return (ev_is (v' := .bool true) (ev_and_t (ev_is (v' := .bool true) (ev_cmp ?a ?b cmp_eq_int) ?e1) tr_bool (ev_and_t (ev_is (v' := .bool true) (ev_not (b := false) ?c tr_bool) ?e2) tr_bool (ev_and_1 (ev_cmp (ev_word (v := .str "unowned") ?w (Hp.set_here _ _ _) (p3 _) rfl exTr tr_ga tr_gn tr_hd tr_no (by k_dflt (intro _; kernel_rfl))) ?d2 cmp_eq_str)))) ?e3) ?q
          case a => wtm_at "m.ev"
          case b => wtm_at "m.ev"
          case c => wtm_at "m.ev"
          case w => wtm_at "m.ev"
          case d2 => wtm_at "m.ev"
          case e1 => rfl
          case e2 => rfl
          case e3 => exact congrArg V.bool (beq_iff_eq.mpr rfl)
          case q => exact ⟨rfl, R2.grew (p1.set p2 _)⟩
/-- a read, whatever is drawn -/
theorem c_read (R : Rep α σ H) (S : So σ N) (pos : ∀ i, 1 ≤ i → i ≤ N → σ.bs i = "live" → 1 ≤ σ.sg i) (hc : σ.cells.length ≤ 60) :
    ∃ H', FnB (CX w mean mg mb) (n + 9) 289 [.obj (α .hand), .obj (α .hp), .obj (α .bk), .int N] H (.bool true) H' ∧ ∃ t', Rep α ((σ.w_at (σ.at_ + 2)).w_tfa t') H' := by
  have h0 : 0 < N := S.n1
  have gl : 1 + nx σ N ≤ N := by have := nx_lt σ h0; lia
  have g1 : 1 ≤ 1 + nx σ N := by lia
  have D : Rd σ N (1 + nx σ N) := ⟨g1, gl, S.nn, S.st _ g1 gl, S.kd, S.sg _ g1 gl, S.hdl _ g1 gl, by rw [S.dy]; exact S.dyl, pos _ g1 gl, by rw [S.fl _ g1 gl]; exact S.rwl _ g1 gl, fun p hp => by
    rw [S.fl _ g1 gl] at hp
    exact ⟨(S.rwo _ g1 gl p hp).1, (S.rwo _ g1 gl p hp).2.1⟩⟩
  by_cases q : nx (σ.w_at (σ.at_ + 1)) 3 = 2 ∧ σ.kd (1 + nx σ N) = "object" ∧ σ.st (1 + nx σ N) ≠ "live"
  · obtain ⟨H', F, R'⟩ := c_read2 (n := n) (w := w) (mean := mean) (mg := mg) (mb := mb) R D rfl h0 q.1.symm hc q.2.1 q.2.2
    exact ⟨H', F, σ.tfa, R'⟩
  · obtain ⟨_, H', F, rfl, t', R'⟩ := c_read1 (n := n) (w := w) (mean := mean) (mg := mg) (mb := mb) R D rfl h0 rfl hc q
    exact ⟨H', F.toB, t', R'⟩
end
end

section
set_option maxRecDepth 100000
set_option maxHeartbeats 0
section
variable {n : Nat} {w : World} {mean : ExcName → Option Value} {mg mb : Str → Option Value} {α : Rl → Nat} {σ : St} {H : Hp} {i : Nat} {fr : FrS} {l : Loc} {N g way : Nat}
theorem c_copied (R : Rep α σ H) (g1 : 1 ≤ g) (gt : g ≤ σ.nt) (hs : σ.st g ≠ "gone") :
    ∃ v H', Fn (CX w mean mg mb) (n + 5) 178 [.obj (α .hp), linkV σ.kd ("strong", g)] H v H' ∧ v = linkV σ.kd ("strong", g) ∧ Rep α (σ.w_sg (upd σ.sg g (σ.sg g + 1))) H' := by
  obtain ⟨_, H1, F1, a, rfl, a1, a2, ha, G⟩ := c_counted (n := n) (w := w) (mean := mean) (mg := mg) (mb := mb) (H := H) (kd := σ.kd) (p := ("strong", g)) (.inl rfl) g1
  have R1 := R.grew G
  have R2 := (R1.push a2 ha fun r hr => Nat.ne_of_lt (Nat.lt_of_lt_of_le (R.lt r hr) a1)).tmp' (.iter a 0)
  have R2 : Rep α (σ.w_tmp (σ.tmp ++ [(a, .list [rowV ("strong", g)]), (H1.n, .iter a 0)])) (H1.new (.iter a 0)) := by
    have : (σ.tmp ++ [(a, O.list [rowV ("strong", g)])]) ++ [(H1.n, O.iter a 0)] = σ.tmp ++ [(a, O.list [rowV ("strong", g)]), (H1.n, O.iter a 0)] := by simp
    rw [← this]; exact R2
  generalize hv : linkV σ.kd ("strong", g) = lv at F1 ⊢
  refine fn_x d_h_copied rfl ?_
  have l1 : bindV ["self", "value"] [V.obj (α .hp), lv] "self" = some (.obj (α .hp)) := by wtm_at "m.loc"
  have l2 : bindV ["self", "value"] [V.obj (α .hp), lv] "value" = some lv := by wtm_at "m.loc"
  generalize bindV ["self", "value"] [V.obj (α .hp), lv] = l at l1 l2 ⊢
  refine' x_for_pair (fun j H l => Rep α ((σ.w_sg (if j = 0 then σ.sg else upd σ.sg g (σ.sg g + 1))).w_tmp (σ.tmp ++ [(a, .list [rowV ("strong", g)]), (H1.n, .iter a j)])) H ∧ l "self" = some (.obj (α .hp)) ∧ l "value" = some lv) ?he ha ?start ?hI ?hp ?step ?stop (by kernel_rfl) (by kernel_rfl) (by kernel_rfl) (by k_dflt (intro _ _; kernel_rfl))
  case he => wtm_at "m.ev"
  case start => exact ⟨R2, l1, l2⟩
  case hI =>
    rintro j H l ⟨R, _⟩
    exact ⟨(R.at2 rfl).1, (R.at1 rfl).1⟩
  case hp =>
    intro v hv
    rcases List.mem_singleton.mp hv with rfl
    exact ⟨_, _, rfl⟩
  case step =>
    rintro j x y H l hv ⟨R, l1, l2⟩
    cases j with
    | succ j => simp at hv
    | zero =>
      have R : Rep α (σ.w_tmp (σ.tmp ++ [(a, .list [rowV ("strong", g)]), (H1.n, .iter a 0)])) H := R
      have hv : rowV ("strong", g) = .tup [x, y] := by simpa using hv
      unfold rowV at hv
      cases hv
      have Ra : Rep α (σ.w_tmp (σ.tmp ++ [(a, .list [rowV ("strong", g)]), (H1.n, .iter a (0 + 1))])) (H.set H1.n (.iter a (0 + 1))) := R.put2 rfl (.iter a (0 + 1))
      generalize H.set H1.n _ = Ha at Ra ⊢
      obtain ⟨_, Hb, F2, rfl, Rb⟩ := c_retain (n := n + 2) (w := w) (mean := mean) (mg := mg) (mb := mb) Ra g1 gt hs
      refine' x_if_t (te_is ?t ?tt) ?q
      case t => wtm_at "m.te"
      case tt => exact beq_iff_eq.mpr rfl
      case q =>
        ((first | with_reducible refine' x_expr ?za1 ?zq1 (by wtm_at "k") | refine' x_expr ?za1 ?zq1 (by wtm_at "k")); (case za1 => wtm_at "m.ev"))
        refine' x_nil (x_nil ⟨Rb, by wtm_at "m.loc", by wtm_at "m.loc"⟩)
  case stop =>
    rintro H l ⟨R, l1, l2⟩
    have R : Rep α ((σ.w_sg (upd σ.sg g (σ.sg g + 1))).w_tmp (σ.tmp ++ [(a, .list [rowV ("strong", g)]), (H1.n, .iter a 1)])) H := R
    have Ra : Rep α ((σ.w_sg (upd σ.sg g (σ.sg g + 1))).w_tmp (σ.tmp ++ [(a, .list [rowV ("strong", g)]), (H1.n, .junk)])) (H.set H1.n .junk) := R.put2 rfl .junk
    generalize H.set H1.n _ = Ha at Ra ⊢
    ((first | with_reducible refine' x_return ?za2 ?zq2 | refine' x_return ?za2 ?zq2); (case za2 => wtm_at "m.ev"))
    exact ⟨rfl, Ra.pop (pre := σ.tmp) rfl⟩
/-- a link drawn: the counts -/
noncomputable def layM (σ : St) (o : Nat) (way : Str) (g : Nat) : St :=
  { σ with
    hd := if way = "strong" then upd σ.hd g (σ.hd g ++ [.int o]) else σ.hd
    sg := if way = "strong" then upd σ.sg g (σ.sg g + 1) else σ.sg
    bw := if way = "weak" then upd σ.bw g (σ.bw g + 1) else σ.bw
    wk := if way = "weak" then upd σ.wk g (σ.wk g + 1) else σ.wk
    bu := if way = "unowned" then upd σ.bu g (σ.bu g + 1) else σ.bu
    un := if way = "unowned" then upd σ.un g (σ.un g + 1) else σ.un }
/-- a link drawn -/
noncomputable def layS (σ : St) (o : Nat) (way : Str) (g : Nat) : St := { layM σ o way g with rw := upd σ.rw o (σ.rw o ++ [(way, g)]), fl := upd σ.fl o (σ.fl o ++ [(way, g)]) }
theorem st_nw : ¬ (("strong" : Str) = "weak") := by decide +kernel
theorem st_nu : ¬ (("strong" : Str) = "unowned") := by decide +kernel
theorem wk_nu : ¬ (("weak" : Str) = "unowned") := by decide +kernel
theorem layM_s : layM σ i "strong" g = (σ.w_hd (upd σ.hd g (σ.hd g ++ [.int i]))).w_sg (upd σ.sg g (σ.sg g + 1)) := by
  unfold layM; rw [if_pos rfl, if_pos rfl, if_neg st_nw, if_neg st_nw, if_neg st_nu, if_neg st_nu]
theorem layM_w : layM σ i "weak" g = (σ.w_bw (upd σ.bw g (σ.bw g + 1))).w_wk (upd σ.wk g (σ.wk g + 1)) := by
  unfold layM; rw [if_neg weak_ne, if_neg weak_ne, if_pos rfl, if_pos rfl, if_neg wk_nu, if_neg wk_nu]
theorem layM_u : layM σ i "unowned" g = (σ.w_bu (upd σ.bu g (σ.bu g + 1))).w_un (upd σ.un g (σ.un g + 1)) := by
  unfold layM; rw [if_neg unow_ne, if_neg unow_ne, if_neg unow_nw, if_neg unow_nw, if_pos rfl, if_pos rfl]
theorem x_if_join {c : Cx} {t : Expr} {a b ts : List Stmt} {pos : Pos} {J : Hp → Loc → Prop} {Q : Fl → Hp → Loc → Prop} (h : ∃ r H₁, Te c n fr t H l r H₁ ∧ ExsW c n fr (if r then a else b) H₁ l (fun f H' l' => f = .next ∧ J H' l')) (k : ∀ H' l', J H' l' → ExsW c n fr ts H' l' Q) :
    ExsW c n fr (.If t a b pos :: ts) H l Q := by
  obtain ⟨r, H₁, h1, f, H', l', h2, rfl, h3⟩ := h
  obtain ⟨f₂, H₂, l₂, h4, h5⟩ := k _ _ h3
  exact ⟨f₂, H₂, l₂, exs_cons (ex_if h1 h2) h4, h5⟩
theorem c_lay (R : Rep α σ H) (hN : SameN σ N) (hk : σ.bk = σ.kd) {o : Nat} {way : Str} (o1 : 1 ≤ o) (oN : o ≤ N) (g1 : 1 ≤ g) (gN : g ≤ N) (hw : wayOk way) (so : σ.st o ≠ "gone") (sg : σ.st g ≠ "gone") (hl : (σ.hd g).length ≤ 90) (rl : (σ.rw o).length ≤ 90) (fl : (σ.fl o).length ≤ 90) :
    ∃ v H', Fn (CX w mean mg mb) (n + 7) 263 [.obj (α .hp), .obj (α .bk), .int o, .str way, .int g] H v H' ∧ v = .none ∧ Rep α (layS σ o way g) H' := by
  have gk : g ≤ σ.nk := by rw [hN.k]; exact gN
  have gh : g ≤ σ.nh := by rw [hN.h]; exact gN
  have gw : g ≤ σ.nw := by rw [hN.w]; exact gN
  have gu : g ≤ σ.nu := by rw [hN.u]; exact gN
  have gt : g ≤ σ.nt := by rw [hN.t]; exact gN
  have ot : o ≤ σ.nt := by rw [hN.t]; exact oN
  have or : o ≤ σ.nr := by rw [hN.r]; exact oN
  have z1 : σ.nw ≤ 10 := hN.w ▸ hN.le
  have z2 : σ.nu ≤ 10 := hN.u ▸ hN.le
  refine fn_x d_lay rfl ?_
  refine' x_if_join (J := fun H l => Rep α (layM σ o way g) H ∧ l "heap" = some (.obj (α .hp)) ∧ l "book" = some (.obj (α .bk)) ∧ l "holder" = some (.int o) ∧ l "way" = some (.str way) ∧ l "goal" = some (.int g) ∧ l "fresh" = some (linkV σ.kd (way, g))) ?h ?k
  case h =>
    rcases hw with hw | hw | hw
    · have hw : way = "strong" := hw
      subst hw
      refine' ⟨true, _, te_is ?t ?tt, ?q⟩
      case t => wtm_at "m.te"
      case tt => exact beq_iff_eq.mpr rfl
      case q =>
        have R1 := R.set_hd g1 gh (σ.hd g ++ [.int o]) rfl
        generalize e1 : H.set (α (.hl g)) (.list (σ.hd g ++ [.int o])) = H1 at R1
        obtain ⟨_, H2, F1, e2, G1⟩ := c_link (n := n + 5) (w := w) (mean := mean) (mg := mg) (mb := mb) R1 (p := ("strong", g)) g1 gk
        have e2 : _ = linkV σ.bk ("strong", g) := e2
        rw [hk] at e2
        subst e2
        have R2 := R1.grew G1
        obtain ⟨_, H3, F2, rfl, R3⟩ := c_copied (n := n + 1) (w := w) (mean := mean) (mg := mg) (mb := mb) R2 g1 gt sg
        show ExsW _ _ _ (_ :: _ :: []) _ _ _
        refine' x_expr ?a ?q (by k_dflt (intro _; kernel_rfl))
        case a => wtm_at "m.ev"
        case q =>
          rw [e1]
          ((first | with_reducible refine' x_assign ?za3 ?zq3 (by kernel_rfl) (by wtm_at "k") | refine' x_assign ?za3 ?zq3 (by kernel_rfl) (by wtm_at "k")); (case za3 => wtm_at "m.ev"))
          refine' x_nil ⟨rfl, ?_, by wtm_at "m.loc", by wtm_at "m.loc", by wtm_at "m.loc", by wtm_at "m.loc", by wtm_at "m.loc", loc_here⟩
          rw [layM_s]; exact R3
    · have hw : way = "weak" := hw
      subst hw
      refine' ⟨false, _, te_is ?t ?tt, ?q⟩
      case t => wtm_at "m.te"
      case tt => exact beq_eq_false_iff_ne.mpr weak_ne
      case q =>
        show ExsW _ _ _ (_ :: _ :: []) _ _ _
        ((first | with_reducible refine' x_setitem ?za4 ?zb4 ?zc4 ?zs4 ?zq4 (by wtm_at "k") | refine' x_setitem ?za4 ?zb4 ?zc4 ?zs4 ?zq4 (by wtm_at "k")); (case za4 => wtm_at "m.ev"); (case zb4 => wtm_at "m.ev"); (case zc4 => wtm_at "m.ev"); (case zs4 => wtm_at "m.set"))
        generalize hH : H.set (α .weak) _ = H1
        have R1 : Rep α (σ.w_bw (upd σ.bw g (σ.bw g + 1))) H1 := by rw [← hH]; exact R.set_bw g1 gw (σ.bw g + 1) rfl
        obtain ⟨_, H3, F2, rfl, R3⟩ := c_weak_to (n := n + 5) (w := w) (mean := mean) (mg := mg) (mb := mb) R1 g1 gt
        refine' x_assign (ev_ift (te_is ?t ?tt) ?a) ?q (by kernel_rfl) (by k_dflt (intro _; kernel_rfl))
        case t => wtm_at "m.te"
        case tt => exact beq_iff_eq.mpr rfl
        case a => wtm_at "m.ev"
        case q =>
          refine' x_nil ⟨rfl, ?_, by wtm_at "m.loc", by wtm_at "m.loc", by wtm_at "m.loc", by wtm_at "m.loc", by wtm_at "m.loc", ?_⟩
          · rw [layM_w]; exact R3
          · have : linkV σ.kd ("weak", g) = .tup [.str "weak", .int g] := by unfold linkV; rw [if_neg weak_ne]
            rw [this]; exact loc_here
    · have hw : way = "unowned" := hw
      subst hw
      refine' ⟨false, _, te_is ?t ?tt, ?q⟩
      case t => wtm_at "m.te"
      case tt => exact beq_eq_false_iff_ne.mpr unow_ne
      case q =>
        show ExsW _ _ _ (_ :: _ :: []) _ _ _
        ((first | with_reducible refine' x_setitem ?za5 ?zb5 ?zc5 ?zs5 ?zq5 (by wtm_at "k") | refine' x_setitem ?za5 ?zb5 ?zc5 ?zs5 ?zq5 (by wtm_at "k")); (case za5 => wtm_at "m.ev"); (case zb5 => wtm_at "m.ev"); (case zc5 => wtm_at "m.ev"); (case zs5 => wtm_at "m.set"))
        generalize hH : H.set (α .unow) _ = H1
        have R1 : Rep α (σ.w_bu (upd σ.bu g (σ.bu g + 1))) H1 := by rw [← hH]; exact R.set_bu g1 gu (σ.bu g + 1) rfl
        obtain ⟨_, H3, F2, rfl, R3⟩ := c_unowned_to (n := n + 4) (w := w) (mean := mean) (mg := mg) (mb := mb) R1 g1 gt sg
        refine' x_assign (ev_iff (te_is ?t ?tt) ?a) ?q (by kernel_rfl) (by k_dflt (intro _; kernel_rfl))
        case t => wtm_at "m.te"
        case tt => exact beq_eq_false_iff_ne.mpr unow_nw
        case a => wtm_at "m.ev"
        case q =>
          refine' x_nil ⟨rfl, ?_, by wtm_at "m.loc", by wtm_at "m.loc", by wtm_at "m.loc", by wtm_at "m.loc", by wtm_at "m.loc", ?_⟩
          · rw [layM_u]; exact R3
          · have : linkV σ.kd ("unowned", g) = .tup [.str "unowned", .int g] := by unfold linkV; rw [if_neg unow_ne]
            rw [this]; exact loc_here
  case k =>
    rintro H l ⟨R, l1, l2, l3, l4, l5, l6⟩
    have hres : ∀ {H}, Rep α (((layM σ o way g).w_rw (upd (layM σ o way g).rw o ((layM σ o way g).rw o ++ [(way, g)]))).w_fl (upd (layM σ o way g).fl o ((layM σ o way g).fl o ++ [(way, g)]))) H → Rep α (layS σ o way g) H := fun h => h
    have or' : o ≤ (layM σ o way g).nr := or
    have ot' : o ≤ (layM σ o way g).nt := ot
    have so' : (layM σ o way g).st o ≠ "gone" := so
    have rl' : (((layM σ o way g).rw o).map rowV).length ≤ 90 := by rw [List.length_map]; exact rl
    have fl' : (((layM σ o way g).fl o).map (linkV (layM σ o way g).kd)).length ≤ 90 := by rw [List.length_map]; exact fl
    have l6 : l "fresh" = some (linkV (layM σ o way g).kd (way, g)) := l6
    generalize layM σ o way g = τ at R hres or' ot' so' rl' fl' l6
    have q1 : H.o (τ.rla o) = .list ((τ.rw o).map rowV) := R.o (.rl o) ⟨o1, or'⟩
    refine' x_expr ?a ?q (by k_dflt (intro _; kernel_rfl))
    case a => wtm_at "m.ev"
    case q =>
      have R1 : Rep α (τ.w_rw (upd τ.rw o (τ.rw o ++ [(way, g)]))) (H.set (τ.rla o) (.list ((τ.rw o).map rowV ++ [.tup [.str way, .int g]]))) := R.set_rw o1 or' (τ.rw o ++ [(way, g)]) (by rw [List.map_append]; rfl)
      generalize H.set (τ.rla o) _ = H1 at R1 ⊢
      have q2 : H1.o (τ.tfa o) = .list ((τ.fl o).map (linkV τ.kd)) := R1.o (.tf o) ⟨o1, ot'⟩
      have F := c_thing (n := n + 5) (w := w) (mean := mean) (mg := mg) (mb := mb) R1 o1 ot' so'
      refine' x_expr ?a ?q (by k_dflt (intro _; kernel_rfl))
      case a => wtm_at "m.ev"
      case q =>
        refine' x_nil ⟨rfl, hres ?_⟩
        exact R1.set_fl o1 ot' (τ.fl o ++ [(way, g)]) (by rw [List.map_append]; rfl)
end
end

section
set_option maxRecDepth 100000
set_option maxHeartbeats 0
section
variable {n : Nat} {w : World} {mean : ExcName → Option Value} {mg mb : Str → Option Value} {α : Rl → Nat} {σ : St} {H : Hp} {i d : Nat} {fr : FrS} {l : Loc} {N g way : Nat}
/-- an object's dict alone is changed -/
structure IS (H₀ H : Hp) (C : Addr) (i d : Nat) (fs : List (Str × V)) : Prop where
  I : Inst H i C d fs
  n : H.n = H₀.n
  old : ∀ b, b ≠ d → H.o b = H₀.o b
theorem IS.put {H₀ : Hp} {C : Addr} {fs gs : List (Str × V)} (s : IS H₀ H C i d fs) (h : i ≠ d) : IS H₀ (H.set d (.attrs gs)) C i d gs :=
  ⟨⟨(Hp.set_old _ _ _ h).trans s.I.i, Hp.set_here _ _ _⟩, s.n, fun b hb => (Hp.set_old _ _ _ hb).trans (s.old b hb)⟩
theorem c_thingI {k nm : Str} {f : Nat} (I : Inst H i cThing d []) (h : i ≠ d) : ∃ v H', Fn (CX w mean mg mb) (n + 1) 94 [.obj i, .str k, .str nm, .obj f] H v H' ∧ v = .none ∧
    IS H H' cThing i d [("kind", .str k), ("name", .str nm), ("fields", .obj f), ("strong", .int 1), ("weak", .int 0), ("unowned", .int 0), ("state", .str "live")] := by
  refine fn_x d_thingI rfl ?_
  have s0 : IS H H cThing i d [] := ⟨I, rfl, fun _ _ => rfl⟩
  ((first | with_reducible refine' x_setattr ?za1 ?zb1 ?zI1 ?zP1 (by kernel_rfl) ?zz1 ?zq1 (by wtm_at "k") | refine' x_setattr ?za1 ?zb1 ?zI1 ?zP1 (by kernel_rfl) ?zz1 ?zq1 (by wtm_at "k")); (case za1 => wtm_at "m.ev"); (case zb1 => wtm_at "m.ev"); (case zI1 => wtm_at "m.inst"); (case zP1 => wtm_at "m.plain"); (case zz1 => wtm_at "z"))
  have s1 := s0.put (gs := fput [] "kind" (.str k)) h
  have I1 := s1.I
  generalize H.set d _ = H1 at s1 I1 ⊢
  ((first | with_reducible refine' x_setattr ?za2 ?zb2 ?zI2 ?zP2 (by kernel_rfl) ?zz2 ?zq2 (by wtm_at "k") | refine' x_setattr ?za2 ?zb2 ?zI2 ?zP2 (by kernel_rfl) ?zz2 ?zq2 (by wtm_at "k")); (case za2 => wtm_at "m.ev"); (case zb2 => wtm_at "m.ev"); (case zI2 => wtm_at "m.inst"); (case zP2 => wtm_at "m.plain"); (case zz2 => wtm_at "z"))
  have s2 := s1.put (gs := fput (fput [] "kind" (.str k)) "name" (.str nm)) h
  have I2 := s2.I
  generalize H1.set d _ = H2 at s2 I2 ⊢
  ((first | with_reducible refine' x_setattr ?za3 ?zb3 ?zI3 ?zP3 (by kernel_rfl) ?zz3 ?zq3 (by wtm_at "k") | refine' x_setattr ?za3 ?zb3 ?zI3 ?zP3 (by kernel_rfl) ?zz3 ?zq3 (by wtm_at "k")); (case za3 => wtm_at "m.ev"); (case zb3 => wtm_at "m.ev"); (case zI3 => wtm_at "m.inst"); (case zP3 => wtm_at "m.plain"); (case zz3 => wtm_at "z"))
  have s3 := s2.put (gs := fput (fput (fput [] "kind" (.str k)) "name" (.str nm)) "fields" (.obj f)) h
  have I3 := s3.I
  generalize H2.set d _ = H3 at s3 I3 ⊢
  ((first | with_reducible refine' x_setattr ?za4 ?zb4 ?zI4 ?zP4 (by kernel_rfl) ?zz4 ?zq4 (by wtm_at "k") | refine' x_setattr ?za4 ?zb4 ?zI4 ?zP4 (by kernel_rfl) ?zz4 ?zq4 (by wtm_at "k")); (case za4 => wtm_at "m.ev"); (case zb4 => wtm_at "m.ev"); (case zI4 => wtm_at "m.inst"); (case zP4 => wtm_at "m.plain"); (case zz4 => wtm_at "z"))
  have s4 := s3.put (gs := fput (fput (fput (fput [] "kind" (.str k)) "name" (.str nm)) "fields" (.obj f)) "strong" (.int 1)) h
  have I4 := s4.I
  generalize H3.set d _ = H4 at s4 I4 ⊢
  ((first | with_reducible refine' x_setattr ?za5 ?zb5 ?zI5 ?zP5 (by kernel_rfl) ?zz5 ?zq5 (by wtm_at "k") | refine' x_setattr ?za5 ?zb5 ?zI5 ?zP5 (by kernel_rfl) ?zz5 ?zq5 (by wtm_at "k")); (case za5 => wtm_at "m.ev"); (case zb5 => wtm_at "m.ev"); (case zI5 => wtm_at "m.inst"); (case zP5 => wtm_at "m.plain"); (case zz5 => wtm_at "z"))
  have s5 := s4.put (gs := fput (fput (fput (fput (fput [] "kind" (.str k)) "name" (.str nm)) "fields" (.obj f)) "strong" (.int 1)) "weak" (.int 0)) h
  have I5 := s5.I
  generalize H4.set d _ = H5 at s5 I5 ⊢
  ((first | with_reducible refine' x_setattr ?za6 ?zb6 ?zI6 ?zP6 (by kernel_rfl) ?zz6 ?zq6 (by wtm_at "k") | refine' x_setattr ?za6 ?zb6 ?zI6 ?zP6 (by kernel_rfl) ?zz6 ?zq6 (by wtm_at "k")); (case za6 => wtm_at "m.ev"); (case zb6 => wtm_at "m.ev"); (case zI6 => wtm_at "m.inst"); (case zP6 => wtm_at "m.plain"); (case zz6 => wtm_at "z"))
  have s6 := s5.put (gs := fput (fput (fput (fput (fput (fput [] "kind" (.str k)) "name" (.str nm)) "fields" (.obj f)) "strong" (.int 1)) "weak" (.int 0)) "unowned" (.int 0)) h
  have I6 := s6.I
  generalize H5.set d _ = H6 at s6 I6 ⊢
  ((first | with_reducible refine' x_setattr ?za7 ?zb7 ?zI7 ?zP7 (by kernel_rfl) ?zz7 ?zq7 (by wtm_at "k") | refine' x_setattr ?za7 ?zb7 ?zI7 ?zP7 (by kernel_rfl) ?zz7 ?zq7 (by wtm_at "k")); (case za7 => wtm_at "m.ev"); (case zb7 => wtm_at "m.ev"); (case zI7 => wtm_at "m.inst"); (case zP7 => wtm_at "m.plain"); (case zz7 => wtm_at "z"))
  have s7 := s6.put (gs := fput (fput (fput (fput (fput (fput (fput [] "kind" (.str k)) "name" (.str nm)) "fields" (.obj f)) "strong" (.int 1)) "weak" (.int 0)) "unowned" (.int 0)) "state" (.str "live")) h
  exact x_nil ⟨rfl, s7⟩
/-- what the making of the heap leaves -/
structure HeapH (H H' : Hp) (d : Nat) : Prop where
  n : H'.n = H.n + 2
  things : H'.o H.n = .idict []
  dying : H'.o (H.n + 1) = .list []
  at_ : H'.o d = .attrs [("things", .obj H.n), ("last", .int 0), ("dying", .obj (H.n + 1))]
  old : ∀ b, b < H.n → b ≠ d → H'.o b = H.o b
theorem c_heapI (I : Inst H i cHeap d []) (h : i ≠ d) (hd : d < H.n) (hi : i < H.n) : ∃ v H', Fn (CX w mean mg mb) (n + 1) 115 [.obj i] H v H' ∧ v = .none ∧ HeapH H H' d := by
  refine fn_x d_heapI rfl ?_
  have I0 : Inst (H.new (.idict [])) i cHeap d [] := ⟨(Hp.new_old _ _ (by lia)).trans I.i, (Hp.new_old _ _ (by lia)).trans I.d⟩
  have s0 : IS (H.new (.idict [])) (H.new (.idict [])) cHeap i d [] := ⟨I0, rfl, fun _ _ => rfl⟩
  refine' x_setattr ev_dict0 ?b I0 ?P (by kernel_rfl) ?z ?q (by k_dflt (intro _; kernel_rfl))
  case b => wtm_at "m.ev"
  case P => wtm_at "m.plain"
  case z => k_dflt (exact Nat.le_of_ble_eq_true (by kernel_rfl))
  case q =>
    have s1 := s0.put (gs := fput [] "things" (.obj H.n)) h
    have I1 := s1.I
    have t0 : (H.new (.idict [])).o H.n = .idict [] := Hp.new_here _ _
    have o0 : ∀ b, b < H.n → (H.new (.idict [])).o b = H.o b := fun b hb => Hp.new_old _ _ (by lia)
    have n0 : (H.new (.idict [])).n = H.n + 1 := rfl
    generalize H.new (.idict []) = H0 at s1 I1 t0 o0 n0 ⊢
    generalize H0.set d _ = H1 at s1 I1 ⊢
    ((first | with_reducible refine' x_setattr ?za8 ?zb8 ?zI8 ?zP8 (by kernel_rfl) ?zz8 ?zq8 (by wtm_at "k") | refine' x_setattr ?za8 ?zb8 ?zI8 ?zP8 (by kernel_rfl) ?zz8 ?zq8 (by wtm_at "k")); (case za8 => wtm_at "m.ev"); (case zb8 => wtm_at "m.ev"); (case zI8 => wtm_at "m.inst"); (case zP8 => wtm_at "m.plain"); (case zz8 => wtm_at "z"))
    have s2 := s1.put (gs := fput (fput [] "things" (.obj H.n)) "last" (.int 0)) h
    have I2 := s2.I
    generalize H1.set d _ = H2 at s2 I2 ⊢
    have hn2 : H2.n = H.n + 1 := s2.n.trans n0
    have I3 : Inst (H2.new (.list [])) i cHeap d (fput (fput [] "things" (.obj H.n)) "last" (.int 0)) := ⟨(Hp.new_old _ _ (by lia)).trans I2.i, (Hp.new_old _ _ (by lia)).trans I2.d⟩
    ((first | with_reducible refine' x_setattr ?za9 ?zb9 ?zI9 ?zP9 (by kernel_rfl) ?zz9 ?zq9 (by wtm_at "k") | refine' x_setattr ?za9 ?zb9 ?zI9 ?zP9 (by kernel_rfl) ?zz9 ?zq9 (by wtm_at "k")); (case za9 => wtm_at "m.ev"); (case zb9 => wtm_at "m.ev"); (case zI9 => wtm_at "m.inst"); (case zP9 => wtm_at "m.plain"); (case zz9 => wtm_at "z"))
    refine x_nil ⟨rfl, by show H2.n + 1 = _; rw [hn2], ?_, ?_, ?_, fun b hb hbd => ?_⟩
    · rw [Hp.set_old _ _ _ (by lia), Hp.new_old _ _ (by lia), s2.old _ (by lia)]; exact t0
    · rw [Hp.set_old _ _ _ (by lia), ← hn2]; exact Hp.new_here _ _
    · rw [Hp.set_here, ← hn2]; rfl
    · rw [Hp.set_old _ _ _ hbd, Hp.new_old _ _ (by lia), s2.old _ hbd]; exact o0 b hb
theorem mk_Thing {P : Params} : makesIn (K P) cThing = true := by kernel_rfl
theorem mk_Heap {P : Params} : makesIn (K P) cHeap = true := by kernel_rfl
theorem in_Thing {P : Params} : findIn (K P) (.ref cThing) "__init__" = some (some (.ref 94)) := by kernel_rfl
theorem in_Heap {P : Params} : findIn (K P) (.ref cHeap) "__init__" = some (some (.ref 115)) := by kernel_rfl
theorem if_94 {P : Params} : isFn (K P) (.ref 94) = true := by kernel_rfl
theorem if_115 {P : Params} : isFn (K P) (.ref 115) = true := by kernel_rfl
theorem gl_Thing {P : Params} : nsIn (K P) mainGlobals "Thing" = some (some (.ref cThing)) := by kernel_rfl
theorem gl_Heap {P : Params} : nsIn (K P) mainGlobals "Heap" = some (some (.ref cHeap)) := by kernel_rfl
theorem kp_Thing {P : Params} : keepIn (K P) (.ref cThing) = true := by kernel_rfl
theorem kp_Heap {P : Params} : keepIn (K P) (.ref cHeap) = true := by kernel_rfl
theorem c_made (R : Rep α σ H) {k : Str} {f : Nat} (hf : H.o f = .list []) (hz : σ.nt ≤ 100) :
    ∃ v H', Fn (CX w mean mg mb) (n + 3) 122 [.obj (α .hp), .str k, .str (nameOf (σ.nt + 1)), .obj f] H v H' ∧ v = .int ((σ.nt + 1 : Nat) : Int) ∧ MadeH α σ H H' k := by
  have n1 : α .hpd < H.n := R.lt .hpd trivial
  have n2 : α .things < H.n := R.lt .things trivial
  have n3 : α .hp < H.n := R.lt .hp trivial
  have d1 : α .things ≠ α .hpd := fun e => by have := R.inj .things .hpd trivial trivial e; cases this
  have d2 : α .hp ≠ α .hpd := fun e => by have := R.inj .hp .hpd trivial trivial e; cases this
  have d3 : α .hp ≠ α .things := fun e => by have := R.inj .hp .things trivial trivial e; cases this
  have at1 := R.at_hp
  have at2 := R.at_things
  have hfd : f ≠ α .hpd := fun e => by rw [e, at1.d] at hf; cases hf
  refine fn_x d_h_made rfl ?_
  refine' x_setattr (ev_is (v' := .int ((σ.nt + 1 : Nat) : Int)) ?a ?aa) ?b at1 ?P (by kernel_rfl) ?z ?q (by k_dflt (intro _; kernel_rfl))
  case a => wtm_at "m.ev"
  case aa => push_cast; rfl
  case b => wtm_at "m.ev"
  case P => wtm_at "m.plain"
  case z => k_dflt (exact Nat.le_of_ble_eq_true (by kernel_rfl))
  case q =>
    have I1 : Inst (H.set (α .hpd) (.attrs (fput [("things", .obj (α .things)), ("last", .int σ.nt), ("dying", .obj (α .hdy))] "last" (.int ((σ.nt + 1 : Nat) : Int))))) (α .hp) cHeap (α .hpd) [("things", .obj (α .things)), ("last", .int ((σ.nt + 1 : Nat) : Int)), ("dying", .obj (α .hdy))] :=
      at1.put d2 (by kernel_rfl)
    have t1 : (H.set (α .hpd) (.attrs (fput [("things", .obj (α .things)), ("last", .int σ.nt), ("dying", .obj (α .hdy))] "last" (.int ((σ.nt + 1 : Nat) : Int))))).o (α .things) = .idict (tab σ.nt fun i => .obj (α (.ti i))) := (Hp.set_old _ _ _ d1).trans at2
    have f1 : (H.set (α .hpd) (.attrs (fput [("things", .obj (α .things)), ("last", .int σ.nt), ("dying", .obj (α .hdy))] "last" (.int ((σ.nt + 1 : Nat) : Int))))).o f = .list [] := (Hp.set_old _ _ _ hfd).trans hf
    have m1 : (H.set (α .hpd) (.attrs (fput [("things", .obj (α .things)), ("last", .int σ.nt), ("dying", .obj (α .hdy))] "last" (.int ((σ.nt + 1 : Nat) : Int))))).n = H.n := rfl
    have o1 : ∀ b, b ≠ α .hpd → (H.set (α .hpd) (.attrs (fput [("things", .obj (α .things)), ("last", .int σ.nt), ("dying", .obj (α .hdy))] "last" (.int ((σ.nt + 1 : Nat) : Int))))).o b = H.o b := fun b hb => Hp.set_old _ _ _ hb
    generalize H.set (α .hpd) _ = H1 at I1 t1 f1 m1 o1 ⊢
    have It : Inst ((((H1.new (.list [])).new (.attrs [])).new (.inst cThing (H1.n + 1)))) (H1.n + 2) cThing (H1.n + 1) [] := ⟨Hp.new_here _ _, (Hp.new_old _ _ (by show H1.n + 1 ≠ H1.n + 1 + 1; lia)).trans (Hp.new_here (H1.new (.list [])) (.attrs []))⟩
    obtain ⟨_, H3, F, rfl, s⟩ := c_thingI (n := n) (w := w) (mean := mean) (mg := mg) (mb := mb) (k := k) (nm := nameOf (σ.nt + 1)) (f := H1.n) It (by lia)
    have old3 : ∀ b, b < H1.n + 1 → H3.o b = (H1.new (.list [])).o b := fun b hb => by
      rw [s.old b (by lia), Hp.new_old _ _ (by show b ≠ H1.n + 1 + 1; lia), Hp.new_old _ _ (by show b ≠ H1.n + 1; lia)]
    have I3 : Inst H3 (α .hp) cHeap (α .hpd) [("things", .obj (α .things)), ("last", .int ((σ.nt + 1 : Nat) : Int)), ("dying", .obj (α .hdy))] := ⟨by rw [old3 _ (by lia), Hp.new_old _ _ (by lia)]; exact I1.i, by rw [old3 _ (by lia), Hp.new_old _ _ (by lia)]; exact I1.d⟩
    have t3 : H3.o (α .things) = .idict (tab σ.nt fun i => .obj (α (.ti i))) := by rw [old3 _ (by lia), Hp.new_old _ _ (by lia)]; exact t1
    refine' x_setitem (v := .obj (H1.n + 2)) (ev_call_st (H₂ := H1.new (.list [])) ?f ?a kp_Thing (fn_init mk_Thing in_Thing if_94 (by kernel_rfl) F) (he := by k_dflt (intro _; kernel_rfl)) (h1 := by k_dflt (intro _; kernel_rfl)) (h2 := by k_dflt (intro _; kernel_rfl))) ?o ?i (set_idict t3 ?z) ?q (by k_dflt (intro _; kernel_rfl))
    case f => exact ev_glob gl_Thing (by kernel_rfl) (by kernel_rfl)
    case a => wtm_at "m.eas"
    case o => wtm_at "m.ev"
    case i => wtm_at "m.ev"
    case z => rw [tab_len]; lia
    case q =>
      have I4 : Inst (H3.set (α .things) (.idict (vput (tab σ.nt fun i => .obj (α (.ti i))) ((σ.nt + 1 : Nat) : Int) (.obj (H1.n + 2))))) (α .hp) cHeap (α .hpd) [("things", .obj (α .things)), ("last", .int ((σ.nt + 1 : Nat) : Int)), ("dying", .obj (α .hdy))] := ⟨(Hp.set_old _ _ _ d3).trans I3.i, (Hp.set_old _ _ _ (Ne.symm d1)).trans I3.d⟩
      ((first | with_reducible refine' x_return ?za10 ?zq10 | refine' x_return ?za10 ?zq10); (case za10 => wtm_at "m.ev"))
      refine ⟨rfl, by show H3.n = _; rw [s.n]; show H1.n + 1 + 1 + 1 = _; lia, ?_, ?_, ?_, I4.d, ?_, fun b hb hb1 hb2 => ?_⟩
      · rw [Hp.set_old _ _ _ (by lia), old3 _ (by lia), ← m1]; exact Hp.new_here _ _
      · rw [Hp.set_old _ _ _ (by lia), ← m1]; exact s.I.d
      · rw [Hp.set_old _ _ _ (by lia), ← m1]; exact s.I.i
      · rw [Hp.set_here, ← m1]
      · rw [Hp.set_old _ _ _ hb2, old3 _ (by lia), Hp.new_old _ _ (by lia)]; exact o1 b hb1
end
end

section
set_option maxRecDepth 100000
set_option maxHeartbeats 0
noncomputable def f_law (fa : Addr) (cdv : Value) (a : Addr) (ns : List Int) : FrS := { qual := "law", scope := fS (stAt 22), f := fa, cdv := cdv, cells := [("goal", 0)], q := true, top := true, scr := [(a, ns)] }
/-- law's statements -/
noncomputable def lw (i : Nat) : Stmt := (fB (stAt 22)).getD i (.Pass ⟨0, 0, 0, 0⟩)
section
variable {n : Nat} {w : World} {mean : ExcName → Option Value} {mg mb : Str → Option Value} {α : Rl → Nat} {σ : St} {H : Hp} {l : Loc} {N g : Nat} {fa : Addr} {cdv : Value} {a : Addr} {ns : List Int} {Q : Fl → Hp → Loc → Prop} {ts : List Stmt}
noncomputable def nx0 (cs : List Nat) (k b : Nat) : Nat := if k < cs.length then (cs.getD k 0) % b else 0
theorem c_next0 {A B k b : Nat} {cs : List Nat} (h1 : H.o A = .sdict [("cells", .obj B), ("at", .int (k : Nat))]) (h2 : H.o B = .list (cs.map fun i : Nat => V.int (i : Int))) (hAB : B ≠ A) (hb : 0 < b) (hc : cs.length ≤ 60) :
    Fn (CX w mean mg mb) (n + 1) 249 [.obj A, .int b] H (.int (nx0 cs k b)) (H.set A (.sdict [("cells", .obj B), ("at", .int ((k + 1 : Nat) : Int))])) := by
  suffices h : ∃ v H', Fn (CX w mean mg mb) (n + 1) 249 [.obj A, .int b] H v H' ∧ v = .int (nx0 cs k b) ∧ H' = (H.set A (.sdict [("cells", .obj B), ("at", .int ((k + 1 : Nat) : Int))])) by
    obtain ⟨_, _, h, rfl, rfl⟩ := h; exact h
  refine fn_w d_next rfl ?_
  refine' w_cons (w_setitem ?a ?b ?c (set_sdict h1 ?z) ?q)
  case a => wtm_at "m.ev"
  case b => wtm_at "m.ev"
  case c => wtm_at "m.ev"
  case z => wtm_at "m.num"
  case q =>
    have e0 : H.set A (.sdict (vput [("cells", V.obj B), ("at", .int (k : Nat))] "at" (.int ((k : Nat) + 1)))) = H.set A (.sdict [("cells", .obj B), ("at", .int ((k + 1 : Nat) : Int))]) := by
      rw [show vput ([("cells", V.obj B), ("at", .int (k : Nat))] : List (Str × V)) "at" (.int ((k : Nat) + 1)) = ([("cells", V.obj B), ("at", .int ((k : Nat) + 1))] : List (Str × V)) by kernel_rfl]; push_cast; rfl
    rw [e0]
    have h1' : (H.set A (.sdict [("cells", .obj B), ("at", .int ((k + 1 : Nat) : Int))])).o A = .sdict [("cells", .obj B), ("at", .int ((k + 1 : Nat) : Int))] := Hp.set_here _ _ _
    have h2' : (H.set A (.sdict [("cells", .obj B), ("at", .int ((k + 1 : Nat) : Int))])).o B = .list (cs.map fun i : Nat => V.int (i : Int)) := (Hp.set_old _ _ _ hAB).trans h2
    generalize H.set A _ = H2 at h1' h2' ⊢
    by_cases h : k < cs.length
    · have e : nx0 cs k b = cs[k] % b := by unfold nx0; rw [if_pos h]; simp [h]
      refine' w_cons (w_return (ev_ift (te_is ?t ?tt) (ev_mod (ev_ix ?o ?i (sub_list h2' ?z0 ?z1 ?g)) ?a2 ?a3)) ?q1)
      case t => wtm_at "m.te"
      case tt => simp; lia
      case o => wtm_at "m.ev"
      case i => wtm_at "m.ev"
      case g => exact get_nat (j := k) (by push_cast; lia) (List.getElem?_eq_getElem h)
      case z0 => push_cast; lia
      case z1 => push_cast; lia
      case a2 => wtm_at "m.ev"
      case a3 => lia
      case q1 => exact ⟨by rw [e]; exact congrArg V.int (by rw [Int.fmod_eq_emod_of_nonneg _ (by lia)]; norm_cast), rfl⟩
    · have e : nx0 cs k b = 0 := by unfold nx0; rw [if_neg h]
      refine' w_cons (w_return (ev_iff (te_is ?t ?tt) ?a) ?q1)
      case t => wtm_at "m.te"
      case tt => simp; lia
      case a => wtm_at "m.ev"
      case q1 => exact ⟨by rw [e]; rfl, rfl⟩
/-- the cells of the hand -/
noncomputable def cellsOf (ns : List Int) : List Nat := (ns.take 60).map fun i => (i.fmod 2147483647).toNat
theorem cells_len (ns : List Int) : (cellsOf ns).length ≤ 60 := by unfold cellsOf; rw [List.length_map, List.length_take]; lia
structure P1 (w : World) (fa : Addr) (cdv : Value) (a : Addr) (ns : List Int) (H : Hp) (l : Loc) (B : Nat) : Prop where
  n : 1 < B
  bl : B < H.n
  cell : H.o 0 = .cell none
  hand : H.o 1 = .sdict [("cells", .obj B), ("at", .int ((0 : Nat) : Int))]
  cells : H.o B = .list ((cellsOf ns).map fun i : Nat => V.int (i : Int))
  lh : l "hand" = some (.obj 1)
theorem seg1 (hn : H.n = 1) (hc : H.o 0 = .cell none) (hl : l "script" = some (.st a)) (hz : ns.length ≤ 63) (k : ∀ H' l' B, P1 w fa cdv a ns H' l' B → ExsW (CX w mean mg mb) n (f_law fa cdv a ns) ts H' l' Q) :
    ExsW (CX w mean mg mb) n (f_law fa cdv a ns) (lw 0 :: ts) H l Q := by
  refine' x_asg_e (G := fun v H' => v = .obj 1 ∧ ∃ B, 1 < B ∧ B < H'.n ∧ H'.o 0 = .cell none ∧ H'.o 1 = .sdict [("cells", .obj B), ("at", .int ((0 : Nat) : Int))] ∧ H'.o B = .list ((cellsOf ns).map fun i : Nat => V.int (i : Int)))
    (ev_dict2 (eve_obj (comp_list (H₁ := (H.new (.sdict [])).new (.list ((ns.take 60).map .int))) (r := (H.new (.sdict [])).n) (clN := []) (us := (cellsOf ns).map fun i : Nat => V.int (i : Int)) (ev_upto ?o ?hm rfl ?z ?e ?hs) (Hp.new_here _ _) (Nat.lt_succ_self _) (Nat.le_succ _) ?len ?lz ?helt ?hK ?hcl ?hcell (by kernel_rfl) ?hnames (by kernel_rfl) (by kernel_rfl) (by k_dflt (intro _ _; kernel_rfl)) (by k_dflt (intro _ _; kernel_rfl))) ?g) ?nd) ?q (by kernel_rfl) (by k_dflt (intro _; kernel_rfl))
  case o => wtm_at "m.ev"
  case hm => exact .head _
  case z => lia
  case e => exact ev_int
  case hs => intro _ _; exact ⟨_, rfl⟩
  case len => unfold cellsOf; rw [List.length_map, List.length_map, List.length_map]
  case lz => rw [List.length_map, List.length_take]; lia
  case helt =>
    intro j x u H₂ fs h1 h2 G K h3 h4
    rw [List.getElem?_map] at h1 h2
    unfold cellsOf at h2
    rw [List.getElem?_map] at h2
    obtain ⟨z, hz, rfl⟩ := Option.map_eq_some_iff.mp h1
    rw [hz] at h2
    injection h2 with h2
    subst h2
    have nn : 0 ≤ z.fmod 2147483647 := Int.fmod_nonneg_of_pos z (by decide)
    have e : V.int (((z.fmod 2147483647).toNat : Nat) : Int) = .int (z.fmod 2147483647) := by rw [Int.toNat_of_nonneg nn]
    refine' ⟨H₂, ?_, Grew.refl _⟩
    show EvK _ _ _ _ _ _ _ _ _ (V.int (((z.fmod 2147483647).toNat : Nat) : Int)) _
    rw [e]
    exact evk_mod K (evk_local K.ns h3 h4 (by kernel_rfl) (by kernel_rfl) (by kernel_rfl)) evk_int (by decide)
  case hK => intro p hp; cases hp
  case hcl =>
    intro x ω _
    refine (closure_of (ad := fun _ => 0) ?_).trans (by kernel_rfl)
    intro p hp hf
    have hb : p.2 ≠ .free := by revert p; decide +kernel
    exact absurd hf hb
  case hcell => decide +kernel
  case hnames => decide +kernel
  case g =>
    rintro D H' ⟨g1, g2, g3, g4⟩
    have m0 : ((H.new (.sdict [])).new (.list ((ns.take 60).map .int))).n = 3 := by show H.n + 1 + 1 = 3; lia
    have o1 : H'.o H.n = .sdict [] := by
      rw [g2.o _ (by lia), Hp.new_old _ _ (by show H.n ≠ H.n + 1; lia)]; exact Hp.new_here _ _
    have o0 : H'.o 0 = .cell none := by
      rw [g2.o _ (by lia), Hp.new_old _ _ (by show 0 ≠ H.n + 1; lia), Hp.new_old _ _ (by lia)]; exact hc
    refine ⟨o1, _, ev_int, by rw [hn], D, by lia, g4, ?_, ?_, ?_⟩
    · rw [Hp.set_old _ _ _ (by lia)]; exact o0
    · rw [← hn, Hp.set_here]; rfl
    · rw [Hp.set_old _ _ _ (by lia)]; exact g1
  case nd => decide +kernel
  case q =>
    rintro v H' ⟨rfl, B, b1, b2, b3, b4, b5⟩
    exact k _ _ B ⟨b1, b2, b3, b4, b5, loc_here⟩
end
end

section
set_option maxRecDepth 100000
set_option maxHeartbeats 0
section
variable {n : Nat} {w : World} {mean : ExcName → Option Value} {mg mb : Str → Option Value} {α : Rl → Nat} {σ : St} {H : Hp} {l : Loc} {N g B : Nat} {fa : Addr} {cdv : Value} {a : Addr} {ns : List Int} {Q : Fl → Hp → Loc → Prop} {ts : List Stmt}
theorem nx0_lt (cs : List Nat) (k : Nat) {b : Nat} (h : 0 < b) : nx0 cs k b < b := by
  unfold nx0; split
  · exact Nat.mod_lt _ h
  · exact h
noncomputable def manyOf (ns : List Int) : Nat := 2 + nx0 (cellsOf ns) 0 6
structure P2 (ns : List Int) (H : Hp) (l : Loc) (B b : Nat) : Prop where
  n : 1 < B
  bl : B < b
  hn : H.n = b + 4
  cell : H.o 0 = .cell none
  hand : H.o 1 = .sdict [("cells", .obj B), ("at", .int ((1 : Nat) : Int))]
  cells : H.o B = .list ((cellsOf ns).map fun i : Nat => V.int (i : Int))
  hpd : H.o b = .attrs [("things", .obj (b + 2)), ("last", .int ((0 : Nat) : Int)), ("dying", .obj (b + 3))]
  hp : H.o (b + 1) = .inst cHeap b
  things : H.o (b + 2) = .idict []
  dying : H.o (b + 3) = .list []
  lh : l "hand" = some (.obj 1)
  lm : l "many" = some (.int (manyOf ns))
  lp : l "heap" = some (.obj (b + 1))
theorem seg2 (P : P1 w fa cdv a ns H l B) (k : ∀ H' l' b, P2 ns H' l' B b → ExsW (CX w mean mg mb) (n + 2) (f_law fa cdv a ns) ts H' l' Q) :
    ExsW (CX w mean mg mb) (n + 2) (f_law fa cdv a ns) (lw 1 :: ts) H l Q := by
  have F1 := c_next0 (n := n + 1) (w := w) (mean := mean) (mg := mg) (mb := mb) (k := 0) (b := 6) P.hand P.cells (by have := P.n; lia) (by decide) (cells_len ns)
  have F1 : Fn (CX w mean mg mb) (n + 2) 249 [.obj 1, .int 6] H (.int (nx0 (cellsOf ns) 0 6)) (H.set 1 (.sdict [("cells", .obj B), ("at", .int ((0 + 1 : Nat) : Int))])) := F1
  have lh := P.lh
  have hn1 : (H.set 1 (.sdict [("cells", .obj B), ("at", .int ((0 + 1 : Nat) : Int))])).n = H.n := rfl
  have bn := P.n
  have bl := P.bl
  have c1 : (H.set 1 (.sdict [("cells", .obj B), ("at", .int ((0 + 1 : Nat) : Int))])).o 0 = .cell none := (Hp.set_old _ _ _ (by lia)).trans P.cell
  have h1 : (H.set 1 (.sdict [("cells", .obj B), ("at", .int ((0 + 1 : Nat) : Int))])).o 1 = .sdict [("cells", .obj B), ("at", .int ((1 : Nat) : Int))] := Hp.set_here _ _ _
  have b1 : (H.set 1 (.sdict [("cells", .obj B), ("at", .int ((0 + 1 : Nat) : Int))])).o B = .list ((cellsOf ns).map fun i : Nat => V.int (i : Int)) := (Hp.set_old _ _ _ (by lia)).trans P.cells
  generalize H.set 1 _ = H1 at F1 hn1 c1 h1 b1
  have I : Inst ((H1.new (.attrs [])).new (.inst cHeap H1.n)) (H1.n + 1) cHeap H1.n [] := ⟨Hp.new_here _ _, (Hp.new_old _ _ (by show H1.n ≠ H1.n + 1; lia)).trans (Hp.new_here _ _)⟩
  obtain ⟨_, H3, F2, rfl, p⟩ := c_heapI (n := n) (w := w) (mean := mean) (mg := mg) (mb := mb) I (by lia) (by show H1.n < H1.n + 1 + 1; lia) (by show H1.n + 1 < H1.n + 1 + 1; lia)
  have pn : H3.n = H1.n + 4 := by rw [p.n]; rfl
  have old : ∀ b, b < H1.n → H3.o b = H1.o b := fun b hb => by
    rw [p.old b (by show b < H1.n + 1 + 1; lia) (by lia), Hp.new_old _ _ (by show b ≠ H1.n + 1; lia), Hp.new_old _ _ (by lia)]
  refine' x_swap (u := .int (manyOf ns)) (v := .obj (H1.n + 1)) (ev_is ?a ?aa) ?q (by k_dflt (intro _; rfl)) (by kernel_rfl) (by kernel_rfl) (by kernel_rfl) (by k_dflt (intro _; kernel_rfl))
  case a =>
    refine' ev_tuple (eas_cons (ev_add ev_int (ev_call_st ?f ?e (by kernel_rfl) (Fn.call F1 rfl) (he := by k_dflt (intro _; kernel_rfl)) (h1 := by k_dflt (intro _; kernel_rfl)) (h2 := by k_dflt (intro _; kernel_rfl)))) (eas_cons (ev_call_st0 ?f2 kp_Heap (fun x ω => fn_init mk_Heap in_Heap if_115 rfl F2 x ω [] .nil) (he := by k_dflt (intro _; kernel_rfl))) eas_nil (he := by k_dflt (intro _; kernel_rfl))) (he := by k_dflt (intro _; kernel_rfl))) ?z
    case f => wtm_at "m.glob"
    case e => wtm_at "m.eas"
    case f2 => exact ev_glob gl_Heap (by kernel_rfl) (by kernel_rfl)
    case z => k_dflt (exact Nat.le_of_ble_eq_true (by kernel_rfl))
  case aa => unfold manyOf; push_cast; rfl
  case q =>
    refine k H3 _ H1.n ⟨bn, by rw [hn1]; exact bl, pn, ?_, ?_, ?_, ?_, ?_, ?_, ?_, ?_, loc_here, ?_⟩
    · rw [old _ (by lia)]; exact c1
    · rw [old _ (by lia)]; exact h1
    · rw [old _ (by lia)]; exact b1
    · exact p.at_
    · rw [p.old _ (by show H1.n + 1 < H1.n + 1 + 1; lia) (by lia)]; exact Hp.new_here _ _
    · exact p.things
    · exact p.dying
    · wtm_at "m.loc"
    · wtm_at "m.loc"
/-- the numbers, as the law lists them -/
noncomputable def numsV (N : Nat) : List V := (List.range N).map fun i => V.int ((i + 1 : Nat) : Int)
structure P3 (ns : List Int) (H : Hp) (l : Loc) (B b : Nat) : Prop where
  n : 1 < B
  bl : B < b
  hn : H.n = b + 6
  cell : H.o 0 = .cell none
  hand : H.o 1 = .sdict [("cells", .obj B), ("at", .int ((1 : Nat) : Int))]
  cells : H.o B = .list ((cellsOf ns).map fun i : Nat => V.int (i : Int))
  hpd : H.o b = .attrs [("things", .obj (b + 2)), ("last", .int ((0 : Nat) : Int)), ("dying", .obj (b + 3))]
  hp : H.o (b + 1) = .inst cHeap b
  things : H.o (b + 2) = .idict []
  dying : H.o (b + 3) = .list []
  nums : H.o (b + 5) = .list (numsV (manyOf ns))
  lh : l "hand" = some (.obj 1)
  lm : l "many" = some (.int (manyOf ns))
  lp : l "heap" = some (.obj (b + 1))
  ln : l "numbers" = some (.obj (b + 5))
theorem range_nums (N : Nat) : (rangeInts 1 1 N).map V.int = numsV N := by
  unfold rangeInts numsV
  rw [List.map_map]
  refine List.map_congr_left fun i _ => ?_
  show V.int (1 + (i : Int) * 1) = V.int ((i + 1 : Nat) : Int)
  congr 1; push_cast; lia
theorem seg3 {b : Nat} (P : P2 ns H l B b) (k : ∀ H' l', P3 ns H' l' B b → ExsW (CX w mean mg mb) n (f_law fa cdv a ns) ts H' l' Q) :
    ExsW (CX w mean mg mb) n (f_law fa cdv a ns) (lw 2 :: ts) H l Q := by
  have lm := P.lm
  have hN : manyOf ns ≤ 7 := by unfold manyOf; have := nx0_lt (cellsOf ns) 0 (b := 6) (by decide); lia
  have bl := P.bl
  have bn := P.n
  have hn := P.hn
  refine' x_assign (ev_call_ty1 ?f (ev_call_ty2 ?g ev_int (ev_add ?m ev_int) (fun x ω r r' h1 h2 => ty_range2 x ω r r' h1 h2) (he := by k_dflt (intro _; kernel_rfl)) (h1 := by k_dflt (intro _; kernel_rfl)) (h1' := by k_dflt (intro _; kernel_rfl)) (h2 := by k_dflt (intro _; kernel_rfl))) (ty_listRange (Hp.new_here _ _) (by decide) ?z1 (by decide) ?z2 rfl) (he := by k_dflt (intro _; kernel_rfl)) (h1 := by k_dflt (intro _; kernel_rfl)) (h2 := by k_dflt (intro _; kernel_rfl))) ?q (by kernel_rfl) (by k_dflt (intro _; kernel_rfl))
  case f => wtm_at "m.glob"
  case g => wtm_at "m.glob"
  case m => wtm_at "m.ev"
  case z1 => lia
  case z2 => lia
  case q =>
    have e : ((manyOf ns : Int) + 1 - 1).toNat = manyOf ns := by lia
    rw [e, range_nums]
    refine k _ _ ⟨bn, bl, by show H.n + 1 + 1 = _; lia, ?_, ?_, ?_, ?_, ?_, ?_, ?_, ?_, ?_, ?_, ?_, ?_⟩
    · rw [Hp.new_old _ _ (by show 0 ≠ H.n + 1; lia), Hp.new_old _ _ (by lia)]; exact P.cell
    · rw [Hp.new_old _ _ (by show 1 ≠ H.n + 1; lia), Hp.new_old _ _ (by lia)]; exact P.hand
    · rw [Hp.new_old _ _ (by show B ≠ H.n + 1; lia), Hp.new_old _ _ (by lia)]; exact P.cells
    · rw [Hp.new_old _ _ (by show b ≠ H.n + 1; lia), Hp.new_old _ _ (by lia)]; exact P.hpd
    · rw [Hp.new_old _ _ (by show b + 1 ≠ H.n + 1; lia), Hp.new_old _ _ (by lia)]; exact P.hp
    · rw [Hp.new_old _ _ (by show b + 2 ≠ H.n + 1; lia), Hp.new_old _ _ (by lia)]; exact P.things
    · rw [Hp.new_old _ _ (by show b + 3 ≠ H.n + 1; lia), Hp.new_old _ _ (by lia)]; exact P.dying
    · rw [show b + 5 = (H.new (.range 1 ((manyOf ns : Int) + 1))).n by show _ = H.n + 1; lia]; exact Hp.new_here _ _
    · have := P.lh; wtm_at "m.loc"
    · wtm_at "m.loc"
    · have := P.lp; wtm_at "m.loc"
    · rw [show b + 5 = (H.new (.range 1 ((manyOf ns : Int) + 1))).n by show _ = H.n + 1; lia]; exact loc_here
end
end

section
set_option maxRecDepth 100000
set_option maxHeartbeats 2000000
section
variable {n : Nat} {w : World} {mean : ExcName → Option Value} {mg mb : Str → Option Value} {α : Rl → Nat} {σ : St} {H : Hp} {l : Loc} {N g B b : Nat} {fa : Addr} {cdv : Value} {a : Addr} {ns : List Int} {Q : Fl → Hp → Loc → Prop} {ts : List Stmt}
/-- the world while it is built: j things made -/
noncomputable def stB (kd : Nat → Str) (j a : Nat) (cs : List Nat) (tfa rla : Nat → Nat) (T : List (Nat × O)) : St :=
  { nt := j, kd := kd, fl := fun _ => [], sg := fun _ => 1, wk := fun _ => 0, un := fun _ => 0, st := fun _ => "live", dy := [], nk := j, nr := j, nh := j, nw := j, nu := j, ns := j, bk := kd, rw := fun _ => [], hd := fun _ => [.str "law"], bw := fun _ => 0, bu := fun _ => 0, bs := fun _ => "live", bd := [], cells := cs, at_ := a, tfa := tfa, rla := rla, tmp := T }
noncomputable def al0 (B b : Nat) : Rl → Nat
  | .hp => b + 1 | .hpd => b | .things => b + 2 | .hdy => b + 3 | .bk => b + 6 | .kinds => b + 7 | .rows => b + 8 | .holders => b + 9 | .weak => b + 10 | .unow => b + 11 | .state => b + 12 | .bdy => b + 13 | .hand => 1 | .cells => B | _ => 0
structure P4 (ns : List Int) (H : Hp) (l : Loc) (B b : Nat) : Prop where
  n : 1 < B
  bl : B < b
  R : Rep (al0 B b) (stB (fun _ => "object") 0 1 (cellsOf ns) (fun _ => 0) (fun _ => 0) [(0, .cell none), (b + 5, .list (numsV (manyOf ns)))]) H
  lh : l "hand" = some (.obj 1)
  lm : l "many" = some (.int (manyOf ns))
  lp : l "heap" = some (.obj (b + 1))
  ln : l "numbers" = some (.obj (b + 5))
  lb : l "book" = some (.obj (b + 6))
noncomputable def pl (B b k : Nat) : Nat := if k = 0 then 0 else if k = 1 then 1 else if k = 2 then B else b + (k - 3)
theorem pl_mono {B b : Nat} (h1 : 1 < B) (h2 : B < b) {i j : Nat} (h : i < j) : pl B b i < pl B b j := by
  unfold pl
  by_cases a : 3 ≤ i
  · have a' : 3 ≤ j := Nat.le_trans a (Nat.le_of_lt h)
    rw [if_neg (by lia), if_neg (by lia), if_neg (by lia), if_neg (by lia), if_neg (by lia), if_neg (by lia)]
    exact Nat.add_lt_add_left (Nat.sub_lt_sub_right a h) b
  · repeat' split
    all_goals lia
theorem pl_ne {B b i j : Nat} (h1 : 1 < B) (h2 : B < b) (h : i ≠ j) : pl B b i ≠ pl B b j := by
  rcases Nat.lt_or_gt_of_ne h with a | a
  · exact Nat.ne_of_lt (pl_mono h1 h2 a)
  · exact (Nat.ne_of_lt (pl_mono h1 h2 a)).symm
theorem pl_lt {B b i : Nat} (h1 : 1 < B) (h2 : B < b) (h : i ≤ 16) : pl B b i < b + 14 := by
  unfold pl
  repeat' split
  all_goals lia
theorem pl_nodup {B b : Nat} {L : List Nat} (h1 : 1 < B) (h2 : B < b) (h : L.Nodup) : (L.map (pl B b)).Nodup := List.pairwise_map.mpr (h.imp fun e => pl_ne h1 h2 e)
theorem no_one {i : Nat} (h : 1 ≤ i ∧ i ≤ 0) : False := absurd (Nat.le_trans h.1 h.2) (by decide)
theorem zero_one {k : Nat} (h : k < 2) : k = 0 ∨ k = 1 := by lia
theorem up1 {j b n : Nat} (h : j < b) (e : n = b) : j < n := e ▸ h
theorem off_ne {b i j : Nat} (h : i ≠ j) : b + i ≠ b + j := fun e => h (Nat.add_left_cancel e)
theorem off_lt {b i j : Nat} (h : i < j) : b + i < b + j := Nat.add_lt_add_left h b
theorem seg4 (P : P3 ns H l B b) (k : ∀ H' l', P4 ns H' l' B b → ExsW (CX w mean mg mb) n (f_law fa cdv a ns) ts H' l' Q) :
    ExsW (CX w mean mg mb) n (f_law fa cdv a ns) (lw 3 :: ts) H l Q := by
  have bl := P.bl
  have bn := P.n
  have hn := P.hn
  refine' x_asg_e (G := fun v H' => v = .obj (b + 6) ∧ H'.n = b + 14 ∧ (∀ j, j < b + 6 → H'.o j = H.o j) ∧ H'.o (b + 6) = .sdict [("kinds", .obj (b + 7)), ("rows", .obj (b + 8)), ("holders", .obj (b + 9)), ("weak", .obj (b + 10)), ("unowned", .obj (b + 11)), ("state", .obj (b + 12)), ("dying", .obj (b + 13))] ∧
    H'.o (b + 7) = .idict [] ∧ H'.o (b + 8) = .idict [] ∧ H'.o (b + 9) = .idict [] ∧ H'.o (b + 10) = .idict [] ∧ H'.o (b + 11) = .idict [] ∧ H'.o (b + 12) = .idict [] ∧ H'.o (b + 13) = .list []) ?ev ?q (by kernel_rfl) (by k_dflt (intro _; kernel_rfl))
  case ev =>
    refine' ev_dictE (fun K1 s1 => ?eps) (by intro e; cases e) (by kernel_rfl) (by decide) (by kernel_rfl)
    have n1 : K1.n = b + 7 := s1.n.trans (congrArg (· + 1) hn)
    refine' epse_dict (fun K2 s2 => ?_)
    have n2 : K2.n = b + 8 := s2.n.trans (congrArg (· + 1) n1)
    refine' epse_dict (fun K3 s3 => ?_)
    have n3 : K3.n = b + 9 := s3.n.trans (congrArg (· + 1) n2)
    refine' epse_dict (fun K4 s4 => ?_)
    have n4 : K4.n = b + 10 := s4.n.trans (congrArg (· + 1) n3)
    refine' epse_dict (fun K5 s5 => ?_)
    have n5 : K5.n = b + 11 := s5.n.trans (congrArg (· + 1) n4)
    refine' epse_dict (fun K6 s6 => ?_)
    have n6 : K6.n = b + 12 := s6.n.trans (congrArg (· + 1) n5)
    refine' epse_dict (fun K7 s7 => ?_)
    have n7 : K7.n = b + 13 := s7.n.trans (congrArg (· + 1) n6)
    refine' epse_list (fun K8 s8 => ?_)
    have n8 : K8.n = b + 14 := s8.n.trans (congrArg (· + 1) n7)
    have t1 := s1.at_; have t2 := s2.at_; have t3 := s3.at_; have t4 := s4.at_; have t5 := s5.at_; have t6 := s6.at_; have t7 := s7.at_; have t8 := s8.at_
    rw [hn] at t1
    rw [n1] at t2
    rw [n2] at t3
    rw [n3] at t4
    rw [n4] at t5
    rw [n5] at t6
    rw [n6] at t7
    rw [n7] at t8
    have g8 : ∀ j, j < b + 13 → K8.o j = K7.o j := fun j hj => s8.old j (up1 hj n7)
    have g7 : ∀ j, j < b + 12 → K8.o j = K6.o j := fun j hj => (g8 j (Nat.lt_succ_of_lt hj)).trans (s7.old j (up1 hj n6))
    have g6 : ∀ j, j < b + 11 → K8.o j = K5.o j := fun j hj => (g7 j (Nat.lt_succ_of_lt hj)).trans (s6.old j (up1 hj n5))
    have g5 : ∀ j, j < b + 10 → K8.o j = K4.o j := fun j hj => (g6 j (Nat.lt_succ_of_lt hj)).trans (s5.old j (up1 hj n4))
    have g4 : ∀ j, j < b + 9 → K8.o j = K3.o j := fun j hj => (g5 j (Nat.lt_succ_of_lt hj)).trans (s4.old j (up1 hj n3))
    have g3 : ∀ j, j < b + 8 → K8.o j = K2.o j := fun j hj => (g4 j (Nat.lt_succ_of_lt hj)).trans (s3.old j (up1 hj n2))
    have g2 : ∀ j, j < b + 7 → K8.o j = K1.o j := fun j hj => (g3 j (Nat.lt_succ_of_lt hj)).trans (s2.old j (up1 hj n1))
    have g1 : ∀ j, j < b + 6 → K8.o j = H.o j := fun j hj => (g2 j (Nat.lt_succ_of_lt hj)).trans (s1.old j (up1 hj hn))
    rw [hn, n1, n2, n3, n4, n5, n6, n7]
    refine epse_nil ⟨(show (["kinds", "rows", "holders", "weak", "unowned", "state", "dying"] : List Str).Nodup by decide +kernel), (g2 _ (off_lt (by decide))).trans t1, rfl, n8, fun j hj => ?_, Hp.set_here _ _ _, ?_, ?_, ?_, ?_, ?_, ?_, ?_⟩
    · rw [Hp.set_old _ _ _ (Nat.ne_of_lt hj)]; exact g1 j hj
    · rw [Hp.set_old _ _ _ (off_ne (by decide))]; exact (g3 _ (off_lt (by decide))).trans t2
    · rw [Hp.set_old _ _ _ (off_ne (by decide))]; exact (g4 _ (off_lt (by decide))).trans t3
    · rw [Hp.set_old _ _ _ (off_ne (by decide))]; exact (g5 _ (off_lt (by decide))).trans t4
    · rw [Hp.set_old _ _ _ (off_ne (by decide))]; exact (g6 _ (off_lt (by decide))).trans t5
    · rw [Hp.set_old _ _ _ (off_ne (by decide))]; exact (g7 _ (off_lt (by decide))).trans t6
    · rw [Hp.set_old _ _ _ (off_ne (by decide))]; exact (g8 _ (off_lt (by decide))).trans t7
    · rw [Hp.set_old _ _ _ (off_ne (by decide))]; exact t8
  case q =>
    rintro v H' ⟨rfl, m, old, ob, o7, o8, o9, o10, o11, o12, o13⟩
    have lh := P.lh
    have lm := P.lm
    have lp := P.lp
    have ln := P.ln
    refine k H' _ ⟨bn, bl, ?_, by wtm_at "m.loc", by wtm_at "m.loc", by wtm_at "m.loc", by wtm_at "m.loc", loc_here⟩
    refine Rep.first (as := [b + 1, b, b + 2, b + 3, b + 6, b + 7, b + 8, b + 9, b + 10, b + 11, b + 12, b + 13, 1, B, 0, b + 5]) rfl rfl rfl ?_ rfl ?_ ?_ ?_
    · exact pl_nodup (L := [4, 3, 5, 6, 9, 10, 11, 12, 13, 14, 15, 16, 1, 2, 0, 8]) P.n P.bl (by decide)
    · intro r hr
      cases r
      case ti i => exact (no_one hr).elim
      case td i => exact (no_one hr).elim
      case tf i => exact (no_one hr).elim
      case rl i => exact (no_one hr).elim
      case hl i => exact (no_one hr).elim
      case tmp k =>
        have hr : k < 2 := hr
        rcases zero_one hr with rfl | rfl <;> rfl
      all_goals rfl
    · intro x hx
      obtain ⟨k, hk, rfl⟩ := List.mem_map.mp (show x ∈ [4, 3, 5, 6, 9, 10, 11, 12, 13, 14, 15, 16, 1, 2, 0, 8].map (pl B b) from hx)
      rw [m]
      exact pl_lt P.n P.bl ((show ∀ k ∈ [4, 3, 5, 6, 9, 10, 11, 12, 13, 14, 15, 16, 1, 2, 0, 8], k ≤ 16 by decide) k hk)
    · intro r hr
      cases r
      case ti i => exact (no_one hr).elim
      case td i => exact (no_one hr).elim
      case tf i => exact (no_one hr).elim
      case rl i => exact (no_one hr).elim
      case hl i => exact (no_one hr).elim
      case tmp k =>
        have hr : k < 2 := hr
        rcases zero_one hr with rfl | rfl
        · exact (old 0 (Nat.succ_pos _)).trans P.cell
        · exact (old (b + 5) (off_lt (by decide))).trans P.nums
      case hp => exact (old (b + 1) (off_lt (by decide))).trans P.hp
      case hpd => exact (old b (Nat.lt_add_of_pos_right (by decide))).trans P.hpd
      case things => exact (old (b + 2) (off_lt (by decide))).trans P.things
      case hdy => exact (old (b + 3) (off_lt (by decide))).trans P.dying
      case hand => exact (old 1 (by lia)).trans P.hand
      case cells => exact (old B (by lia)).trans P.cells
      case bk => exact ob
      case kinds => exact o7
      case rows => exact o8
      case holders => exact o9
      case weak => exact o10
      case unow => exact o11
      case state => exact o12
      case bdy => exact o13
end
end

section
set_option maxRecDepth 100000
set_option maxHeartbeats 4000000
noncomputable def lwBody (s : Stmt) : List Stmt := match s with | .For _ _ b _ _ => b | .While _ b _ _ => b | _ => []
section
variable {n : Nat} {w : World} {mean : ExcName → Option Value} {mg mb : Str → Option Value} {α : Rl → Nat} {σ : St} {H : Hp} {l : Loc} {N g B b : Nat} {fa : Addr} {cdv : Value} {a : Addr} {ns : List Int} {Q : Fl → Hp → Loc → Prop} {ts : List Stmt}
theorem upd_const {β : Type} (v : β) (i : Nat) : upd (fun _ => v) i v = fun _ => v := by funext j; unfold upd; split <;> rfl
noncomputable def menuS : List Str := ["object", "object", "box", "buffer", "context"]
theorem menu_at {k : Nat} (h : k < 5) : ∃ r, [Value.str "object" 506, .str "object" 507, .str "box" 508, .str "buffer" 509, .str "context" 510][k]? = some r ∧ (∀ ω, RV ω (.str (menuS.getD k "object")) r) ∧ kdOk (menuS.getD k "object") := by
  rcases (show ∀ k : Nat, k < 5 → (k = 0 ∨ k = 1 ∨ k = 2 ∨ k = 3 ∨ k = 4) by decide) k h with rfl | rfl | rfl | rfl | rfl
  · exact ⟨_, rfl, fun _ => RV.sI, .inl rfl⟩
  · exact ⟨_, rfl, fun _ => RV.sI, .inl rfl⟩
  · exact ⟨_, rfl, fun _ => RV.sI, .inr (.inl rfl)⟩
  · exact ⟨_, rfl, fun _ => RV.sI, .inr (.inr (.inl rfl))⟩
  · exact ⟨_, rfl, fun _ => RV.sI, .inr (.inr (.inr rfl))⟩
theorem k242 {P : Params} : (K P).lookup 242 = some ⟨.type "tuple", none, .seq (List.toArray [Value.str "object" 506, .str "object" 507, .str "box" 508, .str "buffer" 509, .str "context" 510]), #[]⟩ := by kernel_rfl
/-- the roles that the locals name -/
structure Fix (α : Rl → Nat) (b : Nat) : Prop where
  hp : α .hp = b + 1
  bk : α .bk = b + 6
  hand : α .hand = 1
/-- the locals -/
structure Lc (ns : List Int) (b : Nat) (l : Loc) : Prop where
  lh : l "hand" = some (.obj 1)
  lm : l "many" = some (.int (manyOf ns))
  lp : l "heap" = some (.obj (b + 1))
  ln : l "numbers" = some (.obj (b + 5))
  lb : l "book" = some (.obj (b + 6))
noncomputable def stC (kd bk : Nat → Str) (j a : Nat) (cs : List Nat) (tfa rla : Nat → Nat) (T : List (Nat × O)) : St := { stB kd j a cs tfa rla T with nk := j + 1, nr := j + 1, nh := j + 1, nw := j + 1, nu := j + 1, ns := j + 1, bk := bk }
theorem body5 {j at_ : Nat} {kd : Nat → Str} {cs : List Nat} {tfa rla : Nat → Nat} {T T₀ : List (Nat × O)} (A : Fix α b) (L : Lc ns b l) (hk : ∀ i, kdOk (kd i)) (hj : j < 7) (hc : cs.length ≤ 60) (hT : T₀ = (0, .cell (some (.int ((j + 1 : Nat) : Int)))) :: T)
    (R : Rep α (stB kd j at_ cs tfa rla T₀) H) :
    ExsW (CX w mean mg mb) (n + 4) (f_law fa cdv a ns) (lwBody (lw 4)) H l (fun f H' l' => f = .next ∧ l' = l ∧ ∃ α' kd' tfa' rla', Fix α' b ∧ (∀ i, kdOk (kd' i)) ∧ Rep α' (stB kd' (j + 1) (at_ + 1) cs tfa' rla' T₀) H') := by
  have lh : l "hand" = some (.obj (α .hand)) := by rw [A.hand]; exact L.lh
  have lp : l "heap" = some (.obj (α .hp)) := by rw [A.hp]; exact L.lp
  have lb : l "book" = some (.obj (α .bk)) := by rw [A.bk]; exact L.lb
  obtain ⟨_, H1, F1, rfl, R1⟩ := c_next (n := n + 3) (w := w) (mean := mean) (mg := mg) (mb := mb) (b := 5) R (by decide) hc
  have F1 : Fn (CX w mean mg mb) (n + 4) 249 [.obj (α .hand), .int 5] H (.int (nx (stB kd j at_ cs tfa rla T₀) 5)) H1 := F1
  have R1 : Rep α (stB kd j (at_ + 1) cs tfa rla T₀) H1 := R1
  have hx := nx_lt (stB kd j at_ cs tfa rla T₀) (b := 5) (by decide)
  generalize nx (stB kd j at_ cs tfa rla T₀) 5 = x at F1 hx
  obtain ⟨r, m1, m2, m3⟩ := menu_at hx
  generalize menuS.getD x "object" = kn at m2 m3
  generalize at_ + 1 = at1 at R1 ⊢
  obtain ⟨H2, e2⟩ : ∃ K, K = H1.new (.list []) := ⟨_, rfl⟩
  obtain ⟨H3, e3⟩ : ∃ K, K = H2.new (.list [.str "law"]) := ⟨_, rfl⟩
  have R3 : Rep α (stB kd j at1 cs tfa rla T₀) H3 := by rw [e3, e2]; exact (R1.new _).new _
  have n2 : H2.n = H1.n + 1 := by rw [e2]; rfl
  have n3 : H3.n = H1.n + 2 := by rw [e3]; show H2.n + 1 = _; lia
  have lt := R1.lt
  have v1 : H3.o H1.n = .list [] := by rw [e3, Hp.new_old _ _ (by lia), e2]; exact Hp.new_here _ _
  have v2 : H3.o H2.n = .list [.str "law"] := by rw [e3]; exact Hp.new_here _ _
  have c3 : H3.o 0 = .cell (some (.int ((j + 1 : Nat) : Int))) := (R3.tmp_at (pre := []) (post := T) hT).1
  obtain ⟨G4, e4⟩ : ∃ K, K = H3.set (α .kinds) (.idict (vput (tab j fun i => .str (kd i)) ((j + 1 : Nat) : Int) (.str kn))) := ⟨_, rfl⟩
  have R4 : Rep α { stB kd j at1 cs tfa rla T₀ with nk := j + 1, bk := upd kd (j + 1) kn } G4 := by rw [e4]; exact R3.add_kinds kn rfl
  have s4 : SetR (CX w mean mg mb) (n + 4) (f_law fa cdv a ns) (.obj (α .kinds)) (.int ((j + 1 : Nat) : Int)) (.str kn) H3 l G4 := by rw [e4]; exact set_idict R3.at_kinds (by rw [tab_len]; show j ≤ 1000; lia)
  have w1 : G4.o H1.n = .list [] := by rw [e4, Hp.set_old _ _ _ (by have := lt .kinds trivial; have q : adr α (stB kd j at1 cs tfa rla T₀) .kinds = α .kinds := rfl; lia)]; exact v1
  have w2 : G4.o H2.n = .list [.str "law"] := by rw [e4, Hp.set_old _ _ _ (by have := lt .kinds trivial; have q : adr α (stB kd j at1 cs tfa rla T₀) .kinds = α .kinds := rfl; lia)]; exact v2
  have c4 : G4.o 0 = .cell (some (.int ((j + 1 : Nat) : Int))) := (R4.tmp_at (pre := []) (post := T) hT).1
  have n4 : G4.n = H1.n + 2 := by rw [e4]; exact n3
  obtain ⟨G5, e5⟩ : ∃ K, K = G4.set (α .rows) (.idict (vput (tab j fun i => .obj (rla i)) ((j + 1 : Nat) : Int) (.obj H1.n))) := ⟨_, rfl⟩
  have R5 := R4.add_rows (a := H1.n) (by lia) (fun r hr => Nat.ne_of_lt (lt r hr)) w1 (o := .idict (vput (tab j fun i => .obj (rla i)) ((j + 1 : Nat) : Int) (.obj H1.n))) rfl
  rw [← e5] at R5
  have s5 : SetR (CX w mean mg mb) (n + 4) (f_law fa cdv a ns) (.obj (α .rows)) (.int ((j + 1 : Nat) : Int)) (.obj H1.n) G4 l G5 := by rw [e5]; exact set_idict R4.at_rows (by rw [tab_len]; show j ≤ 1000; lia)
  have x2 : G5.o H2.n = .list [.str "law"] := by rw [e5, Hp.set_old _ _ _ (by have := lt .rows trivial; have q : adr α (stB kd j at1 cs tfa rla T₀) .rows = α .rows := rfl; lia)]; exact w2
  have c5 : G5.o 0 = .cell (some (.int ((j + 1 : Nat) : Int))) := (R5.tmp_at (pre := []) (post := T) hT).1
  have n5 : G5.n = H1.n + 2 := by rw [e5]; exact n4
  obtain ⟨G6, e6⟩ : ∃ K, K = G5.set (α .holders) (.idict (vput (tab j fun i => .obj (α (.hl i))) ((j + 1 : Nat) : Int) (.obj H2.n))) := ⟨_, rfl⟩
  have key5 : ∀ r, ok { ({ stB kd j at1 cs tfa rla T₀ with nk := j + 1, bk := upd kd (j + 1) kn } : St) with nr := j + 1, rla := upd rla (j + 1) H1.n, rw := upd (fun _ => []) (j + 1) [] } r → adr α { ({ stB kd j at1 cs tfa rla T₀ with nk := j + 1, bk := upd kd (j + 1) kn } : St) with nr := j + 1, rla := upd rla (j + 1) H1.n, rw := upd (fun _ => []) (j + 1) [] } r < H2.n := by
    intro r hr
    have : r = .rl (j + 1) ∨ (ok (stB kd j at1 cs tfa rla T₀) r ∧ adr α { ({ stB kd j at1 cs tfa rla T₀ with nk := j + 1, bk := upd kd (j + 1) kn } : St) with nr := j + 1, rla := upd rla (j + 1) H1.n, rw := upd (fun _ => []) (j + 1) [] } r = adr α (stB kd j at1 cs tfa rla T₀) r) := by
      cases r
      case rl i =>
        by_cases q : i = j + 1
        · exact .inl (by rw [q])
        · have hr : 1 ≤ i ∧ i ≤ j + 1 := hr
          exact .inr ⟨⟨hr.1, by show i ≤ j; lia⟩, upd_old _ _ q⟩
      all_goals exact .inr ⟨hr, rfl⟩
    rcases this with rfl | ⟨h1, h2⟩
    · show upd rla (j + 1) H1.n (j + 1) < H2.n; rw [upd_here]; lia
    · rw [h2]; have := lt r h1; lia
  have R6 := R5.add_holders (a := H2.n) (by lia) (fun r hr => Nat.ne_of_lt (key5 r hr)) (vs := [.str "law"]) x2 (o := .idict (vput (tab j fun i => .obj (α (.hl i))) ((j + 1 : Nat) : Int) (.obj H2.n))) rfl
  rw [← e6] at R6
  have s6 : SetR (CX w mean mg mb) (n + 4) (f_law fa cdv a ns) (.obj (α .holders)) (.int ((j + 1 : Nat) : Int)) (.obj H2.n) G5 l G6 := by rw [e6]; exact set_idict R5.at_holders (by rw [tab_len]; show j ≤ 1000; lia)
  have c6 : G6.o 0 = .cell (some (.int ((j + 1 : Nat) : Int))) := (R6.tmp_at (pre := []) (post := T) hT).1
  have R6 : Rep (putHl α (j + 1) H2.n) ({ stB kd j at1 cs tfa (upd rla (j + 1) H1.n) T₀ with nk := j + 1, nr := j + 1, nh := j + 1, bk := upd kd (j + 1) kn } : St) G6 := by
    have e : ({ ({ ({ stB kd j at1 cs tfa rla T₀ with nk := j + 1, bk := upd kd (j + 1) kn } : St) with nr := j + 1, rla := upd rla (j + 1) H1.n, rw := upd (fun _ => []) (j + 1) [] } : St) with nh := j + 1, hd := upd (fun _ => [.str "law"]) (j + 1) [.str "law"] } : St) = ({ stB kd j at1 cs tfa (upd rla (j + 1) H1.n) T₀ with nk := j + 1, nr := j + 1, nh := j + 1, bk := upd kd (j + 1) kn } : St) := by
      rw [upd_const, upd_const]; rfl
    rw [← e]; exact R6
  refine' x_tup3s (H₁ := H3) (G₂ := H3) (G₃ := H3) (G₄ := G4) (H₂ := G4) (H₃ := G4) (H₄ := G5) (H₅ := G5) (H₆ := G5) (H₇ := G6) (ev_tuple (eas_cons (H₁ := H1) ?v1 (eas_cons (H₁ := H2) ?v2 (eas_cons (H₁ := H3) ?v3 eas_nil (he := by k_dflt (intro _; kernel_rfl))) (he := by k_dflt (intro _; kernel_rfl))) (he := by k_dflt (intro _; kernel_rfl))) ?z) ?o0 ?i0 s4 ?o1 ?i1 s5 ?o2 ?i2 s6 ?q rfl (by k_dflt (intro _; kernel_rfl)) (by k_dflt (intro _; kernel_rfl))
  case v1 =>
    refine' ev_ix (ev_glob g_menu (by kernel_rfl) (by kernel_rfl)) ?nx (sub_st k242 ?a1 ?a2 ?a3 m2 ?a5)
    case nx => wtm_at "m.ev"
    case a1 => lia
    case a2 => lia
    case a3 => rw [Int.toNat_natCast]; exact m1
    case a5 => k_dflt (intro _ _; kernel_rfl)
  case v2 => rw [e2]; exact ev_list eas_nil
  case v3 => rw [e3]; exact ev_list (eas_cons ev_str eas_nil (he := by k_dflt (intro _; kernel_rfl)))
  case z => k_dflt (exact Nat.le_of_ble_eq_true (by kernel_rfl))
  case o0 => clear R4 R5 R6; wtm_at "m.ev"
  case i0 => clear R4 R5 R6; wtm_at "m.ev"
  case o1 => clear R1 R R3 R5 R6; wtm_at "m.ev"
  case i1 => clear R1 R R3 R5 R6; wtm_at "m.ev"
  case o2 => clear R1 R R3 R4 R6; wtm_at "m.ev"
  case i2 => clear R1 R R3 R4 R6; wtm_at "m.ev"
  case q =>
    clear s4 s5 s6 R1 R3 R4 R5 R F1
    have lb6 : l "book" = some (.obj (putHl α (j + 1) H2.n .bk)) := lb
    have lp6 : l "heap" = some (.obj (putHl α (j + 1) H2.n .hp)) := lp
    have A6 : Fix (putHl α (j + 1) H2.n) b := ⟨A.hp, A.bk, A.hand⟩
    clear lb lp lh
    generalize putHl α (j + 1) H2.n = α6 at R6 lb6 lp6 A6
    generalize upd rla (j + 1) H1.n = rla6 at R6
    obtain ⟨G7, e7⟩ : ∃ K, K = G6.set (α6 .weak) (.idict (vput (tab j fun i => .int 0) ((j + 1 : Nat) : Int) (.int 0))) := ⟨_, rfl⟩
    have R7 := R6.add_weak 0 (o := .idict (vput (tab j fun i => .int 0) ((j + 1 : Nat) : Int) (.int 0))) rfl
    rw [← e7] at R7
    have s7 : SetR (CX w mean mg mb) (n + 4) (f_law fa cdv a ns) (.obj (α6 .weak)) (.int ((j + 1 : Nat) : Int)) (.int 0) G6 l G7 := by rw [e7]; exact set_idict R6.at_weak (by rw [tab_len]; show j ≤ 1000; lia)
    have c7 : G7.o 0 = .cell (some (.int ((j + 1 : Nat) : Int))) := (R7.tmp_at (pre := []) (post := T) hT).1
    obtain ⟨G8, e8⟩ : ∃ K, K = G7.set (α6 .unow) (.idict (vput (tab j fun i => .int 0) ((j + 1 : Nat) : Int) (.int 0))) := ⟨_, rfl⟩
    have R8 := R7.add_unow 0 (o := .idict (vput (tab j fun i => .int 0) ((j + 1 : Nat) : Int) (.int 0))) rfl
    rw [← e8] at R8
    have s8 : SetR (CX w mean mg mb) (n + 4) (f_law fa cdv a ns) (.obj (α6 .unow)) (.int ((j + 1 : Nat) : Int)) (.int 0) G7 l G8 := by rw [e8]; exact set_idict R7.at_unow (by rw [tab_len]; show j ≤ 1000; lia)
    have c8 : G8.o 0 = .cell (some (.int ((j + 1 : Nat) : Int))) := (R8.tmp_at (pre := []) (post := T) hT).1
    obtain ⟨G9, e9⟩ : ∃ K, K = G8.set (α6 .state) (.idict (vput (tab j fun i => .str "live") ((j + 1 : Nat) : Int) (.str "live"))) := ⟨_, rfl⟩
    have R9 := R8.add_state "live" (o := .idict (vput (tab j fun i => .str "live") ((j + 1 : Nat) : Int) (.str "live"))) rfl
    rw [← e9] at R9
    have s9 : SetR (CX w mean mg mb) (n + 4) (f_law fa cdv a ns) (.obj (α6 .state)) (.int ((j + 1 : Nat) : Int)) (.str "live") G8 l G9 := by rw [e9]; exact set_idict R8.at_state (by rw [tab_len]; show j ≤ 1000; lia)
    have c9 : G9.o 0 = .cell (some (.int ((j + 1 : Nat) : Int))) := (R9.tmp_at (pre := []) (post := T) hT).1
    have R9 : Rep α6 (stC kd (upd kd (j + 1) kn) j at1 cs tfa rla6 T₀) G9 := by
      have e : ({ ({ ({ ({ stB kd j at1 cs tfa rla6 T₀ with nk := j + 1, nr := j + 1, nh := j + 1, bk := upd kd (j + 1) kn } : St) with nw := j + 1, bw := upd (fun _ => 0) (j + 1) 0 } : St) with nu := j + 1, bu := upd (fun _ => 0) (j + 1) 0 } : St) with ns := j + 1, bs := upd (fun _ => "live") (j + 1) "live" } : St) = stC kd (upd kd (j + 1) kn) j at1 cs tfa rla6 T₀ := by
        simp only [upd_const]; rfl
      rw [← e]; exact R9
    refine' x_tup3s (H₁ := G6) (G₂ := G6) (G₃ := G6) (G₄ := G7) (H₂ := G7) (H₃ := G7) (H₄ := G8) (H₅ := G8) (H₆ := G8) (H₇ := G9) (ev_tuple ?tv ?tz) ?o0 ?i0 s7 ?o1 ?i1 s8 ?o2 ?i2 s9 ?q rfl (by k_dflt (intro _; kernel_rfl)) (by k_dflt (intro _; kernel_rfl))
    case tv => wtm_at "m.eas"
    case tz => k_dflt (exact Nat.le_of_ble_eq_true (by kernel_rfl))
    case o0 => clear R7 R8 R9; wtm_at "m.ev"
    case i0 => clear R7 R8 R9; wtm_at "m.ev"
    case o1 => clear R6 R8 R9; wtm_at "m.ev"
    case i1 => clear R6 R8 R9; wtm_at "m.ev"
    case o2 => clear R6 R7 R9; wtm_at "m.ev"
    case i2 => clear R6 R7 R9; wtm_at "m.ev"
    case q =>
      clear R6 R7 R8 s7 s8 s9
      have hk1 : j + 1 ≤ (stC kd (upd kd (j + 1) kn) j at1 cs tfa rla6 T₀).nk := Nat.le_refl _
      have bkn : (stC kd (upd kd (j + 1) kn) j at1 cs tfa rla6 T₀).bk (j + 1) = kn := upd_here _ _ _
      obtain ⟨G10, e10⟩ : ∃ K, K = G9.new (.list []) := ⟨_, rfl⟩
      have R10 : Rep α6 (stC kd (upd kd (j + 1) kn) j at1 cs tfa rla6 T₀) G10 := by rw [e10]; exact R9.new _
      have f10 : G10.o G9.n = .list [] := by rw [e10]; exact Hp.new_here _ _
      have c10 : G10.o 0 = .cell (some (.int ((j + 1 : Nat) : Int))) := (R10.tmp_at (pre := []) (post := T) hT).1
      obtain ⟨_, G11, F, rfl, m⟩ := c_made (n := n + 1) (w := w) (mean := mean) (mg := mg) (mb := mb) R10 (k := kn) f10 (by show j ≤ 100; lia)
      have nt9 : (stC kd (upd kd (j + 1) kn) j at1 cs tfa rla6 T₀).nt = j := rfl
      have F : Fn (CX w mean mg mb) (n + 4) 122 [.obj (α6 .hp), .str kn, .str (nameOf (j + 1)), .obj G9.n] G10 (.int ((j + 1 : Nat) : Int)) G11 := F
      have R11 := R10.add_thing m (fun _ _ _ => rfl)
      have hT11 : ((stC kd (upd kd (j + 1) kn) j at1 cs tfa rla6 T₀).made kn G10.n).tmp = (0, .cell (some (.int ((j + 1 : Nat) : Int)))) :: T := hT
      have c11 : G11.o 0 = .cell (some (.int ((j + 1 : Nat) : Int))) := (R11.tmp_at (pre := []) (post := T) hT11).1
      refine' x_if_f0 (te_is (b' := false) (te_cmp (H₁ := G11) (H₂ := G11) (ev_meth (H₁ := G9) (H₂ := G10) (H₃ := G11) ?o R9.at_hp ?no (by kernel_rfl) me_made (by kernel_rfl) (by kernel_rfl) (eas_cons (H₁ := G9) ?a1 (eas_cons (H₁ := G9) ?a2 (eas_cons (H₁ := G10) ?a3 eas_nil (he := by k_dflt (intro _; kernel_rfl))) (he := by k_dflt (intro _; kernel_rfl))) (he := by k_dflt (intro _; kernel_rfl))) (Fn.call F rfl) (he := by k_dflt (intro _; rfl)) (h1 := by k_dflt (intro _; kernel_rfl)) (h2 := by k_dflt (intro _; kernel_rfl))) ?gl cmp_ne_int (by kernel_rfl)) ?tt) ?q
      case o => clear R10 R11; wtm_at "m.ev"
      case no => wtm_at "m.fno"
      case a1 =>
        clear R10 R11
        refine' ev_is (v := .str ((stC kd (upd kd (j + 1) kn) j at1 cs tfa rla6 T₀).bk (j + 1))) ?e (by rw [bkn])
        have g1 : 1 ≤ j + 1 := by lia
        wtm_at "m.ev"
      case a2 =>
        clear R10 R11
        refine' ev_binop ev_str (ev_call_ty1 ?sf ?sa (ty_str (by lia) (by lia)) (he := by k_dflt (intro _; kernel_rfl)) (h1 := by k_dflt (intro _; kernel_rfl)) (h2 := by k_dflt (intro _; kernel_rfl))) (op_str (name_ok (i := j + 1) (by lia)).2)
        case sf => wtm_at "m.glob"
        case sa => wtm_at "m.ev"
      case a3 => rw [e10]; exact ev_list eas_nil
      case gl => wtm_at "m.ev"
      case tt => show ((((j + 1 : Nat) : Int)) != ((j + 1 : Nat) : Int)) = false; simp
      case q =>
        refine x_nil ⟨rfl, rfl, putTi α6 (j + 1) (G10.n + 2) (G10.n + 1), upd kd (j + 1) kn, upd tfa (j + 1) G10.n, rla6, ⟨A6.hp, A6.bk, A6.hand⟩, fun i => ?_, ?_⟩
        · unfold upd; split
          · exact m3
          · exact hk i
        · have e : (stC kd (upd kd (j + 1) kn) j at1 cs tfa rla6 T₀).made kn G10.n = stB (upd kd (j + 1) kn) (j + 1) at1 cs (upd tfa (j + 1) G10.n) rla6 T₀ := by
            unfold St.made stC stB; simp only [upd_const]
          rw [← e]; exact R11
end
end

section
set_option maxRecDepth 100000
set_option maxHeartbeats 4000000
section
variable {n : Nat} {w : World} {mean : ExcName → Option Value} {mg mb : Str → Option Value} {α : Rl → Nat} {σ : St} {H : Hp} {l : Loc} {N g B b : Nat} {fa : Addr} {cdv : Value} {a : Addr} {ns : List Int} {Q : Fl → Hp → Loc → Prop} {ts : List Stmt}
theorem many_le (ns : List Int) : 2 ≤ manyOf ns ∧ manyOf ns ≤ 7 := by
  unfold manyOf; have := nx0_lt (cellsOf ns) 0 (b := 6) (by decide); lia
theorem nums_at {N j : Nat} {v : V} (h : (numsV N)[j]? = some v) : j < N ∧ v = .int ((j + 1 : Nat) : Int) := by
  unfold numsV at h
  rw [List.getElem?_map] at h
  obtain ⟨i, h1, h2⟩ := Option.map_eq_some_iff.mp h
  obtain ⟨h3, h4⟩ := List.getElem?_eq_some_iff.mp h1
  rw [List.length_range] at h3
  rw [List.getElem_range] at h4
  subst h4
  exact ⟨h3, h2.symm⟩
theorem nums_len (N : Nat) : (numsV N).length = N := by unfold numsV; rw [List.length_map, List.length_range]
theorem Lc.old {l : Loc} (L : Lc ns b l) {y : Str} {v : V} (h1 : (("hand" : Str) == y) = false) (h2 : (("many" : Str) == y) = false) (h3 : (("heap" : Str) == y) = false) (h4 : (("numbers" : Str) == y) = false) (h5 : (("book" : Str) == y) = false) : Lc ns b (l.set y v) :=
  ⟨loc_old h1 L.lh, loc_old h2 L.lm, loc_old h3 L.lp, loc_old h4 L.ln, loc_old h5 L.lb⟩
theorem seg5 (P : P4 ns H l B b) (k : ∀ H' l' α kd tfa rla u, Lc ns b l' → Fix α b → (∀ i, kdOk (kd i)) → Rep α (stB kd (manyOf ns) (1 + manyOf ns) (cellsOf ns) tfa rla [(0, .cell u), (b + 5, .list (numsV (manyOf ns)))]) H' → ExsW (CX w mean mg mb) (n + 4) (f_law fa cdv a ns) ts H' l' Q) :
    ExsW (CX w mean mg mb) (n + 4) (f_law fa cdv a ns) (lw 4 :: ts) H l Q := by
  have L : Lc ns b l := ⟨P.lh, P.lm, P.lp, P.ln, P.lb⟩
  have ln := L.ln
  have A : Fix (al0 B b) b := ⟨rfl, rfl, rfl⟩
  have hN := many_le ns
  have hc := cells_len ns
  have R := P.R
  have hr : H.o (b + 5) = .list (numsV (manyOf ns)) := (R.tmp_at (pre := [(0, .cell none)]) (post := []) rfl).1
  have hpos : 0 < H.n := (R.tmp_at (pre := []) (post := [(b + 5, .list (numsV (manyOf ns)))]) rfl).2
  refine' x_for_cell (H₁ := H) (ci := 0) (r := b + 5) (vs := numsV (manyOf ns)) (fun j H' l' => Lc ns b l' ∧ ∃ α kd tfa rla u, Fix α b ∧ (∀ i, kdOk (kd i)) ∧ Rep α (stB kd j (1 + j) (cellsOf ns) tfa rla [(0, .cell u), (b + 5, .list (numsV (manyOf ns))), (H.n, .iter (b + 5) j)]) H') ?he hr ?start ?hI ?hcc (by lia) ?step ?stop (.head _) (by kernel_rfl) rfl (by k_dflt (intro _ _; kernel_rfl)) (by k_dflt (intro _ _; kernel_rfl))
  case he => wtm_at "m.ev"
  case start => exact ⟨L, al0 B b, fun _ => "object", _, _, none, A, fun _ => .inl rfl, R.tmp' (.iter (b + 5) 0)⟩
  case hI =>
    rintro j H' l' ⟨_, α, kd, tfa, rla, u, _, _, R⟩
    exact ⟨(R.tmp_at (pre := [(0, .cell u), (b + 5, .list (numsV (manyOf ns)))]) (post := []) rfl).1, (R.tmp_at (pre := [(0, .cell u)]) (post := [(H.n, .iter (b + 5) j)]) rfl).1⟩
  case hcc =>
    rintro j H' l' ⟨_, α, kd, tfa, rla, u, _, _, R⟩
    exact ⟨u, (R.tmp_at (pre := []) (post := [(b + 5, .list (numsV (manyOf ns))), (H.n, .iter (b + 5) j)]) rfl).1⟩
  case step =>
    rintro j v H' l' hv ⟨L, α, kd, tfa, rla, u, A, hk, R⟩
    obtain ⟨hj, rfl⟩ := nums_at hv
    have R1 : Rep α (stB kd j (1 + j) (cellsOf ns) tfa rla [(0, .cell u), (b + 5, .list (numsV (manyOf ns))), (H.n, .iter (b + 5) (j + 1))]) (H'.set H.n (.iter (b + 5) (j + 1))) := R.putG (pre := [(0, .cell u), (b + 5, .list (numsV (manyOf ns)))]) (post := []) rfl (.iter (b + 5) (j + 1))
    have R2 : Rep α (stB kd j (1 + j) (cellsOf ns) tfa rla [(0, .cell (some (.int ((j + 1 : Nat) : Int)))), (b + 5, .list (numsV (manyOf ns))), (H.n, .iter (b + 5) (j + 1))]) ((H'.set H.n (.iter (b + 5) (j + 1))).set 0 (.cell (some (.int ((j + 1 : Nat) : Int))))) := R1.putG (pre := []) (post := [(b + 5, .list (numsV (manyOf ns))), (H.n, .iter (b + 5) (j + 1))]) rfl (.cell (some (.int ((j + 1 : Nat) : Int))))
    refine ExsW.mono (body5 (T := [(b + 5, .list (numsV (manyOf ns))), (H.n, .iter (b + 5) (j + 1))]) A L hk (by lia) hc rfl R2) ?_
    rintro f H2 l2 ⟨rfl, rfl, α', kd', tfa', rla', A', hk', R'⟩
    exact ⟨L, α', kd', tfa', rla', _, A', hk', by rw [show 1 + (j + 1) = 1 + j + 1 by lia]; exact R'⟩
  case stop =>
    rintro H' l' ⟨L, α, kd, tfa, rla, u, A, hk, R⟩
    rw [nums_len] at R
    have R1 : Rep α (stB kd (manyOf ns) (1 + manyOf ns) (cellsOf ns) tfa rla [(0, .cell u), (b + 5, .list (numsV (manyOf ns))), (H.n, .junk)]) (H'.set H.n .junk) := R.putG (pre := [(0, .cell u), (b + 5, .list (numsV (manyOf ns)))]) (post := []) rfl .junk
    exact k _ l' α kd tfa rla u L A hk (R1.pop (pre := [(0, .cell u), (b + 5, .list (numsV (manyOf ns)))]) rfl)
end
end

section
set_option maxRecDepth 100000
set_option maxHeartbeats 4000000
section
variable {n : Nat} {w : World} {mean : ExcName → Option Value} {mg mb : Str → Option Value} {α : Rl → Nat} {σ : St} {H : Hp} {l : Loc} {N g B b : Nat} {fa : Addr} {cdv : Value} {a : Addr} {ns : List Int} {Q : Fl → Hp → Loc → Prop} {ts : List Stmt} {kd : Nat → Str} {P : Ps} {at_ : Nat} {cs : List Nat} {tfa rla : Nat → Nat} {T : List (Nat × O)} {lw' : List Nat} {c : Nat}
/-- the world of both sides in step -/
noncomputable def stP (N : Nat) (kd : Nat → Str) (P : Ps) (at_ : Nat) (cs : List Nat) (tfa rla : Nat → Nat) (T : List (Nat × O)) : St :=
  { nt := N, kd := kd, fl := P.fl, sg := fun g => ((P.hd g).length : Int), wk := P.wk, un := P.un, st := P.st, dy := P.dy, nk := N, nr := N, nh := N, nw := N, nu := N, ns := N, bk := kd, rw := P.fl, hd := fun g => (P.hd g).map hv, bw := P.wk, bu := P.un, bs := P.st, bd := P.dy, cells := cs, at_ := at_, tfa := tfa, rla := rla, tmp := T }
theorem upd_if {β γ : Type} (F : β → γ) (p : Prop) [Decidable p] (f : Nat → β) (g : Nat) (v : β) : (fun i => F ((if p then upd f g v else f) i)) = if p then upd (fun i => F (f i)) g (F v) else fun i => F (f i) := by
  split
  · exact upd_map F f g v
  · rfl
theorem lay_eq (o : Nat) (way : Str) (g : Nat) : layS (stP N kd P at_ cs tfa rla T) o way g = stP N kd (P.lay o way g) at_ cs tfa rla T := by
  have e1 := upd_if (fun x : List Hd => ((x.length : Nat) : Int)) (way = "strong") P.hd g (P.hd g ++ [some o])
  have e2 := upd_if (fun x : List Hd => x.map hv) (way = "strong") P.hd g (P.hd g ++ [some o])
  unfold layS layM stP Ps.lay
  simp only [e1, e2]
  have e3 : (((P.hd g ++ [some o]).length : Nat) : Int) = ((P.hd g).length : Int) + 1 := by simp
  have e4 : (P.hd g ++ [some o]).map hv = (P.hd g).map hv ++ [.int o] := by simp; rfl
  rw [e3, e4]
noncomputable def lwIn : Stmt := (lwBody (lw 5)).getD 0 (.Pass ⟨0, 0, 0, 0⟩)
theorem ways_at {k : Nat} (h : k < 4) : ∃ s, ([V.str "strong", .str "strong", .str "weak", .str "unowned"] : List V)[k]? = some (.str s) ∧ wayOk s := by
  rcases (show ∀ k : Nat, k < 4 → (k = 0 ∨ k = 1 ∨ k = 2 ∨ k = 3) by decide) k h with rfl | rfl | rfl | rfl
  · exact ⟨_, rfl, .inl rfl⟩
  · exact ⟨_, rfl, .inl rfl⟩
  · exact ⟨_, rfl, .inr (.inl rfl)⟩
  · exact ⟨_, rfl, .inr (.inr rfl)⟩
theorem sameN (h : N ≤ 10) : SameN (stP N kd P at_ cs tfa rla T) N := ⟨rfl, rfl, rfl, rfl, rfl, rfl, rfl, h⟩
theorem body6 {o : Nat} {u : Option V} (A : Fix α b) (L : Lc ns b l) (lho : l "holder" = some (.int (o : Nat))) (o1 : 1 ≤ o) (oN : o ≤ manyOf ns) (Bd₀ : Bd (manyOf ns) P lw' c) (hcc : c ≤ 40) (hc : cs.length ≤ 60)
    (R : Rep α (stP (manyOf ns) kd P at_ cs tfa rla ((0, .cell u) :: T)) H) :
    ExsW (CX w mean mg mb) (n + 8) (f_law fa cdv a ns) (lwBody lwIn) H l (fun f H' l' => f = .next ∧ Lc ns b l' ∧ l' "holder" = some (.int (o : Nat)) ∧ ∃ P' at' u', Bd (manyOf ns) P' lw' (c + 1) ∧ Rep α (stP (manyOf ns) kd P' at' cs tfa rla ((0, .cell u') :: T)) H') := by
  have hN := many_le ns
  have lh : l "hand" = some (.obj (α .hand)) := by rw [A.hand]; exact L.lh
  have lm := L.lm
  obtain ⟨_, H1, F1, rfl, R1⟩ := c_next (n := n + 7) (w := w) (mean := mean) (mg := mg) (mb := mb) (b := manyOf ns) R (by lia) hc
  have hx := nx_lt (stP (manyOf ns) kd P at_ cs tfa rla ((0, .cell u) :: T)) (b := manyOf ns) (by lia)
  have R1 : Rep α (stP (manyOf ns) kd P (at_ + 1) cs tfa rla ((0, .cell u) :: T)) H1 := R1
  generalize nx (stP (manyOf ns) kd P at_ cs tfa rla ((0, .cell u) :: T)) (manyOf ns) = x at F1 hx
  have c1 : H1.o 0 = .cell u := (R1.tmp_at (pre := []) (post := T) rfl).1
  have R2 : Rep α (stP (manyOf ns) kd P (at_ + 1) cs tfa rla ((0, .cell (some (.int ((1 + x : Nat) : Int)))) :: T)) (H1.set 0 (.cell (some (.int ((1 + x : Nat) : Int))))) := R1.putG (pre := []) (post := T) rfl _
  refine' x_asg_cell (H₁ := H1) (v := .int ((1 + x : Nat) : Int)) (ev_is ?e ?ee) (.head _) c1 ?q (by kernel_rfl) (by k_dflt (intro _; kernel_rfl))
  case e => wtm_at "m.ev"
  case ee => push_cast; rfl
  case q =>
    generalize H1.set 0 _ = H2 at R2 ⊢
    clear F1 R R1 c1
    obtain ⟨g, hg⟩ : ∃ g, g = 1 + x := ⟨_, rfl⟩
    have g1 : 1 ≤ g := by lia
    have gN : g ≤ manyOf ns := by lia
    rw [← hg] at R2
    have hgk : g ≤ (stP (manyOf ns) kd P (at_ + 1) cs tfa rla ((0, .cell (some (.int (g : Nat)))) :: T)).nk := gN
    have c2 : H2.o 0 = .cell (some (.int (g : Nat))) := (R2.tmp_at (pre := []) (post := T) rfl).1
    have lb : l "book" = some (.obj (α .bk)) := by rw [A.bk]; exact L.lb
    refine' x_assign (ev_is (v' := .bool (kd g == "object")) (ev_cmp ?e1 ?e2 cmp_eq_str) ?e3) ?q (by kernel_rfl) (by k_dflt (intro _; kernel_rfl))
    case e1 => wtm_at "m.ev"
    case e2 => wtm_at "m.ev"
    case e3 => rfl
    case q =>
      refine' x_asg_e (G := fun v H' => ∃ way at', v = .str way ∧ wayOk way ∧ Rep α (stP (manyOf ns) kd P at' cs tfa rla ((0, .cell (some (.int (g : Nat)))) :: T)) H') ?ev ?q (by kernel_rfl) (by k_dflt (intro _; kernel_rfl))
      case ev =>
        by_cases hk : kd g = "object"
        · obtain ⟨_, H3, F2, rfl, R3⟩ := c_next (n := n + 7) (w := w) (mean := mean) (mg := mg) (mb := mb) (b := 4) R2 (by decide) hc
          have hy := nx_lt (stP (manyOf ns) kd P (at_ + 1) cs tfa rla ((0, .cell (some (.int (g : Nat)))) :: T)) (b := 4) (by decide)
          generalize nx (stP (manyOf ns) kd P (at_ + 1) cs tfa rla ((0, .cell (some (.int (g : Nat)))) :: T)) 4 = y at F2 hy
          have F2 : Fn (CX w mean mg mb) (n + 8) 249 [.obj (α .hand), .int 4] H2 (.int (y : Nat)) H3 := F2
          obtain ⟨s, q1, q2⟩ := ways_at hy
          refine' eve_of (v := .str s) (H₁ := H3) (ev_ift (te_val (b := true) ?t ?tr (by k_dflt (intro _; kernel_rfl))) (ev_ix ?tu ?ix (sub_tup (vs := [V.str "strong", .str "strong", .str "weak", .str "unowned"]) (k := ((y : Nat) : Int)) ?k0 ?k1 ?kv (hs := by k_dflt (intro _ _; kernel_rfl))))) ⟨s, _, rfl, q2, R3⟩
          case t => wtm_at "m.ev"
          case tr => rw [hk]; exact tr_bool
          case tu => wtm_at "m.ev"
          case ix => wtm_at "m.ev"
          case k0 => lia
          case k1 => lia
          case kv => rw [Int.toNat_natCast]; exact q1
        · refine' eve_of (v := .str "strong") (H₁ := H2) (ev_iff (te_val (b := false) ?t ?tr (by k_dflt (intro _; kernel_rfl))) ev_str) ⟨"strong", _, rfl, .inl rfl, R2⟩
          case t => wtm_at "m.ev"
          case tr => rw [beq_eq_false_iff_ne.mpr hk]; exact tr_bool
      case q =>
        rintro v H3 ⟨way, at', rfl, hw, R3⟩
        clear R2 c2
        have c3 : H3.o 0 = .cell (some (.int (g : Nat))) := (R3.tmp_at (pre := []) (post := T) rfl).1
        have lp : l "heap" = some (.obj (α .hp)) := by rw [A.hp]; exact L.lp
        have live_ng' : ("live" : Str) ≠ "gone" := by decide +kernel
        have hl := Bd₀.hl g
        have fz : (P.fl o).length ≤ c := Nat.le_trans (le_sum (fun i => (P.fl i).length) o1 oN) Bd₀.sz
        obtain ⟨_, H4, F3, rfl, R4⟩ := c_lay (n := n + 1) (w := w) (mean := mean) (mg := mg) (mb := mb) R3 (sameN (by lia)) rfl (o := o) (g := g) (way := way) o1 oN g1 gN hw (by show P.st o ≠ _; rw [Bd₀.st]; exact live_ng') (by show P.st g ≠ _; rw [Bd₀.st]; exact live_ng') (by show ((P.hd g).map hv).length ≤ 90; rw [List.length_map]; lia) (by show (P.fl o).length ≤ 90; lia) (by show (P.fl o).length ≤ 90; lia)
        rw [lay_eq] at R4
        ((first | with_reducible refine' x_expr ?za1 ?zq1 (by wtm_at "k") | refine' x_expr ?za1 ?zq1 (by wtm_at "k")); (case za1 => wtm_at "m.ev"))
        refine x_nil ⟨rfl, (L.old (by kernel_rfl) (by kernel_rfl) (by kernel_rfl) (by kernel_rfl) (by kernel_rfl)).old (by kernel_rfl) (by kernel_rfl) (by kernel_rfl) (by kernel_rfl) (by kernel_rfl), by wtm_at "m.loc", P.lay o way g, at', _, Bd₀.lay hw o1 oN g1 gN, R4⟩
end
end

section
set_option maxRecDepth 100000
set_option maxHeartbeats 4000000
section
variable {n : Nat} {w : World} {mean : ExcName → Option Value} {mg mb : Str → Option Value} {α : Rl → Nat} {σ : St} {H : Hp} {l : Loc} {N g B b : Nat} {fa : Addr} {cdv : Value} {a : Addr} {ns : List Int} {Q : Fl → Hp → Loc → Prop} {ts : List Stmt} {kd : Nat → Str} {P : Ps} {at_ : Nat} {cs : List Nat} {tfa rla : Nat → Nat} {T : List (Nat × O)} {c : Nat}
noncomputable def nums0 (N : Nat) : List Nat := (List.range N).map (· + 1)
theorem nums0_count {N g : Nat} (hN : N ≤ 7) (h1 : 1 ≤ g) (h2 : g ≤ N) : (nums0 N).count g = 1 := by
  have key : ∀ N < 8, ∀ g < N, (nums0 N).count (g + 1) = 1 := by decide +kernel
  obtain ⟨g', rfl⟩ : ∃ g', g = g' + 1 := ⟨g - 1, by lia⟩
  exact key N (by lia) g' (by lia)
theorem seg6 {u₀ : Option V} (L : Lc ns b l) (A : Fix α b) (R : Rep α (stP (manyOf ns) kd P0 at_ (cellsOf ns) tfa rla [(0, .cell u₀), (b + 5, .list (numsV (manyOf ns)))]) H)
    (k : ∀ H' l' P at' u c, Lc ns b l' → Bd (manyOf ns) P (nums0 (manyOf ns)) c → c ≤ 21 → Rep α (stP (manyOf ns) kd P at' (cellsOf ns) tfa rla [(0, .cell u), (b + 5, .list (numsV (manyOf ns)))]) H' → ExsW (CX w mean mg mb) (n + 8) (f_law fa cdv a ns) ts H' l' Q) :
    ExsW (CX w mean mg mb) (n + 8) (f_law fa cdv a ns) (lw 5 :: ts) H l Q := by
  have ln := L.ln
  have hN := many_le ns
  have hc := cells_len ns
  have hr : H.o (b + 5) = .list (numsV (manyOf ns)) := (R.tmp_at (pre := [(0, .cell u₀)]) (post := []) rfl).1
  refine' x_for_name (H₁ := H) (r := b + 5) (vs := numsV (manyOf ns)) (fun j H' l' => Lc ns b l' ∧ ∃ P at' u c, Bd (manyOf ns) P (nums0 (manyOf ns)) c ∧ c ≤ 3 * j ∧ Rep α (stP (manyOf ns) kd P at' (cellsOf ns) tfa rla [(0, .cell u), (b + 5, .list (numsV (manyOf ns))), (H.n, .iter (b + 5) j)]) H') ?he hr ?start ?hI ?step ?stop (by kernel_rfl) rfl (by k_dflt (intro _ _; kernel_rfl)) (by k_dflt (intro _ _; kernel_rfl))
  case he => wtm_at "m.ev"
  case start => exact ⟨L, P0, _, _, 0, bd0 (fun g h1 h2 => nums0_count hN.2 h1 h2), Nat.zero_le _, R.tmp' (.iter (b + 5) 0)⟩
  case hI =>
    rintro j H' l' ⟨_, P, at', u, c, _, _, R⟩
    exact ⟨(R.tmp_at (pre := [(0, .cell u), (b + 5, .list (numsV (manyOf ns)))]) (post := []) rfl).1, (R.tmp_at (pre := [(0, .cell u)]) (post := [(H.n, .iter (b + 5) j)]) rfl).1⟩
  case step =>
    rintro j v H' l' hv ⟨L, P, at', u, c, hB, hcj, R⟩
    obtain ⟨hj, rfl⟩ := nums_at hv
    have R1 : Rep α (stP (manyOf ns) kd P at' (cellsOf ns) tfa rla [(0, .cell u), (b + 5, .list (numsV (manyOf ns))), (H.n, .iter (b + 5) (j + 1))]) (H'.set H.n (.iter (b + 5) (j + 1))) := R.putG (pre := [(0, .cell u), (b + 5, .list (numsV (manyOf ns)))]) (post := []) rfl (.iter (b + 5) (j + 1))
    generalize H'.set H.n _ = H1 at R1 ⊢
    have L1 : Lc ns b (l'.set "holder" (.int ((j + 1 : Nat) : Int))) := L.old (by kernel_rfl) (by kernel_rfl) (by kernel_rfl) (by kernel_rfl) (by kernel_rfl)
    have lho : (l'.set "holder" (.int ((j + 1 : Nat) : Int))) "holder" = some (.int ((j + 1 : Nat) : Int)) := loc_here
    generalize l'.set "holder" _ = l1 at L1 lho ⊢
    have lh : l1 "hand" = some (.obj (α .hand)) := by rw [A.hand]; exact L1.lh
    obtain ⟨_, H2, F1, rfl, R2⟩ := c_next (n := n + 7) (w := w) (mean := mean) (mg := mg) (mb := mb) (b := 4) R1 (by decide) hc
    have hx := nx_lt (stP (manyOf ns) kd P at' (cellsOf ns) tfa rla [(0, .cell u), (b + 5, .list (numsV (manyOf ns))), (H.n, .iter (b + 5) (j + 1))]) (b := 4) (by decide)
    have F1 : Fn (CX w mean mg mb) (n + 8) 249 [.obj (α .hand), .int 4] H1 (.int ((nx (stP (manyOf ns) kd P at' (cellsOf ns) tfa rla [(0, .cell u), (b + 5, .list (numsV (manyOf ns))), (H.n, .iter (b + 5) (j + 1))]) 4 : Nat) : Int)) H2 := F1
    have R2 : Rep α (stP (manyOf ns) kd P (at' + 1) (cellsOf ns) tfa rla [(0, .cell u), (b + 5, .list (numsV (manyOf ns))), (H.n, .iter (b + 5) (j + 1))]) H2 := R2
    generalize nx (stP (manyOf ns) kd P at' (cellsOf ns) tfa rla [(0, .cell u), (b + 5, .list (numsV (manyOf ns))), (H.n, .iter (b + 5) (j + 1))]) 4 = x at F1 hx
    obtain ⟨H3, e3⟩ : ∃ K, K = H2.new (.range 0 (x : Nat)) := ⟨_, rfl⟩
    have R3 : Rep α (stP (manyOf ns) kd P (at' + 1) (cellsOf ns) tfa rla [(0, .cell u), (b + 5, .list (numsV (manyOf ns))), (H.n, .iter (b + 5) (j + 1))]) H3 := by rw [e3]; exact R2.new _
    have r3 : H3.o H2.n = .range 0 ((x : Nat) : Int) := by rw [e3]; exact Hp.new_here _ _
    refine' x_rng (H₁ := H3) (r := H2.n) (b := x) (fun i H' l' => Lc ns b l' ∧ l' "holder" = some (.int ((j + 1 : Nat) : Int)) ∧ ∃ P at' u, Bd (manyOf ns) P (nums0 (manyOf ns)) (c + i) ∧ Rep α (stP (manyOf ns) kd P at' (cellsOf ns) tfa rla [(0, .cell u), (b + 5, .list (numsV (manyOf ns))), (H.n, .iter (b + 5) (j + 1)), (H3.n, .riter (i : Nat) (((x : Nat) : Int) - (i : Nat)))]) H') ?he r3 (by lia) ?st ?hI ?sp ?so (by kernel_rfl) rfl (by k_dflt (intro _ _; kernel_rfl)) (by k_dflt (intro _ _; kernel_rfl))
    case he =>
      rw [e3]
      refine' ev_call_ty1 ?rf ?ra ty_range (he := by k_dflt (intro _; kernel_rfl)) (h1 := by k_dflt (intro _; kernel_rfl)) (h2 := by k_dflt (intro _; kernel_rfl))
      case rf => wtm_at "m.glob"
      case ra => wtm_at "m.ev"
    case st =>
      refine ⟨L1, lho, P, at' + 1, u, hB, ?_⟩
      have := R3.tmp' (.riter 0 ((x : Nat) : Int))
      have e : (((x : Nat) : Int) - ((0 : Nat) : Int)) = (x : Nat) := by lia
      rw [e]
      exact this
    case hI =>
      rintro i H' l' ⟨_, _, P, at', u, _, R⟩
      exact (R.tmp_at (pre := [(0, .cell u), (b + 5, .list (numsV (manyOf ns))), (H.n, .iter (b + 5) (j + 1))]) (post := []) rfl).1
    case sp =>
      rintro i H' l' hi ⟨L2, lh2, P, at', u, hB2, R⟩
      have R4 : Rep α (stP (manyOf ns) kd P at' (cellsOf ns) tfa rla ((0, .cell u) :: [(b + 5, .list (numsV (manyOf ns))), (H.n, .iter (b + 5) (j + 1)), (H3.n, .riter ((i : Int) + 1) ((x : Int) - i - 1))])) (H'.set H3.n (.riter ((i : Int) + 1) ((x : Int) - i - 1))) := R.putG (pre := [(0, .cell u), (b + 5, .list (numsV (manyOf ns))), (H.n, .iter (b + 5) (j + 1))]) (post := []) rfl _
      have L4 : Lc ns b (l'.set "turn" (.int (i : Nat))) := L2.old (by kernel_rfl) (by kernel_rfl) (by kernel_rfl) (by kernel_rfl) (by kernel_rfl)
      have lh4 : (l'.set "turn" (.int (i : Nat))) "holder" = some (.int ((j + 1 : Nat) : Int)) := loc_old (by kernel_rfl) lh2
      refine ExsW.mono (body6 A L4 lh4 (by lia) (by lia) hB2 (by lia) hc R4) ?_
      rintro f H5 l5 ⟨rfl, L5, lh5, P', at5, u', hB5, R5⟩
      refine ⟨L5, lh5, P', at5, u', hB5, ?_⟩
      have e : ((x : Nat) : Int) - ((i + 1 : Nat) : Int) = (x : Int) - i - 1 := by lia
      have e' : (((i + 1 : Nat) : Nat) : Int) = (i : Int) + 1 := by lia
      rw [e, e']
      exact R5
    case so =>
      rintro H' l' ⟨L2, lh2, P, at', u, hB2, R⟩
      have R4 : Rep α (stP (manyOf ns) kd P at' (cellsOf ns) tfa rla [(0, .cell u), (b + 5, .list (numsV (manyOf ns))), (H.n, .iter (b + 5) (j + 1)), (H3.n, .junk)]) (H'.set H3.n .junk) := R.putG (pre := [(0, .cell u), (b + 5, .list (numsV (manyOf ns))), (H.n, .iter (b + 5) (j + 1))]) (post := []) rfl _
      exact x_nil ⟨L2, P, at', u, c + x, hB2, by lia, R4.pop (pre := [(0, .cell u), (b + 5, .list (numsV (manyOf ns))), (H.n, .iter (b + 5) (j + 1))]) rfl⟩
  case stop =>
    rintro H' l' ⟨L, P, at', u, c, hB, hcj, R⟩
    rw [nums_len] at hcj
    have R1 : Rep α (stP (manyOf ns) kd P at' (cellsOf ns) tfa rla [(0, .cell u), (b + 5, .list (numsV (manyOf ns))), (H.n, .junk)]) (H'.set H.n .junk) := R.putG (pre := [(0, .cell u), (b + 5, .list (numsV (manyOf ns)))]) (post := []) rfl .junk
    exact k _ l' P at' u c L hB (by lia) (R1.pop (pre := [(0, .cell u), (b + 5, .list (numsV (manyOf ns)))]) rfl)
end
end

section
set_option maxRecDepth 100000
set_option maxHeartbeats 4000000
section
variable {n : Nat} {w : World} {mean : ExcName → Option Value} {mg mb : Str → Option Value} {α : Rl → Nat} {σ : St} {H : Hp} {l : Loc} {N g B b : Nat} {fa : Addr} {cdv : Value} {a : Addr} {ns : List Int} {Q : Fl → Hp → Loc → Prop} {ts : List Stmt} {kd : Nat → Str} {P : Ps} {at_ : Nat} {cs : List Nat} {tfa rla : Nat → Nat} {T : List (Nat × O)} {c : Nat} {u₀ : Option V}
noncomputable def lwV (lw : List Nat) : List V := lw.map fun i : Nat => V.int (i : Int)
theorem lwV_nums (N : Nat) : numsV N = lwV (nums0 N) := by unfold numsV lwV nums0; rw [List.map_map]; rfl
theorem seg7 (L : Lc ns b l) (A : Fix α b) (R : Rep α (stP (manyOf ns) kd P at_ cs tfa rla [(0, .cell u₀), (b + 5, .list (numsV (manyOf ns)))]) H)
    (k : ∀ H' l' ho, Lc ns b l' → l' "holds" = some (.obj ho) → Rep α (stP (manyOf ns) kd P at_ cs tfa rla [(0, .cell u₀), (b + 5, .list (numsV (manyOf ns))), (ho, .list (lwV (nums0 (manyOf ns))))]) H' → ExsW (CX w mean mg mb) n (f_law fa cdv a ns) ts H' l' Q) :
    ExsW (CX w mean mg mb) n (f_law fa cdv a ns) (lw 6 :: ts) H l Q := by
  have ln := L.ln
  have hN := many_le ns
  have hr : H.o (b + 5) = .list (numsV (manyOf ns)) := (R.tmp_at (pre := [(0, .cell u₀)]) (post := []) rfl).1
  have hz : (numsV (manyOf ns)).length ≤ 1000 := by rw [nums_len]; lia
  have R1 := R.tmp' (.list (numsV (manyOf ns)))
  refine' x_assign ?e ?q (by kernel_rfl) (by k_dflt (intro _; kernel_rfl))
  case e => wtm_at "m.list1"
  case q =>
    refine k _ _ H.n (L.old (by kernel_rfl) (by kernel_rfl) (by kernel_rfl) (by kernel_rfl) (by kernel_rfl)) loc_here ?_
    rw [← lwV_nums]
    exact R1
theorem keep_eq (g : Nat) : ((stP N kd P at_ cs tfa rla T).w_hd (upd (stP N kd P at_ cs tfa rla T).hd g ((stP N kd P at_ cs tfa rla T).hd g ++ [.str "law"]))).w_sg (upd (stP N kd P at_ cs tfa rla T).sg g ((stP N kd P at_ cs tfa rla T).sg g + 1)) = stP N kd (P.keep g) at_ cs tfa rla T := by
  have e1 := upd_map (fun x : List Hd => ((x.length : Nat) : Int)) P.hd g (P.hd g ++ [none])
  have e2 := upd_map (fun x : List Hd => x.map hv) P.hd g (P.hd g ++ [none])
  unfold stP Ps.keep
  simp only [e1, e2]
  have e3 : (((P.hd g ++ [(none : Hd)]).length : Nat) : Int) = ((P.hd g).length : Int) + 1 := by simp
  have e4 : (P.hd g ++ [(none : Hd)]).map hv = (P.hd g).map hv ++ [.str "law"] := by simp; rfl
  rw [e3, e4]
theorem body8 {ho : Nat} {lws : List Nat} {p : List (Nat × O)} (A : Fix α b) (L : Lc ns b l) (lho : l "holds" = some (.obj ho)) (Bd₀ : Bd (manyOf ns) P lws c) (hlw : lws.length ≤ 20) (hcc : c ≤ 40) (hc : cs.length ≤ 60)
    (R : Rep α (stP (manyOf ns) kd P at_ cs tfa rla (p ++ (ho, .list (lwV lws)) :: T)) H) :
    ExsW (CX w mean mg mb) (n + 8) (f_law fa cdv a ns) (lwBody (lw 7)) H l (fun f H' l' => f = .next ∧ l' = l ∧ ∃ P' g, Bd (manyOf ns) P' (lws ++ [g]) (c + 1) ∧ 1 ≤ g ∧ g ≤ manyOf ns ∧ Rep α (stP (manyOf ns) kd P' (at_ + 1) cs tfa rla (p ++ (ho, .list (lwV (lws ++ [g]))) :: T)) H') := by
  have hN := many_le ns
  have lh : l "hand" = some (.obj (α .hand)) := by rw [A.hand]; exact L.lh
  have lm := L.lm
  obtain ⟨_, H1, F1, rfl, R1⟩ := c_next (n := n + 7) (w := w) (mean := mean) (mg := mg) (mb := mb) (b := manyOf ns) R (by lia) hc
  have hx := nx_lt (stP (manyOf ns) kd P at_ cs tfa rla (p ++ (ho, .list (lwV lws)) :: T)) (b := manyOf ns) (by lia)
  have R1 : Rep α (stP (manyOf ns) kd P (at_ + 1) cs tfa rla (p ++ (ho, .list (lwV lws)) :: T)) H1 := R1
  have c0 : H.o ho = .list (lwV lws) := (R.tmp_at (pre := p) (post := T) rfl).1
  have c1 : H1.o ho = .list (lwV lws) := (R1.tmp_at (pre := p) (post := T) rfl).1
  have lz : (lwV lws).length ≤ 20 := by unfold lwV; rw [List.length_map]; exact hlw
  generalize nx (stP (manyOf ns) kd P at_ cs tfa rla (p ++ (ho, .list (lwV lws)) :: T)) (manyOf ns) = x at F1 hx
  obtain ⟨g, hg⟩ : ∃ g, g = 1 + x := ⟨_, rfl⟩
  have g1 : 1 ≤ g := by lia
  have gN : g ≤ manyOf ns := by lia
  have R2 : Rep α (stP (manyOf ns) kd P (at_ + 1) cs tfa rla (p ++ (ho, .list (lwV lws ++ [.int (g : Nat)])) :: T)) (H1.set ho (.list (lwV lws ++ [.int (g : Nat)]))) := R1.putG (pre := p) (post := T) rfl _
  refine' x_expr (ev_append (v := .int (g : Nat)) (us := lwV lws) (H₂ := H1) ?o c0 (ev_is ?e ?ee) c1 (by lia) (he := by k_dflt (intro _; rfl)) (h1 := by k_dflt (intro _; kernel_rfl)) (h2 := by k_dflt (intro _; kernel_rfl))) ?q (by k_dflt (intro _; kernel_rfl))
  case o => wtm_at "m.ev"
  case e => wtm_at "m.ev"
  case ee => rw [hg]; push_cast; rfl
  case q =>
    generalize H1.set ho _ = H2 at R2 ⊢
    clear F1 R R1 c0 c1
    have c2 : H2.o ho = .list (lwV lws ++ [.int (g : Nat)]) := (R2.tmp_at (pre := p) (post := T) rfl).1
    have lb : l "book" = some (.obj (α .bk)) := by rw [A.bk]; exact L.lb
    have gh : g ≤ (stP (manyOf ns) kd P (at_ + 1) cs tfa rla (p ++ (ho, .list (lwV lws ++ [.int (g : Nat)])) :: T)).nh := gN
    have gt : g ≤ (stP (manyOf ns) kd P (at_ + 1) cs tfa rla (p ++ (ho, .list (lwV lws ++ [.int (g : Nat)])) :: T)).nt := gN
    have hl := Bd₀.hl g
    have hlz : ((stP (manyOf ns) kd P (at_ + 1) cs tfa rla (p ++ (ho, .list (lwV lws ++ [.int (g : Nat)])) :: T)).hd g).length ≤ 100 := by show ((P.hd g).map hv).length ≤ 100; rw [List.length_map]; lia
    have R3 := R2.set_hd g1 gh ((stP (manyOf ns) kd P (at_ + 1) cs tfa rla (p ++ (ho, .list (lwV lws ++ [.int (g : Nat)])) :: T)).hd g ++ [.str "law"]) rfl
    have q3 := R2.at_hl g1 gh
    refine' x_expr (ev_append (v := .str "law") ?o q3 ev_str q3 (by lia) (he := by k_dflt (intro _; rfl)) (h1 := by k_dflt (intro _; kernel_rfl)) (h2 := by k_dflt (intro _; kernel_rfl))) ?q (by k_dflt (intro _; kernel_rfl))
    case o => wtm_at "m.ev"
    case q =>
      generalize H2.set (α (.hl g)) _ = H3 at R3 ⊢
      have c3 : H3.o ho = .list (lwV lws ++ [.int (g : Nat)]) := (R3.tmp_at (pre := p) (post := T) rfl).1
      have lp : l "heap" = some (.obj (α .hp)) := by rw [A.hp]; exact L.lp
      have live_ng' : ("live" : Str) ≠ "gone" := by decide +kernel
      obtain ⟨_, H4, F2, rfl, R4⟩ := c_retain (n := n + 6) (w := w) (mean := mean) (mg := mg) (mb := mb) R3 g1 gt (by show P.st g ≠ _; rw [Bd₀.st]; exact live_ng')
      have R4 : Rep α (stP (manyOf ns) kd (P.keep g) (at_ + 1) cs tfa rla (p ++ (ho, .list (lwV lws ++ [.int (g : Nat)])) :: T)) H4 := by rw [← keep_eq]; exact R4
      clear R2 q3
      ((first | with_reducible refine' x_expr ?za1 ?zq1 (by wtm_at "k") | refine' x_expr ?za1 ?zq1 (by wtm_at "k")); (case za1 => wtm_at "m.ev"))
      refine x_nil ⟨rfl, rfl, P.keep g, g, Bd₀.keep, g1, gN, ?_⟩
      have e : lwV (lws ++ [g]) = lwV lws ++ [.int (g : Nat)] := by unfold lwV; rw [List.map_append]; rfl
      rw [e]; exact R4
theorem seg8 {ho : Nat} (L : Lc ns b l) (A : Fix α b) (lho : l "holds" = some (.obj ho)) (Bd₀ : Bd (manyOf ns) P (nums0 (manyOf ns)) c) (hcc : c ≤ 21) (R : Rep α (stP (manyOf ns) kd P at_ (cellsOf ns) tfa rla [(0, .cell u₀), (b + 5, .list (numsV (manyOf ns))), (ho, .list (lwV (nums0 (manyOf ns))))]) H)
    (k : ∀ H' l' P at' lws c, Lc ns b l' → l' "holds" = some (.obj ho) → Bd (manyOf ns) P lws c → c ≤ 25 → lws.length ≤ 10 → (∀ x ∈ lws, 1 ≤ x ∧ x ≤ manyOf ns) → Rep α (stP (manyOf ns) kd P at' (cellsOf ns) tfa rla [(0, .cell u₀), (b + 5, .list (numsV (manyOf ns))), (ho, .list (lwV lws))]) H' → ExsW (CX w mean mg mb) (n + 8) (f_law fa cdv a ns) ts H' l' Q) :
    ExsW (CX w mean mg mb) (n + 8) (f_law fa cdv a ns) (lw 7 :: ts) H l Q := by
  have hN := many_le ns
  have hc := cells_len ns
  have lh : l "hand" = some (.obj (α .hand)) := by rw [A.hand]; exact L.lh
  obtain ⟨_, H2, F1, rfl, R2⟩ := c_next (n := n + 7) (w := w) (mean := mean) (mg := mg) (mb := mb) (b := 3) R (by decide) hc
  have hx := nx_lt (stP (manyOf ns) kd P at_ (cellsOf ns) tfa rla [(0, .cell u₀), (b + 5, .list (numsV (manyOf ns))), (ho, .list (lwV (nums0 (manyOf ns))))]) (b := 3) (by decide)
  have F1 : Fn (CX w mean mg mb) (n + 8) 249 [.obj (α .hand), .int 3] H (.int ((nx (stP (manyOf ns) kd P at_ (cellsOf ns) tfa rla [(0, .cell u₀), (b + 5, .list (numsV (manyOf ns))), (ho, .list (lwV (nums0 (manyOf ns))))]) 3 : Nat) : Int)) H2 := F1
  have R2 : Rep α (stP (manyOf ns) kd P (at_ + 1) (cellsOf ns) tfa rla [(0, .cell u₀), (b + 5, .list (numsV (manyOf ns))), (ho, .list (lwV (nums0 (manyOf ns))))]) H2 := R2
  generalize nx (stP (manyOf ns) kd P at_ (cellsOf ns) tfa rla [(0, .cell u₀), (b + 5, .list (numsV (manyOf ns))), (ho, .list (lwV (nums0 (manyOf ns))))]) 3 = x at F1 hx
  obtain ⟨H3, e3⟩ : ∃ K, K = H2.new (.range 0 (x : Nat)) := ⟨_, rfl⟩
  have R3 : Rep α (stP (manyOf ns) kd P (at_ + 1) (cellsOf ns) tfa rla [(0, .cell u₀), (b + 5, .list (numsV (manyOf ns))), (ho, .list (lwV (nums0 (manyOf ns))))]) H3 := by rw [e3]; exact R2.new _
  have r3 : H3.o H2.n = .range 0 ((x : Nat) : Int) := by rw [e3]; exact Hp.new_here _ _
  refine' x_rng (H₁ := H3) (r := H2.n) (b := x) (fun i H' l' => Lc ns b l' ∧ l' "holds" = some (.obj ho) ∧ ∃ P at' lws, Bd (manyOf ns) P lws (c + i) ∧ lws.length = manyOf ns + i ∧ (∀ x ∈ lws, 1 ≤ x ∧ x ≤ manyOf ns) ∧ Rep α (stP (manyOf ns) kd P at' (cellsOf ns) tfa rla [(0, .cell u₀), (b + 5, .list (numsV (manyOf ns))), (ho, .list (lwV lws)), (H3.n, .riter (i : Nat) (((x : Nat) : Int) - (i : Nat)))]) H') ?he r3 (by lia) ?st ?hI ?sp ?so (by kernel_rfl) rfl (by k_dflt (intro _ _; kernel_rfl)) (by k_dflt (intro _ _; kernel_rfl))
  case he =>
    rw [e3]
    refine' ev_call_ty1 ?rf ?ra ty_range (he := by k_dflt (intro _; kernel_rfl)) (h1 := by k_dflt (intro _; kernel_rfl)) (h2 := by k_dflt (intro _; kernel_rfl))
    case rf => wtm_at "m.glob"
    case ra => wtm_at "m.ev"
  case st =>
    refine ⟨L, lho, P, at_ + 1, nums0 (manyOf ns), Bd₀, by unfold nums0; simp, fun x hx => ?_, ?_⟩
    · unfold nums0 at hx
      obtain ⟨i, h1, h2⟩ := List.mem_map.mp hx
      have := List.mem_range.mp h1
      lia
    · have := R3.tmp' (.riter 0 ((x : Nat) : Int))
      have e : (((x : Nat) : Int) - ((0 : Nat) : Int)) = (x : Nat) := by lia
      rw [e]
      exact this
  case hI =>
    rintro i H' l' ⟨_, _, P, at', lws, _, _, _, R⟩
    exact (R.tmp_at (pre := [(0, .cell u₀), (b + 5, .list (numsV (manyOf ns))), (ho, .list (lwV lws))]) (post := []) rfl).1
  case sp =>
    rintro i H' l' hi ⟨L2, lh2, P, at', lws, hB2, hl2, hm2, R⟩
    have R4 : Rep α (stP (manyOf ns) kd P at' (cellsOf ns) tfa rla ([(0, .cell u₀), (b + 5, .list (numsV (manyOf ns)))] ++ (ho, .list (lwV lws)) :: [(H3.n, .riter ((i : Int) + 1) ((x : Int) - i - 1))])) (H'.set H3.n (.riter ((i : Int) + 1) ((x : Int) - i - 1))) := R.putG (pre := [(0, .cell u₀), (b + 5, .list (numsV (manyOf ns))), (ho, .list (lwV lws))]) (post := []) rfl _
    have L4 : Lc ns b (l'.set "turn" (.int (i : Nat))) := L2.old (by kernel_rfl) (by kernel_rfl) (by kernel_rfl) (by kernel_rfl) (by kernel_rfl)
    have lh4 : (l'.set "turn" (.int (i : Nat))) "holds" = some (.obj ho) := loc_old (by kernel_rfl) lh2
    refine ExsW.mono (body8 A L4 lh4 hB2 (by lia) (by lia) hc R4) ?_
    rintro f H5 l5 ⟨rfl, rfl, P', g, hB5, g1, gN, R5⟩
    refine ⟨L4, lh4, P', at' + 1, lws ++ [g], hB5, by simp; lia, fun y hy => ?_, ?_⟩
    · rcases List.mem_append.mp hy with hy | hy
      · exact hm2 y hy
      · rw [List.mem_singleton.mp hy]; exact ⟨g1, gN⟩
    · have e : ((x : Nat) : Int) - ((i + 1 : Nat) : Int) = (x : Int) - i - 1 := by lia
      have e' : (((i + 1 : Nat) : Nat) : Int) = (i : Int) + 1 := by lia
      rw [e, e']
      exact R5
  case so =>
    rintro H' l' ⟨L2, lh2, P, at', lws, hB2, hl2, hm2, R⟩
    have R4 : Rep α (stP (manyOf ns) kd P at' (cellsOf ns) tfa rla [(0, .cell u₀), (b + 5, .list (numsV (manyOf ns))), (ho, .list (lwV lws)), (H3.n, .junk)]) (H'.set H3.n .junk) := R.putG (pre := [(0, .cell u₀), (b + 5, .list (numsV (manyOf ns))), (ho, .list (lwV lws))]) (post := []) rfl _
    exact k _ l' P at' lws (c + x) L2 lh2 hB2 (by lia) (by lia) hm2 (R4.pop (pre := [(0, .cell u₀), (b + 5, .list (numsV (manyOf ns))), (ho, .list (lwV lws))]) rfl)
end
end

section
set_option maxRecDepth 100000
set_option maxHeartbeats 4000000
section
variable {n : Nat} {w : World} {mean : ExcName → Option Value} {mg mb : Str → Option Value} {α : Rl → Nat} {σ : St} {H : Hp} {l : Loc} {N g B b : Nat} {fa : Addr} {cdv : Value} {a : Addr} {ns : List Int} {Q : Fl → Hp → Loc → Prop} {ts : List Stmt} {kd : Nat → Str} {P : Ps} {at_ : Nat} {cs : List Nat} {tfa rla : Nat → Nat} {T : List (Nat × O)} {c : Nat} {lws : List Nat}
theorem ev_to {c : Cx} {n : Nat} {fr : FrS} {e : Expr} {H H₁ H₂ : Hp} {l : Loc} {v : V} (h : Ev c n fr e H l v H₁) (q : H₁ = H₂) : Ev c n fr e H l v H₂ := q ▸ h
theorem so_st (I : Inv N kd P [] lws) (h1 : 1 ≤ N) (hN : N ≤ 10) (hk : ∀ i, kdOk (kd i)) : So (stP N kd P at_ cs tfa rla T) N :=
  (so_of (σ := stP N kd P at_ cs tfa rla T) I (sameN hN) h1 rfl hk).at tfa rla T
theorem seg9 (A : Fix α b) (L : Lc ns b l) (I : Inv (manyOf ns) kd P [] lws) (hk : ∀ i, kdOk (kd i)) (R : Rep α (stP (manyOf ns) kd P at_ cs tfa rla T) H)
    (k : ∀ H', Rep α (stP (manyOf ns) kd P at_ cs tfa rla T) H' → ExsW (CX w mean mg mb) (n + 5) (f_law fa cdv a ns) ts H' l Q) : ExsW (CX w mean mg mb) (n + 5) (f_law fa cdv a ns) (lw 8 :: ts) H l Q := by
  have hN := many_le ns
  have lp : l "heap" = some (.obj (α .hp)) := by rw [A.hp]; exact L.lp
  have lb : l "book" = some (.obj (α .bk)) := by rw [A.bk]; exact L.lb
  obtain ⟨_, H1, F1, rfl, G1⟩ := c_isso (n := n) (w := w) (mean := mean) (mg := mg) (mb := mb) R (so_st I (by lia) (by lia) hk)
  refine' x_if_f0 (te_not (b := true) (te_val ?e tr_bool (by k_dflt (intro _; kernel_rfl)))) (k H1 (R.grew G1))
  case e => wtm_at "m.ev"
theorem body10 {ho g : Nat} {pre post : List Nat} {u : Option V} (A : Fix α b) (L : Lc ns b l) (lho : l "holds" = some (.obj ho)) (I : Inv (manyOf ns) kd P [] (pre ++ g :: post)) (hs : sfl (manyOf ns) P ≤ 39) (g1 : 1 ≤ g) (gN : g ≤ manyOf ns) (hz : pre.length + post.length ≤ 20) (hk : ∀ i, kdOk (kd i)) (hc : cs.length ≤ 60)
    (R : Rep α (stP (manyOf ns) kd P at_ cs tfa rla [(0, .cell u), (b + 5, .list (numsV (manyOf ns))), (ho, .list (lwV (pre ++ g :: post)))]) H)
    (hnx : nx (stP (manyOf ns) kd P at_ cs tfa rla [(0, .cell u), (b + 5, .list (numsV (manyOf ns))), (ho, .list (lwV (pre ++ g :: post)))]) (pre ++ g :: post).length = pre.length) :
    ExsW (CX w mean mg mb) (n + 50) (f_law fa cdv a ns) (lwBody (lw 9)) H l (fun f H' l' => f = .next ∧ l' = l ∧ ∃ P' at' tfa' rla' u', Inv (manyOf ns) kd P' [] (pre ++ post) ∧ sfl (manyOf ns) P' ≤ 39 ∧ Rep α (stP (manyOf ns) kd P' at' cs tfa' rla' [(0, .cell u'), (b + 5, .list (numsV (manyOf ns))), (ho, .list (lwV (pre ++ post)))]) H') := by
  have hN := many_le ns
  have lh : l "hand" = some (.obj (α .hand)) := by rw [A.hand]; exact L.lh
  have lm := L.lm
  have ll : (pre ++ g :: post).length = pre.length + post.length + 1 := by simp; lia
  obtain ⟨_, H1, F1, rfl, R1⟩ := c_next (n := n + 49) (w := w) (mean := mean) (mg := mg) (mb := mb) (b := (pre ++ g :: post).length) R (by lia) hc
  rw [hnx] at F1
  have R1 : Rep α (stP (manyOf ns) kd P (at_ + 1) cs tfa rla [(0, .cell u), (b + 5, .list (numsV (manyOf ns))), (ho, .list (lwV (pre ++ g :: post)))]) H1 := R1
  have c0 : H.o ho = .list (lwV (pre ++ g :: post)) := (R.tmp_at (pre := [(0, .cell u), (b + 5, .list (numsV (manyOf ns)))]) (post := []) rfl).1
  have c1 : H1.o ho = .list (lwV pre ++ .int (g : Nat) :: lwV post) := by
    have := (R1.tmp_at (pre := [(0, .cell u), (b + 5, .list (numsV (manyOf ns)))]) (post := []) rfl).1
    rw [this]; unfold lwV; rw [List.map_append]; rfl
  have lz : (lwV (pre ++ g :: post)).length ≤ 1000 := by unfold lwV; rw [List.length_map]; lia
  have e2 : lwV (pre ++ post) = lwV pre ++ lwV post := by unfold lwV; rw [List.map_append]
  have R2 : Rep α (stP (manyOf ns) kd P (at_ + 1) cs tfa rla [(0, .cell u), (b + 5, .list (numsV (manyOf ns))), (ho, .list (lwV (pre ++ post)))]) (H1.set ho (.list (lwV (pre ++ post)))) := R1.putG (pre := [(0, .cell u), (b + 5, .list (numsV (manyOf ns)))]) (post := []) rfl _
  have k2 : (H1.set ho (.list (lwV (pre ++ post)))).o 0 = .cell u := (R2.tmp_at (pre := []) (post := [(b + 5, .list (numsV (manyOf ns))), (ho, .list (lwV (pre ++ post)))]) rfl).1
  have R3 : Rep α (stP (manyOf ns) kd P (at_ + 1) cs tfa rla [(0, .cell (some (.int (g : Nat)))), (b + 5, .list (numsV (manyOf ns))), (ho, .list (lwV (pre ++ post)))]) ((H1.set ho (.list (lwV (pre ++ post)))).set 0 (.cell (some (.int (g : Nat))))) := R2.putG (pre := []) (post := [(b + 5, .list (numsV (manyOf ns))), (ho, .list (lwV (pre ++ post)))]) rfl _
  refine' x_asg_cell (H₁ := H1.set ho (.list (lwV (pre ++ post)))) (v := .int (g : Nat)) (ev_to (ev_popAt (H₂ := H1) (k := ((pre.length : Nat) : Int)) ?o c0 ?ix c1 ?z ?zk (he := by k_dflt (intro _; rfl)) (h1 := by k_dflt (intro _; kernel_rfl)) (h2 := by k_dflt (intro _; kernel_rfl))) (by rw [e2])) (.head _) k2 ?q (by kernel_rfl) (by k_dflt (intro _; kernel_rfl))
  case o => wtm_at "m.ev"
  case ix =>
    refine' ev_call_st (H₂ := H) ?f ?aa (by kernel_rfl) (Fn.call F1 rfl) (he := by k_dflt (intro _; kernel_rfl)) (h1 := by k_dflt (intro _; kernel_rfl)) (h2 := by k_dflt (intro _; kernel_rfl))
    case f => wtm_at "m.glob"
    case aa =>
      refine' eas_cons ?x1 (eas_cons (ev_is (v' := .int ((pre ++ g :: post).length : Nat)) ?x2 ?x3) eas_nil (he := by k_dflt (intro _; kernel_rfl))) (he := by k_dflt (intro _; kernel_rfl))
      case x1 => wtm_at "m.ev"
      case x2 => wtm_at "m.ev"
      case x3 => unfold lwV; rw [List.length_map]
  case z => unfold lwV; rw [List.length_map, List.length_map]; lia
  case zk => unfold lwV; rw [List.length_map]
  case q =>
    generalize (H1.set ho (.list (lwV (pre ++ post)))).set 0 _ = H3 at R3 ⊢
    clear F1 R R1 R2 c0 c1 k2
    have c3 : H3.o 0 = .cell (some (.int (g : Nat))) := (R3.tmp_at (pre := []) (post := [(b + 5, .list (numsV (manyOf ns))), (ho, .list (lwV (pre ++ post)))]) rfl).1
    have lp : l "heap" = some (.obj (α .hp)) := by rw [A.hp]; exact L.lp
    have lb : l "book" = some (.obj (α .bk)) := by rw [A.bk]; exact L.lb
    obtain ⟨P', m, d, br, hm, I', sf⟩ := let_go I hs g1 gN
    obtain ⟨_, H4, F2, rfl, t', R4⟩ := c_release (n := n + 43) (w := w) (mean := mean) (mg := mg) (mb := mb) (σ := stP (manyOf ns) kd P (at_ + 1) cs tfa rla [(0, .cell (some (.int (g : Nat)))), (b + 5, .list (numsV (manyOf ns))), (ho, .list (lwV (pre ++ post)))]) (t := tfa) d R3
    have c4 : H4.o 0 = .cell (some (.int (g : Nat))) := (R4.tmp_at (pre := []) (post := [(b + 5, .list (numsV (manyOf ns))), (ho, .list (lwV (pre ++ post)))]) rfl).1
    ((first | with_reducible refine' x_expr ?za1 ?zq1 (by wtm_at "k") | refine' x_expr ?za1 ?zq1 (by wtm_at "k")); (case za1 => wtm_at "m.ev"))
    obtain ⟨_, H5, F3, rfl, r', R5⟩ := c_letgo (n := n) (w := w) (mean := mean) (mg := mg) (mb := mb) (σ := (stP (manyOf ns) kd P (at_ + 1) cs tfa rla [(0, .cell (some (.int (g : Nat)))), (b + 5, .list (numsV (manyOf ns))), (ho, .list (lwV (pre ++ post)))]).wH P'.h t') (T := [(0, .cell (some (.int (g : Nat)))), (b + 5, .list (numsV (manyOf ns))), (ho, .list (lwV (pre ++ post)))]) (r := rla) ⟨rfl, rfl, rfl, rfl, rfl, rfl, rfl, (by show manyOf ns ≤ 10; lia)⟩ m (hol := none) (k := ("strong", g)) br R4
    have F3 : Fn (CX w mean mg mb) (n + 50) 270 [.obj (α .bk), .str "law", .str "strong", .int (g : Nat)] H4 .none H5 := F3.up (by lia)
    have R5 : Rep α (stP (manyOf ns) kd P' (at_ + 1) cs t' r' [(0, .cell (some (.int (g : Nat)))), (b + 5, .list (numsV (manyOf ns))), (ho, .list (lwV (pre ++ post)))]) H5 := R5
    ((first | with_reducible refine' x_expr ?za2 ?zq2 (by wtm_at "k") | refine' x_expr ?za2 ?zq2 (by wtm_at "k")); (case za2 => wtm_at "m.ev"))
    clear F2 F3 R3 R4 c3 c4
    obtain ⟨_, H6, F4, rfl, G6⟩ := c_isso (n := n + 45) (w := w) (mean := mean) (mg := mg) (mb := mb) R5 (so_st I' (by lia) (by lia) hk)
    have R6 := R5.grew G6
    obtain ⟨P2, td2, I2, dy2, sf2⟩ := td (σ := stP (manyOf ns) kd P' (at_ + 1) cs t' r' [(0, .cell (some (.int (g : Nat)))), (b + 5, .list (numsV (manyOf ns))), (ho, .list (lwV (pre ++ post)))]) (sameN (by lia)) (by lia) rfl hk _ P' I' (Nat.le_refl _)
    obtain ⟨_, H7, F5, rfl, t2, r2, R7⟩ := c_taken (n := n + 1) (w := w) (mean := mean) (mg := mg) (mb := mb) (σ := stP (manyOf ns) kd P' (at_ + 1) cs t' r' [(0, .cell (some (.int (g : Nat)))), (b + 5, .list (numsV (manyOf ns))), (ho, .list (lwV (pre ++ post)))]) (T := [(0, .cell (some (.int (g : Nat)))), (b + 5, .list (numsV (manyOf ns))), (ho, .list (lwV (pre ++ post)))]) (t := t') (r := r') (sameN (by lia)) td2 R6
    have F5 : Fn (CX w mean mg mb) (n + 50) 282 [.obj (α .hp), .obj (α .bk)] H6 (.bool true) H7 := F5.up (by lia)
    have R7 : Rep α (stP (manyOf ns) kd P2 (at_ + 1) cs t2 r2 [(0, .cell (some (.int (g : Nat)))), (b + 5, .list (numsV (manyOf ns))), (ho, .list (lwV (pre ++ post)))]) H7 := R7
    obtain ⟨H8, F6, t3, R8⟩ := c_read (n := n + 41) (w := w) (mean := mean) (mg := mg) (mb := mb) R7 (so_st I2 (by lia) (by lia) hk) (fun i i1 i2 hl => by
      have hl : P2.st i = "live" := hl
      have := List.length_pos_iff.mpr ((I2.lv i i1 i2).mp hl)
      show (1 : Int) ≤ ((P2.hd i).length : Int); lia) hc
    have R8 : Rep α (stP (manyOf ns) kd P2 (at_ + 3) cs t3 r2 [(0, .cell (some (.int (g : Nat)))), (b + 5, .list (numsV (manyOf ns))), (ho, .list (lwV (pre ++ post)))]) H8 := R8
    refine' x_if_f0 (te_bools (tes_or_f (te_not (b := true) (te_val ?e1 tr_bool (by k_dflt (intro _; kernel_rfl)))) (tes_or_f (te_not (b := true) (te_val ?e2 tr_bool (by k_dflt (intro _; kernel_rfl)))) (tes_or_f (te_not (b := true) (te_val ?e3 tr_bool (by k_dflt (intro _; kernel_rfl)))) tes_or_n)))) ?q
    case e1 => wtm_at "m.ev"
    case e2 => wtm_at "m.ev"
    case e3 =>
      refine' ev_call_st (H₂ := H7) (H₃ := H8) ?f ?aa (by kernel_rfl) (FnB.call F6 rfl rfl) (he := by k_dflt (intro _; kernel_rfl)) (h1 := by k_dflt (intro _; kernel_rfl)) (h2 := by k_dflt (intro _; kernel_rfl))
      case f => wtm_at "m.glob"
      case aa => wtm_at "m.eas"
    case q => exact x_nil ⟨rfl, rfl, P2, at_ + 3, t3, r2, _, I2, by lia, R8⟩
end
end

section
set_option maxRecDepth 100000
set_option maxHeartbeats 4000000
section
variable {n : Nat} {w : World} {mean : ExcName → Option Value} {mg mb : Str → Option Value} {α : Rl → Nat} {σ : St} {H : Hp} {l : Loc} {N g B b : Nat} {fa : Addr} {cdv : Value} {a : Addr} {ns : List Int} {Q : Fl → Hp → Loc → Prop} {ts : List Stmt} {kd : Nat → Str} {P : Ps} {at_ : Nat} {cs : List Nat} {tfa rla : Nat → Nat} {T : List (Nat × O)} {c : Nat} {lws : List Nat} {u : Option V}
theorem seg10 {ho : Nat} (A : Fix α b) (L : Lc ns b l) (lho : l "holds" = some (.obj ho)) (hk : ∀ i, kdOk (kd i)) (hc : cs.length ≤ 60)
    (k : ∀ H' P at' tfa' rla' u', Inv (manyOf ns) kd P [] [] → Rep α (stP (manyOf ns) kd P at' cs tfa' rla' [(0, .cell u'), (b + 5, .list (numsV (manyOf ns))), (ho, .list [])]) H' → ExsW (CX w mean mg mb) (n + 50) (f_law fa cdv a ns) ts H' l Q) :
    ∀ (m : Nat) {lws : List Nat} {P : Ps} {at_ : Nat} {tfa rla : Nat → Nat} {u : Option V} {H : Hp}, lws.length = m → m ≤ 20 → Inv (manyOf ns) kd P [] lws → sfl (manyOf ns) P ≤ 39 → (∀ x ∈ lws, 1 ≤ x ∧ x ≤ manyOf ns) →
      Rep α (stP (manyOf ns) kd P at_ cs tfa rla [(0, .cell u), (b + 5, .list (numsV (manyOf ns))), (ho, .list (lwV lws))]) H → ExsW (CX w mean mg mb) (n + 50) (f_law fa cdv a ns) (lw 9 :: ts) H l Q := by
  have hN := many_le ns
  intro m lws P at_ tfa rla u H hm hm2 I hs hr R
  refine' x_while ?wl
  induction m generalizing lws P at_ tfa rla u H with
  | zero =>
    have e : lws = [] := List.length_eq_zero_iff.mp hm
    subst e
    have q : H.o ho = .list [] := (R.tmp_at (pre := [(0, .cell u), (b + 5, .list (numsV (manyOf ns)))]) (post := []) rfl).1
    have q2 : ho < H.n := (R.tmp_at (pre := [(0, .cell u), (b + 5, .list (numsV (manyOf ns)))]) (post := []) rfl).2
    have R1 := R.new (.list [])
    have q1 := ((Grew.new H (.list [])).o ho q2).trans q
    refine' wl_stop (te_cmp ?a1 ?a2 (cmp_ne_lists q1 (Hp.new_here _ _) rfl (by lia)) (by kernel_rfl)) (k _ P at_ tfa rla u I R1)
    case a1 => wtm_at "m.ev"
    case a2 => wtm_at "m.ev"
  | succ m ih =>
    have q : H.o ho = .list (lwV lws) := (R.tmp_at (pre := [(0, .cell u), (b + 5, .list (numsV (manyOf ns)))]) (post := []) rfl).1
    have q2 : ho < H.n := (R.tmp_at (pre := [(0, .cell u), (b + 5, .list (numsV (manyOf ns)))]) (post := []) rfl).2
    have R1 := R.new (.list [])
    have q1 := ((Grew.new H (.list [])).o ho q2).trans q
    obtain ⟨x, r, hxr⟩ : ∃ x r, lws = x :: r := by
      cases lws with
      | nil => cases hm
      | cons x r => exact ⟨x, r, rfl⟩
    have q3 : (H.new (.list [])).o ho = .list (.int (x : Nat) :: lwV r) := by rw [q1, hxr]; rfl
    have hf : (V.int (x : Nat) :: lwV r).all flat2 = true := by
      have := ints_flat (x :: r)
      exact this
    refine' wl_go (te_cmp ?a1 ?a2 (cmp_ne_nil q3 (Hp.new_here _ _) hf (by lia)) (by kernel_rfl)) ?body
    case a1 => wtm_at "m.ev"
    case a2 => wtm_at "m.ev"
    case body =>
      generalize H.new (.list []) = H1 at R1
      have hi := nx_lt (stP (manyOf ns) kd P at_ cs tfa rla [(0, .cell u), (b + 5, .list (numsV (manyOf ns))), (ho, .list (lwV lws))]) (b := lws.length) (by lia)
      obtain ⟨i, hi'⟩ : ∃ i, nx (stP (manyOf ns) kd P at_ cs tfa rla [(0, .cell u), (b + 5, .list (numsV (manyOf ns))), (ho, .list (lwV lws))]) lws.length = i := ⟨_, rfl⟩
      rw [hi'] at hi
      have e : lws = lws.take i ++ lws[i] :: lws.drop (i + 1) := by rw [← List.drop_eq_getElem_cons hi, List.take_append_drop]
      have hg := hr _ (List.getElem_mem hi)
      have hp : (lws.take i).length = i := by rw [List.length_take]; lia
      have hd : (lws.drop (i + 1)).length = lws.length - (i + 1) := List.length_drop
      generalize lws.take i = pre at e hp
      generalize lws.drop (i + 1) = post at e hd
      generalize lws[i] = g at e hg
      subst e
      clear hxr q q1 q2 q3 hf R
      refine ExsW.mono (body10 A L lho I hs hg.1 hg.2 (by lia) hk hc R1 (hi'.trans hp.symm)) ?_
      rintro f H2 l2 ⟨rfl, rfl, P', at', tfa', rla', u', I', hs', R'⟩
      refine ih (lws := pre ++ post) ?_ (by lia) I' hs' (fun y hy => hr y ?_) R'
      · rw [List.length_append] at hm ⊢; rw [List.length_cons] at hm; lia
      · rcases List.mem_append.mp hy with hy | hy
        · exact List.mem_append_left _ hy
        · exact List.mem_append_right _ (.tail _ hy)
end
end

section
set_option maxRecDepth 100000
set_option maxHeartbeats 4000000
section
variable {n : Nat} {w : World} {mean : ExcName → Option Value} {mg mb : Str → Option Value} {α : Rl → Nat} {σ : St} {H : Hp} {l : Loc} {N g B b : Nat} {fa : Addr} {cdv : Value} {a : Addr} {ns : List Int} {Q : Fl → Hp → Loc → Prop} {ts : List Stmt} {kd : Nat → Str} {P : Ps} {at_ : Nat} {cs : List Nat} {tfa rla : Nat → Nat} {T : List (Nat × O)} {c : Nat} {lws : List Nat} {u : Option V}
theorem four_or : ∀ j : Nat, j = 0 ∨ j = 1 ∨ j = 2 ∨ j = 3 ∨ 4 ≤ j
  | 0 => .inl rfl
  | 1 => .inr (.inl rfl)
  | 2 => .inr (.inr (.inl rfl))
  | 3 => .inr (.inr (.inr (.inl rfl)))
  | j + 4 => .inr (.inr (.inr (.inr (Nat.le_add_left 4 j))))
theorem tew_all {c : Cx} {fr : FrS} {H₀ : Hp} {fe e : Expr} {p1 p2 : Pos} {R : Bool → Hp → Prop} (hf : Ev c n fr fe H l (.bi "all") H) (h : EvE c n fr e H l fun v H' => ∃ D vs, v = .obj D ∧ H'.o D = .list vs ∧ (∀ v ∈ vs, v = .bool true) ∧ R false H') (hq : fr.q = true)
    (he : ∀ env, eval (.Call fe [e] [] p1) env = (do callWith p1 (← eval fe env) [] (backTo p1 (starEach [e] env)) (backToKw p1 (keywordEach [] env))))
    (h1 : ∀ env, starEach [e] env = (false, eval e env) :: starEach [] env) (h2 : ∀ env, (backTo p1 (starEach [] env)).any (·.1) = false)
    (h3 : ∀ env, PySem.isTrue (.Call fe [e] [] p1) env (eval (.Call fe [e] [] p1) env) = (do let v ← eval (.Call fe [e] [] p1) env; standAt (Expr.Call fe [e] [] p1).pos; holding [v] (truthy v))) : ∃ r H₁, Te c n fr (.UnaryOp .Not (.Call fe [e] [] p1) p2) H l r H₁ ∧ R r H₁ := by
  obtain ⟨v, H', h4, D, vs, rfl, h5, h6, h7⟩ := h
  exact ⟨false, H', te_not (b := true) (te_val (ev_call_bi1 hf h4 (bi_all h5 h6 hq) he h1 h2) tr_bool h3), h7⟩
theorem body11 {ho : Nat} (A : Fix α b) (L : Lc ns b l) (hN1 : 1 ≤ g) (hN2 : g ≤ manyOf ns) (R : Rep α (stP (manyOf ns) kd P at_ cs tfa rla ((0, .cell (some (.int (g : Nat)))) :: T)) H) :
    ExsW (CX w mean mg mb) (n + 50) (f_law fa cdv a ns) (lwBody (lw 10)) H l (fun f H' l' => f = .next ∧ l' = l ∧ Rep α (stP (manyOf ns) kd P at_ cs tfa rla ((0, .cell (some (.int (g : Nat)))) :: T)) H') := by
  have hN := many_le ns
  have lp : l "heap" = some (.obj (α .hp)) := by rw [A.hp]; exact L.lp
  have lb : l "book" = some (.obj (α .bk)) := by rw [A.bk]; exact L.lb
  have c0 := R.tmp_at (pre := []) (post := T) rfl
  have c1 : H.o 0 = .cell (some (.int (g : Nat))) := c0.1
  have gs : g ≤ (stP (manyOf ns) kd P at_ cs tfa rla ((0, .cell (some (.int (g : Nat)))) :: T)).ns := hN2
  by_cases hg : P.st g = "gone"
  · refine' x_if_t (te_is (b' := true) (te_cmp ?a1 ?a2 cmp_eq_str (by kernel_rfl)) ?tt) ?q
    case a1 => wtm_at "m.ev"
    case a2 => wtm_at "m.ev"
    case tt => show (P.st g == "gone") = true; rw [hg]; exact beq_self_eq_true _
    case q =>
      refine' x_if_w (tew_all (H₀ := H) ?f (eve_obj (comp_tup (H₁ := H) (clN := [("goal", 0)]) (vs := [.meth 129 (α .hp), .meth 136 (α .hp), .meth 143 (α .hp), .meth 206 (α .hp)]) (us := [.bool true, .bool true, .bool true, .bool true]) ?tu (Nat.le_refl _) rfl (by show 4 ≤ 500; lia) ?helt ?hK ?hcl ?hcell (by kernel_rfl) ?hnames (by kernel_rfl) rfl (by k_dflt (intro _ _; kernel_rfl)) (by k_dflt (intro _ _; kernel_rfl))) ?g) rfl (by k_dflt (intro _; kernel_rfl)) (by k_dflt (intro _; kernel_rfl)) (by k_dflt (intro _; kernel_rfl)) (by k_dflt (intro _; kernel_rfl)))
      case f => wtm_at "m.glob"
      case tu =>
        refine' ev_tuple (eas_cons ?b1 (eas_cons ?b2 (eas_cons ?b3 (eas_cons ?b4 eas_nil (he := by k_dflt (intro _; kernel_rfl))) (he := by k_dflt (intro _; kernel_rfl))) (he := by k_dflt (intro _; kernel_rfl))) (he := by k_dflt (intro _; kernel_rfl))) (by show 4 ≤ 1000; lia)
        case b1 =>
          refine' ev_bound ?o R.at_hp ?no pl_Heap (by kernel_rfl) me_thing (by kernel_rfl) (by kernel_rfl) (by kernel_rfl) (by kernel_rfl) (he := by k_dflt (intro _; kernel_rfl))
          case o => wtm_at "m.ev"
          case no => wtm_at "m.fno"
        case b2 =>
          refine' ev_bound ?o R.at_hp ?no pl_Heap (by kernel_rfl) me_retain (by kernel_rfl) (by kernel_rfl) (by kernel_rfl) (by kernel_rfl) (he := by k_dflt (intro _; kernel_rfl))
          case o => wtm_at "m.ev"
          case no => wtm_at "m.fno"
        case b3 =>
          refine' ev_bound ?o R.at_hp ?no pl_Heap (by kernel_rfl) me_release (by kernel_rfl) (by kernel_rfl) (by kernel_rfl) (by kernel_rfl) (he := by k_dflt (intro _; kernel_rfl))
          case o => wtm_at "m.ev"
          case no => wtm_at "m.fno"
        case b4 =>
          refine' ev_bound ?o R.at_hp ?no pl_Heap (by kernel_rfl) me_unowned_to (by kernel_rfl) (by kernel_rfl) (by kernel_rfl) (by kernel_rfl) (he := by k_dflt (intro _; kernel_rfl))
          case o => wtm_at "m.ev"
          case no => wtm_at "m.fno"
      case helt =>
        rintro j x z H3 fs h1 h2 G K h3 h4
        have R3 := R.grew G
        have gt : g ≤ (stP (manyOf ns) kd P at_ cs tfa rla ((0, .cell (some (.int (g : Nat)))) :: T)).nt := hN2
        have key : ∃ f H4, x = .meth f (α .hp) ∧ z = .bool true ∧ FnB (CX w mean mg mb) (n + 50) 296 [.meth f (α .hp), .int (g : Nat)] H3 (.bool true) H4 ∧ Grew H3 H4 := by
          rcases four_or j with rfl | rfl | rfl | rfl | hj
          · cases h1; cases h2
            obtain ⟨H4, F, G4⟩ := c_refused (n := n + 49) (w := w) (mean := mean) (mg := mg) (mb := mb) (v := .int (g : Nat)) isFn_129 (e_thing (n := n + 46) (w := w) (mean := mean) (mg := mg) (mb := mb) R3 hN1 gt hg)
            exact ⟨129, H4, rfl, rfl, F, G4⟩
          · cases h1; cases h2
            obtain ⟨H4, F, G4⟩ := c_refused (n := n + 49) (w := w) (mean := mean) (mg := mg) (mb := mb) (v := .int (g : Nat)) isFn_136 (e_retain (n := n + 45) (w := w) (mean := mean) (mg := mg) (mb := mb) R3 hN1 gt hg)
            exact ⟨136, H4, rfl, rfl, F, G4⟩
          · cases h1; cases h2
            obtain ⟨H4, F, G4⟩ := c_refused (n := n + 49) (w := w) (mean := mean) (mg := mg) (mb := mb) (v := .int (g : Nat)) isFn_143 (e_release (n := n + 43) (w := w) (mean := mean) (mg := mg) (mb := mb) R3 hN1 gt hg)
            exact ⟨143, H4, rfl, rfl, F, G4⟩
          · cases h1; cases h2
            obtain ⟨H4, F, G4⟩ := c_refused (n := n + 49) (w := w) (mean := mean) (mg := mg) (mb := mb) (v := .int (g : Nat)) isFn_206 (e_unowned_to (n := n + 45) (w := w) (mean := mean) (mg := mg) (mb := mb) R3 hN1 gt hg)
            exact ⟨206, H4, rfl, rfl, F, G4⟩
          · rw [List.getElem?_eq_none (by show 4 ≤ j; exact hj)] at h1; cases h1
        obtain ⟨f, H4, rfl, rfl, F, G4⟩ := key
        have c3 : H3.o 0 = .cell (some (.int (g : Nat))) := (G.o 0 c0.2).trans c1
        refine ⟨H4, evk_call_st K (evk_glob g_refused ?x1 (by kernel_rfl) (by kernel_rfl)) (eask_cons K (evk_local K.ns h3 h4 (by kernel_rfl) (by kernel_rfl) (by kernel_rfl)) (eask_cons K (evk_cell (i := 0) rfl ?x2 c3 ?x3 (by kernel_rfl) (by kernel_rfl)) eask_nil ?x4) ?x5) (by kernel_rfl) (FnB.call F rfl rfl) ?x7 ?x8 ?x9, G4⟩
        case x1 => intro _ _; kernel_rfl
        case x2 => have := G.n; have := c0.2; lia
        case x3 => intro _ _; kernel_rfl
        case x4 => intro _; kernel_rfl
        case x5 => intro _; kernel_rfl
        case x7 => intro _; kernel_rfl
        case x8 => intro _; kernel_rfl
        case x9 => intro _; kernel_rfl
      case hK => intro p hp; have := List.mem_singleton.mp hp; subst this; exact c0.2
      case hcl =>
        intro x ω hx
        refine (closure_of (ad := fun _ => ω.ρ 0) ?_).trans (by kernel_rfl)
        intro p hp hf
        have hb : p.1 = "goal" := by revert p; decide +kernel
        rw [hb]; exact (hx "goal" 0 (.head _)).2
      case hcell => decide +kernel
      case hnames => decide +kernel
      case g =>
        rintro D H3 ⟨d1, G3, d2, d3⟩
        refine ⟨D, _, rfl, d1, fun v hv => ?_, x_nil (x_nil (x_nil ⟨rfl, rfl, R.grew G3⟩))⟩
        simp only [List.mem_cons, List.not_mem_nil, or_false, or_self] at hv
        exact hv
  · refine' x_if_f0 (te_is (b' := false) (te_cmp ?a1 ?a2 cmp_eq_str (by kernel_rfl)) ?tt) ?q
    case a1 => wtm_at "m.ev"
    case a2 => wtm_at "m.ev"
    case tt => show (P.st g == "gone") = false; exact beq_eq_false_iff_ne.mpr hg
    case q => exact x_nil ⟨rfl, rfl, R⟩
end
end

section
set_option maxRecDepth 100000
set_option maxHeartbeats 4000000
section
variable {n : Nat} {w : World} {mean : ExcName → Option Value} {mg mb : Str → Option Value} {α : Rl → Nat} {σ : St} {H : Hp} {l : Loc} {N g B b : Nat} {fa : Addr} {cdv : Value} {a : Addr} {ns : List Int} {Q : Fl → Hp → Loc → Prop} {ts : List Stmt} {kd : Nat → Str} {P : Ps} {at_ : Nat} {cs : List Nat} {tfa rla : Nat → Nat} {T : List (Nat × O)} {c : Nat} {lws : List Nat} {u : Option V}
theorem seg11 {o : Nat × O} (A : Fix α b) (L : Lc ns b l) (R : Rep α (stP (manyOf ns) kd P at_ cs tfa rla [(0, .cell u), (b + 5, .list (numsV (manyOf ns))), o]) H)
    (k : ∀ H' u', Rep α (stP (manyOf ns) kd P at_ cs tfa rla [(0, .cell u'), (b + 5, .list (numsV (manyOf ns))), o]) H' → ExsW (CX w mean mg mb) (n + 50) (f_law fa cdv a ns) ts H' l Q) :
    ExsW (CX w mean mg mb) (n + 50) (f_law fa cdv a ns) (lw 10 :: ts) H l Q := by
  have ln := L.ln
  have hr : H.o (b + 5) = .list (numsV (manyOf ns)) := (R.tmp_at (pre := [(0, .cell u)]) (post := [o]) rfl).1
  have hpos : 0 < H.n := (R.tmp_at (pre := []) (post := [(b + 5, .list (numsV (manyOf ns))), o]) rfl).2
  refine' x_for_cell (H₁ := H) (ci := 0) (r := b + 5) (vs := numsV (manyOf ns)) (fun j H' l' => l' = l ∧ ∃ u, Rep α (stP (manyOf ns) kd P at_ cs tfa rla [(0, .cell u), (b + 5, .list (numsV (manyOf ns))), o, (H.n, .iter (b + 5) j)]) H') ?he hr ?start ?hI ?hcc (by lia) ?step ?stop (.head _) (by kernel_rfl) rfl (by k_dflt (intro _ _; kernel_rfl)) (by k_dflt (intro _ _; kernel_rfl))
  case he => wtm_at "m.ev"
  case start => exact ⟨rfl, u, R.tmp' (.iter (b + 5) 0)⟩
  case hI =>
    rintro j H' l' ⟨_, u, R⟩
    exact ⟨(R.tmp_at (pre := [(0, .cell u), (b + 5, .list (numsV (manyOf ns))), o]) (post := []) rfl).1, (R.tmp_at (pre := [(0, .cell u)]) (post := [o, (H.n, .iter (b + 5) j)]) rfl).1⟩
  case hcc =>
    rintro j H' l' ⟨_, u, R⟩
    exact ⟨u, (R.tmp_at (pre := []) (post := [(b + 5, .list (numsV (manyOf ns))), o, (H.n, .iter (b + 5) j)]) rfl).1⟩
  case step =>
    rintro j v H' l' hv ⟨rfl, u, R⟩
    obtain ⟨hj, rfl⟩ := nums_at hv
    have R1 : Rep α (stP (manyOf ns) kd P at_ cs tfa rla [(0, .cell u), (b + 5, .list (numsV (manyOf ns))), o, (H.n, .iter (b + 5) (j + 1))]) (H'.set H.n (.iter (b + 5) (j + 1))) := R.putG (pre := [(0, .cell u), (b + 5, .list (numsV (manyOf ns))), o]) (post := []) rfl (.iter (b + 5) (j + 1))
    have R2 : Rep α (stP (manyOf ns) kd P at_ cs tfa rla [(0, .cell (some (.int ((j + 1 : Nat) : Int)))), (b + 5, .list (numsV (manyOf ns))), o, (H.n, .iter (b + 5) (j + 1))]) ((H'.set H.n (.iter (b + 5) (j + 1))).set 0 (.cell (some (.int ((j + 1 : Nat) : Int))))) := R1.putG (pre := []) (post := [(b + 5, .list (numsV (manyOf ns))), o, (H.n, .iter (b + 5) (j + 1))]) rfl (.cell (some (.int ((j + 1 : Nat) : Int))))
    refine ExsW.mono (body11 (ho := 0) (T := [(b + 5, .list (numsV (manyOf ns))), o, (H.n, .iter (b + 5) (j + 1))]) A L (by lia) (by lia) R2) ?_
    rintro f H2 l2 ⟨rfl, rfl, R'⟩
    exact ⟨rfl, _, R'⟩
  case stop =>
    rintro H' l' ⟨rfl, u, R⟩
    have R1 : Rep α (stP (manyOf ns) kd P at_ cs tfa rla [(0, .cell u), (b + 5, .list (numsV (manyOf ns))), o, (H.n, .junk)]) (H'.set H.n .junk) := R.putG (pre := [(0, .cell u), (b + 5, .list (numsV (manyOf ns))), o]) (post := []) rfl .junk
    exact k _ u (R1.pop (pre := [(0, .cell u), (b + 5, .list (numsV (manyOf ns))), o]) rfl)
theorem seg12 (A : Fix α b) (L : Lc ns b l) (I : Inv (manyOf ns) kd P [] lws) (hk : ∀ i, kdOk (kd i)) (R : Rep α (stP (manyOf ns) kd P at_ cs tfa rla T) H) : ExsW (CX w mean mg mb) (n + 5) (f_law fa cdv a ns) [lw 11] H l (fun f _ _ => f = .ret (.bool true)) := by
  have hN := many_le ns
  have lp : l "heap" = some (.obj (α .hp)) := by rw [A.hp]; exact L.lp
  have lb : l "book" = some (.obj (α .bk)) := by rw [A.bk]; exact L.lb
  obtain ⟨_, H1, F1, rfl, G1⟩ := c_isso (n := n) (w := w) (mean := mean) (mg := mg) (mb := mb) R (so_st I (by lia) (by lia) hk)
  ((first | with_reducible refine' x_return ?za1 ?zq1 | refine' x_return ?za1 ?zq1); (case za1 => wtm_at "m.ev"))
  rfl
theorem law_list : fB (stAt 22) = [lw 0, lw 1, lw 2, lw 3, lw 4, lw 5, lw 6, lw 7, lw 8, lw 9, lw 10, lw 11] := by kernel_rfl
/-- the law's own body -/
theorem law_walk (hn : H.n = 1) (hc : H.o 0 = .cell none) (hl : l "script" = some (.st a)) (hz : ns.length ≤ 63) : ExsW (CX w mean mg mb) (n + 50) (f_law fa cdv a ns) (fB (stAt 22)) H l (fun f _ _ => f = .ret (.bool true)) := by
  rw [law_list]
  have hN := many_le ns
  have hc60 := cells_len ns
  refine seg1 hn hc hl hz fun H l B P => ?_
  refine seg2 (n := n + 48) P fun H l b P => ?_
  refine seg3 P fun H l P => ?_
  refine seg4 P fun H l P => ?_
  refine seg5 (n := n + 46) P fun H l α kd tfa rla u L A hk R => ?_
  refine seg6 (n := n + 42) L A R fun H l P at' u c L hB hcc R => ?_
  refine seg7 L A R fun H l ho L lho R => ?_
  refine seg8 (n := n + 42) L A lho hB hcc R fun H l P at' lws c L lho hB hcc hlen hm R => ?_
  have I := hB.inv (kd := kd) (by lia) (by lia)
  have hs : sfl (manyOf ns) P ≤ 39 := Nat.le_trans hB.sz (by lia)
  refine seg9 (n := n + 45) A L I hk R fun H R => ?_
  refine seg10 A L lho hk hc60 (fun H P at' tfa' rla' u' I R => ?_) lws.length rfl (by lia) I hs hm R
  refine seg11 A L R fun H u' R => ?_
  exact seg12 (n := n + 45) A L I hk R
end
end

end
end Mine

section
set_option maxRecDepth 100000
set_option maxHeartbeats 0
namespace Mine
noncomputable section
theorem keys_ : ∀ P, as = (K P).map (·.1) := fun P => by kernel_rfl
/-- the law's frame, entered -/
theorem law_enter {w : World} {s₁ : Shared} {mg mb : Str → Option Value} {mean : ExcName → Option Value} {fa a : Addr} {cdv : Value} {h₁ : Heap} {tk : Nat} {m : Str → Option Value} {ob : Obj} {rs : List Value} {ns : List Int}
    {Q : Flow → Shared → Prop} {E : Value → Shared → Prop} (KX : (K w.params).In s₁.heap) (T : Top q (looseW q []) mean mg mb s₁.heap) (F : Fr s₁.heap s₁.heap.objs.size h₁ m) (hm : m "script" = some (.ref a)) (hob : ob.data = .cell none)
    (N : News s₁.heap s₁.heap.objs.size h₁ [(s₁.heap.objs.size + 1, ob)]) (hL : s₁.heap.IsList a rs.toArray) (hI : IntsAre rs ns) (hz : ns.length ≤ 63)
    (g : ∀ m' h' tk', Fr s₁.heap s₁.heap.objs.size h' m' → Q (.ret (.bool true)) (Sh s₁ h' tk')) :
    wpAny (model pw w) (callerA.deeper (envOfC "law" (fS (stAt 22)) s₁.heap.objs.size fa cdv)) (execs (fB (stAt 22)) (envOfC "law" (fS (stAt 22)) s₁.heap.objs.size fa cdv)) Q E (Sh s₁ h₁ tk) := by
  obtain ⟨f, H', l', X, rfl⟩ := law_walk (n := 0) (w := w) (mean := mean) (mg := mg) (mb := mb) (fa := fa) (cdv := cdv) (a := a) (ns := ns) (H := ⟨fun _ => .cell none, 1⟩) (l := fun y => if y = "script" then some (.st a) else none) rfl rfl (if_pos rfl) hz
  have hcells : cellsFrom (s₁.heap.objs.size + 1) (fS (stAt 22)).names [] = ([("goal", s₁.heap.objs.size + 1)] : List (Str × Addr)) := by kernel_rfl
  have henv : envOfC "law" (fS (stAt 22)) s₁.heap.objs.size fa cdv = envX "law" (fS (stAt 22)) s₁.heap.objs.size fa cdv [("goal", s₁.heap.objs.size + 1)] := by
    show envX "law" (fS (stAt 22)) s₁.heap.objs.size fa cdv (cellsFrom (s₁.heap.objs.size + 1) (fS (stAt 22)).names []) = _
    rw [hcells]
  rw [henv]
  refine X { A := callerA.deeper (envX "law" (fS (stAt 22)) s₁.heap.objs.size fa cdv [("goal", s₁.heap.objs.size + 1)]), A₀ := callerA, base := s₁.heap, h₀ := s₁.heap, outer := [], cl := [("goal", s₁.heap.objs.size + 1)], L := s₁.heap.objs.size }
    ⟨fun _ => s₁.heap.objs.size + 1, 1, [(s₁.heap.objs.size + 1, ob)]⟩ m (Sh s₁ h₁ tk) Q E ?_ fun r ω' m' h' tk' k' _ r' => ?_
  · refine ⟨below_caller _, KX, T, by kernel_rfl, fun _ => rfl, fun _ => ⟨rfl, rfl, fun p hp => ?_⟩, rfl, Nat.le_of_ble_eq_true (by kernel_rfl), Nat.le_of_ble_eq_true (by kernel_rfl), F, N, ⟨rfl, fun i hi _ => ⟨ob, .head _, ?_, hob⟩, fun i j hi hj _ _ _ => ?_⟩, fun y v hy => ?_, fun y i hy => ?_⟩
    · rw [List.mem_singleton.mp hp]; exact ⟨rs, hL, hI⟩
    · exact notImm_cell hob
    · have hi : i < 1 := hi
      have hj : j < 1 := hj
      lia
    · have hy : (if y = "script" then some (V.st a) else none) = some v := hy
      split at hy
      · rename_i e; cases hy; rw [e]; exact ⟨_, hm, RV.st⟩
      · cases hy
    · have hy := List.mem_singleton.mp hy
      cases hy
      exact ⟨Nat.lt_succ_self 0, rfl⟩
  · obtain ⟨r, rfl, hr⟩ := r'
    unfold RV at hr
    subst hr
    exact g m' h' tk' k'.F
theorem walk : WalkX q [] (XL q []) (X.obsZ as) (X.valZ K 302 603) PySem.Challenge.rw_pc0019_01.row.toRowW theD [] (fun f vs => PySem.call f vs) := by
  intro w s₀ s₁ mg mb G y fa o pm cd doc dV kV ho hd hcd hD hmg hg args vals as' L hpre hlay hrd hwl hlo
  obtain ⟨ZA, ZI, ZN, ZT⟩ := X.z_facts (K := K) (as := as) keys_ y
  have KX : (K w.params).In s₁.heap := InK.keeps w s₀.heap s₁.heap ZI L.keeps
  clear ZA ZI
  refine Ground.open G ?_
  intro T B D TE TW
  refine guard_noD D (by decide +kernel) ?_
  clear D
  obtain ⟨_, _, he, B0⟩ := based_of_top T rfl hmg ho hd
  have he' : cd = _ := he
  subst he'
  wrow_args hpre hlay hrd hwl hlo
  refine enter_call ?_
  w_top on
  refine codeAny_mono ?_ (fun _ _ g => GoodW.toG g)
  w_call any ho hd hcd hD T F
  rename Fr _ _ _ _ => F
  rename News _ _ _ _ => N
  rename Obj.data _ = _ => hob
  rename Top _ _ _ _ _ _ => T
  rename Heap.IsList _ _ _ => hL
  rename IntsAre _ _ => hI
  rename ¬ (63 : Int) < _ => hcond
  refine law_enter KX T F ?hm (hob.trans ?hc) N hL hI ?hz fun m' h' tk' F' => ?g
  case hm => kernel_rfl
  case hc => kernel_rfl
  case hz => lia
  case g =>
    close_w
end
end Mine
end

theorem PySem.Challenge.cw_pc0019_01_holds : PySem.Challenge.rw_pc0019_01.Holds :=
  Mine.holds_of Mine.walk
