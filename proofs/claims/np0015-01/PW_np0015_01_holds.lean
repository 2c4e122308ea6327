import PyProof.Rows.All
import Wide.All
import OpenK.AllK
import Wide.FinOn
import PySem.Challenge.RW_np0015_01
open PySem PySem.W PyProof.Rows
set_option Elab.async false
set_option maxRecDepth 100000
set_option linter.unusedVariables false
namespace Mine
set_option maxHeartbeats 8000000 in
open_top hd for PySem.Challenge.rw_np0015_01
end Mine
open PySem PySem.W PyProof.Rows PySem.Calls
namespace Mine

noncomputable abbrev KK (w : World) : Frag := Mine.hd.heap_39 w.params
noncomputable abbrev VV : Program := Mine.hd.view_39

/-- what every heap of the law's run holds -/
structure Bs (w : World) (h : Heap) : Prop where
  K : (KK w).In h
  T : ∃ mg mb, TopRead VV (looseW VV [Str.ofString "BLANKS"]) mg mb h

abbrev Le (h h' : Heap) : Prop := ∀ b o, h.get? b = some o → h'.get? b = some o
theorem Le.refl (h : Heap) : Le h h := fun _ _ e => e
theorem Le.trans {a b c : Heap} (x : Le a b) (y : Le b c) : Le a c := fun i o e => y i o (x i o e)
theorem Le.push (h : Heap) (o : Obj) : Le h (h.push o) := fun _ _ e => Heap.get?_push_of_some o e

theorem topRead_keeps {p : Program} {loose : List Str} {mg mb : Str → Option Value} {h h' : Heap} (T : TopRead p loose mg mb h) (k : Le h h') : TopRead p loose mg mb h' :=
  ⟨T.g.keeps k, T.b.keeps k, T.nolimit.keeps k, T.builtins, T.free⟩

theorem Bs.le {w : World} {h h' : Heap} (B : Bs w h) (k : Le h h') : Bs w h' :=
  ⟨B.K.keeps k, let ⟨mg, mb, T⟩ := B.T; ⟨mg, mb, topRead_keeps T k⟩⟩
theorem Bs.lim {w : World} {h : Heap} (B : Bs w h) : h.NoLimit := let ⟨_, _, T⟩ := B.T; T.nolimit

theorem keeps_refl (s : Shared) : Keeps s s := ⟨s.heap, s.toks, rfl, fun _ _ e => e⟩
theorem keeps_trans {a b c : Shared} (x : Keeps a b) (y : Keeps b c) : Keeps a c := by
  obtain ⟨h, t, rfl, hk⟩ := x
  obtain ⟨h', t', rfl, hk'⟩ := y
  exact ⟨h', t', rfl, fun b o e => hk' b o (hk b o e)⟩
theorem keeps_le {a b : Shared} (x : Keeps a b) : Le a.heap b.heap := by obtain ⟨h, t, rfl, hk⟩ := x; exact hk
theorem keeps_tok (s : Shared) (t : Nat) : Keeps s { s with toks := t } := ⟨s.heap, t, rfl, fun _ _ e => e⟩
theorem keeps_mk {s : Shared} {h : Heap} {t : Nat} (k : Le s.heap h) : Keeps s { s with heap := h, toks := t } := ⟨h, t, rfl, k⟩

/-- the room that is left to frames and C calls -/
structure Lv (n : Nat) (A : Around) : Prop where
  hh : A.handled = none
  hd : A.depth + n < recursionLimit
  hu : A.units + 20 * n < cLine
theorem Lv.mono {n m : Nat} {A : Around} (l : Lv n A) (h : m ≤ n) : Lv m A := ⟨l.hh, by have := l.hd; omega, by have := l.hu; omega⟩
theorem Lv.deeper {n : Nat} {A : Around} {env : Env} (l : Lv (n + 1) A) : Lv n (A.deeper env) :=
  ⟨l.hh, by have := l.hd; show A.depth + 1 + n < _; omega, by have := l.hu; show A.units + 3 + 20 * n < _; omega⟩
theorem Lv.room {n : Nat} {A : Around} (l : Lv n A) : A.depth < recursionLimit := by have := l.hd; omega
theorem Lv.units {n : Nat} {A : Around} (l : Lv n A) : A.units < cLine := by have := l.hu; omega
theorem Lv.mark {n : Nat} {A : Around} (l : Lv n A) : Lv n (A.mark none) := ⟨by show (none : Option Value).or A.handled = none; rw [l.hh]; rfl, l.hd, l.hu⟩
theorem Lv.in1 {n : Nat} {A : Around} (l : Lv (n + 1) A) : Lv n A.in1 := ⟨l.hh, by have := l.hd; show A.depth + n < _; omega, by have := l.hu; show A.units + 1 + 20 * n < _; omega⟩

/-- a tree that keeps the heap and gives a value of this kind -/
def Gv {α : Type} (prog : Program) (w : World) (A : Around) (t : Sem α) (h : Heap) (P : Heap → α → Prop) : Prop :=
  ∀ (s : Shared) (E : Value → Shared → Prop), Le h s.heap → wpAny (model prog w) A t (fun v s' => Keeps s s' ∧ P s'.heap v) E s

section
variable {prog : Program} {w : World} {A : Around} {h h' : Heap} {α β : Type} {P : Heap → α → Prop} {t : Sem α}
theorem Gv.le (g : Gv prog w A t h P) (k : Le h h') : Gv prog w A t h' P := fun s E l => g s E (k.trans l)
theorem Gv.to {P' : Heap → α → Prop} (g : Gv prog w A t h P) (i : ∀ h v, P h v → P' h v) : Gv prog w A t h P' :=
  fun s E l => wpAny_mono (g s E l) (fun _ _ x => ⟨x.1, i _ _ x.2⟩) fun _ _ x => x
theorem Gv.use {Q : α → Shared → Prop} {E : Value → Shared → Prop} {s : Shared} (g : Gv prog w A t h P) (k : Le h s.heap)
    (q : ∀ v s', Keeps s s' → P s'.heap v → Q v s') : wpAny (model prog w) A t Q E s := wpAny_mono (g s E k) (fun v s' x => q v s' x.1 x.2) fun _ _ x => x
/-- to show it: take the heap at hand as the base -/
theorem Gv.of (f : ∀ (s : Shared) (E : Value → Shared → Prop), Le h s.heap → wpAny (model prog w) A t (fun v s' => Keeps s s' ∧ P s'.heap v) E s) : Gv prog w A t h P := f
end

abbrev isI (n : Int) : Heap → Value → Prop := fun _ v => ∃ t, v = .int n t
abbrev isB (b : Bool) : Heap → Value → Prop := fun _ v => v = .bool b
abbrev isV (u : Value) : Heap → Value → Prop := fun _ v => v = u
abbrev isS (x : Str) : Heap → Value → Prop := fun _ v => ∃ t, v = .str x t
abbrev isT (b : Bool) : Heap → Bool → Prop := fun _ v => v = b

section
variable {prog : Program} {w : World} {A : Around} {h : Heap} {env : Env} {m : Str → Option Value}

theorem ev_loc {x : Str} {pos : Pos} {v : Value} (hn : h.Ns env.locals m) (hv : m x = some v) (hk : env.scope.kind = .function) (hl : env.kindOf x = some .local)
    (hd : (x == ("__debug__" : Str)) = false) : Gv prog w A (eval (.Name x pos) env) h (isV v) := fun _ _ k =>
  wpAny_Name (wpAny_loadName_local hk hl (hn.keeps k) hv ⟨keeps_refl _, rfl⟩) hd
theorem ev_glob {x : Str} {pos : Pos} {v : Value} (B : Bs w h) (e : nsIn (KK w) mainGlobals x = some (some v)) (hg : env.globals = mainGlobals) (hk : env.scope.kind = .function)
    (hl : env.kindOf x = some .globalImplicit) (hd : (x == ("__debug__" : Str)) = false) : Gv prog w A (eval (.Name x pos) env) h (isV v) := fun s E k => by
  obtain ⟨mg, mb, T⟩ := (B.le k).T
  exact Name_function_global hk hl (loadGlobal_global (by rw [hg]; exact T.g) (mg_of (B.le k).K T.g e) ⟨keeps_refl _, rfl⟩) hd
theorem ev_bin {x : Str} {pos : Pos} {v : Value} (B : Bs w h) (e : nsIn (KK w) mainGlobals x = some none) (hv : bootBuiltins x = some v) (hx : x ≠ "__name__") (hg : env.globals = mainGlobals) (hb : env.builtins = builtinsNs) (hk : env.scope.kind = .function)
    (hl : env.kindOf x = some .globalImplicit) (hd : (x == ("__debug__" : Str)) = false) : Gv prog w A (eval (.Name x pos) env) h (isV v) := fun s E k => by
  obtain ⟨mg, mb, T⟩ := (B.le k).T
  exact Name_function_global hk hl (loadGlobal_builtin (by rw [hg]; exact T.g) (mg_none_of (B.le k).K T.g e) (by rw [hb]; exact T.b) ((T.builtins x hx).trans hv) ⟨keeps_refl _, rfl⟩) hd
theorem ev_int {i : Int} {k : Nat} {pos : Pos} : Gv prog w A (eval (.Constant (.int i) k pos) env) h (isI i) := fun s _ _ => wpAny_Constant_int ⟨keeps_tok s _, _, rfl⟩
theorem ev_none {k : Nat} {pos : Pos} : Gv prog w A (eval (.Constant .none k pos) env) h (isV .none) := fun s _ _ => wpAny_Constant_none ⟨keeps_refl s, rfl⟩
theorem ev_bool {b : Bool} {k : Nat} {pos : Pos} : Gv prog w A (eval (.Constant (.bool b) k pos) env) h (isB b) := fun s _ _ => wpAny_Constant_bool ⟨keeps_refl s, rfl⟩
theorem ev_str {x : Str} {k : Nat} {pos : Pos} : Gv prog w A (eval (.Constant (.str x) k pos) env) h (isS x) := fun s _ _ => wpAny_Constant_str ⟨keeps_tok s _, _, rfl⟩

/-- two parts, then a step -/
theorem gv_two {t₁ t₂ : Sem Value} {P₁ P₂ : Heap → Value → Prop} {P : Heap → Value → Prop} {whole : Sem Value} {step : Value → Value → Sem Value}
    (hw : ∀ (s : Shared) (Q E : Value → Shared → Prop), wpAny (model prog w) A t₁ (fun a s₁ => wpAny (model prog w) A t₂ (fun b s₂ => wpAny (model prog w) A (step a b) Q E s₂) E s₁) E s → wpAny (model prog w) A whole Q E s)
    (g₁ : Gv prog w A t₁ h P₁) (g₂ : Gv prog w A t₂ h P₂)
    (st : ∀ (a b : Value) (s s₁ s₂ : Shared) (E : Value → Shared → Prop), Le h s₁.heap → Keeps s₁ s₂ → P₁ s₁.heap a → P₂ s₂.heap b → wpAny (model prog w) A (step a b) (fun v s' => Keeps s₂ s' ∧ P s'.heap v) E s₂) : Gv prog w A whole h P := fun s E k => by
  refine hw s _ _ (g₁.use k fun a s₁ k₁ p₁ => g₂.use (k.trans (keeps_le k₁)) fun b s₂ k₂ p₂ => ?_)
  exact wpAny_mono (st a b s s₁ s₂ E (k.trans (keeps_le k₁)) k₂ p₁ p₂) (fun v s' x => ⟨keeps_trans (keeps_trans k₁ k₂) x.1, x.2⟩) fun _ _ x => x

theorem ev_add {l r : Expr} {pos : Pos} {a b : Int} (g₁ : Gv prog w A (eval l env) h (isI a)) (g₂ : Gv prog w A (eval r env) h (isI b)) : Gv prog w A (eval (.BinOp l .Add r pos) env) h (isI (a + b)) :=
  gv_two (step := binaryOp .Add) (fun _ _ _ => wpAny_BinOp) g₁ g₂ fun u v _ s₁ s₂ E _ _ ⟨_, p⟩ ⟨_, q⟩ => by subst p; subst q; exact add_int ⟨keeps_tok _ _, _, rfl⟩
theorem ev_sub {l r : Expr} {pos : Pos} {a b : Int} (g₁ : Gv prog w A (eval l env) h (isI a)) (g₂ : Gv prog w A (eval r env) h (isI b)) : Gv prog w A (eval (.BinOp l .Sub r pos) env) h (isI (a - b)) :=
  gv_two (step := binaryOp .Sub) (fun _ _ _ => wpAny_BinOp) g₁ g₂ fun u v _ s₁ s₂ E _ _ ⟨_, p⟩ ⟨_, q⟩ => by subst p; subst q; exact sub_int ⟨keeps_tok _ _, _, rfl⟩
theorem ev_neg {e : Expr} {pos : Pos} {a : Int} (g : Gv prog w A (eval e env) h (isI a)) : Gv prog w A (eval (.UnaryOp .USub e pos) env) h (isI (-a)) := fun s E k =>
  wpAny_UnaryOp (g.use k fun v s' k' ⟨_, p⟩ => by subst p; exact neg_int ⟨keeps_trans k' (keeps_tok _ _), _, rfl⟩)

/-- one comparison of ints -/
def cmpB : CmpOp → Int → Int → Option Bool
  | .Lt, a, b => some (decide (a < b))
  | .LtE, a, b => some (decide (a ≤ b))
  | .Gt, a, b => some (decide (b < a))
  | .GtE, a, b => some (decide (b ≤ a))
  | .Eq, a, b => some (a == b)
  | .NotEq, a, b => some (a != b)
  | _, _, _ => none
theorem cmp_any {op : CmpOp} {a b : Int} {t u : Tok} {c : Bool} (e : cmpB op a b = some c) {Q E : Value → Shared → Prop} {s : Shared} (q : Q (.bool c) s) :
    wpAny (model prog w) A (compareOp op (.int a t) (.int b u)) Q E s := by
  cases op <;> simp only [cmpB, reduceCtorEq, Option.some.injEq] at e <;> subst e
  · exact eq_int q
  · exact ne_int q
  · exact lt_int q
  · exact le_int q
  · exact gt_int q
  · exact ge_int q
theorem ev_cmp {op : CmpOp} {l r : Expr} {pos : Pos} {a b : Int} {c : Bool} (g₁ : Gv prog w A (eval l env) h (isI a)) (g₂ : Gv prog w A (eval r env) h (isI b)) (e : cmpB op a b = some c)
    (hm : behindInMarks op r = false) : Gv prog w A (eval (.Compare l [op] [r] pos) env) h (isB c) :=
  gv_two (step := compareOp op) (fun _ _ _ x => wpAny_Compare1 x hm) g₁ g₂ fun u v _ s₁ s₂ E _ _ ⟨_, p⟩ ⟨_, q⟩ => by subst p; subst q; exact cmp_any e ⟨keeps_refl _, rfl⟩

/-- a test -/
abbrev Ts (prog : Program) (w : World) (A : Around) (env : Env) (e : Expr) (h : Heap) (b : Bool) : Prop := Gv prog w A (PySem.isTrue e env (eval e env)) h (isT b)
theorem ts_cmp {op : CmpOp} {l r : Expr} {pos : Pos} {a b : Int} {c : Bool} (g₁ : Gv prog w A (eval l env) h (isI a)) (g₂ : Gv prog w A (eval r env) h (isI b)) (e : cmpB op a b = some c)
    (hm : behindInMarks op r = false) : Ts prog w A env (.Compare l [op] [r] pos) h c := fun s E k =>
  wpAny_isTrue_Compare1 (g₁.use k fun u s₁ k₁ ⟨_, p⟩ => g₂.use (k.trans (keeps_le k₁)) fun v s₂ k₂ ⟨_, q⟩ => by
    subst p; subst q; exact cmp_any e (wpAny_truthy_bool ⟨keeps_trans k₁ k₂, rfl⟩)) hm
theorem ts_and {e₁ e₂ : Expr} {pos : Pos} {b₁ b₂ : Bool} (g₁ : Ts prog w A env e₁ h b₁) (g₂ : b₁ = true → Ts prog w A env e₂ h b₂) : Ts prog w A env (.BoolOp .And [e₁, e₂] pos) h (b₁ && b₂) := fun s E k =>
  wpAny_isTrue_BoolOp (wpAny_allTrue_And_cons (g₁.use k fun v s₁ k₁ p => by
    cases p
    cases b₁ with
    | false => simpa using k₁
    | true => exact wpAny_allTrue_And_cons ((g₂ rfl).use (k.trans (keeps_le k₁)) fun u s₂ k₂ q => by
        cases q
        cases b₂ with
        | false => simpa using keeps_trans k₁ k₂
        | true => exact wpAny_allTrue_And_nil ⟨keeps_trans k₁ k₂, rfl⟩)))
theorem ts_or {e₁ e₂ : Expr} {pos : Pos} {b₁ b₂ : Bool} (g₁ : Ts prog w A env e₁ h b₁) (g₂ : b₁ = false → Ts prog w A env e₂ h b₂) : Ts prog w A env (.BoolOp .Or [e₁, e₂] pos) h (b₁ || b₂) := fun s E k =>
  wpAny_isTrue_BoolOp (wpAny_allTrue_Or_cons (g₁.use k fun v s₁ k₁ p => by
    cases p
    cases b₁ with
    | true => simpa using k₁
    | false => exact wpAny_allTrue_Or_cons ((g₂ rfl).use (k.trans (keeps_le k₁)) fun u s₂ k₂ q => by
        cases q
        cases b₂ with
        | true => simpa using keeps_trans k₁ k₂
        | false => exact wpAny_allTrue_Or_nil ⟨keeps_trans k₁ k₂, rfl⟩)))
/-- a test whose value is a bool by itself (a name, a call) -/
theorem ts_val {e : Expr} {b : Bool} (g : Gv prog w A (eval e env) h (isB b))
    (hs : PySem.isTrue e env (eval e env) = do let v ← eval e env; standAt e.pos; holding [v] (truthy v)) : Ts prog w A env e h b := fun s E k =>
  wpAny_isTrue_value (g.use k fun v s₁ k₁ p => by subst p; exact wpAny_truthy_bool ⟨k₁, rfl⟩) hs
theorem ev_ifexp {t a b : Expr} {pos : Pos} {c : Bool} {P : Heap → Value → Prop} (g : Ts prog w A env t h c) (g₁ : c = true → Gv prog w A (eval a env) h P) (g₂ : c = false → Gv prog w A (eval b env) h P) :
    Gv prog w A (eval (.IfExp t a b pos) env) h P := fun s E k =>
  wpAny_IfExp (g.use k fun v s₁ k₁ p => by
    subst p
    cases v with
    | true => exact (g₁ rfl).use (k.trans (keeps_le k₁)) fun u s₂ k₂ q => ⟨keeps_trans k₁ k₂, q⟩
    | false => exact (g₂ rfl).use (k.trans (keeps_le k₁)) fun u s₂ k₂ q => ⟨keeps_trans k₁ k₂, q⟩)
theorem ev_and {e₁ e₂ : Expr} {pos : Pos} {b₁ b₂ : Bool} (g₁ : Gv prog w A (eval e₁ env) h (isB b₁)) (g₂ : b₁ = true → Gv prog w A (eval e₂ env) h (isB b₂)) : Gv prog w A (eval (.BoolOp .And [e₁, e₂] pos) env) h (isB (b₁ && b₂)) := fun s E k =>
  wpAny_And2 (g₁.use k fun v s₁ k₁ p => by
    subst p
    refine wpAny_truthy_bool ?_
    cases b₁ with
    | false => simpa using k₁
    | true => simpa using (g₂ rfl).use (k.trans (keeps_le k₁)) fun u s₂ k₂ q => ⟨keeps_trans k₁ k₂, q⟩)
theorem ev_or {e₁ e₂ : Expr} {pos : Pos} {b₁ b₂ : Bool} (g₁ : Gv prog w A (eval e₁ env) h (isB b₁)) (g₂ : b₁ = false → Gv prog w A (eval e₂ env) h (isB b₂)) : Gv prog w A (eval (.BoolOp .Or [e₁, e₂] pos) env) h (isB (b₁ || b₂)) := fun s E k =>
  wpAny_Or2 (g₁.use k fun v s₁ k₁ p => by
    subst p
    refine wpAny_truthy_bool ?_
    cases b₁ with
    | true => simpa using k₁
    | false => simpa using (g₂ rfl).use (k.trans (keeps_le k₁)) fun u s₂ k₂ q => ⟨keeps_trans k₁ k₂, q⟩)
end

/-- a def of the program's, by its place in the written heap -/
noncomputable def fdOf (w : World) (a : Addr) : FuncData := match (KK w).lookup a with
  | some ⟨_, _, .func fd, _⟩ => fd
  | _ => default
noncomputable def bodyOf (w : World) (a : Addr) : List Stmt := match (fdOf w a).body with
  | .stmts b => b
  | _ => []
noncomputable abbrev envF (w : World) (a : Addr) (L : Addr) : Env :=
  { scope := (fdOf w a).scope, locals := L, globals := (fdOf w a).globals, cells := [], qual := (fdOf w a).qualname ++ ".<locals>.", func := some a, code := (fdOf w a).code, frame := some L, builtins := (fdOf w a).builtins }

def retV : Flow → Value
  | .ret v => v
  | _ => .none

/-- what the entry of a def asks of the written heap: one closed check for each def -/
def okDef (K : Frag) (a : Addr) (ps : List Str) : Bool := match K.lookup a with
  | some ⟨_, _, .func fd, _⟩ => (match fd.body with | .stmts _ => true | _ => false) && fd.closure.isEmpty && codeIn K fd.code fd.qualname && !fd.scope.isCoroutine && !fd.scope.isGenerator && (fd.scope.kind == .function) &&
      (fd.scope.names.all fun x => !(x.2 == .cell)) && (ps.all fun x => fd.scope.names.lookup x == some .local)
  | _ => false

structure IsDef (w : World) (a : Addr) (ps : List Str) : Prop where
  at_ : ∃ o, (KK w).lookup a = some o ∧ o.data = .func (fdOf w a)
  body : (fdOf w a).body = .stmts (bodyOf w a)
  clo : (fdOf w a).closure = []
  code : codeIn (KK w) (fdOf w a).code (fdOf w a).qualname = true
  co : (fdOf w a).scope.isCoroutine = false
  gen : (fdOf w a).scope.isGenerator = false
  kind : (fdOf w a).scope.kind = .function
  cells : ∀ x ∈ (fdOf w a).scope.names, x.2 ≠ .cell
  loc : ∀ x ∈ ps, (fdOf w a).scope.names.lookup x = some .local

theorem IsDef.of {w : World} {a : Addr} {ps : List Str} (e : okDef (KK w) a ps = true) : IsDef w a ps := by
  unfold okDef at e
  split at e
  · rename_i c d fd sl q
    have hf : fdOf w a = fd := by unfold fdOf; rw [q]
    simp only [Bool.and_eq_true, Bool.not_eq_true', beq_iff_eq, List.all_eq_true, beq_eq_false_iff_ne, ne_eq, List.isEmpty_iff] at e
    obtain ⟨⟨⟨⟨⟨⟨⟨e1, e2⟩, e3⟩, e4⟩, e5⟩, e6⟩, e7⟩, e8⟩ := e
    refine ⟨⟨_, q, by rw [hf]⟩, ?_, by rw [hf]; exact e2, by rw [hf]; exact e3, by rw [hf]; exact e4, by rw [hf]; exact e5, by rw [hf]; exact e6, by rw [hf]; exact e7, by rw [hf]; exact e8⟩
    unfold bodyOf
    rw [hf]
    cases hb : fd.body with
    | stmts b => rfl
    | expr b => rw [hb] at e1; cases e1
  · cases e

theorem enter {prog : Program} {w : World} {A : Around} {a : Addr} {ps : List Str} {args : List Value} {Q E : Value → Shared → Prop} {s : Shared} (D : IsDef w a ps) (B : Bs w s.heap) (hroom : A.depth < recursionLimit)
    (hb : bindArgs (fdOf w a) ⟨args, []⟩ = pure (ps.zip args))
    (h : ∀ h₁ tk, Fr s.heap s.heap.objs.size h₁ (fun x => (ps.zip args).reverse.lookup x) →
      wpAny (model prog w) (A.deeper (envF w a s.heap.objs.size)) (execs (bodyOf w a) (envF w a s.heap.objs.size)) (fun f s' => Q (retV f) s') (fun _ _ => False) { s with heap := h₁, toks := tk }) :
    wpAny (model prog w) A (call (.ref a) args) Q E s := by
  obtain ⟨o, ho, hd⟩ := D.at_
  refine wpAny_call (codeAny_call_function hroom (B.K _ _ ho) hd D.co D.gen D.body (codeRec_of B.K D.code) ?_)
  rw [hb, D.clo]
  refine wpAny_pure (wpAny_newFunctionEnv D.cells (fun x hx => D.loc _ (List.of_mem_zip hx).1) (fun h₁ hns hsb => ⟨B.lim.fresh _ hsb, ?_⟩) D.kind)
  show codeAny _ _ (.func (bodyOf w a) (envF w a s.heap.objs.size)) _ _
  refine codeAny_func (wpAny_mono (h h₁ _ ⟨hns, fun b o e => hsb.extBut b o (Nat.ne_of_lt (Heap.lt_size e)) (Heap.get?_push_of_some _ e), Nat.le_refl _⟩) (fun f s' q => ?_) fun _ _ x => x.elim)
  cases f <;> exact q

/-- a def's contract out of its body's walk -/
theorem gv_call {prog : Program} {w : World} {A : Around} {a : Addr} {ps : List Str} {args : List Value} {h : Heap} {P : Heap → Value → Prop} (D : IsDef w a ps) (B : Bs w h) (hroom : A.depth < recursionLimit)
    (hb : bindArgs (fdOf w a) ⟨args, []⟩ = pure (ps.zip args))
    (b : ∀ (s : Shared) (g : Heap) (L : Addr), Le h g → Fr g L s.heap (fun x => (ps.zip args).reverse.lookup x) →
      wpAny (model prog w) (A.deeper (envF w a L)) (execs (bodyOf w a) (envF w a L)) (fun f s' => (∃ h' tk, s' = { s with heap := h', toks := tk } ∧ Le g h') ∧ P s'.heap (retV f)) (fun _ _ => False) s) :
    Gv prog w A (call (.ref a) args) h P := fun s E k =>
  enter D (B.le k) hroom hb fun h₁ tk F => wpAny_mono (b { s with heap := h₁, toks := tk } s.heap _ k F) (fun f s' q => by
    obtain ⟨⟨h', tk', rfl, hk⟩, p⟩ := q
    exact ⟨⟨h', tk', rfl, hk⟩, p⟩) fun _ _ x => x

/-- the end of a body: the frame's ground is kept -/
abbrev Fin' (g : Heap) (s s' : Shared) : Prop := ∃ h' tk, s' = { s with heap := h', toks := tk } ∧ Le g h'

section
variable {prog : Program} {w : World} {A : Around} {h g : Heap} {env : Env} {m : Str → Option Value} {Q : Flow → Shared → Prop} {E : Value → Shared → Prop} {s : Shared}
theorem fr_le {L : Addr} {h' : Heap} (F : Fr g L h m) (k : Le h h') : Fr g L h' m := ⟨F.ns.keeps k, fun b o e => k b o (F.keep b o e), F.above⟩

theorem x_ret {e : Expr} {pos : Pos} {rest : List Stmt} {P : Heap → Value → Prop} (g' : Gv prog w A (eval e env) s.heap P) (q : ∀ v s', Keeps s s' → P s'.heap v → Q (.ret v) s') :
    wpAny (model prog w) A (execs (.Return (some e) pos :: rest) env) Q E s :=
  wpAny_execs_cons (wpAny_Return_some (g'.use (Le.refl _) q))
theorem x_assign {x : Str} {p' pos : Pos} {e : Expr} {rest : List Stmt} {P : Heap → Value → Prop} (F : Fr g env.locals s.heap m) (g' : Gv prog w A (eval e env) s.heap P) (hk : env.scope.kind = .function) (hl : env.kindOf x = some .local)
    (hs : swapsWith e (some (.Name x p')) pos.line env = pure false)
    (q : ∀ v h₁ h' tk, Le s.heap h₁ → P h₁ v → Fr g env.locals h' (fun y => if y = x then some v else m y) → Heap.SameBut env.locals h₁ h' → wpAny (model prog w) A (execs rest env) Q E { s with heap := h', toks := tk }) :
    wpAny (model prog w) A (execs (.Assign [.Name x p'] e pos :: rest) env) Q E s :=
  wpAny_execs_cons (wpAny_Assign_Name (g'.use (Le.refl _) fun v s' k p => by
    obtain ⟨h₁, tk, rfl, hk'⟩ := k
    exact wpAny_storeName_local hl (fr_le F hk').ns (fun h' hn hsb => q v h₁ h' _ hk' p ((fr_le F hk').set hn hsb) hsb) (by rw [hk]; rfl)) hs)
theorem x_if {t : Expr} {body orelse rest : List Stmt} {pos : Pos} {b : Bool} (g' : Ts prog w A env t s.heap b)
    (q₁ : b = true → ∀ s', Keeps s s' → wpAny (model prog w) A (execs body env) (fun f s' => match f with | .next => wpAny (model prog w) A (execs rest env) Q E s' | f => Q f s') E s')
    (q₂ : b = false → ∀ s', Keeps s s' → wpAny (model prog w) A (execs orelse env) (fun f s' => match f with | .next => wpAny (model prog w) A (execs rest env) Q E s' | f => Q f s') E s') :
    wpAny (model prog w) A (execs (.If t body orelse pos :: rest) env) Q E s :=
  wpAny_execs_cons (wpAny_If (g'.use (Le.refl _) fun v s' k p => by
    subst p
    cases v with
    | true => exact q₁ rfl s' k
    | false => exact q₂ rfl s' k))
theorem x_nil (q : Q .next s) : wpAny (model prog w) A (execs [] env) Q E s := wpAny_execs_nil q

/-- the values of an argument list -/
theorem gs_nil {pos : Pos} : Gv prog w A (spliced (backTo pos (starEach [] env))) h (fun _ vs => vs = []) := fun s _ _ => wpAny_items_nil ⟨keeps_refl s, rfl⟩
theorem gs_cons {pos : Pos} {e : Expr} {rest : List Expr} {P : Value → Prop} {R : List Value → Prop} (g₁ : Gv prog w A (eval e env) h (fun _ => P)) (g₂ : Gv prog w A (spliced (backTo pos (starEach rest env))) h (fun _ => R))
    (hs : starEach (e :: rest) env = (false, eval e env) :: starEach rest env) :
    Gv prog w A (spliced (backTo pos (starEach (e :: rest) env))) h (fun _ vs => ∃ v r, vs = v :: r ∧ P v ∧ R r) := fun s E k =>
  wpAny_items_cons (g₁.use k fun v s₁ k₁ p => g₂.use (k.trans (keeps_le k₁)) fun r s₂ k₂ q => ⟨keeps_trans k₁ k₂, v, r, rfl, p, q⟩) hs

/-- a call of a def by its name -/
theorem ev_call {f : Expr} {a : Addr} {e : Expr} {es : List Expr} {pos : Pos} {R : List Value → Prop} {P : Heap → Value → Prop} (B : Bs w h) (gf : Gv prog w A (eval f env) h (isV (.ref a))) (hk : keepIn (KK w) (.ref a) = true)
    (ga : Gv prog w A (spliced (backTo pos (starEach (e :: es) env))) h (fun _ => R)) (gc : ∀ vs, R vs → Gv prog w A (call (.ref a) vs) h P)
    (he : starEach (e :: es) env = (false, eval e env) :: starEach es env) (hp : ((backTo pos (starEach es env)).any (·.1)) = false)
    (hc : eval (.Call f (e :: es) [] pos) env = (do callWith pos (← eval f env) [] (backTo pos (starEach (e :: es) env)) (backToKw pos (keywordEach [] env)))) : Gv prog w A (eval (.Call f (e :: es) [] pos) env) h P := fun s E k =>
  Call_ (gf.use k fun v s₁ k₁ p => by
    cases p
    refine callWith_K (B.le (k.trans (keeps_le k₁))).K hk (ga.use (k.trans (keeps_le k₁)) fun vs s₂ k₂ r => ⟨(B.le ((k.trans (keeps_le k₁)).trans (keeps_le k₂))).K, ?_⟩) he hp
    rw [List.nil_append]
    exact (gc vs r).use ((k.trans (keeps_le k₁)).trans (keeps_le k₂)) fun u s₃ k₃ q => ⟨keeps_trans (keeps_trans k₁ k₂) k₃, q⟩) hc

/-- a call of a built-in on one value -/
theorem ev_b1 {f e : Expr} {id : String} {pos : Pos} {R P : Heap → Value → Prop} (gf : Gv prog w A (eval f env) h (isV (.builtin id)))
    (ga : Gv prog w A (eval e env) h R) (gc : ∀ h' v, Le h h' → R h' v → Gv prog w A (call (.builtin id) [v]) h' P)
    (he : starEach [e] env = (false, eval e env) :: starEach [] env)
    (hc : eval (.Call f [e] [] pos) env = (do callWith pos (← eval f env) [] (backTo pos (starEach [e] env)) (backToKw pos (keywordEach [] env)))) : Gv prog w A (eval (.Call f [e] [] pos) env) h P := fun s E k =>
  Call_ (gf.use k fun v s₁ k₁ p => by
    cases p
    refine callWith_builtin1 (wpAny_items_cons (ga.use (k.trans (keeps_le k₁)) fun v s₂ k₂ r => wpAny_items_nil ?_) he) he rfl
    exact (gc _ v ((k.trans (keeps_le k₁)).trans (keeps_le k₂)) r).use (Le.refl _) fun u s₃ k₃ q => ⟨keeps_trans (keeps_trans k₁ k₂) k₃, q⟩) hc
theorem gv_len {c : Addr} {vs : List Value} (l : h.IsList c vs.toArray) (hb : vs.length < 2 ^ 62) : Gv prog w A (call (.builtin "len") [.ref c]) h (isI vs.length) := fun s E k => by
  obtain ⟨o, ho, r⟩ := l
  exact call_len_list ⟨o, k _ _ ho, r⟩ (by rw [List.size_toArray]; omega) ⟨keeps_tok _ _, s.toks + 1, rfl⟩

/-- an item of a list at a place within it -/
theorem ev_item {v i : Expr} {pos : Pos} {c : Addr} {vs : List Value} {k : Int} {y : Value} (g₁ : Gv prog w A (eval v env) h (isV (.ref c))) (hl : h.IsList c vs.toArray)
    (g₂ : Gv prog w A (eval i env) h (isI k)) (h0 : 0 ≤ k) (hk : k < 2 ^ 62) (hy : vs[k.toNat]? = some y)
    (hs : ∀ u, subscripted i false (.ref c) (.int k u) = operate [.ref c, .int k u] (getItem (.ref c) (.int k u))) : Gv prog w A (eval (.Subscript v i pos) env) h (isV y) := fun s E le =>
  Subscript_ (g₁.use le fun u s₁ k₁ p => g₂.use (le.trans (keeps_le k₁)) fun j s₂ k₂ q => by
    cases p
    obtain ⟨t, rfl⟩ := q
    obtain ⟨o, ho, r⟩ := hl
    have L : s₂.heap.IsList c vs.toArray := ⟨o, keeps_le k₂ _ _ (keeps_le k₁ _ _ (le _ _ ho)), r⟩
    refine tail_any L.typeIs slot_list_getitem.lookup (wpAny_getItem_list L h0 (by omega) (by simpa using hy) ?_) (hs t)
    exact ⟨keeps_trans k₁ k₂, rfl⟩)
/-- a chain of two comparisons of ints -/
theorem ts_chain2 {o₁ o₂ : CmpOp} {l r₁ r₂ : Expr} {pos : Pos} {a b c : Int} {b₁ b₂ : Bool} (g₁ : Gv prog w A (eval l env) h (isI a)) (g₂ : Gv prog w A (eval r₁ env) h (isI b)) (g₃ : Gv prog w A (eval r₂ env) h (isI c))
    (e₁ : cmpB o₁ a b = some b₁) (e₂ : cmpB o₂ b c = some b₂) (hm : lastMarks [o₁, o₂] [r₁, r₂] = false) : Ts prog w A env (.Compare l [o₁, o₂] [r₁, r₂] pos) h (b₁ && b₂) := fun s E k =>
  isTrue_chain (g₁.use k fun u s₁ k₁ ⟨_, p⟩ => test_link (g₂.use (k.trans (keeps_le k₁)) fun v s₂ k₂ ⟨_, q⟩ => by
    subst p; subst q
    refine cmp_any e₁ (wpAny_truthy_bool ?_)
    cases b₁ with
    | false => exact ⟨keeps_trans k₁ k₂, rfl⟩
    | true =>
      refine test_last (g₃.use ((k.trans (keeps_le k₁)).trans (keeps_le k₂)) fun x s₃ k₃ ⟨_, z⟩ => ?_)
      subst z
      exact cmp_any e₂ (wpAny_truthy_bool ⟨keeps_trans (keeps_trans k₁ k₂) k₃, rfl⟩))) hm

/-- a while loop by an invariant that falls -/
theorem x_while {test : Expr} {body rest : List Stmt} {pos : Pos} (I : Nat → Shared → Prop) (n : Nat) (hI : I n s)
    (turn : ∀ n s, I n s → ∃ b, Ts prog w A env test s.heap b ∧
      (b = true → ∀ s', Keeps s s' → wpAny (model prog w) A (execs body env) (fun f s₃ => match f with | .next => ∃ m, m < n ∧ I m s₃ | .ret v => Q (.ret v) s₃ | _ => False) (fun _ _ => False) s') ∧
      (b = false → ∀ s', Keeps s s' → wpAny (model prog w) A (execs rest env) Q E s')) :
    wpAny (model prog w) A (execs (.While test body [] pos :: rest) env) Q E s :=
  wpAny_execs_cons (wpAny_While (codeAny_whileLoop I (fun n s hn => by
    obtain ⟨b, g, q₁, q₂⟩ := turn n s hn
    refine g.use (Le.refl _) fun v s' k p => ?_
    subst p
    cases v with
    | true =>
      refine wpAny_mono (q₁ rfl s' k) (fun f s₃ q => ?_) fun _ _ x => x.elim
      cases f with
      | next => exact q
      | ret v => exact q
      | brk => exact q.elim
      | cont => exact q.elim
    | false => exact wpAny_execs_nil (q₂ rfl s' k)) n hI))

/-- a method of an object of an own class, called -/
theorem ev_meth0 {o : Expr} {name : Str} {apos pos : Pos} {f x C dx : Addr} {es : List DictEntry} {n : Nat} {pl : Sem Bool} {P : Heap → Value → Prop} (B : Bs w h) (I : InstAt h x (instObj C dx) C (some (dictOf es n)))
    (hg : plainGet (KK w) C name = true) (hf : findIn (KK w) (.ref C) name = some (some (.ref f))) (ht : isFn (KK w) (.ref f) = true) (hl : getL name es = some none) (hk : keepIn (KK w) (.ref f) = true)
    (go : Gv prog w A (eval o env) h (isV (.ref x))) (gc : Gv prog w A (call (.ref f) [.ref x]) h P)
    (hc : eval (.Call (.Attribute o name apos) [] [] pos) env = (do let ov ← eval o env; standAt apos.atName; let fx ← holding [ov] (getMethod ov name pl); match fx with | (f, first) => callWith pos f first (backTo pos (starEach [] env)) [])) :
    Gv prog w A (eval (.Call (.Attribute o name apos) [] [] pos) env) h P := fun s E k =>
  MethodCall_ (pl := pl) (go.use k fun v s₁ k₁ p => by
    cases p
    have k' := k.trans (keeps_le k₁)
    have I' : InstAt s₁.heap x (instObj C dx) C (some (dictOf es n)) := ⟨k' _ _ I.at_, rfl, rfl, k' _ _ I.dict⟩
    refine method_fn (B.le k').K I' (plainGet_of hg).1 (plainGet_of hg).2 hf (beq_iff_eq.mp ht) (by show (lookIn name (dictOf es n)).map _ = _; rw [lookIn_dict, hl]; rfl) ?_
    exact callWith_K0 (B.le k').K hk (gc.use k' fun u s₂ k₂ q => ⟨keeps_trans k₁ k₂, q⟩)) hc
theorem ev_meth1 {o e : Expr} {name : Str} {apos pos : Pos} {f x C dx : Addr} {es : List DictEntry} {n : Nat} {pl : Sem Bool} {P : Heap → Value → Prop} {R : Value → Prop} (B : Bs w h) (I : InstAt h x (instObj C dx) C (some (dictOf es n)))
    (hg : plainGet (KK w) C name = true) (hf : findIn (KK w) (.ref C) name = some (some (.ref f))) (ht : isFn (KK w) (.ref f) = true) (hl : getL name es = some none) (hk : keepIn (KK w) (.ref f) = true)
    (go : Gv prog w A (eval o env) h (isV (.ref x))) (ge : Gv prog w A (eval e env) h (fun _ => R)) (gc : ∀ v, R v → Gv prog w A (call (.ref f) [.ref x, v]) h P)
    (he : starEach [e] env = (false, eval e env) :: starEach [] env)
    (hc : eval (.Call (.Attribute o name apos) [e] [] pos) env = (do let ov ← eval o env; standAt apos.atName; let fx ← holding [ov] (getMethod ov name pl); match fx with | (f, first) => callWith pos f first (backTo pos (starEach [e] env)) [])) :
    Gv prog w A (eval (.Call (.Attribute o name apos) [e] [] pos) env) h P := fun s E k =>
  MethodCall_ (pl := pl) (go.use k fun v s₁ k₁ p => by
    cases p
    have k' := k.trans (keeps_le k₁)
    have I' : InstAt s₁.heap x (instObj C dx) C (some (dictOf es n)) := ⟨k' _ _ I.at_, rfl, rfl, k' _ _ I.dict⟩
    refine method_fn (B.le k').K I' (plainGet_of hg).1 (plainGet_of hg).2 hf (beq_iff_eq.mp ht) (by show (lookIn name (dictOf es n)).map _ = _; rw [lookIn_dict, hl]; rfl) ?_
    refine callWith_K (B.le k').K hk (wpAny_items_cons (ge.use k' fun u s₂ k₂ r => wpAny_items_nil ⟨(B.le (k'.trans (keeps_le k₂))).K, ?_⟩) he) he rfl
    exact (gc u r).use (k'.trans (keeps_le k₂)) fun y s₃ k₃ q => ⟨keeps_trans (keeps_trans k₁ k₂) k₃, q⟩) hc

/-- values said of the heap, that stay -/
def Mono (P : Heap → Value → Prop) : Prop := ∀ h h' v, Le h h' → P h v → P h' v
theorem mono_const {P : Value → Prop} : Mono fun _ => P := fun _ _ _ _ x => x
def isTup (P₁ P₂ : Heap → Value → Prop) : Heap → Value → Prop := fun h v => ∃ q a b, v = .ref q ∧ h.get? q = some { cls := .type "tuple", data := .seq #[a, b] } ∧ P₁ h a ∧ P₂ h b
theorem mono_tup {P₁ P₂ : Heap → Value → Prop} (m₁ : Mono P₁) (m₂ : Mono P₂) : Mono (isTup P₁ P₂) := by
  rintro h h' v k ⟨q, a, b, rfl, e, p₁, p₂⟩
  exact ⟨q, a, b, rfl, k _ _ e, m₁ _ _ _ k p₁, m₂ _ _ _ k p₂⟩

theorem ev_tuple2 {e₁ e₂ : Expr} {k : Nat} {pos : Pos} {P₁ P₂ : Heap → Value → Prop} (m₁ : Mono P₁) (m₂ : Mono P₂) (g₁ : Gv prog w A (eval e₁ env) h P₁) (g₂ : Gv prog w A (eval e₂ env) h P₂)
    (h₁ : starEach [e₁, e₂] env = (false, eval e₁ env) :: starEach [e₂] env) (h₂ : starEach [e₂] env = (false, eval e₂ env) :: starEach [] env) :
    Gv prog w A (eval (.Tuple [e₁, e₂] k pos) env) h (isTup P₁ P₂) := fun s E le =>
  Tuple_ (wpAny_items_cons (g₁.use le fun a s₁ k₁ p₁ => wpAny_items_cons (g₂.use (le.trans (keeps_le k₁)) fun b s₂ k₂ p₂ => wpAny_items_nil (by
    refine wpAny_newObj_type ⟨keeps_trans (keeps_trans k₁ k₂) (keeps_mk (Le.push _ _)), _, a, b, rfl, Heap.get?_push_size _ rfl, m₁ _ _ _ ((keeps_le k₂).trans (Le.push _ _)) p₁, m₂ _ _ _ (Le.push _ _) p₂⟩ ?_
    show 2 ≤ sizeLine
    decide)) h₂) h₁)

theorem ev_fst {v : Expr} {pos ipos : Pos} {ik : Nat} {P₁ P₂ : Heap → Value → Prop} (g : Gv prog w A (eval v env) h (isTup P₁ P₂)) (m₁ : Mono P₁) : Gv prog w A (eval (.Subscript v (.Constant (.int 0) ik ipos) pos) env) h P₁ := fun s E le =>
  Subscript_ (g.use le fun u s₁ k₁ p => wpAny_Constant_int (by
    obtain ⟨q, a, b, rfl, e, p₁, p₂⟩ := p
    refine item_tupleT (l := [a, b]) (j := 0) (x := a) ⟨_, e, rfl, 0, rfl⟩ (by decide) (by decide) rfl rfl ?_
    exact ⟨keeps_trans k₁ (keeps_tok _ _), p₁⟩))
theorem ev_snd {v : Expr} {pos ipos : Pos} {ik : Nat} {P₁ P₂ : Heap → Value → Prop} (g : Gv prog w A (eval v env) h (isTup P₁ P₂)) (m₁ : Mono P₁) : Gv prog w A (eval (.Subscript v (.Constant (.int 1) ik ipos) pos) env) h P₂ := fun s E le =>
  Subscript_ (g.use le fun u s₁ k₁ p => wpAny_Constant_int (by
    obtain ⟨q, a, b, rfl, e, p₁, p₂⟩ := p
    refine item_tupleT (l := [a, b]) (j := 1) (x := b) ⟨_, e, rfl, 0, rfl⟩ (by decide) (by decide) rfl rfl ?_
    exact ⟨keeps_trans k₁ (keeps_tok _ _), p₂⟩))

/-- int(bool) -/
theorem ev_intb {f e : Expr} {pos : Pos} {b : Bool} (gf : Gv prog w A (eval f env) h (isV (.type "int"))) (g : Gv prog w A (eval e env) h (isB b)) (he : starEach [e] env = (false, eval e env) :: starEach [] env)
    (hc : eval (.Call f [e] [] pos) env = (do callWith pos (← eval f env) [] (backTo pos (starEach [e] env)) (backToKw pos (keywordEach [] env)))) :
    Gv prog w A (eval (.Call f [e] [] pos) env) h (isI (if b = true then 1 else 0)) := fun s E k =>
  Call_ (gf.use k fun v s₁ k₁ p => by
    cases p
    refine PyProof.Rows.callWith_type1 (wpAny_items_cons (g.use (k.trans (keeps_le k₁)) fun u s₂ k₂ r => wpAny_items_nil ?_) he) he rfl
    cases r
    exact call_int_bool ⟨keeps_trans (keeps_trans k₁ k₂) (keeps_tok _ _), _, rfl⟩) hc

/-- calls of two and of three arguments -/
theorem ev_call2 {f e₁ e₂ : Expr} {a : Addr} {pos : Pos} {R₁ R₂ : Value → Prop} {P : Heap → Value → Prop} (B : Bs w h) (gf : Gv prog w A (eval f env) h (isV (.ref a))) (hk : keepIn (KK w) (.ref a) = true)
    (g₁ : Gv prog w A (eval e₁ env) h (fun _ => R₁)) (g₂ : Gv prog w A (eval e₂ env) h (fun _ => R₂)) (gc : ∀ v₁ v₂, R₁ v₁ → R₂ v₂ → Gv prog w A (call (.ref a) [v₁, v₂]) h P)
    (h₁ : starEach [e₁, e₂] env = (false, eval e₁ env) :: starEach [e₂] env) (h₂ : starEach [e₂] env = (false, eval e₂ env) :: starEach [] env) (hp : ((backTo pos (starEach [e₂] env)).any (·.1)) = false)
    (hc : eval (.Call f [e₁, e₂] [] pos) env = (do callWith pos (← eval f env) [] (backTo pos (starEach [e₁, e₂] env)) (backToKw pos (keywordEach [] env)))) : Gv prog w A (eval (.Call f [e₁, e₂] [] pos) env) h P :=
  ev_call (R := fun vs => ∃ v r, vs = v :: r ∧ R₁ v ∧ ∃ v' r', r = v' :: r' ∧ R₂ v' ∧ r' = []) B gf hk (gs_cons g₁ (R := fun r => ∃ v' r', r = v' :: r' ∧ R₂ v' ∧ r' = []) (gs_cons g₂ (R := fun r => r = []) gs_nil h₂) h₁)
    (fun vs ⟨v, r, e, p, v', r', e', p', e₂⟩ => by subst e; subst e'; subst e₂; exact gc v v' p p') h₁ hp hc
theorem ev_call3 {f e₁ e₂ e₃ : Expr} {a : Addr} {pos : Pos} {R₁ R₂ R₃ : Value → Prop} {P : Heap → Value → Prop} (B : Bs w h) (gf : Gv prog w A (eval f env) h (isV (.ref a))) (hk : keepIn (KK w) (.ref a) = true)
    (g₁ : Gv prog w A (eval e₁ env) h (fun _ => R₁)) (g₂ : Gv prog w A (eval e₂ env) h (fun _ => R₂)) (g₃ : Gv prog w A (eval e₃ env) h (fun _ => R₃)) (gc : ∀ v₁ v₂ v₃, R₁ v₁ → R₂ v₂ → R₃ v₃ → Gv prog w A (call (.ref a) [v₁, v₂, v₃]) h P)
    (h₁ : starEach [e₁, e₂, e₃] env = (false, eval e₁ env) :: starEach [e₂, e₃] env) (h₂ : starEach [e₂, e₃] env = (false, eval e₂ env) :: starEach [e₃] env) (h₃ : starEach [e₃] env = (false, eval e₃ env) :: starEach [] env)
    (hp : ((backTo pos (starEach [e₂, e₃] env)).any (·.1)) = false)
    (hc : eval (.Call f [e₁, e₂, e₃] [] pos) env = (do callWith pos (← eval f env) [] (backTo pos (starEach [e₁, e₂, e₃] env)) (backToKw pos (keywordEach [] env)))) : Gv prog w A (eval (.Call f [e₁, e₂, e₃] [] pos) env) h P :=
  ev_call (R := fun vs => ∃ v r, vs = v :: r ∧ R₁ v ∧ ∃ v' r', r = v' :: r' ∧ R₂ v' ∧ ∃ v₂ r₂, r' = v₂ :: r₂ ∧ R₃ v₂ ∧ r₂ = []) B gf hk
    (gs_cons g₁ (R := fun r => ∃ v' r', r = v' :: r' ∧ R₂ v' ∧ ∃ v₂ r₂, r' = v₂ :: r₂ ∧ R₃ v₂ ∧ r₂ = []) (gs_cons g₂ (R := fun r' => ∃ v₂ r₂, r' = v₂ :: r₂ ∧ R₃ v₂ ∧ r₂ = []) (gs_cons g₃ (R := fun r => r = []) gs_nil h₃) h₂) h₁)
    (fun vs ⟨v, r, e, p, v', r', e', p', v₂, r₂, e₂, p₂, e₃⟩ => by subst e; subst e'; subst e₂; subst e₃; exact gc v v' v₂ p p' p₂) h₁ hp hc
theorem ev_call4 {f e₁ e₂ e₃ e₄ : Expr} {a : Addr} {pos : Pos} {R₁ R₂ R₃ R₄ : Value → Prop} {P : Heap → Value → Prop} (B : Bs w h) (gf : Gv prog w A (eval f env) h (isV (.ref a))) (hk : keepIn (KK w) (.ref a) = true)
    (g₁ : Gv prog w A (eval e₁ env) h (fun _ => R₁)) (g₂ : Gv prog w A (eval e₂ env) h (fun _ => R₂)) (g₃ : Gv prog w A (eval e₃ env) h (fun _ => R₃)) (g₄ : Gv prog w A (eval e₄ env) h (fun _ => R₄))
    (gc : ∀ v₁ v₂ v₃ v₄, R₁ v₁ → R₂ v₂ → R₃ v₃ → R₄ v₄ → Gv prog w A (call (.ref a) [v₁, v₂, v₃, v₄]) h P)
    (h₁ : starEach [e₁, e₂, e₃, e₄] env = (false, eval e₁ env) :: starEach [e₂, e₃, e₄] env) (h₂ : starEach [e₂, e₃, e₄] env = (false, eval e₂ env) :: starEach [e₃, e₄] env) (h₃ : starEach [e₃, e₄] env = (false, eval e₃ env) :: starEach [e₄] env) (h₄ : starEach [e₄] env = (false, eval e₄ env) :: starEach [] env)
    (hp : ((backTo pos (starEach [e₂, e₃, e₄] env)).any (·.1)) = false)
    (hc : eval (.Call f [e₁, e₂, e₃, e₄] [] pos) env = (do callWith pos (← eval f env) [] (backTo pos (starEach [e₁, e₂, e₃, e₄] env)) (backToKw pos (keywordEach [] env)))) : Gv prog w A (eval (.Call f [e₁, e₂, e₃, e₄] [] pos) env) h P :=
  ev_call (R := fun vs => ∃ v r, vs = v :: r ∧ R₁ v ∧ ∃ v' r', r = v' :: r' ∧ R₂ v' ∧ ∃ v₂ r₂, r' = v₂ :: r₂ ∧ R₃ v₂ ∧ ∃ u x, r₂ = u :: x ∧ R₄ u ∧ x = []) B gf hk
    (gs_cons g₁ (R := fun r => ∃ v' r', r = v' :: r' ∧ R₂ v' ∧ ∃ v₂ r₂, r' = v₂ :: r₂ ∧ R₃ v₂ ∧ ∃ u x, r₂ = u :: x ∧ R₄ u ∧ x = []) (gs_cons g₂ (R := fun r' => ∃ v₂ r₂, r' = v₂ :: r₂ ∧ R₃ v₂ ∧ ∃ u x, r₂ = u :: x ∧ R₄ u ∧ x = []) (gs_cons g₃ (R := fun r => ∃ u x, r = u :: x ∧ R₄ u ∧ x = []) (gs_cons g₄ (R := fun r => r = []) gs_nil h₄) h₃) h₂) h₁)
    (fun vs ⟨v, r, e, p, v', r', e', p', v₂, r₂, e₂, p₂, u, x, e₃, p₃, e₄⟩ => by subst e; subst e'; subst e₂; subst e₃; subst e₄; exact gc v v' v₂ u p p' p₂ p₃) h₁ hp hc

theorem ts_isNotNone {l : Expr} {k : Nat} {p' pos : Pos} {v : Value} (g : Gv prog w A (eval l env) h (isV v)) (hm : behindInMarks .IsNot (.Constant .none k p') = false) :
    Ts prog w A env (.Compare l [.IsNot] [.Constant .none k p'] pos) h (!(v == .none)) := fun s E le =>
  wpAny_isTrue_Compare1 (g.use le fun u s₁ k₁ p => wpAny_Constant_none (by cases p; exact isNot_none (wpAny_truthy_bool ⟨k₁, rfl⟩))) hm

theorem le_of_ext {h h' : Heap} (e : Heap.ExtBut h.objs.size h h') : Le h h' := fun b o x => e b o (Nat.ne_of_lt (Heap.lt_size x)) x
/-- two names, both of the frame's own, stored out of a display of two -/
theorem x_assign2 {y z : Str} {p₁ p₂ tpos vpos pos : Pos} {k k' : Nat} {e₁ e₂ : Expr} {rest : List Stmt} {P₁ P₂ : Heap → Value → Prop} (hh : A.handled = none) (F : Fr g env.locals s.heap m) (m₁ : Mono P₁) (m₂ : Mono P₂)
    (g₁ : Gv prog w A (eval e₁ env) s.heap P₁) (g₂ : Gv prog w A (eval e₂ env) s.heap P₂)
    (h₁ : starEach [e₁, e₂] env = (false, eval e₁ env) :: starEach [e₂] env) (h₂ : starEach [e₂] env = (false, eval e₂ env) :: starEach [] env) (hk : env.scope.kind = .function) (hy : env.kindOf y = some .local) (hz : env.kindOf z = some .local)
    (hs : swapsWithSole [.Tuple [.Name y p₁, .Name z p₂] k tpos] (.Tuple [e₁, e₂] k' vpos) pos.line env = pure false)
    (hw : swappedStores [.Tuple [.Name y p₁, .Name z p₂] k tpos] (.Tuple [e₁, e₂] k' vpos) env = pure (some [y, z]))
    (q : ∀ a b h₁ h' tk, Le s.heap h₁ → P₁ h₁ a → P₂ h₁ b → Fr g env.locals h' (fun u => if u = y then some a else if u = z then some b else m u) → Heap.SameBut env.locals h₁ h' → wpAny (model prog w) A (execs rest env) Q E { s with heap := h', toks := tk }) :
    wpAny (model prog w) A (execs (.Assign [.Tuple [.Name y p₁, .Name z p₂] k tpos] (.Tuple [e₁, e₂] k' vpos) pos :: rest) env) Q E s :=
  wpAny_execs_cons (Assign_Tuple_swapped ((ev_tuple2 m₁ m₂ g₁ g₂ h₁ h₂).use (Le.refl _) fun v s₁ k₁ p => by
    obtain ⟨q', a, b, rfl, e, pa, pb⟩ := p
    obtain ⟨h₁, tk₁, rfl, k₁⟩ := k₁
    refine unpackItems_tuple hh (items := #[a, b]) ⟨_, e, rfl, 0, rfl⟩ fun h₂ x₂ => ?_
    have l₂ : Le h₁ h₂ := le_of_ext x₂
    have F₂ := fr_le F (Le.trans k₁ l₂)
    have hp : ∀ L : Addr, (env.scope.kind == .class || (env.scope.kind == .module && L != env.globals)) = false := fun L => by rw [hk]; rfl
    refine wpAny_bind (wpAny_holding (wpAny_bindName (wpAny_storeName_local hz F₂.ns (fun h₃ n₃ s₃ => ?_) (hp _))))
    have F₃ := F₂.set n₃ s₃
    refine wpAny_bind (wpAny_holding (wpAny_bindName (wpAny_storeName_local hy F₃.ns (fun h₄ n₄ s₄ => ?_) (hp _))))
    exact wpAny_pure (q a b h₂ h₄ _ (Le.trans k₁ l₂) (m₁ _ _ _ l₂ pa) (m₂ _ _ _ l₂ pb) (F₃.set n₄ s₄) (s₃.trans s₄))) hs hw)
end

/-- the frame of a def whose names are captured -/
noncomputable abbrev envG (w : World) (a : Addr) (L : Addr) : Env :=
  { scope := (fdOf w a).scope, locals := L, globals := (fdOf w a).globals, cells := cellsFrom (L + 1) (fdOf w a).scope.names [], qual := (fdOf w a).qualname ++ ".<locals>.", func := some a, code := (fdOf w a).code, frame := some L, builtins := (fdOf w a).builtins }

def okDefC (K : Frag) (a : Addr) (ps : List Str) : Bool := match K.lookup a with
  | some ⟨_, _, .func fd, _⟩ => (match fd.body with | .stmts _ => true | _ => false) && fd.closure.isEmpty && codeIn K fd.code fd.qualname && !fd.scope.isCoroutine && !fd.scope.isGenerator && (fd.scope.kind == .function) &&
      (ps.all fun x => fd.scope.names.lookup x == some .local || (fd.scope.names.lookup x == some .cell && ((cellsFrom 0 fd.scope.names []).lookup x).isSome))
  | _ => false

structure IsDefC (w : World) (a : Addr) (ps : List Str) : Prop where
  at_ : ∃ o, (KK w).lookup a = some o ∧ o.data = .func (fdOf w a)
  body : (fdOf w a).body = .stmts (bodyOf w a)
  clo : (fdOf w a).closure = []
  code : codeIn (KK w) (fdOf w a).code (fdOf w a).qualname = true
  co : (fdOf w a).scope.isCoroutine = false
  gen : (fdOf w a).scope.isGenerator = false
  kind : (fdOf w a).scope.kind = .function
  loc : ∀ x ∈ ps, (fdOf w a).scope.names.lookup x = some .local ∨ ((fdOf w a).scope.names.lookup x = some .cell ∧ ((cellsFrom 0 (fdOf w a).scope.names []).lookup x).isSome = true)

theorem IsDefC.of {w : World} {a : Addr} {ps : List Str} (e : okDefC (KK w) a ps = true) : IsDefC w a ps := by
  unfold okDefC at e
  split at e
  · rename_i c d fd sl q
    have hf : fdOf w a = fd := by unfold fdOf; rw [q]
    simp only [Bool.and_eq_true, Bool.or_eq_true, Bool.not_eq_true', beq_iff_eq, List.all_eq_true, List.isEmpty_iff] at e
    obtain ⟨⟨⟨⟨⟨⟨e1, e2⟩, e3⟩, e4⟩, e5⟩, e6⟩, e7⟩ := e
    refine ⟨⟨_, q, by rw [hf]⟩, ?_, by rw [hf]; exact e2, by rw [hf]; exact e3, by rw [hf]; exact e4, by rw [hf]; exact e5, by rw [hf]; exact e6, by rw [hf]; exact e7⟩
    unfold bodyOf
    rw [hf]
    cases hb : fd.body with
    | stmts b => rfl
    | expr b => rw [hb] at e1; cases e1
  · cases e

theorem cells_some {x : Str} : ∀ (names : List (Str × NameKind)) (n n' : Nat) (acc acc' : List (Str × Addr)), (((acc.lookup x).isSome = true → (acc'.lookup x).isSome = true)) → ((cellsFrom n names acc).lookup x).isSome = true → ((cellsFrom n' names acc').lookup x).isSome = true
  | [], _, _, _, _, h, e => h e
  | (y, k) :: r, n, n', acc, acc', h, e => by
    unfold cellsFrom at e ⊢
    split
    · rename_i hk
      rw [if_pos hk] at e
      refine cells_some r _ _ _ _ ?_ e
      rw [List.lookup_cons, List.lookup_cons]
      cases (x == y) with
      | true => intro _; rfl
      | false => exact h
    · rename_i hk
      rw [if_neg hk] at e
      exact cells_some r _ _ _ _ h e

theorem enterC {prog : Program} {w : World} {A : Around} {a : Addr} {ps : List Str} {args : List Value} {Q E : Value → Shared → Prop} {s : Shared} (D : IsDefC w a ps) (B : Bs w s.heap) (hroom : A.depth < recursionLimit)
    (hb : bindArgs (fdOf w a) ⟨args, []⟩ = pure (ps.zip args))
    (h : ∀ h₁ tk, Fr s.heap s.heap.objs.size h₁ (bindL (envG w a s.heap.objs.size).kindOf (ps.zip args) fun _ => none) →
      (∀ n c, (cellsFrom (s.heap.objs.size + 1) (fdOf w a).scope.names []).lookup n = some c → h₁.IsCell c (bindC (envG w a s.heap.objs.size).kindOf (ps.zip args) (fun _ => none) n)) →
      wpAny (model prog w) (A.deeper (envG w a s.heap.objs.size)) (execs (bodyOf w a) (envG w a s.heap.objs.size)) (fun f s' => Q (retV f) s') (fun _ _ => False) { s with heap := h₁, toks := tk }) :
    wpAny (model prog w) A (call (.ref a) args) Q E s := by
  obtain ⟨o, ho, hd⟩ := D.at_
  refine wpAny_call (codeAny_call_function hroom (B.K _ _ ho) hd D.co D.gen D.body (codeRec_of B.K D.code) ?_)
  rw [hb, D.clo]
  refine wpAny_pure (wpAny_newFunctionEnv_cells D.kind (fun x hx => (D.loc _ (List.of_mem_zip hx).1).imp id fun q => ⟨q.1, cells_some _ _ _ _ _ (fun z => z) q.2⟩) fun env' he s' x => ?_)
  subst he
  obtain ⟨⟨⟨h₁, tk, rfl⟩, ns, keep, fresh⟩, cell, _, _⟩ := x
  refine ⟨B.lim.keeps keep, ?_⟩
  show codeAny _ _ (.func (bodyOf w a) (envG w a s.heap.objs.size)) _ _
  refine codeAny_func (wpAny_mono (h h₁ tk ⟨ns, keep, Nat.le_refl _⟩ cell) (fun f s' q => ?_) fun _ _ x => x.elim)
  cases f <;> exact q

section
variable {prog : Program} {w : World} {A : Around} {h : Heap} {env : Env} {m : Str → Option Value}
theorem ev_cell {x : Str} {pos : Pos} {v : Value} {c : Addr} (hc : h.IsCell c (some v)) (hl : env.cells.lookup x = some c) (hk : env.scope.kind = .function) (hx : env.kindOf x = some .cell)
    (hd : (x == ("__debug__" : Str)) = false) : Gv prog w A (eval (.Name x pos) env) h (isV v) := fun _ _ k =>
  wpAny_Name (wpAny_loadName_cell hk hx hl (hc.keeps k) ⟨keeps_refl _, rfl⟩) hd
theorem ev_free {x : Str} {pos : Pos} {v : Value} {c : Addr} (hc : h.IsCell c (some v)) (hl : env.cells.lookup x = some c) (hk : env.scope.kind = .function) (hx : env.kindOf x = some .free)
    (hd : (x == ("__debug__" : Str)) = false) (hn : (x == ("__classdict__" : Str)) = false) : Gv prog w A (eval (.Name x pos) env) h (isV v) := fun _ _ k =>
  wpAny_Name (wpAny_loadName_free hk hx hl (hc.keeps k) ⟨keeps_refl _, rfl⟩ hn) hd
/-- max of two -/
theorem ev_max0 {f e₁ e₂ : Expr} {pos : Pos} {a b : Int} (hh : A.handled = none) (gf : Gv prog w A (eval f env) h (isV (.builtin "max"))) (g₁ : Gv prog w A (eval e₁ env) h (isI a)) (g₂ : Gv prog w A (eval e₂ env) h (isI b))
    (h₁ : starEach [e₁, e₂] env = (false, eval e₁ env) :: starEach [e₂] env) (h₂ : starEach [e₂] env = (false, eval e₂ env) :: starEach [] env) (hp : ((backTo pos (starEach [e₂] env)).any (·.1)) = false)
    (hc : eval (.Call f [e₁, e₂] [] pos) env = (do callWith pos (← eval f env) [] (backTo pos (starEach [e₁, e₂] env)) (backToKw pos (keywordEach [] env)))) :
    Gv prog w A (eval (.Call f [e₁, e₂] [] pos) env) h (isI (if b > a then b else a)) := fun s E k =>
  Call_ (gf.use k fun v s₁ k₁ p => by
    cases p
    refine callWith_builtin1 (wpAny_items_cons (g₁.use (k.trans (keeps_le k₁)) fun u s₂ k₂ ⟨_, r⟩ => wpAny_items_cons (g₂.use ((k.trans (keeps_le k₁)).trans (keeps_le k₂)) fun z s₃ k₃ ⟨_, q⟩ => wpAny_items_nil ?_) h₂) h₁) h₁ hp
    subst r; subst q
    refine PySem.max_two_ints hh fun h' tk hk => ?_
    have kk := keeps_trans (keeps_trans (keeps_trans k₁ k₂) k₃) (keeps_mk (t := tk) hk)
    by_cases c : b > a
    · rw [if_pos c, if_pos c]; exact ⟨kk, _, rfl⟩
    · rw [if_neg c, if_neg c]; exact ⟨kk, _, rfl⟩) hc
end
end Mine
open PySem PySem.W PyProof.Rows PySem.Calls
namespace Mine

/-- a row of the text: its object, its dict, its list of codes -/
def RowAt (h : Heap) (x : Addr) (codes : List Int) (first : Int) : Prop :=
  ∃ (dx c : Addr) (h1 h2 : Int) (t1 t2 tk : Tok) (n : Nat) (vs : List Value), h.get? x = some (instObj 117 dx) ∧
    h.get? dx = some (dictOf [⟨h1, .str (Str.ofString "codes") t1, .ref c⟩, ⟨h2, .str (Str.ofString "place") t2, .int first tk⟩] n) ∧ h.IsList c vs.toArray ∧ IntsAre vs codes ∧ codes.length < 2 ^ 20
theorem RowAt.le {h h' : Heap} {x : Addr} {codes : List Int} {first : Int} (R : RowAt h x codes first) (k : Le h h') : RowAt h' x codes first := by
  obtain ⟨dx, c, h1, h2, t1, t2, tk, n, vs, a, b, ⟨o, l⟩, r⟩ := R
  exact ⟨dx, c, h1, h2, t1, t2, tk, n, vs, k _ _ a, k _ _ b, ⟨o, k _ _ l.1, l.2⟩, r⟩

section
variable {prog : Program} {w : World} {A : Around} {h : Heap} {env : Env}

theorem k_begin_get : plainGet (KK w) 117 (Str.ofString "begin") = true := by kernel_rfl
theorem k_begin_find : findIn (KK w) (.ref 117) (Str.ofString "begin") = some (some (.ref 100)) := by kernel_rfl
theorem k_begin_fn : isFn (KK w) (.ref 100) = true := by kernel_rfl
theorem k_end_get : plainGet (KK w) 117 (Str.ofString "end") = true := by kernel_rfl
theorem k_end_find : findIn (KK w) (.ref 117) (Str.ofString "end") = some (some (.ref 107)) := by kernel_rfl
theorem k_end_fn : isFn (KK w) (.ref 107) = true := by kernel_rfl
theorem k_code_get : plainGet (KK w) 117 (Str.ofString "code_at") = true := by kernel_rfl
theorem k_code_find : findIn (KK w) (.ref 117) (Str.ofString "code_at") = some (some (.ref 114)) := by kernel_rfl
theorem k_code_fn : isFn (KK w) (.ref 114) = true := by kernel_rfl
theorem k_place_get : plainGet (KK w) 117 (Str.ofString "place") = true := by kernel_rfl
theorem k_dict : hasDictIn (KK w) 117 = true := by kernel_rfl
theorem k_place_find : findIn (KK w) (.ref 117) (Str.ofString "place") = some none := by kernel_rfl
theorem k_codes_get : plainGet (KK w) 117 (Str.ofString "codes") = true := by kernel_rfl
theorem k_codes_find : findIn (KK w) (.ref 117) (Str.ofString "codes") = some none := by kernel_rfl
theorem k_no : noGet (KK w) none = true := by kernel_rfl
theorem ok_100 : okDef (KK w) 100 [Str.ofString "self"] = true := by kernel_rfl
theorem ok_107 : okDef (KK w) 107 [Str.ofString "self"] = true := by kernel_rfl
theorem ok_114 : okDef (KK w) 114 [Str.ofString "self", Str.ofString "place"] = true := by kernel_rfl
theorem bd_100 {v : Value} : bindArgs (fdOf w 100) ⟨[v], []⟩ = pure ([Str.ofString "self"].zip [v]) := by kernel_rfl
theorem bd_107 {v : Value} : bindArgs (fdOf w 107) ⟨[v], []⟩ = pure ([Str.ofString "self"].zip [v]) := by kernel_rfl
theorem bd_114 {v u : Value} : bindArgs (fdOf w 114) ⟨[v, u], []⟩ = pure ([Str.ofString "self", Str.ofString "place"].zip [v, u]) := by kernel_rfl

/-- self.place, self.codes: the row's own -/
theorem row_inst {x : Addr} {codes : List Int} {first : Int} (R : RowAt h x codes first) :
    ∃ (dx c : Addr) (h1 h2 : Int) (t1 t2 tk : Tok) (n : Nat) (vs : List Value), InstAt h x (instObj 117 dx) 117 (some (dictOf [⟨h1, .str (Str.ofString "codes") t1, .ref c⟩, ⟨h2, .str (Str.ofString "place") t2, .int first tk⟩] n)) ∧ h.IsList c vs.toArray ∧ IntsAre vs codes ∧ codes.length < 2 ^ 20 := by
  obtain ⟨dx, c, h1, h2, t1, t2, tk, n, vs, a, b, r⟩ := R
  exact ⟨dx, c, h1, h2, t1, t2, tk, n, vs, ⟨a, rfl, rfl, b⟩, r⟩

theorem inst_le {h h' : Heap} {x C dx : Addr} {es : List DictEntry} {n : Nat} (I : InstAt h x (instObj C dx) C (some (dictOf es n))) (k : Le h h') : InstAt h' x (instObj C dx) C (some (dictOf es n)) := ⟨k _ _ I.at_, rfl, rfl, k _ _ I.dict⟩
theorem ev_place {o : Expr} {pos : Pos} {x : Addr} {codes : List Int} {first : Int} (B : Bs w h) (R : RowAt h x codes first) (g : Gv prog w A (eval o env) h (isV (.ref x)))
    (he : eval (.Attribute o (Str.ofString "place") pos) env = (do let o' ← eval o env; standAt pos.atName; let r ← holding [o'] (getAttr o' (Str.ofString "place") true); letTemporaryGo o o' r; pure r)) :
    Gv prog w A (eval (.Attribute o (Str.ofString "place") pos) env) h (isI first) := fun s E k =>
  Attribute_any_ (g.use k fun v s₁ k₁ p => by
    cases p
    have k' := k.trans (keeps_le k₁)
    obtain ⟨dx, c, h1, h2, t1, t2, tk, n, vs, I, _⟩ := row_inst (R.le k')
    exact get_value (B.le k').K I (plainGet_of k_place_get).1 (findObj_own k_dict k_place_find k_no rfl) rfl ⟨keeps_trans k₁ (keeps_tok _ _), _, rfl⟩) he
theorem ev_codes {o : Expr} {pos : Pos} {x dx c : Addr} {es : List DictEntry} {n : Nat} (B : Bs w h) (I : InstAt h x (instObj 117 dx) 117 (some (dictOf es n))) (hg : getL (Str.ofString "codes") es = some (some (.ref c)))
    (g : Gv prog w A (eval o env) h (isV (.ref x)))
    (he : eval (.Attribute o (Str.ofString "codes") pos) env = (do let o' ← eval o env; standAt pos.atName; let r ← holding [o'] (getAttr o' (Str.ofString "codes") true); letTemporaryGo o o' r; pure r)) :
    Gv prog w A (eval (.Attribute o (Str.ofString "codes") pos) env) h (isV (.ref c)) := fun s E k =>
  Attribute_any_ (g.use k fun v s₁ k₁ p => by
    cases p
    have k' := k.trans (keeps_le k₁)
    have I' : InstAt s₁.heap x (instObj 117 dx) 117 (some (dictOf es n)) := ⟨k' _ _ I.at_, rfl, rfl, k' _ _ I.dict⟩
    exact get_value (B.le k').K I' (plainGet_of k_codes_get).1 (findObj_own k_dict k_codes_find k_no hg) rfl ⟨keeps_trans k₁ (keeps_tok _ _), rfl⟩) he

theorem fin_of {g : Heap} {s s' : Shared} {L : Addr} {m : Str → Option Value} (F : Fr g L s.heap m) (k : Keeps s s') : Fin' g s s' := by
  obtain ⟨h', tk, rfl, kk⟩ := k; exact ⟨h', tk, rfl, Le.trans F.keep kk⟩

theorem m_begin {x : Addr} {codes : List Int} {first : Int} (l : Lv 2 A) (B : Bs w h) (R : RowAt h x codes first) : Gv prog w A (call (.ref 100) [.ref x]) h (isI first) :=
  gv_call (IsDef.of ok_100) B l.room bd_100 fun s g L k F => by
    have k' : Le h s.heap := k.trans F.keep
    refine x_ret (P := isI first) (ev_place (B.le k') (R.le k') (ev_loc F.ns ?_ ?_ ?_ ?_) ?_) ?_
    · rfl
    · kernel_rfl
    · kernel_rfl
    · rfl
    · rfl
    · exact fun v s' ks p => ⟨by obtain ⟨h', tk, rfl, kk⟩ := ks; exact ⟨h', tk, rfl, Le.trans F.keep kk⟩, p⟩

def codeAt (codes : List Int) (first p : Int) : Int := if first ≤ p ∧ p < first + codes.length then codes.getD (p - first).toNat 0 else -1



theorem m_end {x : Addr} {codes : List Int} {first : Int} (l : Lv 2 A) (B : Bs w h) (R : RowAt h x codes first) : Gv prog w A (call (.ref 107) [.ref x]) h (isI (first + codes.length)) :=
  gv_call (IsDef.of ok_107) B l.room bd_107 fun s g L k F => by
    have k' : Le h s.heap := k.trans F.keep
    have B' := B.le k'
    have R' := R.le k'
    have S : ∀ pos, Gv prog w (A.deeper (envF w 107 L)) (eval (.Name (Str.ofString "self") pos) (envF w 107 L)) s.heap (isV (.ref x)) := fun pos => ev_loc F.ns rfl (by kernel_rfl) (by kernel_rfl) rfl
    obtain ⟨dx, c, h1, h2, t1, t2, tk, n, vs, I, lc, hi, hlt⟩ := row_inst R'
    have e := hi.length
    refine x_ret (P := isI (first + codes.length)) (ev_add (ev_place B' R' (S _) rfl) (ev_b1 (ev_bin B' (by kernel_rfl) (by kernel_rfl) (by decide) (by kernel_rfl) (by kernel_rfl) (by kernel_rfl) (by kernel_rfl) rfl) (ev_codes B' I rfl (S _) rfl)
      (fun h' v lh r => by cases r; rw [← e]; exact gv_len (let ⟨o, ho, r⟩ := lc; ⟨o, lh _ _ ho, r⟩) (by omega)) rfl rfl)) fun v s' ks p => ⟨fin_of F ks, p⟩

theorem m_code {x : Addr} {codes : List Int} {first p : Int} {t : Tok} (l : Lv 2 A) (B : Bs w h) (R : RowAt h x codes first) : Gv prog w A (call (.ref 114) [.ref x, .int p t]) h (isI (codeAt codes first p)) :=
  gv_call (IsDef.of ok_114) B l.room bd_114 fun s g L k F => by
    have k' : Le h s.heap := k.trans F.keep
    have B' := B.le k'
    have R' := R.le k'
    have S : ∀ h₂ pos, Le s.heap h₂ → Gv prog w (A.deeper (envF w 114 L)) (eval (.Name (Str.ofString "self") pos) (envF w 114 L)) h₂ (isV (.ref x)) := fun h₂ pos k₂ => ev_loc (F.ns.keeps k₂) rfl (by kernel_rfl) (by kernel_rfl) rfl
    have Pl : ∀ h₂ pos, Le s.heap h₂ → Gv prog w (A.deeper (envF w 114 L)) (eval (.Name (Str.ofString "place") pos) (envF w 114 L)) h₂ (isI p) := fun h₂ pos k₂ => (ev_loc (F.ns.keeps k₂) rfl (by kernel_rfl) (by kernel_rfl) rfl).to fun _ _ e => ⟨t, e⟩
    obtain ⟨dx, c, h1, h2, t1, t2, tk, n, vs, I, lc, hi, hlt⟩ := row_inst R'
    have e := hi.length
    refine x_if (b := decide (first ≤ p) && decide (p < first + codes.length)) (ts_chain2 (ev_place B' R' (S _ _ (Le.refl _)) rfl) (Pl _ _ (Le.refl _)) (ev_add (ev_place B' R' (S _ _ (Le.refl _)) rfl)
      (ev_b1 (ev_bin B' (by kernel_rfl) (by kernel_rfl) (by decide) (by kernel_rfl) (by kernel_rfl) (by kernel_rfl) (by kernel_rfl) rfl) (ev_codes B' I rfl (S _ _ (Le.refl _)) rfl) (fun h' v lh r => by cases r; rw [← e]; exact gv_len (let ⟨o, ho, r⟩ := lc; ⟨o, lh _ _ ho, r⟩) (by omega)) rfl rfl)) rfl rfl rfl) ?_ ?_
    · intro hb s₁ k₁
      simp only [Bool.and_eq_true, decide_eq_true_eq] at hb
      have hn : codes[(p - first).toNat]? = some (codes.getD (p - first).toNat 0) := by
        rw [List.getD_eq_getElem?_getD, List.getElem?_eq_getElem (by omega)]; rfl
      obtain ⟨tv, hv⟩ := hi.get _ _ hn
      have kk := keeps_le k₁
      refine x_ret (P := isV _) (ev_item (ev_codes (B'.le kk) (inst_le I kk) rfl (S _ _ kk) rfl) (let ⟨o, ho, r⟩ := lc; ⟨o, kk _ _ ho, r⟩) (ev_sub (Pl _ _ kk) (ev_place (B'.le kk) (R'.le kk) (S _ _ kk) rfl)) (by omega) (by omega) hv (fun _ => by with_unfolding_all rfl)) fun v s' ks q => ⟨fin_of F (keeps_trans k₁ ks), ?_⟩
      cases q
      exact ⟨tv, by show Value.int _ _ = _; rw [codeAt, if_pos hb]⟩
    · intro hb s₁ k₁
      refine x_nil (x_ret (P := isI (-1)) (ev_neg ev_int) fun v s' ks q => ⟨fin_of F (keeps_trans k₁ ks), ?_⟩)
      rw [codeAt, if_neg (by simpa using hb)]
      exact q
end
end Mine
open PySem PySem.W PyProof.Rows PySem.Calls
namespace Mine
section
variable {prog : Program} {w : World} {A : Around} {h : Heap} {env : Env}
theorem fin_k {g h' : Heap} {s s' : Shared} {tk : Nat} (F : Le g h') (k : Keeps { s with heap := h', toks := tk } s') : Fin' g s s' := by
  obtain ⟨h₂, t₂, rfl, kk⟩ := k; exact ⟨h₂, t₂, rfl, Le.trans F kk⟩
theorem kp_begin : keepIn (KK w) (.ref 100) = true := by kernel_rfl
theorem kp_end : keepIn (KK w) (.ref 107) = true := by kernel_rfl
theorem kp_code : keepIn (KK w) (.ref 114) = true := by kernel_rfl

abbrev MethEq (env : Env) (o : Expr) (name : Str) (apos pos : Pos) (args : List Expr) (pl : Sem Bool) : Prop :=
  eval (.Call (.Attribute o name apos) args [] pos) env = (do let ov ← eval o env; standAt apos.atName; let fx ← holding [ov] (getMethod ov name pl); match fx with | (f, first) => callWith pos f first (backTo pos (starEach args env)) [])

theorem ev_begin {o : Expr} {apos pos : Pos} {pl : Sem Bool} {x : Addr} {codes : List Int} {first : Int} (l : Lv 2 A) (B : Bs w h) (R : RowAt h x codes first) (go : Gv prog w A (eval o env) h (isV (.ref x)))
    (hc : MethEq env o (Str.ofString "begin") apos pos [] pl) : Gv prog w A (eval (.Call (.Attribute o (Str.ofString "begin") apos) [] [] pos) env) h (isI first) := by
  obtain ⟨dx, c, h1, h2, t1, t2, tk, n, vs, I, _⟩ := row_inst R
  exact ev_meth0 B I k_begin_get k_begin_find k_begin_fn rfl kp_begin go (m_begin l B R) hc
theorem ev_end {o : Expr} {apos pos : Pos} {pl : Sem Bool} {x : Addr} {codes : List Int} {first : Int} (l : Lv 2 A) (B : Bs w h) (R : RowAt h x codes first) (go : Gv prog w A (eval o env) h (isV (.ref x)))
    (hc : MethEq env o (Str.ofString "end") apos pos [] pl) : Gv prog w A (eval (.Call (.Attribute o (Str.ofString "end") apos) [] [] pos) env) h (isI (first + codes.length)) := by
  obtain ⟨dx, c, h1, h2, t1, t2, tk, n, vs, I, _⟩ := row_inst R
  exact ev_meth0 B I k_end_get k_end_find k_end_fn rfl kp_end go (m_end l B R) hc
theorem ev_code {o e : Expr} {apos pos : Pos} {pl : Sem Bool} {x : Addr} {codes : List Int} {first p : Int} (l : Lv 2 A) (B : Bs w h) (R : RowAt h x codes first) (go : Gv prog w A (eval o env) h (isV (.ref x)))
    (ge : Gv prog w A (eval e env) h (isI p)) (he : starEach [e] env = (false, eval e env) :: starEach [] env) (hc : MethEq env o (Str.ofString "code_at") apos pos [e] pl) :
    Gv prog w A (eval (.Call (.Attribute o (Str.ofString "code_at") apos) [e] [] pos) env) h (isI (codeAt codes first p)) := by
  obtain ⟨dx, c, h1, h2, t1, t2, tk, n, vs, I, _⟩ := row_inst R
  exact ev_meth1 (R := fun v => ∃ t, v = .int p t) B I k_code_get k_code_find k_code_fn rfl kp_code go ge (fun v ⟨t, e⟩ => by subst e; exact m_code l B R) he hc

theorem ok_22 : okDef (KK w) 22 [Str.ofString "view", Str.ofString "place"] = true := by kernel_rfl
theorem bd_22 {v u : Value} : bindArgs (fdOf w 22) ⟨[v, u], []⟩ = pure ([Str.ofString "view", Str.ofString "place"].zip [v, u]) := by kernel_rfl
theorem g_newline : nsIn (KK w) mainGlobals (Str.ofString "NEWLINE") = some (some (.int 10 193)) := by kernel_rfl

/-- the beginning of the line of a place, as an offset -/
def lsN (codes : List Int) : Nat → Nat
  | 0 => 0
  | n + 1 => if codes[n]? = some 10 then n + 1 else lsN codes n
theorem lsN_le (codes : List Int) : ∀ n, lsN codes n ≤ n
  | 0 => Nat.le_refl _
  | n + 1 => by unfold lsN; split <;> first | omega | (have := lsN_le codes n; omega)

theorem f_line_start {x : Addr} {codes : List Int} {first : Int} {o : Nat} {t : Tok} (l : Lv 4 A) (B : Bs w h) (R : RowAt h x codes first) (ho : o ≤ codes.length) :
    Gv prog w A (call (.ref 22) [.ref x, .int (first + o) t]) h (isI (first + lsN codes o)) :=
  gv_call (IsDef.of ok_22) B l.room bd_22 fun s g L k F => by
    refine x_assign (x := Str.ofString "at") (P := isI (first + o)) F ((ev_loc F.ns rfl (by kernel_rfl) (by kernel_rfl) rfl).to fun _ _ e => ⟨t, e⟩) (by kernel_rfl) (by kernel_rfl) rfl fun v h₁ h₂ tk k₁ p F₂ _ => ?_
    obtain ⟨t₁, rfl⟩ := p
    refine x_while (fun n s' => ∃ h' tk' m t', s' = { s with heap := h', toks := tk' } ∧ Fr g L h' m ∧ m (Str.ofString "view") = some (.ref x) ∧ m (Str.ofString "at") = some (.int (first + (n : Int)) t') ∧ n ≤ codes.length ∧ lsN codes n = lsN codes o) o ⟨_, _, _, t₁, rfl, F₂, rfl, rfl, ho, rfl⟩ ?_
    rintro n s₁ ⟨h', tk', m, t', rfl, F', hv, ha, hn, hl⟩
    have kg : Le g h' := F'.keep
    have B' := (B.le k).le kg
    have R' := (R.le k).le kg
    have V : ∀ h₂ pos, Le h' h₂ → Gv prog w (A.deeper (envF w 22 L)) (eval (.Name (Str.ofString "view") pos) (envF w 22 L)) h₂ (isV (.ref x)) := fun h₂ pos k₂ => ev_loc (F'.ns.keeps k₂) hv (by kernel_rfl) (by kernel_rfl) rfl
    have T : ∀ h₂ pos, Le h' h₂ → Gv prog w (A.deeper (envF w 22 L)) (eval (.Name (Str.ofString "at") pos) (envF w 22 L)) h₂ (isI (first + (n : Int))) := fun h₂ pos k₂ => (ev_loc (F'.ns.keeps k₂) ha (by kernel_rfl) (by kernel_rfl) rfl).to fun _ _ e => ⟨t', e⟩
    refine ⟨decide (first < first + (n : Int)) && (codeAt codes first (first + (n : Int) - 1) != 10), ts_and (ts_cmp (T _ _ (Le.refl _)) (ev_begin (l.deeper.mono (by omega)) B' R' (V _ _ (Le.refl _)) rfl) rfl rfl)
      (fun _ => ts_cmp (ev_code (l.deeper.mono (by omega)) B' R' (V _ _ (Le.refl _)) (ev_sub (T _ _ (Le.refl _)) ev_int) rfl rfl) ((ev_glob B' g_newline (by kernel_rfl) (by kernel_rfl) (by kernel_rfl) rfl).to fun _ _ e => ⟨193, e⟩) rfl rfl), ?_, ?_⟩
    · intro hb s₂ k₂
      obtain ⟨h₃, tk₃, rfl, k₃⟩ := k₂
      refine x_assign (x := Str.ofString "at") (P := isI (first + (n : Int) - 1)) (fr_le F' k₃) (ev_sub (T _ _ k₃) ev_int) (by kernel_rfl) (by kernel_rfl) rfl fun v h₄ h₅ tk₅ k₄ p F₅ _ => x_nil ?_
      obtain ⟨t₂, rfl⟩ := p
      simp only [Bool.and_eq_true, decide_eq_true_eq, bne_iff_ne, ne_eq] at hb
      obtain ⟨n, rfl⟩ : ∃ j, n = j + 1 := ⟨n - 1, by omega⟩
      refine ⟨n, by omega, h₅, tk₅, _, t₂, rfl, F₅, hv, ?_, by omega, ?_⟩
      · show some _ = some _
        congr 2
        push_cast; omega
      · rw [← hl]
        have hc : codes[n]? ≠ some 10 := fun e => hb.2 (by
          unfold codeAt
          rw [if_pos (by push_cast; omega)]
          have : (first + ((n + 1 : Nat) : Int) - 1 - first).toNat = n := by push_cast; omega
          rw [this, List.getD_eq_getElem?_getD, e]; rfl)
        conv => rhs; unfold lsN
        rw [if_neg hc]
    · intro hb s₂ k₂
      refine x_ret (P := isI (first + (n : Int))) (T _ _ (keeps_le k₂)) fun v s' k₃ p => ⟨?_, ?_⟩
      · exact fin_k F'.keep (keeps_trans k₂ k₃)
      · have : lsN codes n = n := by
          cases n with
          | zero => rfl
          | succ n =>
            simp only [Bool.and_eq_false_iff, decide_eq_false_iff_not, bne_eq_false_iff_eq] at hb
            have hb := hb.resolve_left (by push_cast; omega)
            unfold codeAt at hb
            rw [if_pos (by push_cast; omega)] at hb
            have e : (first + ((n + 1 : Nat) : Int) - 1 - first).toNat = n := by push_cast; omega
            rw [e, List.getD_eq_getElem?_getD, List.getElem?_eq_getElem (by omega)] at hb
            unfold lsN
            rw [if_pos (by rw [List.getElem?_eq_getElem (by omega)]; exact congrArg some hb)]
        rw [← hl, this]
        exact p
end
end Mine
open PySem PySem.W PyProof.Rows PySem.Calls
namespace Mine

/-- on from a place while the codes are such -/
def scanN (p : Int → Bool) (codes : List Int) (o : Nat) : Nat := o + ((codes.drop o).takeWhile p).length
abbrev leN := scanN fun c => c != 10
abbrev beN := scanN fun c => [32, 9].any fun y => y == c
theorem scanN_le {p : Int → Bool} {codes : List Int} {o : Nat} (h : o ≤ codes.length) : scanN p codes o ≤ codes.length := by
  have h1 : ((codes.drop o).takeWhile p).length ≤ (codes.drop o).length := List.Sublist.length_le (List.takeWhile_sublist p)
  rw [List.length_drop] at h1
  unfold scanN; omega
theorem scanN_ge {p : Int → Bool} {codes : List Int} {o : Nat} : o ≤ scanN p codes o := Nat.le_add_right _ _
theorem scanN_go {p : Int → Bool} {codes : List Int} {o : Nat} (h : o < codes.length) (hp : p (codes.getD o 0) = true) : scanN p codes (o + 1) = scanN p codes o := by
  unfold scanN
  have e : codes.drop o = codes.getD o 0 :: codes.drop (o + 1) := by
    rw [List.drop_eq_getElem_cons h, List.getD_eq_getElem?_getD, List.getElem?_eq_getElem h]; rfl
  rw [e, List.takeWhile_cons_of_pos hp, List.length_cons]; omega
theorem scanN_stop {p : Int → Bool} {codes : List Int} {o : Nat} (h : o < codes.length) (hp : p (codes.getD o 0) = false) : scanN p codes o = o := by
  unfold scanN
  have e : codes.drop o = codes.getD o 0 :: codes.drop (o + 1) := by
    rw [List.drop_eq_getElem_cons h, List.getD_eq_getElem?_getD, List.getElem?_eq_getElem h]; rfl
  rw [e, List.takeWhile_cons_of_neg (by rw [hp]; exact Bool.false_ne_true)]; rfl
theorem scanN_end {p : Int → Bool} {codes : List Int} {o : Nat} (h : codes.length ≤ o) : scanN p codes o = o := by
  unfold scanN
  rw [List.drop_eq_nil_of_le h]; rfl
theorem codeAt_in {codes : List Int} {first : Int} {o : Nat} (h : o < codes.length) : codeAt codes first (first + (o : Int)) = codes.getD o 0 := by
  unfold codeAt
  rw [if_pos (by omega)]
  congr 1; omega
theorem codeAt_out {codes : List Int} {first : Int} {o : Nat} (h : codes.length ≤ o) : codeAt codes first (first + (o : Int)) = -1 := by
  unfold codeAt
  rw [if_neg (by omega)]

section
variable {prog : Program} {w : World} {A : Around} {h : Heap} {env : Env}
theorem ok_29 : okDef (KK w) 29 [Str.ofString "view", Str.ofString "place"] = true := by kernel_rfl
theorem bd_29 {v u : Value} : bindArgs (fdOf w 29) ⟨[v, u], []⟩ = pure ([Str.ofString "view", Str.ofString "place"].zip [v, u]) := by kernel_rfl
theorem ok_36 : okDef (KK w) 36 [Str.ofString "view", Str.ofString "place"] = true := by kernel_rfl
theorem bd_36 {v u : Value} : bindArgs (fdOf w 36) ⟨[v, u], []⟩ = pure ([Str.ofString "view", Str.ofString "place"].zip [v, u]) := by kernel_rfl
theorem ok_50 : okDef (KK w) 50 [Str.ofString "view", Str.ofString "place"] = true := by kernel_rfl
theorem bd_50 {v u : Value} : bindArgs (fdOf w 50) ⟨[v, u], []⟩ = pure ([Str.ofString "view", Str.ofString "place"].zip [v, u]) := by kernel_rfl
theorem ok_57 : okDef (KK w) 57 [Str.ofString "view", Str.ofString "place"] = true := by kernel_rfl
theorem bd_57 {v u : Value} : bindArgs (fdOf w 57) ⟨[v, u], []⟩ = pure ([Str.ofString "view", Str.ofString "place"].zip [v, u]) := by kernel_rfl
theorem ok_64 : okDef (KK w) 64 [Str.ofString "view", Str.ofString "place"] = true := by kernel_rfl
theorem bd_64 {v u : Value} : bindArgs (fdOf w 64) ⟨[v, u], []⟩ = pure ([Str.ofString "view", Str.ofString "place"].zip [v, u]) := by kernel_rfl
theorem g_line_start : nsIn (KK w) mainGlobals (Str.ofString "line_start") = some (some (.ref 22)) := by kernel_rfl
theorem g_line_end : nsIn (KK w) mainGlobals (Str.ofString "line_end") = some (some (.ref 29)) := by kernel_rfl
theorem g_next_start : nsIn (KK w) mainGlobals (Str.ofString "next_start") = some (some (.ref 36)) := by kernel_rfl
theorem g_lines_target : nsIn (KK w) mainGlobals (Str.ofString "lines_target") = some (some (.ref 43)) := by kernel_rfl
theorem g_blanks_end : nsIn (KK w) mainGlobals (Str.ofString "blanks_end") = some (some (.ref 50)) := by kernel_rfl
theorem g_is_begin : nsIn (KK w) mainGlobals (Str.ofString "is_line_begin") = some (some (.ref 57)) := by kernel_rfl
theorem g_is_end : nsIn (KK w) mainGlobals (Str.ofString "is_line_end") = some (some (.ref 64)) := by kernel_rfl
theorem g_blanks : nsIn (KK w) mainGlobals (Str.ofString "BLANKS") = some (some (.ref 15)) := by kernel_rfl
theorem kp_22 : keepIn (KK w) (.ref 22) = true := by kernel_rfl
theorem kp_29 : keepIn (KK w) (.ref 29) = true := by kernel_rfl
theorem kp_36 : keepIn (KK w) (.ref 36) = true := by kernel_rfl
theorem kp_43 : keepIn (KK w) (.ref 43) = true := by kernel_rfl
theorem kp_50 : keepIn (KK w) (.ref 50) = true := by kernel_rfl
theorem kp_57 : keepIn (KK w) (.ref 57) = true := by kernel_rfl
theorem kp_64 : keepIn (KK w) (.ref 64) = true := by kernel_rfl
theorem l_15 : (KK w).lookup 15 = some { cls := .type "tuple", data := .seq #[.int 32 195, .int 9 197] } := by kernel_rfl

theorem f_line_end {x : Addr} {codes : List Int} {first : Int} {o : Nat} {t : Tok} (l : Lv 4 A) (B : Bs w h) (R : RowAt h x codes first) (ho : o ≤ codes.length) :
    Gv prog w A (call (.ref 29) [.ref x, .int (first + o) t]) h (isI (first + leN codes o)) :=
  gv_call (IsDef.of ok_29) B l.room bd_29 fun s g L k F => by
    refine x_assign (x := Str.ofString "at") (P := isI (first + o)) F ((ev_loc F.ns rfl (by kernel_rfl) (by kernel_rfl) rfl).to fun _ _ e => ⟨t, e⟩) (by kernel_rfl) (by kernel_rfl) rfl fun v h₁ h₂ tk k₁ p F₂ _ => ?_
    obtain ⟨t₁, rfl⟩ := p
    refine x_while (fun n s' => ∃ (j : Nat) (h' : Heap) (tk' : Nat) (m : Str → Option Value) (t' : Tok), s' = { s with heap := h', toks := tk' } ∧ Fr g L h' m ∧ m (Str.ofString "view") = some (.ref x) ∧ m (Str.ofString "at") = some (.int (first + (j : Int)) t') ∧ j + n = codes.length ∧ leN codes j = leN codes o)
      (codes.length - o) ⟨o, _, _, _, t₁, rfl, F₂, rfl, rfl, by omega, rfl⟩ ?_
    rintro n s₁ ⟨j, h', tk', m, t', rfl, F', hv, ha, hn, hl⟩
    have kg : Le g h' := F'.keep
    have B' := (B.le k).le kg
    have R' := (R.le k).le kg
    have V : ∀ h₂ pos, Le h' h₂ → Gv prog w (A.deeper (envF w 29 L)) (eval (.Name (Str.ofString "view") pos) (envF w 29 L)) h₂ (isV (.ref x)) := fun h₂ pos k₂ => ev_loc (F'.ns.keeps k₂) hv (by kernel_rfl) (by kernel_rfl) rfl
    have T : ∀ h₂ pos, Le h' h₂ → Gv prog w (A.deeper (envF w 29 L)) (eval (.Name (Str.ofString "at") pos) (envF w 29 L)) h₂ (isI (first + (j : Int))) := fun h₂ pos k₂ => (ev_loc (F'.ns.keeps k₂) ha (by kernel_rfl) (by kernel_rfl) rfl).to fun _ _ e => ⟨t', e⟩
    refine ⟨decide (first + (j : Int) < first + codes.length) && (codeAt codes first (first + (j : Int)) != 10), ts_and (ts_cmp (T _ _ (Le.refl _)) (ev_end (l.deeper.mono (by omega)) B' R' (V _ _ (Le.refl _)) rfl) rfl rfl)
      (fun _ => ts_cmp (ev_code (l.deeper.mono (by omega)) B' R' (V _ _ (Le.refl _)) (T _ _ (Le.refl _)) rfl rfl) ((ev_glob B' g_newline (by kernel_rfl) (by kernel_rfl) (by kernel_rfl) rfl).to fun _ _ e => ⟨193, e⟩) rfl rfl), ?_, ?_⟩
    · intro hb s₂ k₂
      obtain ⟨h₃, tk₃, rfl, k₃⟩ := k₂
      refine x_assign (x := Str.ofString "at") (P := isI (first + (j : Int) + 1)) (fr_le F' k₃) (ev_add (T _ _ k₃) ev_int) (by kernel_rfl) (by kernel_rfl) rfl fun v h₄ h₅ tk₅ k₄ p F₅ _ => x_nil ?_
      obtain ⟨t₂, rfl⟩ := p
      simp only [Bool.and_eq_true, decide_eq_true_eq] at hb
      have hj : j < codes.length := by omega
      rw [codeAt_in hj] at hb
      refine ⟨n - 1, by omega, j + 1, h₅, tk₅, _, t₂, rfl, F₅, hv, ?_, by omega, (scanN_go hj hb.2).trans hl⟩
      show some _ = some _
      congr 2
      push_cast; omega
    · intro hb s₂ k₂
      refine x_ret (P := isI (first + (j : Int))) (T _ _ (keeps_le k₂)) fun v s' k₃ p => ⟨fin_k F'.keep (keeps_trans k₂ k₃), ?_⟩
      have : leN codes j = j := by
        by_cases hj : j < codes.length
        · rw [codeAt_in hj] at hb
          simp only [Bool.and_eq_false_iff, decide_eq_false_iff_not] at hb
          exact scanN_stop hj (hb.resolve_left (by omega))
        · exact scanN_end (by omega)
      rw [← hl, this]
      exact p

theorem f_blanks_end {x : Addr} {codes : List Int} {first : Int} {o : Nat} {t : Tok} (l : Lv 4 A) (B : Bs w h) (R : RowAt h x codes first) (ho : o ≤ codes.length) :
    Gv prog w A (call (.ref 50) [.ref x, .int (first + o) t]) h (isI (first + beN codes o)) :=
  gv_call (IsDef.of ok_50) B l.room bd_50 fun s g L k F => by
    refine x_assign (x := Str.ofString "at") (P := isI (first + o)) F ((ev_loc F.ns rfl (by kernel_rfl) (by kernel_rfl) rfl).to fun _ _ e => ⟨t, e⟩) (by kernel_rfl) (by kernel_rfl) rfl fun v h₁ h₂ tk k₁ p F₂ _ => ?_
    obtain ⟨t₁, rfl⟩ := p
    refine x_while (fun n s' => ∃ (j : Nat) (h' : Heap) (tk' : Nat) (m : Str → Option Value) (t' : Tok), s' = { s with heap := h', toks := tk' } ∧ Fr g L h' m ∧ m (Str.ofString "view") = some (.ref x) ∧ m (Str.ofString "at") = some (.int (first + (j : Int)) t') ∧ j + n = codes.length ∧ beN codes j = beN codes o)
      (codes.length - o) ⟨o, _, _, _, t₁, rfl, F₂, rfl, rfl, by omega, rfl⟩ ?_
    rintro n s₁ ⟨j, h', tk', m, t', rfl, F', hv, ha, hn, hl⟩
    have kg : Le g h' := F'.keep
    have B' := (B.le k).le kg
    have R' := (R.le k).le kg
    have V : ∀ h₂ pos, Le h' h₂ → Gv prog w (A.deeper (envF w 50 L)) (eval (.Name (Str.ofString "view") pos) (envF w 50 L)) h₂ (isV (.ref x)) := fun h₂ pos k₂ => ev_loc (F'.ns.keeps k₂) hv (by kernel_rfl) (by kernel_rfl) rfl
    have T : ∀ h₂ pos, Le h' h₂ → Gv prog w (A.deeper (envF w 50 L)) (eval (.Name (Str.ofString "at") pos) (envF w 50 L)) h₂ (isI (first + (j : Int))) := fun h₂ pos k₂ => (ev_loc (F'.ns.keeps k₂) ha (by kernel_rfl) (by kernel_rfl) rfl).to fun _ _ e => ⟨t', e⟩
    refine ⟨decide (first + (j : Int) < first + codes.length) && ([32, 9].any fun y => y == codeAt codes first (first + (j : Int))), ts_and (ts_cmp (T _ _ (Le.refl _)) (ev_end (l.deeper.mono (by omega)) B' R' (V _ _ (Le.refl _)) rfl) rfl rfl)
      (fun _ s₂ E₂ k₂ => wpAny_isTrue_Compare1 ((ev_code (l.deeper.mono (by omega)) B' R' (V _ _ (Le.refl _)) (T _ _ (Le.refl _)) rfl rfl).use k₂ fun c s₃ k₃ pc => (ev_glob B' g_blanks (by kernel_rfl) (by kernel_rfl) (by kernel_rfl) rfl).use (k₂.trans (keeps_le k₃)) fun u s₄ k₄ pu => by
        obtain ⟨tc, rfl⟩ := pc
        cases pu
        have K4 := (B'.le ((k₂.trans (keeps_le k₃)).trans (keeps_le k₄))).K _ _ l_15
        exact in_tuple_ints (ns := [32, 9]) ⟨_, K4, rfl, 0, rfl⟩ (.cons _ _ (.cons _ _ .nil)) (wpAny_truthy_bool ⟨keeps_trans k₃ k₄, rfl⟩)) rfl), ?_, ?_⟩
    · intro hb s₂ k₂
      obtain ⟨h₃, tk₃, rfl, k₃⟩ := k₂
      refine x_assign (x := Str.ofString "at") (P := isI (first + (j : Int) + 1)) (fr_le F' k₃) (ev_add (T _ _ k₃) ev_int) (by kernel_rfl) (by kernel_rfl) rfl fun v h₄ h₅ tk₅ k₄ p F₅ _ => x_nil ?_
      obtain ⟨t₂, rfl⟩ := p
      rw [Bool.and_eq_true, decide_eq_true_eq] at hb
      have hj : j < codes.length := by omega
      rw [codeAt_in hj] at hb
      refine ⟨n - 1, by omega, j + 1, h₅, tk₅, _, t₂, rfl, F₅, hv, ?_, by omega, (scanN_go hj hb.2).trans hl⟩
      show some _ = some _
      congr 2
      push_cast; omega
    · intro hb s₂ k₂
      refine x_ret (P := isI (first + (j : Int))) (T _ _ (keeps_le k₂)) fun v s' k₃ p => ⟨fin_k F'.keep (keeps_trans k₂ k₃), ?_⟩
      have : beN codes j = j := by
        by_cases hj : j < codes.length
        · rw [codeAt_in hj] at hb
          rw [Bool.and_eq_false_iff, decide_eq_false_iff_not] at hb
          exact scanN_stop hj (hb.resolve_left (by omega))
        · exact scanN_end (by omega)
      rw [← hl, this]
      exact p

/-- the beginning of the next line; -1 where there is none -/
def nxI (codes : List Int) (first : Int) (o : Nat) : Int := if leN codes o < codes.length then first + leN codes o + 1 else -1

theorem f_next_start {x : Addr} {codes : List Int} {first : Int} {o : Nat} {t : Tok} (l : Lv 6 A) (B : Bs w h) (R : RowAt h x codes first) (ho : o ≤ codes.length) :
    Gv prog w A (call (.ref 36) [.ref x, .int (first + o) t]) h (isI (nxI codes first o)) :=
  gv_call (IsDef.of ok_36) B l.room bd_36 fun s g L k F => by
    have kg : Le g s.heap := F.keep
    have B' := (B.le k).le kg
    have R' := (R.le k).le kg
    refine x_assign (x := Str.ofString "at") (P := isI (first + leN codes o)) F
      (ev_call2 (a := 29) (R₁ := fun v => v = .ref x) (R₂ := fun v => v = .int (first + o) t) B' (ev_glob B' g_line_end (by kernel_rfl) (by kernel_rfl) (by kernel_rfl) rfl) kp_29 (ev_loc F.ns rfl (by kernel_rfl) (by kernel_rfl) rfl) (ev_loc F.ns rfl (by kernel_rfl) (by kernel_rfl) rfl)
        (fun v₁ v₂ e₁ e₂ => by subst e₁; subst e₂; exact f_line_end (l.deeper.mono (by omega)) B' R' ho) rfl rfl rfl rfl) (by kernel_rfl) (by kernel_rfl) rfl fun v h₁ h₂ tk k₁ p F₂ _ => ?_
    obtain ⟨t₁, rfl⟩ := p
    have kg₂ : Le g h₂ := F₂.keep
    have B₂ := (B.le k).le kg₂
    have R₂ := (R.le k).le kg₂
    have T : ∀ pos, Gv prog w (A.deeper (envF w 36 L)) (eval (.Name (Str.ofString "at") pos) (envF w 36 L)) h₂ (isI (first + (leN codes o : Int))) := fun pos => (ev_loc F₂.ns rfl (by kernel_rfl) (by kernel_rfl) rfl).to fun _ _ e => ⟨t₁, e⟩
    refine x_ret (P := isI (nxI codes first o)) (ev_ifexp (c := decide (first + (leN codes o : Int) < first + codes.length)) (ts_cmp (T _) (ev_end (x := x) (l.deeper.mono (by omega)) B₂ R₂ (ev_loc F₂.ns rfl (by kernel_rfl) (by kernel_rfl) rfl) rfl) rfl rfl) (fun e => ?_) (fun e => ?_)) fun v s' k₃ p => ⟨fin_k F₂.keep k₃, p⟩
    · rw [decide_eq_true_eq] at e
      refine (ev_add (T _) ev_int).to fun _ _ q => ?_
      unfold nxI
      rw [if_pos (by omega)]
      exact q
    · rw [decide_eq_false_iff_not] at e
      refine (ev_neg ev_int).to fun _ _ q => ?_
      unfold nxI
      rw [if_neg (by omega)]
      exact q

def isBeg (codes : List Int) (o : Nat) : Bool := o == 0 || codes.getD (o - 1) 0 == 10
def isEnd (codes : List Int) (o : Nat) : Bool := o == codes.length || codes.getD o 0 == 10

theorem f_is_begin {x : Addr} {codes : List Int} {first : Int} {o : Nat} {t : Tok} (l : Lv 4 A) (B : Bs w h) (R : RowAt h x codes first) (ho : o ≤ codes.length) :
    Gv prog w A (call (.ref 57) [.ref x, .int (first + o) t]) h (isB (isBeg codes o)) :=
  gv_call (IsDef.of ok_57) B l.room bd_57 fun s g L k F => by
    have kg : Le g s.heap := F.keep
    have B' := (B.le k).le kg
    have R' := (R.le k).le kg
    have V : ∀ pos, Gv prog w (A.deeper (envF w 57 L)) (eval (.Name (Str.ofString "view") pos) (envF w 57 L)) s.heap (isV (.ref x)) := fun pos => ev_loc F.ns rfl (by kernel_rfl) (by kernel_rfl) rfl
    have T : ∀ pos, Gv prog w (A.deeper (envF w 57 L)) (eval (.Name (Str.ofString "place") pos) (envF w 57 L)) s.heap (isI (first + (o : Int))) := fun pos => (ev_loc F.ns rfl (by kernel_rfl) (by kernel_rfl) rfl).to fun _ _ e => ⟨t, e⟩
    refine x_ret (P := isB ((first + (o : Int) == first) || (codeAt codes first (first + (o : Int) - 1) == 10))) (ev_or (ev_cmp (T _) (ev_begin (l.deeper.mono (by omega)) B' R' (V _) rfl) rfl rfl)
      (fun _ => ev_cmp (ev_code (l.deeper.mono (by omega)) B' R' (V _) (ev_sub (T _) ev_int) rfl rfl) ((ev_glob B' g_newline (by kernel_rfl) (by kernel_rfl) (by kernel_rfl) rfl).to fun _ _ e => ⟨193, e⟩) rfl rfl)) fun v s' k₃ p => ⟨fin_of F k₃, ?_⟩
    have e : isBeg codes o = ((first + (o : Int) == first) || (codeAt codes first (first + (o : Int) - 1) == 10)) := by
      cases o with
      | zero => simp [isBeg]
      | succ n =>
        have e1 : first + ((n + 1 : Nat) : Int) - 1 = first + (n : Int) := by push_cast; omega
        rw [e1, codeAt_in (by omega)]
        have e2 : (first + ((n + 1 : Nat) : Int) == first) = false := by rw [beq_eq_false_iff_ne]; push_cast; omega
        rw [e2]; rfl
    rw [e]; exact p
theorem f_is_end {x : Addr} {codes : List Int} {first : Int} {o : Nat} {t : Tok} (l : Lv 4 A) (B : Bs w h) (R : RowAt h x codes first) (ho : o ≤ codes.length) :
    Gv prog w A (call (.ref 64) [.ref x, .int (first + o) t]) h (isB (isEnd codes o)) :=
  gv_call (IsDef.of ok_64) B l.room bd_64 fun s g L k F => by
    have kg : Le g s.heap := F.keep
    have B' := (B.le k).le kg
    have R' := (R.le k).le kg
    have V : ∀ pos, Gv prog w (A.deeper (envF w 64 L)) (eval (.Name (Str.ofString "view") pos) (envF w 64 L)) s.heap (isV (.ref x)) := fun pos => ev_loc F.ns rfl (by kernel_rfl) (by kernel_rfl) rfl
    have T : ∀ pos, Gv prog w (A.deeper (envF w 64 L)) (eval (.Name (Str.ofString "place") pos) (envF w 64 L)) s.heap (isI (first + (o : Int))) := fun pos => (ev_loc F.ns rfl (by kernel_rfl) (by kernel_rfl) rfl).to fun _ _ e => ⟨t, e⟩
    refine x_ret (P := isB ((first + (o : Int) == first + codes.length) || (codeAt codes first (first + (o : Int)) == 10))) (ev_or (ev_cmp (T _) (ev_end (l.deeper.mono (by omega)) B' R' (V _) rfl) rfl rfl)
      (fun _ => ev_cmp (ev_code (l.deeper.mono (by omega)) B' R' (V _) (T _) rfl rfl) ((ev_glob B' g_newline (by kernel_rfl) (by kernel_rfl) (by kernel_rfl) rfl).to fun _ _ e => ⟨193, e⟩) rfl rfl)) fun v s' k₃ p => ⟨fin_of F k₃, ?_⟩
    have e : isEnd codes o = ((first + (o : Int) == first + codes.length) || (codeAt codes first (first + (o : Int)) == 10)) := by
      unfold isEnd
      by_cases ho' : o = codes.length
      · subst ho'; simp
      · rw [codeAt_in (by omega)]
        have e2 : (first + (o : Int) == first + (codes.length : Int)) = false := by rw [beq_eq_false_iff_ne]; omega
        have e3 : (o == codes.length) = false := by rw [beq_eq_false_iff_ne]; exact ho'
        rw [e2, e3]
    rw [e]; exact p
end
end Mine
open PySem PySem.W PyProof.Rows PySem.Calls
namespace Mine

def backN (codes : List Int) : Nat → Nat → Nat
  | 0, a => a
  | k + 1, a => if 0 < a then backN codes k (lsN codes (a - 1)) else a
def fwdN (codes : List Int) : Nat → Nat → Nat
  | 0, a => a
  | k + 1, a => if leN codes a < codes.length then fwdN codes k (leN codes a + 1) else codes.length
/-- where so many lines on or back begin -/
def tgN (codes : List Int) (o : Nat) (k : Int) : Nat := if k ≤ 0 then backN codes (-k).toNat (lsN codes o) else fwdN codes k.toNat o

theorem backN_le (codes : List Int) : ∀ k a, backN codes k a ≤ a
  | 0, a => Nat.le_refl _
  | k + 1, a => by
    unfold backN
    split
    · have := backN_le codes k (lsN codes (a - 1)); have := lsN_le codes (a - 1); omega
    · exact Nat.le_refl _
theorem fwdN_le (codes : List Int) : ∀ k a, a ≤ codes.length → fwdN codes k a ≤ codes.length
  | 0, a, h => h
  | k + 1, a, h => by
    unfold fwdN
    split
    · exact fwdN_le codes k _ (by omega)
    · exact Nat.le_refl _
theorem tgN_le (codes : List Int) (o : Nat) (k : Int) (h : o ≤ codes.length) : tgN codes o k ≤ codes.length := by
  unfold tgN
  split
  · have := backN_le codes (-k).toNat (lsN codes o); have := lsN_le codes o; omega
  · exact fwdN_le _ _ _ h

section
variable {prog : Program} {w : World} {A : Around} {h : Heap} {env : Env}
theorem ok_43 : okDef (KK w) 43 [Str.ofString "view", Str.ofString "place", Str.ofString "many"] = true := by kernel_rfl
theorem bd_43 {v u z : Value} : bindArgs (fdOf w 43) ⟨[v, u, z], []⟩ = pure ([Str.ofString "view", Str.ofString "place", Str.ofString "many"].zip [v, u, z]) := by kernel_rfl

abbrev anyI : Heap → Value → Prop := fun _ v => ∃ n t, v = .int n t

theorem f_lines_target {x : Addr} {codes : List Int} {first k : Int} {o : Nat} {t u : Tok} (l : Lv 8 A) (B : Bs w h) (R : RowAt h x codes first) (ho : o ≤ codes.length) (hf : 0 ≤ first) :
    Gv prog w A (call (.ref 43) [.ref x, .int (first + o) t, .int k u]) h (isTup (isI (first + tgN codes o k)) anyI) :=
  gv_call (IsDef.of ok_43) B l.room bd_43 fun s g L kk F => by
    have kg : Le g s.heap := F.keep
    have B' := (B.le kk).le kg
    have R' := (R.le kk).le kg
    refine x_if (b := decide (k ≤ 0)) (ts_cmp ((ev_loc F.ns rfl (by kernel_rfl) (by kernel_rfl) rfl).to fun _ _ e => ⟨u, e⟩) ev_int rfl rfl) ?_ ?_
    · intro hk s₁ k₁
      rw [decide_eq_true_eq] at hk
      obtain ⟨h₁, tk₁, rfl, k₁⟩ := k₁
      have F₁ := fr_le F k₁
      have B₁ := B'.le k₁
      have R₁ := R'.le k₁
      refine x_assign (x := Str.ofString "at") (P := isI (first + (lsN codes o : Int))) F₁
        (ev_call2 (a := 22) (R₁ := fun v => v = .ref x) (R₂ := fun v => v = .int (first + o) t) B₁ (ev_glob B₁ g_line_start (by kernel_rfl) (by kernel_rfl) (by kernel_rfl) rfl) kp_22 (ev_loc F₁.ns rfl (by kernel_rfl) (by kernel_rfl) rfl) (ev_loc F₁.ns rfl (by kernel_rfl) (by kernel_rfl) rfl)
          (fun v₁ v₂ e₁ e₂ => by subst e₁; subst e₂; exact f_line_start (l.deeper.mono (by omega)) B₁ R₁ ho) rfl rfl rfl rfl) (by kernel_rfl) (by kernel_rfl) rfl fun v h₂ h₃ tk k₂ p F₂ _ => ?_
      obtain ⟨t₁, rfl⟩ := p
      refine x_while (fun n s' => ∃ (a : Nat) (h' : Heap) (tk' : Nat) (m : Str → Option Value) (t' t₂ : Tok), s' = { s with heap := h', toks := tk' } ∧ Fr g L h' m ∧ m (Str.ofString "view") = some (.ref x) ∧ m (Str.ofString "at") = some (.int (first + (a : Int)) t') ∧
          m (Str.ofString "many") = some (.int (-(n : Int)) t₂) ∧ a ≤ codes.length ∧ backN codes n a = backN codes (-k).toNat (lsN codes o))
        (-k).toNat ⟨lsN codes o, _, _, _, t₁, u, rfl, F₂, rfl, rfl, ?_, ?_, rfl⟩ ?_
      · show some (Value.int k u) = _
        congr 2; omega
      · have := lsN_le codes o; omega
      rintro n s₁ ⟨a, h', tk', m, t', t₂, rfl, F', hv, ha, hm, hal, hb⟩
      have kg' : Le g h' := F'.keep
      have B₂ := (B.le kk).le kg'
      have R₂ := (R.le kk).le kg'
      have V : ∀ h₂ pos, Le h' h₂ → Gv prog w (A.deeper (envF w 43 L)) (eval (.Name (Str.ofString "view") pos) (envF w 43 L)) h₂ (isV (.ref x)) := fun h₂ pos k₂ => ev_loc (F'.ns.keeps k₂) hv (by kernel_rfl) (by kernel_rfl) rfl
      have T : ∀ h₂ pos, Le h' h₂ → Gv prog w (A.deeper (envF w 43 L)) (eval (.Name (Str.ofString "at") pos) (envF w 43 L)) h₂ (isI (first + (a : Int))) := fun h₂ pos k₂ => (ev_loc (F'.ns.keeps k₂) ha (by kernel_rfl) (by kernel_rfl) rfl).to fun _ _ e => ⟨t', e⟩
      have Y : ∀ h₂ pos, Le h' h₂ → Gv prog w (A.deeper (envF w 43 L)) (eval (.Name (Str.ofString "many") pos) (envF w 43 L)) h₂ (isI (-(n : Int))) := fun h₂ pos k₂ => (ev_loc (F'.ns.keeps k₂) hm (by kernel_rfl) (by kernel_rfl) rfl).to fun _ _ e => ⟨t₂, e⟩
      refine ⟨decide (-(n : Int) < 0) && decide (first < first + (a : Int)), ts_and (ts_cmp (Y _ _ (Le.refl _)) ev_int rfl rfl) (fun _ => ts_cmp (T _ _ (Le.refl _)) (ev_begin (l.deeper.mono (by omega)) B₂ R₂ (V _ _ (Le.refl _)) rfl) rfl rfl), ?_, ?_⟩
      · intro hb' s₂ k₂
        rw [Bool.and_eq_true, decide_eq_true_eq, decide_eq_true_eq] at hb'
        obtain ⟨h₄, tk₄, rfl, k₄⟩ := k₂
        have F₄ := fr_le F' k₄
        have e : first + (a : Int) - 1 = first + ((a - 1 : Nat) : Int) := by omega
        refine x_assign (x := Str.ofString "at") (P := isI (first + (lsN codes (a - 1) : Int))) F₄
          (ev_call2 (a := 22) (R₁ := fun v => v = .ref x) (R₂ := fun v => ∃ t, v = .int (first + (a : Int) - 1) t) (B₂.le k₄) (ev_glob (B₂.le k₄) g_line_start (by kernel_rfl) (by kernel_rfl) (by kernel_rfl) rfl) kp_22 (V _ _ k₄) (ev_sub (T _ _ k₄) ev_int)
            (fun v₁ v₂ e₁ ⟨t₃, e₂⟩ => by subst e₁; subst e₂; rw [e]; exact f_line_start (l.deeper.mono (by omega)) (B₂.le k₄) (R₂.le k₄) (by omega)) rfl rfl rfl rfl) (by kernel_rfl) (by kernel_rfl) rfl fun v h₅ h₆ tk₆ k₅ p F₆ _ => ?_
        obtain ⟨t₃, rfl⟩ := p
        refine x_assign (x := Str.ofString "many") (P := isI (-(n : Int) + 1)) F₆ (ev_add ((ev_loc (x := Str.ofString "many") (v := .int _ t₂) F₆.ns hm (by kernel_rfl) (by kernel_rfl) rfl).to fun _ _ e => ⟨t₂, e⟩) ev_int) (by kernel_rfl) (by kernel_rfl) rfl fun v h₇ h₈ tk₈ k₇ p F₈ _ => x_nil ?_
        obtain ⟨t₄, rfl⟩ := p
        obtain ⟨n, rfl⟩ : ∃ j, n = j + 1 := ⟨n - 1, by omega⟩
        refine ⟨n, by omega, lsN codes (a - 1), h₈, tk₈, _, t₃, t₄, rfl, F₈, hv, rfl, ?_, ?_, ?_⟩
        · show some _ = some _
          congr 2
          push_cast; omega
        · have := lsN_le codes (a - 1); omega
        · rw [← hb]
          conv => rhs; unfold backN
          rw [if_pos (by omega)]
      · intro hb' s₂ k₂
        have k₂' := keeps_le k₂
        refine x_ret (P := isTup (isI (first + (a : Int))) anyI) (ev_tuple2 mono_const mono_const (T _ _ k₂') ((Y _ _ k₂').to fun _ _ ⟨t, e⟩ => ⟨_, t, e⟩) rfl rfl) fun v s' k₃ p => ⟨fin_k F'.keep (keeps_trans k₂ k₃), ?_⟩
        have e : tgN codes o k = a := by
          unfold tgN
          rw [if_pos hk, ← hb]
          rw [Bool.and_eq_false_iff, decide_eq_false_iff_not, decide_eq_false_iff_not] at hb'
          cases n with
          | zero => rfl
          | succ n =>
            unfold backN
            rw [if_neg (by have := hb'.resolve_left (by push_cast; omega); omega)]
        rw [e]; exact p
    · intro hk s₁ k₁
      rw [decide_eq_false_iff_not] at hk
      obtain ⟨h₁, tk₁, rfl, k₁⟩ := k₁
      have F₁ := fr_le F k₁
      refine x_nil (x_assign (x := Str.ofString "at") (P := isI (first + (o : Int))) F₁ ((ev_loc F₁.ns rfl (by kernel_rfl) (by kernel_rfl) rfl).to fun _ _ e => ⟨t, e⟩) (by kernel_rfl) (by kernel_rfl) rfl fun v h₂ h₃ tk k₂ p F₂ _ => ?_)
      obtain ⟨t₁, rfl⟩ := p
      refine x_while (fun n s' => ∃ (a : Nat) (h' : Heap) (tk' : Nat) (m : Str → Option Value) (t' t₂ : Tok), s' = { s with heap := h', toks := tk' } ∧ Fr g L h' m ∧ m (Str.ofString "view") = some (.ref x) ∧ m (Str.ofString "at") = some (.int (first + (a : Int)) t') ∧
          m (Str.ofString "many") = some (.int (n : Int) t₂) ∧ a ≤ codes.length ∧ fwdN codes n a = fwdN codes k.toNat o)
        k.toNat ⟨o, _, _, _, t₁, u, rfl, F₂, rfl, rfl, ?_, ho, rfl⟩ ?_
      · show some (Value.int k u) = _
        congr 2; omega
      rintro n s₁ ⟨a, h', tk', m, t', t₂, rfl, F', hv, ha, hm, hal, hb⟩
      have kg' : Le g h' := F'.keep
      have B₂ := (B.le kk).le kg'
      have R₂ := (R.le kk).le kg'
      have V : ∀ h₂ pos, Le h' h₂ → Gv prog w (A.deeper (envF w 43 L)) (eval (.Name (Str.ofString "view") pos) (envF w 43 L)) h₂ (isV (.ref x)) := fun h₂ pos k₂ => ev_loc (F'.ns.keeps k₂) hv (by kernel_rfl) (by kernel_rfl) rfl
      have T : ∀ h₂ pos, Le h' h₂ → Gv prog w (A.deeper (envF w 43 L)) (eval (.Name (Str.ofString "at") pos) (envF w 43 L)) h₂ (isV (.int (first + (a : Int)) t')) := fun h₂ pos k₂ => ev_loc (F'.ns.keeps k₂) ha (by kernel_rfl) (by kernel_rfl) rfl
      have Y : ∀ h₂ pos, Le h' h₂ → Gv prog w (A.deeper (envF w 43 L)) (eval (.Name (Str.ofString "many") pos) (envF w 43 L)) h₂ (isI (n : Int)) := fun h₂ pos k₂ => (ev_loc (F'.ns.keeps k₂) hm (by kernel_rfl) (by kernel_rfl) rfl).to fun _ _ e => ⟨t₂, e⟩
      refine ⟨decide (0 < (n : Int)), ts_cmp (Y _ _ (Le.refl _)) ev_int rfl rfl, ?_, ?_⟩
      · intro hb' s₂ k₂
        rw [decide_eq_true_eq] at hb'
        obtain ⟨n, rfl⟩ : ∃ j, n = j + 1 := ⟨n - 1, by omega⟩
        obtain ⟨h₄, tk₄, rfl, k₄⟩ := k₂
        have F₄ := fr_le F' k₄
        refine x_assign (x := Str.ofString "following") (P := isI (nxI codes first a)) F₄
          (ev_call2 (a := 36) (R₁ := fun v => v = .ref x) (R₂ := fun v => v = .int (first + (a : Int)) t') (B₂.le k₄) (ev_glob (B₂.le k₄) g_next_start (by kernel_rfl) (by kernel_rfl) (by kernel_rfl) rfl) kp_36 (V _ _ k₄) (T _ _ k₄)
            (fun v₁ v₂ e₁ e₂ => by subst e₁; subst e₂; exact f_next_start (l.deeper.mono (by omega)) (B₂.le k₄) (R₂.le k₄) hal) rfl rfl rfl rfl) (by kernel_rfl) (by kernel_rfl) rfl fun v h₅ h₆ tk₆ k₅ p F₆ _ => ?_
        obtain ⟨t₃, rfl⟩ := p
        have B₆ := (B.le kk).le F₆.keep
        have R₆ := (R.le kk).le F₆.keep
        refine x_if (b := decide (nxI codes first a < 0)) (ts_cmp ((ev_loc F₆.ns rfl (by kernel_rfl) (by kernel_rfl) rfl).to fun _ _ e => ⟨t₃, e⟩) ev_int rfl rfl) ?_ ?_
        · intro hn s₇ k₇
          rw [decide_eq_true_eq] at hn
          have k₇' := keeps_le k₇
          have F₇ := fr_le F₆ k₇'
          have B₇ := B₆.le k₇'
          have R₇ := R₆.le k₇'
          have V₇ : ∀ pos, Gv prog w (A.deeper (envF w 43 L)) (eval (.Name (Str.ofString "view") pos) (envF w 43 L)) s₇.heap (isV (.ref x)) := fun pos => ev_loc F₇.ns hv (by kernel_rfl) (by kernel_rfl) rfl
          refine x_ret (P := isTup (isI (first + (codes.length : Int))) anyI) (ev_tuple2 mono_const mono_const (ev_end (l.deeper.mono (by omega)) B₇ R₇ (V₇ _) rfl)
            ((ev_sub ((ev_loc (x := Str.ofString "many") (v := .int _ t₂) F₇.ns hm (by kernel_rfl) (by kernel_rfl) rfl).to fun _ _ e => ⟨t₂, e⟩) (ev_intb (ev_bin B₇ (by kernel_rfl) (by kernel_rfl) (by decide) (by kernel_rfl) (by kernel_rfl) (by kernel_rfl) (by kernel_rfl) rfl)
              (ev_cmp ((ev_loc (x := Str.ofString "at") (v := .int _ t') F₇.ns ha (by kernel_rfl) (by kernel_rfl) rfl).to fun _ _ e => ⟨t', e⟩) (ev_end (l.deeper.mono (by omega)) B₇ R₇ (V₇ _) rfl) rfl rfl) rfl rfl)).to fun _ _ ⟨t, e⟩ => ⟨_, t, e⟩) rfl rfl) fun v s' k₈ p => ⟨fin_k F₆.keep (keeps_trans k₇ k₈), ?_⟩
          have e : tgN codes o k = codes.length := by
            unfold tgN
            rw [if_neg hk, ← hb]
            unfold fwdN
            have : ¬ leN codes a < codes.length := fun hl => by unfold nxI at hn; rw [if_pos hl] at hn; omega
            rw [if_neg this]
          rw [e]; exact p
        · intro hn s₇ k₇
          rw [decide_eq_false_iff_not] at hn
          obtain ⟨h₇, tk₇, rfl, k₇⟩ := k₇
          have F₇ := fr_le F₆ k₇
          have hl : leN codes a < codes.length := Decidable.byContradiction fun hl => by unfold nxI at hn; rw [if_neg hl] at hn; exact hn (by decide)
          have en : nxI codes first a = first + ((leN codes a + 1 : Nat) : Int) := by unfold nxI; rw [if_pos hl]; push_cast; omega
          rw [en] at F₇
          refine x_nil (x_assign (x := Str.ofString "at") (P := isI (first + ((leN codes a + 1 : Nat) : Int))) F₇ ((ev_loc F₇.ns rfl (by kernel_rfl) (by kernel_rfl) rfl).to fun _ _ e => ⟨t₃, e⟩) (by kernel_rfl) (by kernel_rfl) rfl fun v h₈ h₉ tk₉ k₈ p F₉ _ => ?_)
          obtain ⟨t₄, rfl⟩ := p
          refine x_assign (x := Str.ofString "many") (P := isI (((n + 1 : Nat) : Int) - 1)) F₉ (ev_sub ((ev_loc (x := Str.ofString "many") (v := .int _ t₂) F₉.ns hm (by kernel_rfl) (by kernel_rfl) rfl).to fun _ _ e => ⟨t₂, e⟩) ev_int) (by kernel_rfl) (by kernel_rfl) rfl fun v h₁₀ h₁₁ tk₁₁ k₁₀ p F₁₁ _ => x_nil ?_
          obtain ⟨t₅, rfl⟩ := p
          refine ⟨n, by omega, leN codes a + 1, h₁₁, tk₁₁, _, t₄, t₅, rfl, F₁₁, hv, rfl, ?_, by omega, ?_⟩
          · show some _ = some _
            congr 2
            push_cast; omega
          · rw [← hb]
            conv => rhs; unfold fwdN
            rw [if_pos hl]
      · intro hb' s₂ k₂
        have k₂' := keeps_le k₂
        refine x_ret (P := isTup (isI (first + (a : Int))) anyI) (ev_tuple2 mono_const mono_const ((T _ _ k₂').to fun _ _ e => ⟨t', e⟩) (ev_int.to fun _ _ ⟨t, e⟩ => ⟨_, t, e⟩) rfl rfl) fun v s' k₃ p => ⟨fin_k F'.keep (keeps_trans k₂ k₃), ?_⟩
        rw [decide_eq_false_iff_not] at hb'
        have e : tgN codes o k = a := by
          unfold tgN
          have : n = 0 := by omega
          subst this
          rw [if_neg hk, ← hb]; rfl
        rw [e]; exact p
end
end Mine
open PySem PySem.W PyProof.Rows PySem.Calls
namespace Mine

def kltP (codes : List Int) (o : Nat) (wh : Bool) : Nat :=
  if o = codes.length then o else if (isEnd codes (beN codes o) || (wh && isBeg codes o)) = true then tgN codes o 1 else leN codes o
def kltS (codes : List Int) (o : Nat) : Str := if o = codes.length then Str.ofString "end-of-buffer" else Str.ofString ""

def wlbA (codes : List Int) (o : Nat) (k : Int) : Nat :=
  if 0 < k ∧ lsN codes o = codes.length then o else if k < 0 ∧ leN codes o = 0 then o else if k = 0 then lsN codes o else if k < 0 then leN codes o else lsN codes o
def wlbB (codes : List Int) (o : Nat) (k : Int) : Nat :=
  if 0 < k ∧ lsN codes o = codes.length then o else if k < 0 ∧ leN codes o = 0 then o else if k = 0 then leN codes o else if k < 0 then (if 0 < tgN codes o (k + 1) then tgN codes o (k + 1) - 1 else tgN codes o (k + 1)) else tgN codes (lsN codes o) k
def wlbS (codes : List Int) (o : Nat) (k : Int) : Str :=
  if 0 < k ∧ lsN codes o = codes.length then Str.ofString "end-of-buffer" else if k < 0 ∧ leN codes o = 0 then Str.ofString "beginning-of-buffer" else Str.ofString ""

section
variable {prog : Program} {w : World} {A : Around} {h : Heap} {env : Env}
theorem ok_71 : okDef (KK w) 71 [Str.ofString "view", Str.ofString "place", Str.ofString "many", Str.ofString "takes_whole"] = true := by kernel_rfl
theorem bd_71 {v u z y : Value} : bindArgs (fdOf w 71) ⟨[v, u, z, y], []⟩ = pure ([Str.ofString "view", Str.ofString "place", Str.ofString "many", Str.ofString "takes_whole"].zip [v, u, z, y]) := by kernel_rfl
theorem ok_78 : okDef (KK w) 78 [Str.ofString "view", Str.ofString "place", Str.ofString "many"] = true := by kernel_rfl
theorem bd_78 {v u z : Value} : bindArgs (fdOf w 78) ⟨[v, u, z], []⟩ = pure ([Str.ofString "view", Str.ofString "place", Str.ofString "many"].zip [v, u, z]) := by kernel_rfl
theorem g_at_end : nsIn (KK w) mainGlobals (Str.ofString "AT_END") = some (some (.str (Str.ofString "end-of-buffer") 189)) := by kernel_rfl
theorem g_at_begin : nsIn (KK w) mainGlobals (Str.ofString "AT_BEGIN") = some (some (.str (Str.ofString "beginning-of-buffer") 187)) := by kernel_rfl

theorem f_klt_some {x : Addr} {codes : List Int} {first k : Int} {o : Nat} {t u : Tok} {wh : Bool} (l : Lv 10 A) (B : Bs w h) (R : RowAt h x codes first) (ho : o ≤ codes.length) (hf : 0 ≤ first) :
    Gv prog w A (call (.ref 71) [.ref x, .int (first + o) t, .int k u, .bool wh]) h (isTup (isI (first + tgN codes o k)) (isS (Str.ofString ""))) :=
  gv_call (IsDef.of ok_71) B l.room bd_71 fun s g L kk F => by
    have kg : Le g s.heap := F.keep
    have B' := (B.le kk).le kg
    have R' := (R.le kk).le kg
    refine x_if (b := !((Value.int k u) == .none)) (ts_isNotNone (ev_loc F.ns rfl (by kernel_rfl) (by kernel_rfl) rfl) rfl) ?_ ?_
    · intro _ s₁ k₁
      have k₁' := keeps_le k₁
      have F₁ := fr_le F k₁'
      have B₁ := B'.le k₁'
      refine x_ret (P := isTup (isI (first + tgN codes o k)) (isS (Str.ofString ""))) (ev_tuple2 mono_const mono_const (ev_fst
        (ev_call3 (a := 43) (R₁ := fun v => v = .ref x) (R₂ := fun v => v = .int (first + o) t) (R₃ := fun v => v = .int k u) B₁ (ev_glob B₁ g_lines_target (by kernel_rfl) (by kernel_rfl) (by kernel_rfl) rfl) kp_43
          (ev_loc F₁.ns rfl (by kernel_rfl) (by kernel_rfl) rfl) (ev_loc F₁.ns rfl (by kernel_rfl) (by kernel_rfl) rfl) (ev_loc F₁.ns rfl (by kernel_rfl) (by kernel_rfl) rfl)
          (fun v₁ v₂ v₃ e₁ e₂ e₃ => by subst e₁; subst e₂; subst e₃; exact f_lines_target (l.deeper.mono (by omega)) B₁ (R'.le k₁') ho hf) rfl rfl rfl rfl rfl) mono_const) ev_str rfl rfl) fun v s' k₂ p => ⟨fin_of F (keeps_trans k₁ k₂), p⟩
    · intro hb; simp at hb

theorem f_klt_none {x : Addr} {codes : List Int} {first : Int} {o : Nat} {t : Tok} {wh : Bool} (l : Lv 10 A) (B : Bs w h) (R : RowAt h x codes first) (ho : o ≤ codes.length) (hf : 0 ≤ first) :
    Gv prog w A (call (.ref 71) [.ref x, .int (first + o) t, .none, .bool wh]) h (isTup (isI (first + kltP codes o wh)) (isS (kltS codes o))) :=
  gv_call (IsDef.of ok_71) B l.room bd_71 fun s g L kk F => by
    have kg : Le g s.heap := F.keep
    have B' := (B.le kk).le kg
    have R' := (R.le kk).le kg
    refine x_if (b := !(Value.none == .none)) (ts_isNotNone (ev_loc F.ns rfl (by kernel_rfl) (by kernel_rfl) rfl) rfl) ?_ ?_
    · intro hb; exact absurd hb (by decide)
    intro _ s₁ k₁
    obtain ⟨h₁, tk₁, rfl, k₁⟩ := k₁
    have F₁ := fr_le F k₁
    have B₁ := B'.le k₁
    have R₁ := R'.le k₁
    refine x_nil (x_if (b := (first + (o : Int) == first + codes.length)) (ts_cmp ((ev_loc F₁.ns rfl (by kernel_rfl) (by kernel_rfl) rfl).to fun _ _ e => ⟨t, e⟩) (ev_end (x := x) (l.deeper.mono (by omega)) B₁ R₁ (ev_loc F₁.ns rfl (by kernel_rfl) (by kernel_rfl) rfl) rfl) rfl rfl) ?_ ?_)
    · intro hb s₂ k₂
      rw [beq_iff_eq] at hb
      have ho' : o = codes.length := by omega
      have k₂' := keeps_le k₂
      have F₂ := fr_le F₁ k₂'
      refine x_ret (P := isTup (isI (first + (o : Int))) (isS (Str.ofString "end-of-buffer"))) (ev_tuple2 mono_const mono_const ((ev_loc F₂.ns rfl (by kernel_rfl) (by kernel_rfl) rfl).to fun _ _ e => ⟨t, e⟩)
        ((ev_glob (B₁.le k₂') g_at_end (by kernel_rfl) (by kernel_rfl) (by kernel_rfl) rfl).to fun _ _ e => ⟨189, e⟩) rfl rfl) fun v s' k₃ p => ⟨fin_k F₁.keep (keeps_trans k₂ k₃), ?_⟩
      unfold kltP kltS
      rw [if_pos ho', if_pos ho']
      exact p
    intro hb s₂ k₂
    rw [beq_eq_false_iff_ne] at hb
    have ho' : ¬ o = codes.length := by intro e; subst e; exact hb rfl
    obtain ⟨h₂, tk₂, rfl, k₂⟩ := k₂
    have F₂ := fr_le F₁ k₂
    have B₂ := B₁.le k₂
    have R₂ := R₁.le k₂
    refine x_nil (x_assign (x := Str.ofString "is_rest_blank") (P := isB (isEnd codes (beN codes o))) F₂
      (ev_call2 (a := 64) (R₁ := fun v => v = .ref x) (R₂ := fun v => ∃ t, v = .int (first + (beN codes o : Int)) t) B₂ (ev_glob B₂ g_is_end (by kernel_rfl) (by kernel_rfl) (by kernel_rfl) rfl) kp_64 (ev_loc F₂.ns rfl (by kernel_rfl) (by kernel_rfl) rfl)
        (ev_call2 (a := 50) (R₁ := fun v => v = .ref x) (R₂ := fun v => v = .int (first + (o : Int)) t) B₂ (ev_glob B₂ g_blanks_end (by kernel_rfl) (by kernel_rfl) (by kernel_rfl) rfl) kp_50 (ev_loc F₂.ns rfl (by kernel_rfl) (by kernel_rfl) rfl) (ev_loc F₂.ns rfl (by kernel_rfl) (by kernel_rfl) rfl)
          (fun v₁ v₂ e₁ e₂ => by subst e₁; subst e₂; exact f_blanks_end (l.deeper.mono (by omega)) B₂ R₂ ho) rfl rfl rfl rfl)
        (fun v₁ v₂ e₁ ⟨t₂, e₂⟩ => by subst e₁; subst e₂; exact f_is_end (l.deeper.mono (by omega)) B₂ R₂ (scanN_le ho)) rfl rfl rfl rfl) (by kernel_rfl) (by kernel_rfl) rfl fun v h₃ h₄ tk k₃ p F₄ _ => ?_)
    cases p
    have B₄ := (B.le kk).le F₄.keep
    have R₄ := (R.le kk).le F₄.keep
    refine x_if (b := isEnd codes (beN codes o) || (wh && isBeg codes o)) (ts_or (ts_val (ev_loc F₄.ns rfl (by kernel_rfl) (by kernel_rfl) rfl) rfl) (fun _ => ts_and (ts_val (ev_loc F₄.ns rfl (by kernel_rfl) (by kernel_rfl) rfl) rfl)
      (fun _ => ts_val (ev_call2 (a := 57) (R₁ := fun v => v = .ref x) (R₂ := fun v => v = .int (first + (o : Int)) t) B₄ (ev_glob B₄ g_is_begin (by kernel_rfl) (by kernel_rfl) (by kernel_rfl) rfl) kp_57 (ev_loc F₄.ns rfl (by kernel_rfl) (by kernel_rfl) rfl) (ev_loc F₄.ns rfl (by kernel_rfl) (by kernel_rfl) rfl)
          (fun v₁ v₂ e₁ e₂ => by subst e₁; subst e₂; exact f_is_begin (l.deeper.mono (by omega)) B₄ R₄ ho) rfl rfl rfl rfl) rfl))) ?_ ?_
    · intro hb s₅ k₅
      have k₅' := keeps_le k₅
      have F₅ := fr_le F₄ k₅'
      have B₅ := B₄.le k₅'
      refine x_ret (P := isTup (isI (first + tgN codes o 1)) (isS (Str.ofString ""))) (ev_tuple2 mono_const mono_const (ev_fst
        (ev_call3 (a := 43) (R₁ := fun v => v = .ref x) (R₂ := fun v => v = .int (first + o) t) (R₃ := fun v => ∃ u, v = .int 1 u) B₅ (ev_glob B₅ g_lines_target (by kernel_rfl) (by kernel_rfl) (by kernel_rfl) rfl) kp_43
          (ev_loc F₅.ns rfl (by kernel_rfl) (by kernel_rfl) rfl) (ev_loc F₅.ns rfl (by kernel_rfl) (by kernel_rfl) rfl) ev_int
          (fun v₁ v₂ v₃ e₁ e₂ ⟨u, e₃⟩ => by subst e₁; subst e₂; subst e₃; exact f_lines_target (l.deeper.mono (by omega)) B₅ (R₄.le k₅') ho hf) rfl rfl rfl rfl rfl) mono_const) ev_str rfl rfl) fun v s' k₂ p => ⟨fin_k F₄.keep (keeps_trans k₅ k₂), ?_⟩
      unfold kltP kltS
      rw [if_neg ho', if_neg ho', if_pos hb]
      exact p
    · intro hb s₅ k₅
      have k₅' := keeps_le k₅
      have F₅ := fr_le F₄ k₅'
      have B₅ := B₄.le k₅'
      refine x_nil (x_ret (P := isTup (isI (first + leN codes o)) (isS (Str.ofString ""))) (ev_tuple2 mono_const mono_const
        (ev_call2 (a := 29) (R₁ := fun v => v = .ref x) (R₂ := fun v => v = .int (first + o) t) B₅ (ev_glob B₅ g_line_end (by kernel_rfl) (by kernel_rfl) (by kernel_rfl) rfl) kp_29
          (ev_loc F₅.ns rfl (by kernel_rfl) (by kernel_rfl) rfl) (ev_loc F₅.ns rfl (by kernel_rfl) (by kernel_rfl) rfl)
          (fun v₁ v₂ e₁ e₂ => by subst e₁; subst e₂; exact f_line_end (l.deeper.mono (by omega)) B₅ (R₄.le k₅') ho) rfl rfl rfl rfl) ev_str rfl rfl) fun v s' k₂ p => ⟨fin_k F₄.keep (keeps_trans k₅ k₂), ?_⟩)
      unfold kltP kltS
      rw [if_neg ho', if_neg ho', if_neg (by rw [hb]; exact Bool.false_ne_true)]
      exact p

set_option maxHeartbeats 4000000 in
theorem f_wlb {x : Addr} {codes : List Int} {first k : Int} {o : Nat} {t u : Tok} (l : Lv 10 A) (B : Bs w h) (R : RowAt h x codes first) (ho : o ≤ codes.length) (hf : 0 ≤ first) :
    Gv prog w A (call (.ref 78) [.ref x, .int (first + o) t, .int k u]) h (isTup (isTup (isI (first + wlbA codes o k)) (isI (first + wlbB codes o k))) (isS (wlbS codes o k))) :=
  gv_call (IsDef.of ok_78) B l.room bd_78 fun s g L kk F => by
    have kg : Le g s.heap := F.keep
    have B' := (B.le kk).le kg
    have R' := (R.le kk).le kg
    have mI : ∀ n, Mono (isI n) := fun n => mono_const
    refine x_assign2 (y := Str.ofString "first") (z := Str.ofString "last") (P₁ := isI (first + (lsN codes o : Int))) (P₂ := isI (first + (leN codes o : Int))) (l.deeper (n := 9)).hh F mono_const mono_const
      (ev_call2 (a := 22) (R₁ := fun v => v = .ref x) (R₂ := fun v => v = .int (first + o) t) B' (ev_glob B' g_line_start (by kernel_rfl) (by kernel_rfl) (by kernel_rfl) rfl) kp_22 (ev_loc F.ns rfl (by kernel_rfl) (by kernel_rfl) rfl) (ev_loc F.ns rfl (by kernel_rfl) (by kernel_rfl) rfl)
        (fun v₁ v₂ e₁ e₂ => by subst e₁; subst e₂; exact f_line_start (l.deeper.mono (by omega)) B' R' ho) rfl rfl rfl rfl)
      (ev_call2 (a := 29) (R₁ := fun v => v = .ref x) (R₂ := fun v => v = .int (first + o) t) B' (ev_glob B' g_line_end (by kernel_rfl) (by kernel_rfl) (by kernel_rfl) rfl) kp_29 (ev_loc F.ns rfl (by kernel_rfl) (by kernel_rfl) rfl) (ev_loc F.ns rfl (by kernel_rfl) (by kernel_rfl) rfl)
        (fun v₁ v₂ e₁ e₂ => by subst e₁; subst e₂; exact f_line_end (l.deeper.mono (by omega)) B' R' ho) rfl rfl rfl rfl)
      rfl rfl (by kernel_rfl) (by kernel_rfl) (by kernel_rfl) rfl rfl fun a b h₁ h₂ tk k₁ pa pb F₂ _ => ?_
    obtain ⟨ta, rfl⟩ := pa
    obtain ⟨tb, rfl⟩ := pb
    have V : ∀ h' pos, Le h₂ h' → Gv prog w (A.deeper (envF w 78 L)) (eval (.Name (Str.ofString "view") pos) (envF w 78 L)) h' (isV (.ref x)) := fun h' pos k => ev_loc (F₂.ns.keeps k) rfl (by kernel_rfl) (by kernel_rfl) rfl
    have Pl : ∀ h' pos, Le h₂ h' → Gv prog w (A.deeper (envF w 78 L)) (eval (.Name (Str.ofString "place") pos) (envF w 78 L)) h' (isV (.int (first + (o : Int)) t)) := fun h' pos k => ev_loc (F₂.ns.keeps k) rfl (by kernel_rfl) (by kernel_rfl) rfl
    have My : ∀ h' pos, Le h₂ h' → Gv prog w (A.deeper (envF w 78 L)) (eval (.Name (Str.ofString "many") pos) (envF w 78 L)) h' (isI k) := fun h' pos kq => (ev_loc (F₂.ns.keeps kq) rfl (by kernel_rfl) (by kernel_rfl) rfl).to fun _ _ e => ⟨u, e⟩
    have Fi : ∀ h' pos, Le h₂ h' → Gv prog w (A.deeper (envF w 78 L)) (eval (.Name (Str.ofString "first") pos) (envF w 78 L)) h' (isV (.int (first + (lsN codes o : Int)) ta)) := fun h' pos k => ev_loc (F₂.ns.keeps k) rfl (by kernel_rfl) (by kernel_rfl) rfl
    have La : ∀ h' pos, Le h₂ h' → Gv prog w (A.deeper (envF w 78 L)) (eval (.Name (Str.ofString "last") pos) (envF w 78 L)) h' (isV (.int (first + (leN codes o : Int)) tb)) := fun h' pos k => ev_loc (F₂.ns.keeps k) rfl (by kernel_rfl) (by kernel_rfl) rfl
    have B₂ := (B.le kk).le F₂.keep
    have R₂ := (R.le kk).le F₂.keep
    have l9 : Lv 9 (A.deeper (envF w 78 L)) := l.deeper
    have toI : ∀ {n : Int} {t : Tok} (h : Heap) (v : Value), isV (.int n t) h v → isI n h v := fun _ _ e => ⟨_, e⟩
    refine x_if (b := decide (0 < k) && (first + (lsN codes o : Int) == first + codes.length)) (ts_and (ts_cmp (My _ _ (Le.refl _)) ev_int rfl rfl) (fun _ => ts_cmp ((Fi _ _ (Le.refl _)).to toI) (ev_end (l9.mono (by omega)) B₂ R₂ (V _ _ (Le.refl _)) rfl) rfl rfl)) ?_ ?_
    · intro hb s₃ k₃
      rw [Bool.and_eq_true, decide_eq_true_eq, beq_iff_eq] at hb
      have c1 : 0 < k ∧ lsN codes o = codes.length := ⟨hb.1, by omega⟩
      have k₃' := keeps_le k₃
      refine x_ret (P := isTup (isTup (isI (first + (o : Int))) (isI (first + (o : Int)))) (isS (Str.ofString "end-of-buffer"))) (ev_tuple2 (mono_tup mono_const mono_const) mono_const (ev_tuple2 mono_const mono_const ((Pl _ _ k₃').to toI) ((Pl _ _ k₃').to toI) rfl rfl)
        ((ev_glob (B₂.le k₃') g_at_end (by kernel_rfl) (by kernel_rfl) (by kernel_rfl) rfl).to fun _ _ e => ⟨189, e⟩) rfl rfl) fun v s' k₄ p => ⟨fin_k F₂.keep (keeps_trans k₃ k₄), ?_⟩
      unfold wlbA wlbB wlbS
      rw [if_pos c1, if_pos c1, if_pos c1]
      exact p
    intro hb s₃ k₃
    have c1 : ¬ (0 < k ∧ lsN codes o = codes.length) := by
      rintro ⟨e1, e2⟩
      rw [e2] at hb
      simp [e1] at hb
    obtain ⟨h₃, tk₃, rfl, k₃⟩ := k₃
    refine x_nil (x_if (b := decide (k < 0) && (first + (leN codes o : Int) == first)) (ts_and (ts_cmp (My _ _ k₃) ev_int rfl rfl) (fun _ => ts_cmp ((La _ _ k₃).to toI) (ev_begin (l9.mono (by omega)) (B₂.le k₃) (R₂.le k₃) (V _ _ k₃) rfl) rfl rfl)) ?_ ?_)
    · intro hb s₄ k₄
      rw [Bool.and_eq_true, decide_eq_true_eq, beq_iff_eq] at hb
      have c2 : k < 0 ∧ leN codes o = 0 := ⟨hb.1, by omega⟩
      have k₄' := Le.trans k₃ (keeps_le k₄)
      refine x_ret (P := isTup (isTup (isI (first + (o : Int))) (isI (first + (o : Int)))) (isS (Str.ofString "beginning-of-buffer"))) (ev_tuple2 (mono_tup mono_const mono_const) mono_const (ev_tuple2 mono_const mono_const ((Pl _ _ k₄').to toI) ((Pl _ _ k₄').to toI) rfl rfl)
        ((ev_glob (B₂.le k₄') g_at_begin (by kernel_rfl) (by kernel_rfl) (by kernel_rfl) rfl).to fun _ _ e => ⟨187, e⟩) rfl rfl) fun v s' k₅ p => ⟨fin_k (Le.trans F₂.keep k₃) (keeps_trans k₄ k₅), ?_⟩
      unfold wlbA wlbB wlbS
      rw [if_neg c1, if_neg c1, if_neg c1, if_pos c2, if_pos c2, if_pos c2]
      exact p
    intro hb s₄ k₄
    have c2 : ¬ (k < 0 ∧ leN codes o = 0) := by
      rintro ⟨e1, e2⟩
      rw [e2] at hb
      simp [e1] at hb
    obtain ⟨h₄, tk₄, rfl, k₄⟩ := k₄
    have k₄ := Le.trans k₃ k₄
    refine x_nil (x_if (b := (k == 0)) (ts_cmp (My _ _ k₄) ev_int rfl rfl) ?_ ?_)
    · intro hb s₅ k₅
      rw [beq_iff_eq] at hb
      have k₅' := Le.trans k₄ (keeps_le k₅)
      refine x_ret (P := isTup (isTup (isI (first + (lsN codes o : Int))) (isI (first + (leN codes o : Int)))) (isS (Str.ofString ""))) (ev_tuple2 (mono_tup mono_const mono_const) mono_const (ev_tuple2 mono_const mono_const ((Fi _ _ k₅').to toI) ((La _ _ k₅').to toI) rfl rfl) ev_str rfl rfl) fun v s' k₆ p => ⟨fin_k (Le.trans F₂.keep k₄) (keeps_trans k₅ k₆), ?_⟩
      unfold wlbA wlbB wlbS
      rw [if_neg c1, if_neg c1, if_neg c1, if_neg c2, if_neg c2, if_neg c2, if_pos hb, if_pos hb]
      exact p
    intro hb s₅ k₅
    rw [beq_eq_false_iff_ne] at hb
    obtain ⟨h₅, tk₅, rfl, k₅⟩ := k₅
    have k₅ := Le.trans k₄ k₅
    refine x_nil (x_if (b := decide (k < 0)) (ts_cmp (My _ _ k₅) ev_int rfl rfl) ?_ ?_)
    · intro hk s₆ k₆
      rw [decide_eq_true_eq] at hk
      obtain ⟨h₆, tk₆, rfl, k₆⟩ := k₆
      have k₆ := Le.trans k₅ k₆
      have F₆ := fr_le F₂ k₆
      have B₆ := B₂.le k₆
      have R₆ := R₂.le k₆
      refine x_assign (x := Str.ofString "start") (P := isI (first + (tgN codes o (k + 1) : Int))) F₆ (ev_fst
        (ev_call3 (a := 43) (R₁ := fun v => v = .ref x) (R₂ := fun v => v = .int (first + o) t) (R₃ := fun v => ∃ u, v = .int (k + 1) u) B₆ (ev_glob B₆ g_lines_target (by kernel_rfl) (by kernel_rfl) (by kernel_rfl) rfl) kp_43
          (V _ _ k₆) (Pl _ _ k₆) (ev_add (My _ _ k₆) ev_int)
          (fun v₁ v₂ v₃ e₁ e₂ ⟨u, e₃⟩ => by subst e₁; subst e₂; subst e₃; exact f_lines_target (l9.mono (by omega)) B₆ R₆ ho hf) rfl rfl rfl rfl rfl) mono_const) (by kernel_rfl) (by kernel_rfl) rfl fun v h₇ h₈ tk₈ k₇ p F₈ _ => ?_
      obtain ⟨ts, rfl⟩ := p
      have B₈ := (B.le kk).le F₈.keep
      have R₈ := (R.le kk).le F₈.keep
      have St : ∀ pos, Gv prog w (A.deeper (envF w 78 L)) (eval (.Name (Str.ofString "start") pos) (envF w 78 L)) h₈ (isI (first + (tgN codes o (k + 1) : Int))) := fun pos => (ev_loc F₈.ns rfl (by kernel_rfl) (by kernel_rfl) rfl).to fun _ _ e => ⟨ts, e⟩
      refine x_ret (P := isTup (isTup (isI (first + (leN codes o : Int))) (isI (first + ((if 0 < tgN codes o (k + 1) then tgN codes o (k + 1) - 1 else tgN codes o (k + 1) : Nat) : Int)))) (isS (Str.ofString "")))
        (ev_tuple2 (mono_tup mono_const mono_const) mono_const (ev_tuple2 mono_const mono_const ((ev_loc F₈.ns rfl (by kernel_rfl) (by kernel_rfl) rfl).to fun _ _ e => ⟨tb, e⟩)
          (ev_ifexp (c := decide (first < first + (tgN codes o (k + 1) : Int))) (ts_cmp (St _) (ev_begin (x := x) (l9.mono (by omega)) B₈ R₈ (ev_loc F₈.ns rfl (by kernel_rfl) (by kernel_rfl) rfl) rfl) rfl rfl) (fun e => ?_) (fun e => ?_)) rfl rfl) ev_str rfl rfl) fun v s' k₉ p => ⟨fin_k F₈.keep k₉, ?_⟩
      · rw [decide_eq_true_eq] at e
        have e1 : 0 < tgN codes o (k + 1) := by omega
        rw [if_pos e1]
        have e2 : first + ((tgN codes o (k + 1) - 1 : Nat) : Int) = first + (tgN codes o (k + 1) : Int) - 1 := by omega
        rw [e2]
        exact ev_sub (St _) ev_int
      · rw [decide_eq_false_iff_not] at e
        have e1 : ¬ 0 < tgN codes o (k + 1) := by omega
        rw [if_neg e1]
        exact St _
      · unfold wlbA wlbB wlbS
        rw [if_neg c1, if_neg c1, if_neg c1, if_neg c2, if_neg c2, if_neg c2, if_neg hb, if_neg hb, if_pos hk, if_pos hk]
        exact p
    · intro hk s₆ k₆
      rw [decide_eq_false_iff_not] at hk
      have k₆' := Le.trans k₅ (keeps_le k₆)
      have B₆ := B₂.le k₆'
      refine x_nil (x_ret (P := isTup (isTup (isI (first + (lsN codes o : Int))) (isI (first + (tgN codes (lsN codes o) k : Int)))) (isS (Str.ofString ""))) (ev_tuple2 (mono_tup mono_const mono_const) mono_const (ev_tuple2 mono_const mono_const ((Fi _ _ k₆').to toI)
        (ev_fst (ev_call3 (a := 43) (R₁ := fun v => v = .ref x) (R₂ := fun v => v = .int (first + (lsN codes o : Int)) ta) (R₃ := fun v => ∃ u, v = .int k u) B₆ (ev_glob B₆ g_lines_target (by kernel_rfl) (by kernel_rfl) (by kernel_rfl) rfl) kp_43
          (V _ _ k₆') (Fi _ _ k₆') (My _ _ k₆')
          (fun v₁ v₂ v₃ e₁ e₂ ⟨u, e₃⟩ => by subst e₁; subst e₂; subst e₃; exact f_lines_target (l9.mono (by omega)) B₆ (R₂.le k₆') (by have := lsN_le codes o; omega) hf) rfl rfl rfl rfl rfl) mono_const) rfl rfl) ev_str rfl rfl) fun v s' k₇ p => ⟨fin_k (Le.trans F₂.keep k₅) (keeps_trans k₆ k₇), ?_⟩)
      unfold wlbA wlbB wlbS
      rw [if_neg c1, if_neg c1, if_neg c1, if_neg c2, if_neg c2, if_neg c2, if_neg hb, if_neg hb, if_neg hk, if_neg hk]
      exact p
end
end Mine
open PySem PySem.W PyProof.Rows PySem.Calls
namespace Mine

/-- a plain list of ints, its object written out -/
def DeckAt (h : Heap) (d : Addr) (ns : List Int) : Prop := ∃ vs n, h.get? d = some (W.listOf vs.toArray n) ∧ IntsAre vs ns
theorem DeckAt.le {h h' : Heap} {d : Addr} {ns : List Int} (D : DeckAt h d ns) (k : Le h h') : DeckAt h' d ns := let ⟨vs, n, e, i⟩ := D; ⟨vs, n, k _ _ e, i⟩
theorem DeckAt.at' {h h' : Heap} {d : Addr} {ns : List Int} (D : DeckAt h d ns) (k : ∀ o, h.get? d = some o → h'.get? d = some o) : DeckAt h' d ns := let ⟨vs, n, e, i⟩ := D; ⟨vs, n, k _ e, i⟩
def OkDeck (ns : List Int) : Prop := ns ≠ [] ∧ ns.length ≤ 25
abbrev LeBut (d : Addr) (h h' : Heap) : Prop := ∀ b o, b ≠ d → h.get? b = some o → h'.get? b = some o
theorem LeBut.of {d : Addr} {h h' : Heap} (k : Le h h') : LeBut d h h' := fun b o _ e => k b o e
theorem LeBut.refl (d : Addr) (h : Heap) : LeBut d h h := fun _ _ _ e => e
theorem LeBut.trans {d : Addr} {a b c : Heap} (x : LeBut d a b) (y : LeBut d b c) : LeBut d a c := fun i o hi e => y i o hi (x i o hi e)
theorem LeBut.upd {d : Addr} {h : Heap} {f : Obj → Obj} : LeBut d h (h.update d f) := fun b o hb e => (Heap.get?_update_other h f (Ne.symm hb)).trans e
theorem LeBut.ground {d : Addr} {g h h' : Heap} (kg : Le g h) (hd : g.get? d = none) (k : LeBut d h h') : Le g h' := fun b o e => k b o (by rintro rfl; rw [hd] at e; cases e) (kg b o e)

theorem fr0 {g h : Heap} {L : Addr} {m : Str → Option Value} (F : Fr g L h m) : Fr {} L h m := ⟨F.ns, fun b o e => by simp [Heap.get?] at e, Nat.zero_le _⟩
theorem fr0_but {h h' : Heap} {L d : Addr} {m : Str → Option Value} (F : Fr {} L h m) (hL : L ≠ d) (k : LeBut d h h') : Fr {} L h' m := ⟨F.ns.at' fun o e => k L o hL e, fun b o e => by simp [Heap.get?] at e, Nat.zero_le _⟩

theorem deck_cons {h : Heap} {d : Addr} {ns : List Int} (D : DeckAt h d ns) (hne : ns ≠ []) : ∃ n t vs ms k, ns = n :: ms ∧ h.get? d = some (W.listOf (Value.int n t :: vs).toArray k) ∧ IntsAre vs ms := by
  obtain ⟨vs, k, e, i⟩ := D
  cases i with
  | nil => exact absurd rfl hne
  | cons n t i' => exact ⟨n, t, _, _, k, rfl, e, i'⟩
theorem deck_set {h : Heap} {d : Addr} {n y : Int} {t u : Tok} {vs : List Value} {ms : List Int} {k : Nat} (e : h.get? d = some (W.listOf (Value.int n t :: vs).toArray k)) (i : IntsAre vs ms) :
    DeckAt (h.update d (Obj.mapSeq fun x => x.setIfInBounds (0 : Int).toNat (Value.int y u))) d (y :: ms) := by
  refine ⟨Value.int y u :: vs, k, ?_, .cons _ _ i⟩
  have := Heap.get?_update_self (Obj.mapSeq fun x => x.setIfInBounds (0 : Int).toNat (Value.int y u)) e rfl
  rw [this]
  simp [Obj.mapSeq, W.listOf]
theorem deck_pop {h : Heap} {d : Addr} {v : Value} {vs : List Value} {ms : List Int} {k : Nat} (e : h.get? d = some (W.listOf (v :: vs).toArray k)) (i : IntsAre vs ms) :
    DeckAt (h.update d (Obj.mapSeq fun x => x.eraseIdxIfInBounds 0)) d ms := by
  refine ⟨vs, k + 1, ?_, i⟩
  have := Heap.get?_update_self (Obj.mapSeq fun x => x.eraseIdxIfInBounds 0) e rfl
  rw [this]
  have hx : (v :: vs).toArray.eraseIdxIfInBounds 0 = vs.toArray := by simp [Array.eraseIdxIfInBounds]
  simp [Obj.mapSeq, W.listOf, hx]

section
variable {prog : Program} {w : World} {A : Around} {h : Heap} {env : Env}

theorem ev_mod {l r : Expr} {pos : Pos} {a b : Int} (hb : b ≠ 0) (g₁ : Gv prog w A (eval l env) h (isI a)) (g₂ : Gv prog w A (eval r env) h (isI b)) : Gv prog w A (eval (.BinOp l .Mod r pos) env) h (isI (a.fmod b)) :=
  gv_two (step := binaryOp .Mod) (fun _ _ _ => wpAny_BinOp) g₁ g₂ fun u v _ s₁ s₂ E _ _ ⟨_, p⟩ ⟨_, q⟩ => by subst p; subst q; exact mod_int' hb ⟨keeps_tok _ _, _, rfl⟩
theorem ev_fdiv {l r : Expr} {pos : Pos} {a b : Int} (hb : b ≠ 0) (hs : b.natAbs < 1073741824) (g₁ : Gv prog w A (eval l env) h (isI a)) (g₂ : Gv prog w A (eval r env) h (isI b)) : Gv prog w A (eval (.BinOp l .FloorDiv r pos) env) h (isI (a.fdiv b)) :=
  gv_two (step := binaryOp .FloorDiv) (fun _ _ _ => wpAny_BinOp) g₁ g₂ fun u v _ s₁ s₂ E _ _ ⟨_, p⟩ ⟨_, q⟩ => by subst p; subst q; exact floordiv_int hb ⟨keeps_tok _ _, _, rfl⟩ (.inl (PyProof.noPylong_small hs))
theorem ev_mul {l r : Expr} {pos : Pos} {a b : Int} (hm : IntMulOk a b) (g₁ : Gv prog w A (eval l env) h (isI a)) (g₂ : Gv prog w A (eval r env) h (isI b)) : Gv prog w A (eval (.BinOp l .Mult r pos) env) h (isI (a * b)) :=
  gv_two (step := binaryOp .Mult) (fun _ _ _ => wpAny_BinOp) g₁ g₂ fun u v _ s₁ s₂ E _ _ ⟨_, p⟩ ⟨_, q⟩ => by subst p; subst q; exact PyProof.Rows.mul_int ⟨keeps_tok _ _, _, rfl⟩ hm

theorem ok_128 : okDef (KK w) 128 [Str.ofString "_law_deck", Str.ofString "_law_many"] = true := by kernel_rfl
theorem bd_128 {v u : Value} : bindArgs (fdOf w 128) ⟨[v, u], []⟩ = pure ([Str.ofString "_law_deck", Str.ofString "_law_many"].zip [v, u]) := by kernel_rfl

theorem x_expr {e : Expr} {pos : Pos} {rest : List Stmt} {Q : Flow → Shared → Prop} {E : Value → Shared → Prop} {s : Shared}
    (h : wpAny (model prog w) A (eval e env) (fun v s' => match v with | .ref _ => False | _ => wpAny (model prog w) A (execs rest env) Q E s') E s)
    (hi : interactive env = false) (hs : swapsWith e none pos.line env = pure false) : wpAny (model prog w) A (execs (.Expr e pos :: rest) env) Q E s :=
  wpAny_execs_cons (wpAny_Expr h hi hs)
/-- the deck's head is stored anew -/
theorem x_set0 {o e : Expr} {ik : Nat} {ipos tpos pos : Pos} {rest : List Stmt} {Q : Flow → Shared → Prop} {E : Value → Shared → Prop} {s : Shared} {d : Addr} {n y : Int} {ms : List Int}
    (go : Gv prog w A (eval o env) s.heap (isV (.ref d))) (ge : Gv prog w A (eval e env) s.heap (isI y)) (D : DeckAt s.heap d (n :: ms)) (hlen : ms.length ≤ 25)
    (hs : swapsWith e (some (.Subscript o (.Constant (.int 0) ik ipos) tpos)) pos.line env = pure false)
    (q : ∀ h' tk, DeckAt h' d (y :: ms) → LeBut d s.heap h' → wpAny (model prog w) A (execs rest env) Q E { s with heap := h', toks := tk }) :
    wpAny (model prog w) A (execs (.Assign [.Subscript o (.Constant (.int 0) ik ipos) tpos] e pos :: rest) env) Q E s :=
  wpAny_execs_cons (wpAny_Assign_Subscript (ge.use (Le.refl _) fun v s₁ k₁ p => go.use (keeps_le k₁) fun u s₂ k₂ r => wpAny_Constant_int (by
    obtain ⟨t, rfl⟩ := p
    cases r
    obtain ⟨h₂, tk₂, rfl, k⟩ := keeps_trans k₁ k₂
    obtain ⟨n', t', vs, ms', kk, e', hd, i⟩ := deck_cons (D.le k) (by simp)
    cases e'
    have hl := i.length
    exact ki_setAt hd (by decide) (by decide) (by rw [List.size_toArray, List.length_cons]; push_cast; omega) (q _ _ (deck_set hd i) (LeBut.trans (LeBut.of k) LeBut.upd)))) hs)

theorem fmod_range {a b : Int} (hb : 0 < b) : 0 ≤ a.fmod b ∧ a.fmod b < b := (fdiv_fmod_facts a b).2.2.1 hb

set_option maxHeartbeats 4000000 in
theorem f_draw {d : Addr} {ns : List Int} {many : Int} {t : Tok} {g₀ : Heap} {s : Shared} {Q E : Value → Shared → Prop} (l : Lv 4 A) (B : Bs w g₀) (kg : Le g₀ s.heap) (hd : g₀.get? d = none) (D : DeckAt s.heap d ns) (ok : OkDeck ns)
    (hm : 0 < many) (hs : many < 1073741824)
    (q : ∀ r t h' tk ns', 0 ≤ r → r < many → OkDeck ns' → DeckAt h' d ns' → LeBut d s.heap h' → Q (.int r t) { s with heap := h', toks := tk }) :
    wpAny (model prog w) A (call (.ref 128) [.ref d, .int many t]) Q E s := by
  refine enter (IsDef.of ok_128) (B.le kg) l.room bd_128 fun h₁ tk₁ F₁ => ?_
  have hLd : s.heap.objs.size ≠ d := by
    obtain ⟨vs, n, e, _⟩ := D
    exact Nat.ne_of_gt (Heap.lt_size e)
  generalize s.heap.objs.size = L at F₁ hLd ⊢
  have K₁ : Le s.heap h₁ := F₁.keep
  refine x_while (fun n s' => ∃ (ms : List Int) (h' : Heap) (tk' : Nat), s' = { s with heap := h', toks := tk' } ∧ Fr {} L h' (fun x => ([Str.ofString "_law_deck", Str.ofString "_law_many"].zip [Value.ref d, Value.int many t]).reverse.lookup x) ∧ ms.length = n ∧ OkDeck ms ∧ DeckAt h' d ms ∧ LeBut d s.heap h')
    ns.length ⟨ns, h₁, _, rfl, fr0 F₁, rfl, ok, D.le K₁, LeBut.of K₁⟩ ?_
  rintro n s' ⟨ms, h', tk', rfl, F, rfl, ok', D', kb⟩
  have Dk : ∀ h₂ pos, Le h' h₂ → Gv prog w (A.deeper (envF w 128 L)) (eval (.Name (Str.ofString "_law_deck") pos) (envF w 128 L)) h₂ (isV (.ref d)) := fun h₂ pos k => ev_loc (F.ns.keeps k) rfl (by kernel_rfl) (by kernel_rfl) rfl
  have B' : Bs w h' := B.le (LeBut.ground kg hd kb)
  obtain ⟨y, ty, vs, ys, kk, rfl, hdk, hi⟩ := deck_cons D' ok'.1
  have hlen := hi.length
  have h25 := ok'.2
  rw [List.length_cons] at h25
  have Ln : ∀ h₂ pos p₂ p₃, Le h' h₂ → Gv prog w (A.deeper (envF w 128 L)) (eval (.Call (.Name (Str.ofString "len") pos) [.Name (Str.ofString "_law_deck") p₂] [] p₃) (envF w 128 L)) h₂ (isI ((ys.length + 1 : Nat) : Int)) := fun h₂ pos p₂ p₃ k =>
    ev_b1 (ev_bin (B'.le k) (by kernel_rfl) (by kernel_rfl) (by decide) (by kernel_rfl) (by kernel_rfl) (by kernel_rfl) (by kernel_rfl) rfl) (Dk _ _ k) (fun h₃ v k₃ r => by
      cases r
      have := gv_len (prog := prog) (w := w) (A := A.deeper (envF w 128 L)) (h := h₃) (c := d) (vs := Value.int y ty :: vs) ⟨_, k₃ _ _ (k _ _ hdk), rfl, kk, rfl⟩ (by rw [List.length_cons]; omega)
      rw [List.length_cons, hlen] at this
      exact this) rfl rfl
  have I0 : ∀ h₂ p₁ p₂ p₃, Le h' h₂ → Gv prog w (A.deeper (envF w 128 L)) (eval (.Subscript (.Name (Str.ofString "_law_deck") p₁) (.Constant (.int 0) 0 p₂) p₃) (envF w 128 L)) h₂ (isI y) := fun h₂ p₁ p₂ p₃ k =>
    (ev_item (vs := Value.int y ty :: vs) (c := d) (Dk _ _ k) ⟨_, k _ _ hdk, rfl, kk, rfl⟩ ev_int (by decide) (by decide) rfl (fun _ => by with_unfolding_all rfl)).to fun _ _ e => ⟨ty, e⟩
  have My : ∀ h₂ pos, Le h' h₂ → Gv prog w (A.deeper (envF w 128 L)) (eval (.Name (Str.ofString "_law_many") pos) (envF w 128 L)) h₂ (isI many) := fun h₂ pos k => (ev_loc (F.ns.keeps k) rfl (by kernel_rfl) (by kernel_rfl) rfl).to fun _ _ e => ⟨t, e⟩
  refine ⟨decide ((1 : Int) < ((ys.length + 1 : Nat) : Int)) && (y == 0), ts_and (ts_cmp (Ln _ _ _ _ (Le.refl _)) ev_int rfl rfl) (fun _ => ts_cmp (I0 _ _ _ _ (Le.refl _)) ev_int rfl rfl), ?_, ?_⟩
  · intro hb s₂ k₂
    rw [Bool.and_eq_true, decide_eq_true_eq] at hb
    obtain ⟨h₂, tk₂, rfl, k₂⟩ := k₂
    refine x_expr (wpAny_Call_method (T := "list") (id := "list.pop") rfl rfl rfl PySem.F.plainAttrs_list PySem.F.slot_list_pop PySem.F.type_list_pop ((Dk _ _ k₂).use (Le.refl _) fun v s₃ k₃ p => ?_)) (by kernel_rfl) rfl
    cases p
    obtain ⟨h₃, tk₃, rfl, k₃⟩ := k₃
    have e₃ := k₃ _ _ (k₂ _ _ hdk)
    refine ⟨⟨_, e₃, rfl⟩, fun a e => by cases e; exact ⟨_, e₃, rfl⟩, ?_⟩
    refine PyProof.Rows.callWith_method1 (wpAny_items_cons (wpAny_Constant_int (wpAny_items_nil ?_)))
    refine call_meets PySem.F.slot_list_pop ⟨_, e₃, rfl⟩ PySem.F.entry_list_pop (PySem.F.args_list_pop_2 _ _) (PySem.MeetsSeq.list_pop_at d (Value.int y ty :: vs).toArray kk 0 _ 0 (Value.int y ty) rfl ?_ rfl ?_) ⟨e₃, x_nil ?_⟩
    · unfold seqIndex?
      rw [List.size_toArray, List.length_cons]
      simp
    · rw [List.size_toArray, List.length_cons]
      have : sizeLine = 16777216 := rfl
      omega
    · have k' : LeBut d s.heap (h₃.update d (Obj.mapSeq fun x => x.eraseIdxIfInBounds 0)) := (kb.trans (LeBut.of (Le.trans k₂ k₃))).trans LeBut.upd
      refine ⟨ys.length, Nat.lt_succ_self _, ys, _, _, rfl, fr0_but (fr_le (fr_le F k₂) k₃) hLd LeBut.upd, rfl, ⟨fun e => ?_, by omega⟩, deck_pop e₃ hi, k'⟩
      subst e
      exact absurd hb.1 (by decide)
  · intro hb s₂ k₂
    obtain ⟨h₂, tk₂, rfl, k₂⟩ := k₂
    have n0 : many ≠ 0 := by omega
    have hmr := fun a => fmod_range (a := a) hm
    refine x_if (b := decide ((1 : Int) < ((ys.length + 1 : Nat) : Int))) (ts_cmp (Ln _ _ _ _ k₂) ev_int rfl rfl) ?_ ?_
    · intro _ s₃ k₃
      obtain ⟨h₃, tk₃, rfl, k₃⟩ := k₃
      have k₃ := Le.trans k₂ k₃
      refine x_assign (x := Str.ofString "_law_found") (P := isI (y.fmod many)) (fr_le F k₃) (ev_mod n0 (I0 _ _ _ _ k₃) (My _ _ k₃)) (by kernel_rfl) (by kernel_rfl) rfl fun v h₄ h₅ tk₅ k₄ p F₅ sb => ?_
      obtain ⟨tv, rfl⟩ := p
      have e₅ : h₅.get? d = some (W.listOf (Value.int y ty :: vs).toArray kk) := (sb.2 d (Ne.symm hLd)).trans (k₄ _ _ (k₃ _ _ hdk))
      have B₅ : LeBut d s.heap h₅ := fun b o hb e => by
        have hbl : b ≠ L := by
          rintro rfl
          exact absurd (F₁.above) (Nat.not_le.mpr (Heap.lt_size e))
        exact (sb.2 b hbl).trans (k₄ _ _ (k₃ _ _ (kb b o hb e)))
      have D₅ : DeckAt h₅ d (y :: ys) := ⟨_, kk, e₅, .cons _ _ hi⟩
      have Dk₅ : ∀ pos, Gv prog w (A.deeper (envF w 128 L)) (eval (.Name (Str.ofString "_law_deck") pos) (envF w 128 L)) h₅ (isV (.ref d)) := fun pos => ev_loc F₅.ns rfl (by kernel_rfl) (by kernel_rfl) rfl
      refine x_set0 (y := y.fdiv many) (Dk₅ _) (ev_fdiv n0 (by omega) ((ev_item (vs := Value.int y ty :: vs) (c := d) (Dk₅ _) ⟨_, e₅, rfl, kk, rfl⟩ ev_int (by decide) (by decide) rfl (fun _ => by with_unfolding_all rfl)).to fun _ _ e => ⟨ty, e⟩)
        ((ev_loc F₅.ns rfl (by kernel_rfl) (by kernel_rfl) rfl).to fun _ _ e => ⟨t, e⟩)) D₅ (by omega) rfl fun h₆ tk₆ D₆ B₆ => ?_
      have F₆ := fr0_but F₅ hLd B₆
      refine x_ret (P := isI (y.fmod many)) ((ev_loc F₆.ns rfl (by kernel_rfl) (by kernel_rfl) rfl).to fun _ _ e => ⟨tv, e⟩) fun v s' k₇ p => ?_
      obtain ⟨tv', rfl⟩ := p
      obtain ⟨h₇, tk₇, rfl, k₇⟩ := k₇
      exact q _ _ _ _ (y.fdiv many :: ys) (hmr y).1 (hmr y).2 ⟨by simp, by rw [List.length_cons]; exact h25⟩ (D₆.le k₇) ((B₅.trans B₆).trans (LeBut.of k₇))
    · intro _ s₃ k₃
      obtain ⟨h₃, tk₃, rfl, k₃⟩ := k₃
      have k₃ := Le.trans k₂ k₃
      refine x_nil (x_set0 (y := (y * 48271 + 11).fmod 2147483647) (Dk _ _ k₃) (ev_mod (by decide) (ev_add (ev_mul (IntMulOk.of_right (by decide)) (I0 _ _ _ _ k₃) ev_int) ev_int) ev_int) (D'.le k₃) (by omega) rfl fun h₆ tk₆ D₆ B₆ => ?_)
      have F₆ := fr0_but (fr_le F k₃) hLd B₆
      obtain ⟨y', t', vs', ys', k', e', hd', hi'⟩ := deck_cons D₆ (by simp)
      cases e'
      refine x_ret (P := isI ((((y * 48271 + 11).fmod 2147483647).fdiv 64).fmod many)) (ev_mod n0 (ev_fdiv (by decide) (by decide) ((ev_item (vs := Value.int _ t' :: vs') (c := d) (ev_loc F₆.ns rfl (by kernel_rfl) (by kernel_rfl) rfl) ⟨_, hd', rfl, k', rfl⟩ ev_int (by decide) (by decide) rfl (fun _ => by with_unfolding_all rfl)).to fun _ _ e => ⟨t', e⟩) ev_int)
        ((ev_loc F₆.ns rfl (by kernel_rfl) (by kernel_rfl) rfl).to fun _ _ e => ⟨t, e⟩)) fun v s' k₇ p => ?_
      obtain ⟨tv', rfl⟩ := p
      obtain ⟨h₇, tk₇, rfl, k₇⟩ := k₇
      exact q _ _ _ _ _ (hmr _).1 (hmr _).2 ⟨by simp, by rw [List.length_cons]; exact h25⟩ (D₆.le k₇) (((kb.trans (LeBut.of k₃)).trans B₆).trans (LeBut.of k₇))
end
end Mine
open PySem PySem.W PyProof.Rows PySem.Calls
namespace Mine

theorem none_of_size {h h' : Heap} {a : Addr} (k : Le h h') (e : h'.objs.size ≤ a) : h.get? a = none := by
  cases x : h.get? a with
  | none => rfl
  | some o => exact absurd (Heap.lt_size (k _ _ x)) (Nat.not_lt.mpr e)

/-- a source: the tree that is walked over, as an iterator of its own -/
def Src (prog : Program) (w : World) (A : Around) (env : Env) (iter : Expr) (h : Heap) (n : Nat) (P : Nat → Value → Prop) : Prop :=
  ∀ (s : Shared) (Q E : Value → Shared → Prop), Le h s.heap →
    (∀ (I : Addr) (s₂ : Shared) (fp : List Addr) (St : Nat → Heap → Prop), Keeps s s₂ → s.heap.get? I = none → Walks prog w A I fp [I] n P St → St 0 s₂.heap → (∀ b ∈ fp, b < s₂.heap.objs.size) → Q (.ref I) s₂) →
    wpAny (model prog w) A (eval iter env) (fun xv s₁ => wpAny (model prog w) A (pyIter xv) Q E s₁) E s

/-- what a comprehension gives: a new plain list, its parts paired with the items that pass -/
def isComp (h : Heap) (n : Nat) (P : Nat → Value → Prop) (p : Value → Bool) (F : Value → Value → Prop) : Heap → Value → Prop := fun h' v =>
  ∃ D ys, ∃ vs : List Value, v = .ref D ∧ h.get? D = none ∧ h'.PlainList D ys ∧ vs.length = n ∧ (∀ (j : Nat) (u : Value), vs[j]? = some u → P j u) ∧ Paired F (vs.filter p) ys.toList

section
variable {prog : Program} {w : World} {A : Around} {h : Heap} {env : Env}

theorem src_list {iter : Expr} {l : Addr} {vs : List Value} (hh : A.handled = none) (g : Gv prog w A (eval iter env) h (isV (.ref l))) (hl : h.IsList l vs.toArray) :
    Src prog w A env iter h vs.length (fun i v => vs[i]? = some v) := fun s Q E k q =>
  g.use k fun v s₁ k₁ p => by
    cases p
    obtain ⟨o, ho, r⟩ := hl
    have ho₁ : s₁.heap.get? l = some o := keeps_le k₁ _ _ (k _ _ ho)
    have hne : l ≠ s₁.heap.objs.size := Nat.ne_of_lt (Heap.lt_size ho₁)
    have hI : s.heap.get? s₁.heap.objs.size = none := none_of_size (keeps_le k₁) (Nat.le_refl _)
    refine wpAny_pyIter_list (items := vs.toArray) ⟨o, ho₁, r⟩ (q _ _ [s₁.heap.objs.size, l] (fun i h => h.IsListIter s₁.heap.objs.size l i ∧ h.IsList l vs.toArray) (keeps_trans k₁ (keeps_mk (Le.push _ _))) hI ?_ ?_ ?_)
    · have W := Walks.list (prog := prog) (w := w) hh s₁.heap.objs.size l hne vs.toArray
      simpa using W
    · exact ⟨⟨_, Heap.get?_push_size _ rfl, rfl, rfl⟩, ⟨_, Heap.get?_push_of_some _ ho₁, r⟩⟩
    · intro b hb
      show b < (s₁.heap.push _).objs.size
      rw [Heap.size_push]
      rcases List.mem_cons.mp hb with rfl | hb
      · exact Nat.lt_succ_self _
      · rcases List.mem_cons.mp hb with rfl | hb
        · exact Nat.lt_succ_of_lt (Heap.lt_size ho₁)
        · cases hb

theorem src_str {iter : Expr} {x : Str} (hh : A.handled = none) (g : Gv prog w A (eval iter env) h (isS x)) : Src prog w A env iter h x.cps.size (SignAt x) := fun s Q E k q =>
  g.use k fun v s₁ k₁ p => by
    obtain ⟨t, rfl⟩ := p
    have hI : s.heap.get? s₁.heap.objs.size = none := none_of_size (keeps_le k₁) (Nat.le_refl _)
    refine wpAny_pyIter_str fun o St W st => q _ _ [s₁.heap.objs.size] St (keeps_trans k₁ (keeps_mk (Le.push _ _))) hI (W A hh) st fun b hb => ?_
    show b < (s₁.heap.push _).objs.size
    rw [Heap.size_push]
    rcases List.mem_cons.mp hb with rfl | hb
    · exact Nat.lt_succ_self _
    · cases hb

theorem range_q {n : Nat} {s : Shared} {Q : Value → Shared → Prop} (hh : A.handled = none)
    (q : ∀ (I : Addr) (s₂ : Shared) (fp : List Addr) (St : Nat → Heap → Prop), Keeps s s₂ → s.heap.get? I = none → Walks prog w A I fp [I] n (fun i v => ∃ t, v = .int (i : Int) t) St → St 0 s₂.heap → (∀ b ∈ fp, b < s₂.heap.objs.size) → Q (.ref I) s₂)
    {I : Addr} {s₂ : Shared} (k : Keeps s s₂) (hI : s.heap.get? I = none) (hit : IsRangeIter s₂.heap I 0 (n : Int) 1) : Q (.ref I) s₂ := by
  have W := Walks.range (prog := prog) (w := w) hh I 0 1 n
  refine q I s₂ [I] (fun i h => IsRangeIter h I (0 + (i : Nat) * 1) ((n : Int) - (i : Nat)) 1) k hI ⟨W.sub, W.frame, fun i s Q E hi st q => W.item i s Q E hi st fun v h' tk p => q v h' tk ?_, W.done, W.self⟩ ?_ ?_
  · obtain ⟨t, e⟩ := p
    exact ⟨t, by rw [e]; congr 1; omega⟩
  · have e1 : (0 + ((0 : Nat) : Int) * 1) = 0 := by simp
    have e2 : ((n : Int) - ((0 : Nat) : Int)) = n := by simp
    show IsRangeIter _ _ _ _ _
    rw [e1, e2]
    exact hit
  · intro b hb
    rcases List.mem_cons.mp hb with rfl | hb
    · exact Heap.lt_size hit
    · cases hb

theorem src_range {f e : Expr} {pos : Pos} {n : Nat} (hh : A.handled = none) (hn : n < 2 ^ 20) (gf : Gv prog w A (eval f env) h (isV (.type "range"))) (g : Gv prog w A (eval e env) h (isI (n : Int)))
    (he : starEach [e] env = (false, eval e env) :: starEach [] env)
    (hc : eval (.Call f [e] [] pos) env = (do callWith pos (← eval f env) [] (backTo pos (starEach [e] env)) (backToKw pos (keywordEach [] env)))) :
    Src prog w A env (.Call f [e] [] pos) h n (fun i v => ∃ t, v = .int (i : Int) t) := fun s Q E k q =>
  Call_ (gf.use k fun v s₁ k₁ p => by
    cases p
    refine PyProof.Rows.callWith_type1 (wpAny_items_cons (g.use (k.trans (keeps_le k₁)) fun u s₂ k₂ ⟨t, r⟩ => wpAny_items_nil ?_) he) he rfl
    subst r
    refine call_range_1 ?_
    refine wpAny_pyIter_range (IsRange.new ..) (small_one (by decide) (by decide) (by omega) (by omega)) ?_
    have hsz : Builtin.Range.rangeSize 0 (n : Int) 1 = (n : Int) := by rw [rangeSize_one]; split <;> omega
    refine range_q hh q (keeps_trans (keeps_trans k₁ k₂) (keeps_mk (Le.trans (Le.push _ _) (Le.push _ _)))) (none_of_size (keeps_le (keeps_trans k₁ k₂)) (by simp [Heap.size_push])) ?_
    refine (Heap.get?_push_size _ (o := { cls := .type "range_iterator", data := .fields #[rawInt 0, rawInt (Builtin.Range.rangeSize 0 (n : Int) 1), rawInt 1] }) rfl).trans ?_
    rw [hsz]) hc

/-- a comprehension without a test -/
theorem tests_nil {cenv : Env} {v : Value} (s : Shared) (E : Value → Shared → Prop) :
    wpAny (model prog w) A (forIn ([] : List Expr) true fun c r => if r = true then do let ok ← PySem.isTrue c cenv (eval c cenv); pure (ForInStep.yield ok) else pure (ForInStep.yield r))
      (fun ok s₄ => ok = (fun _ : Value => true) v ∧ Keeps s s₄) E s := by
  rw [List.forIn_nil]
  exact wpAny_pure ⟨rfl, keeps_refl s⟩

/-- a comprehension with one test -/
theorem tests_one {cenv : Env} {c : Expr} {b : Bool} (s : Shared) (E : Value → Shared → Prop) (g : Ts prog w A cenv c s.heap b) :
    wpAny (model prog w) A (forIn [c] true fun c r => if r = true then do let ok ← PySem.isTrue c cenv (eval c cenv); pure (ForInStep.yield ok) else pure (ForInStep.yield r))
      (fun ok s₄ => ok = b ∧ Keeps s s₄) E s := by
  rw [List.forIn_cons, if_pos rfl]
  refine wpAny_bind (wpAny_bind (g.use (Le.refl _) fun ok s₁ k₁ p => wpAny_pure ?_))
  dsimp only
  rw [List.forIn_nil]
  exact wpAny_pure ⟨p, k₁⟩

theorem gv_comp {elt iter : Expr} {x : Str} {px : Pos} {ifs : List Expr} {scope : Scope} {cl : List (Str × Addr)} {pos : Pos} {n : Nat} {P : Nat → Value → Prop} (p : Value → Bool) (F : Value → Value → Prop)
    (src : Src prog w A env iter h n P) (hsz : n ≤ sizeLine) (hclos : closureFor scope env = pure cl) (hcell : ∀ y ∈ scope.names, y.2 ≠ .cell) (hkind : scope.kind = .function)
    (hnames : ∀ y ∈ scope.names, y.2 = .local → scope.names.lookup y.1 = some .local) (hx : scope.names.lookup x = some .local) (hs : ∀ x, foldedSetIterable iter env x = pure x)
    (tests : ∀ (C : Addr) (i : Nat) (v : Value) (s : Shared) (m : Str → Option Value) (E : Value → Shared → Prop), P i v → Le h s.heap → s.heap.Ns C m → m x = some v →
      wpAny (model prog w) A (forIn ifs true fun c r => if r = true then do let ok ← PySem.isTrue c (compEnvC scope cl C env) (eval c (compEnvC scope cl C env)); pure (ForInStep.yield ok) else pure (ForInStep.yield r))
        (fun ok s₄ => ok = p v ∧ Keeps s s₄) E s)
    (helt : ∀ (C : Addr) (i : Nat) (v : Value) (h' : Heap) (m : Str → Option Value), P i v → p v = true → Le h h' → h'.Ns C m → m x = some v → Gv prog w A (eval elt (compEnvC scope cl C env)) h' (fun _ y => F v y)) :
    Gv prog w A (eval (.ListComp elt [⟨.Name x px, iter, ifs, 0⟩] scope pos) env) h (isComp h n P p F) := fun s E k => by
  refine wpAny_ListComp_free p F hclos hcell hkind hnames hx (src s _ _ k fun I s₂ fp St k₂ hI W st hfp => ?_) hs
  have nI : ∀ b o, h.get? b = some o → b ∉ [I] := fun b o e hb => by
    rcases List.mem_cons.mp hb with rfl | hb
    · rw [k _ _ e] at hI; cases hI
    · cases hb
  have nI' : ∀ b o, s.heap.get? b = some o → b ∉ [I] := fun b o e hb => by
    rcases List.mem_cons.mp hb with rfl | hb
    · rw [e] at hI; cases hI
    · cases hb
  have k₂' : Le s.heap s₂.heap := keeps_le k₂
  refine ⟨I, fp, [I], n, P, St, rfl, W, hsz, st, hfp, ⟨?_, ?_⟩, ?_⟩
  · intro C i v s₃ m₃ E' hC hP hn hm hk ht
    exact tests C i v s₃ m₃ E' hP (fun b o e => hk b o (nI b o e) (k₂' _ _ (k _ _ e))) hn hm
  · intro C i v s₃ m₃ E' hC hP hp hn hm hk ht
    exact (helt C i v s₃.heap m₃ hP hp (fun b o e => hk b o (nI b o e) (k₂' _ _ (k _ _ e))) hn hm).use (Le.refl _) fun y s₄ k₄ q => ⟨q, k₄⟩
  · intro D h' tk ys vs hD hl hpl hlen hvs hpair hk
    obtain ⟨h₂, tk₂, rfl, kk⟩ := k₂
    refine ⟨keeps_mk fun b o e => hk b o (nI' b o e) (kk b o e), D, ys, vs, rfl, ?_, hpl, hlen, hvs, hpair⟩
    cases e : h.get? D with
    | none => rfl
    | some o => rw [show h₂.get? D = some o from kk _ _ (k _ _ e)] at hD; cases hD

/-- the sum of a list of ints -/
theorem gv_sum {D : Addr} {vs : List Value} {ns : List Int} (hh : A.handled = none) (hl : h.IsList D vs.toArray) (hi : IntsAre vs ns) : Gv prog w A (call (.builtin "sum") [.ref D]) h (isI ns.sum) := fun s E k => by
  obtain ⟨o, ho, r⟩ := hl
  have ho' := k _ _ ho
  have hne : D ≠ s.heap.objs.size := Nat.ne_of_lt (Heap.lt_size ho')
  refine call_sum_walkG (wpAny_pyIter_list (items := vs.toArray) ⟨o, ho', r⟩ ?_)
  have W := Walks.list (prog := prog) (w := w) (A := A.in1) hh s.heap.objs.size D hne vs.toArray
  refine ⟨s.heap.objs.size, _, _, _, _, _, fun i => ns.getD i 0, rfl, W, ⟨⟨_, Heap.get?_push_size _ rfl, rfl, rfl⟩, ⟨_, Heap.get?_push_of_some _ ho', r⟩⟩, ?_, ?_, ?_⟩
  · intro b hb
    show b < (s.heap.push _).objs.size
    rw [Heap.size_push]
    rcases List.mem_cons.mp hb with rfl | hb
    · exact Nat.lt_succ_self _
    · rcases List.mem_cons.mp hb with rfl | hb
      · exact Nat.lt_succ_of_lt (Heap.lt_size ho')
      · cases hb
  · intro i v e
    rw [List.getElem?_toArray] at e
    exact hi.int_at i v e
  · intro h' tk t' hk
    refine ⟨keeps_mk fun b o e => hk b o (fun hb => ?_) (Heap.get?_push_of_some _ e), t', ?_⟩
    · rcases List.mem_cons.mp hb with rfl | hb
      · exact Nat.lt_irrefl _ (Heap.lt_size e)
      · cases hb
    · rw [preSum_getD, List.size_toArray, hi.length, List.take_length]
end
end Mine
open PySem PySem.W PyProof.Rows PySem.Calls
namespace Mine

def leB (at' : Int) : Value → Bool
  | .int n _ => decide (n ≤ at')
  | _ => false
def rowOf (starts : List Int) (at' : Int) : Int := ((starts.filter fun s => decide (s ≤ at')).length : Int) - 1
def movedI (starts : List Int) (nl : Nat) (size at' many : Int) : Int :=
  if many ≤ 0 then starts.getD (if rowOf starts at' + many > 0 then rowOf starts at' + many else 0).toNat 0
  else if rowOf starts at' + many < nl then starts.getD (rowOf starts at' + many).toNat 0 else size

theorem filter_len {at' : Int} : ∀ {vs : List Value} {ns : List Int}, IntsAre vs ns → (vs.filter (leB at')).length = (ns.filter fun s => decide (s ≤ at')).length
  | _, _, .nil => rfl
  | _, _, .cons n t i => by
    have ih := filter_len (at' := at') i
    rw [List.filter_cons, List.filter_cons]
    show (if decide (n ≤ at') = true then _ else _ : List Value).length = _
    split
    · rw [List.length_cons, List.length_cons, ih]
    · exact ih
theorem same_list {vs vs' : List Value} (hn : vs'.length = vs.length) (h : ∀ (j : Nat) (u : Value), vs'[j]? = some u → vs[j]? = some u) : vs' = vs := by
  apply List.ext_getElem? 
  intro j
  cases e : vs'[j]? with
  | some u => rw [h j u e]
  | none =>
    rw [List.getElem?_eq_none_iff] at e
    symm
    rw [List.getElem?_eq_none_iff]; omega
theorem rowOf_lt (starts : List Int) (at' : Int) : rowOf starts at' < starts.length := by
  unfold rowOf
  have := List.length_filter_le (fun s => decide (s ≤ at')) starts
  omega

section
variable {prog : Program} {w : World} {A : Around} {h : Heap} {env : Env}

/-- len of the starts that lie at or before a place -/
theorem gv_row {starts : List Int} {vs : List Value} {at' : Int} {l : Addr} (hl : h.IsList l vs.toArray) (hi : IntsAre vs starts) (hlt : starts.length < 2 ^ 20) (v : Value) (h' : Heap)
    (q : isComp h vs.length (fun i v => vs[i]? = some v) (leB at') (fun v y => y = v) h' v) : Gv prog w A (call (.builtin "len") [v]) h' (isI (rowOf starts at' + 1)) := by
  obtain ⟨D, ys, vs', rfl, hD, hpl, hlen, hvs, hpair⟩ := q
  have e := same_list hlen hvs
  subst e
  have e1 := hpair.length
  rw [filter_len hi] at e1
  have hp : (starts.filter fun s => decide (s ≤ at')).length ≤ starts.length := List.length_filter_le _ _
  have e2 : rowOf starts at' + 1 = (ys.toList.length : Int) := by unfold rowOf; rw [← e1]; omega
  rw [e2]
  refine gv_len (vs := ys.toList) ?_ (by rw [← e1]; omega)
  rw [Array.toArray_toList]
  exact hpl.isList

theorem ok_150 : okDefC (KK w) 150 [Str.ofString "_law_lines", Str.ofString "_law_starts", Str.ofString "_law_size", Str.ofString "_law_at", Str.ofString "_law_many"] = true := by kernel_rfl
theorem bd_150 {a b c d e : Value} : bindArgs (fdOf w 150) ⟨[a, b, c, d, e], []⟩ = pure ([Str.ofString "_law_lines", Str.ofString "_law_starts", Str.ofString "_law_size", Str.ofString "_law_at", Str.ofString "_law_many"].zip [a, b, c, d, e]) := by kernel_rfl

set_option maxHeartbeats 4000000 in
theorem f_moved {ll ls : Addr} {vl vs : List Value} {starts : List Int} {size at' many : Int} {t₁ t₂ t₃ : Tok} (l : Lv 4 A) (B : Bs w h) (hll : h.IsList ll vl.toArray) (hls : h.IsList ls vs.toArray) (hi : IntsAre vs starts)
    (hn : starts.length = vl.length) (hlt : starts.length < 2 ^ 20) (hr : 0 ≤ rowOf starts at') :
    Gv prog w A (call (.ref 150) [.ref ll, .ref ls, .int size t₁, .int at' t₂, .int many t₃]) h (isI (movedI starts vl.length size at' many)) := fun s E kk => by
  refine enterC (IsDefC.of ok_150) (B.le kk) l.room bd_150 fun h₁ tk F C => ?_
  have K₁ : Le s.heap h₁ := F.keep
  generalize s.heap.objs.size = L at F C ⊢
  have hc : h₁.IsCell (L + 1) (some (.int at' t₂)) := C (Str.ofString "_law_at") (L + 1) (by kernel_rfl)
  have B₁ := (B.le kk).le K₁
  have hls₁ : h₁.IsList ls vs.toArray := let ⟨o, ho, r⟩ := hls; ⟨o, K₁ _ _ (kk _ _ ho), r⟩
  have hvl : vs.length = starts.length := hi.length
  have hrl := rowOf_lt starts at'
  have Lx : ∀ x : Str, x = Str.ofString "_law_lines" ∨ True := fun _ => .inr trivial
  refine x_assign (x := Str.ofString "_law_row") (P := isI (rowOf starts at' + 1 - 1)) F (ev_sub (ev_b1
      (ev_bin B₁ (by kernel_rfl) (by kernel_rfl) (by decide) (by kernel_rfl) (by kernel_rfl) (by kernel_rfl) (by kernel_rfl) rfl)
      (gv_comp (leB at') (fun v y => y = v) (src_list (l := ls) (vs := vs) l.hh (ev_loc F.ns rfl (by kernel_rfl) (by kernel_rfl) rfl) hls₁) (by rw [hvl]; have : sizeLine = 16777216 := rfl; omega)
        (cl := [(Str.ofString "_law_at", L + 1)]) (by kernel_rfl) (by decide) rfl (by decide) rfl (fun _ => rfl)
        (fun C i v s₂ m E₂ hP k₂ hn hm => by
          obtain ⟨n, tn, rfl, hns⟩ := hi.at i v hP
          exact tests_one s₂ E₂ (ts_cmp (a := n) (b := at') ((ev_loc hn hm (by kernel_rfl) (by kernel_rfl) rfl).to fun _ _ e => ⟨tn, e⟩) ((ev_cell (hc.keeps k₂) (by kernel_rfl) (by kernel_rfl) (by kernel_rfl) rfl).to fun _ _ e => ⟨t₂, e⟩) rfl rfl))
        (fun C i v h₂ m hP hp k₂ hn hm => ev_loc hn hm (by kernel_rfl) (by kernel_rfl) rfl))
      (fun h₂ v k₂ q => gv_row hls₁ hi hlt v h₂ q) rfl rfl) ev_int) (by kernel_rfl) (by kernel_rfl) rfl fun v h₂ h₃ tk₃ k₂ p F₃ sb => ?_
  obtain ⟨tr, rfl⟩ := p
  have er : rowOf starts at' + 1 - 1 = rowOf starts at' := by omega
  rw [er] at F₃
  have B₃ := (B.le kk).le F₃.keep
  have K₃ : Le s.heap h₃ := F₃.keep
  have hls₃ : h₃.IsList ls vs.toArray := let ⟨o, ho, r⟩ := hls; ⟨o, K₃ _ _ (kk _ _ ho), r⟩
  have hll₃ : h₃.IsList ll vl.toArray := let ⟨o, ho, r⟩ := hll; ⟨o, K₃ _ _ (kk _ _ ho), r⟩
  have Row : ∀ h' pos, Le h₃ h' → Gv prog w (A.deeper (envG w 150 L)) (eval (.Name (Str.ofString "_law_row") pos) (envG w 150 L)) h' (isI (rowOf starts at')) := fun h' pos k => (ev_loc (F₃.ns.keeps k) rfl (by kernel_rfl) (by kernel_rfl) rfl).to fun _ _ e => ⟨tr, e⟩
  have My : ∀ h' pos, Le h₃ h' → Gv prog w (A.deeper (envG w 150 L)) (eval (.Name (Str.ofString "_law_many") pos) (envG w 150 L)) h' (isI many) := fun h' pos k => (ev_loc (F₃.ns.keeps k) rfl (by kernel_rfl) (by kernel_rfl) rfl).to fun _ _ e => ⟨t₃, e⟩
  have St : ∀ h' pos, Le h₃ h' → Gv prog w (A.deeper (envG w 150 L)) (eval (.Name (Str.ofString "_law_starts") pos) (envG w 150 L)) h' (isV (.ref ls)) := fun h' pos k => ev_loc (F₃.ns.keeps k) rfl (by kernel_rfl) (by kernel_rfl) rfl
  have fin : ∀ {s' : Shared} (h' : Heap) (tk' : Nat), Le h₃ h' → Keeps s { s with heap := h', toks := tk' } := fun h' tk' k => keeps_mk (Le.trans K₃ k)
  refine x_if (b := decide (many ≤ 0)) (ts_cmp (My _ _ (Le.refl _)) ev_int rfl rfl) ?_ ?_
  · intro hb s₄ k₄
    rw [decide_eq_true_eq] at hb
    obtain ⟨h₄, tk₄, rfl, k₄⟩ := k₄
    have hidx : (if rowOf starts at' + many > 0 then rowOf starts at' + many else 0).toNat < starts.length := by split <;> omega
    obtain ⟨ti, hti⟩ := hi.get (if rowOf starts at' + many > 0 then rowOf starts at' + many else 0).toNat (starts.getD (if rowOf starts at' + many > 0 then rowOf starts at' + many else 0).toNat 0) (by rw [List.getD_eq_getElem?_getD, List.getElem?_eq_getElem hidx]; rfl)
    refine x_ret (P := isV _) (ev_item (St _ _ k₄) (let ⟨o, ho, r⟩ := hls₃; ⟨o, k₄ _ _ ho, r⟩) (ev_max0 l.hh (ev_bin (B₃.le k₄) (by kernel_rfl) (by kernel_rfl) (by decide) (by kernel_rfl) (by kernel_rfl) (by kernel_rfl) (by kernel_rfl) rfl) ev_int (ev_add (Row _ _ k₄) (My _ _ k₄)) rfl rfl rfl rfl)
      (by split <;> omega) (by split <;> omega) hti (fun _ => by with_unfolding_all rfl)) fun v s' k₅ p => ?_
    cases p
    obtain ⟨h₅, tk₅, rfl, k₅⟩ := k₅
    refine ⟨keeps_mk (Le.trans K₃ (Le.trans k₄ k₅)), ti, ?_⟩
    unfold movedI
    rw [if_pos hb]; rfl
  · intro hb s₄ k₄
    rw [decide_eq_false_iff_not] at hb
    obtain ⟨h₄, tk₄, rfl, k₄⟩ := k₄
    have Ln : Gv prog w (A.deeper (envG w 150 L)) (call (.builtin "len") [.ref ll]) h₄ (isI vl.length) := gv_len (let ⟨o, ho, r⟩ := hll₃; ⟨o, k₄ _ _ ho, r⟩) (by omega)
    refine x_nil (x_ret (P := isI (movedI starts vl.length size at' many)) (ev_ifexp (c := decide (rowOf starts at' + many < (vl.length : Int))) (ts_cmp (ev_add (Row _ _ k₄) (My _ _ k₄)) (ev_b1
      (ev_bin (B₃.le k₄) (by kernel_rfl) (by kernel_rfl) (by decide) (by kernel_rfl) (by kernel_rfl) (by kernel_rfl) (by kernel_rfl) rfl) (ev_loc (v := .ref ll) (F₃.ns.keeps k₄) rfl (by kernel_rfl) (by kernel_rfl) rfl)
      (fun h₅ v k₅ q => by cases q; exact Ln.le k₅) rfl rfl) rfl rfl) (fun e => ?_) (fun e => ?_)) fun v s' k₅ p => ?_)
    · rw [decide_eq_true_eq] at e
      have hidx : (rowOf starts at' + many).toNat < starts.length := by omega
      obtain ⟨ti, hti⟩ := hi.get (rowOf starts at' + many).toNat (starts.getD (rowOf starts at' + many).toNat 0) (by rw [List.getD_eq_getElem?_getD, List.getElem?_eq_getElem hidx]; rfl)
      refine (ev_item (St _ _ k₄) (let ⟨o, ho, r⟩ := hls₃; ⟨o, k₄ _ _ ho, r⟩) (ev_add (Row _ _ k₄) (My _ _ k₄)) (by omega) (by omega) hti (fun _ => by with_unfolding_all rfl)).to fun _ _ q => ⟨ti, ?_⟩
      rw [q]
      unfold movedI
      rw [if_neg hb, if_pos e]
    · rw [decide_eq_false_iff_not] at e
      refine (ev_loc (v := .int size t₁) (F₃.ns.keeps k₄) rfl (by kernel_rfl) (by kernel_rfl) rfl).to fun _ _ q => ⟨t₁, ?_⟩
      rw [q]
      unfold movedI
      rw [if_neg hb, if_neg e]
    · obtain ⟨h₅, tk₅, rfl, k₅⟩ := k₅
      exact ⟨keeps_mk (Le.trans K₃ (Le.trans k₄ k₅)), p⟩
end
end Mine
open PySem PySem.W PyProof.Rows PySem.Calls
namespace Mine

/-- a source whose walk rests on new objects alone -/
def SrcN (prog : Program) (w : World) (A : Around) (env : Env) (iter : Expr) (h : Heap) (n : Nat) (P : Nat → Value → Prop) : Prop :=
  ∀ (s : Shared) (Q E : Value → Shared → Prop), Le h s.heap →
    (∀ (I : Addr) (s₂ : Shared) (fp : List Addr) (St : Nat → Heap → Prop), Keeps s s₂ → (∀ b ∈ fp, s.heap.get? b = none) → s.heap.get? I = none → Walks prog w A I fp [I] n P St → St 0 s₂.heap → (∀ b ∈ fp, b < s₂.heap.objs.size) → Q (.ref I) s₂) →
    wpAny (model prog w) A (eval iter env) (fun xv s₁ => wpAny (model prog w) A (pyIter xv) Q E s₁) E s

section
variable {prog : Program} {w : World} {A : Around} {h : Heap} {env : Env} {E : Value → Shared → Prop} {Q : Flow → Shared → Prop} {s : Shared}

theorem SrcN.src {iter : Expr} {n : Nat} {P : Nat → Value → Prop} (S : SrcN prog w A env iter h n P) : Src prog w A env iter h n P := fun s Q E k q =>
  S s Q E k fun I s₂ fp St a b c d e f => q I s₂ fp St a c d e f

theorem rangeN_q {n : Nat} {s : Shared} {Q : Value → Shared → Prop} (hh : A.handled = none)
    (q : ∀ (I : Addr) (s₂ : Shared) (fp : List Addr) (St : Nat → Heap → Prop), Keeps s s₂ → (∀ b ∈ fp, s.heap.get? b = none) → s.heap.get? I = none → Walks prog w A I fp [I] n (fun i v => ∃ t, v = .int (i : Int) t) St → St 0 s₂.heap → (∀ b ∈ fp, b < s₂.heap.objs.size) → Q (.ref I) s₂)
    {I : Addr} {s₂ : Shared} (k : Keeps s s₂) (hI : s.heap.get? I = none) (hit : IsRangeIter s₂.heap I 0 (n : Int) 1) : Q (.ref I) s₂ := by
  have W := Walks.range (prog := prog) (w := w) hh I 0 1 n
  refine q I s₂ [I] (fun i h => IsRangeIter h I (0 + (i : Nat) * 1) ((n : Int) - (i : Nat)) 1) k (fun b hb => ?_) hI ⟨W.sub, W.frame, fun i s Q E hi st q => W.item i s Q E hi st fun v h' tk p => q v h' tk ?_, W.done, W.self⟩ ?_ ?_
  · rcases List.mem_cons.mp hb with rfl | hb
    · exact hI
    · cases hb
  · obtain ⟨t, e⟩ := p
    exact ⟨t, by rw [e]; congr 1; omega⟩
  · have e1 : (0 + ((0 : Nat) : Int) * 1) = 0 := by simp
    have e2 : ((n : Int) - ((0 : Nat) : Int)) = n := by simp
    show IsRangeIter _ _ _ _ _
    rw [e1, e2]
    exact hit
  · intro b hb
    rcases List.mem_cons.mp hb with rfl | hb
    · exact Heap.lt_size hit
    · cases hb

theorem srcN_range {f e : Expr} {pos : Pos} {n : Nat} (hh : A.handled = none) (hn : n < 2 ^ 20) (gf : Gv prog w A (eval f env) h (isV (.type "range"))) (g : Gv prog w A (eval e env) h (isI (n : Int)))
    (he : starEach [e] env = (false, eval e env) :: starEach [] env)
    (hc : eval (.Call f [e] [] pos) env = (do callWith pos (← eval f env) [] (backTo pos (starEach [e] env)) (backToKw pos (keywordEach [] env)))) :
    SrcN prog w A env (.Call f [e] [] pos) h n (fun i v => ∃ t, v = .int (i : Int) t) := fun s Q E k q =>
  Call_ (gf.use k fun v s₁ k₁ p => by
    cases p
    refine PyProof.Rows.callWith_type1 (wpAny_items_cons (g.use (k.trans (keeps_le k₁)) fun u s₂ k₂ ⟨t, r⟩ => wpAny_items_nil ?_) he) he rfl
    subst r
    refine call_range_1 ?_
    refine wpAny_pyIter_range (IsRange.new ..) (small_one (by decide) (by decide) (by omega) (by omega)) ?_
    have hsz : Builtin.Range.rangeSize 0 (n : Int) 1 = (n : Int) := by rw [rangeSize_one]; split <;> omega
    refine rangeN_q hh q (keeps_trans (keeps_trans k₁ k₂) (keeps_mk (Le.trans (Le.push _ _) (Le.push _ _)))) (none_of_size (keeps_le (keeps_trans k₁ k₂)) (by simp [Heap.size_push])) ?_
    refine (Heap.get?_push_size _ (o := { cls := .type "range_iterator", data := .fields #[rawInt 0, rawInt (Builtin.Range.rangeSize 0 (n : Int) 1), rawInt 1] }) rfl).trans ?_
    rw [hsz]) hc

/-- a new list out of an upper bound's slice -/
def isNewL (h : Heap) (vs : List Value) : Heap → Value → Prop := fun h' v => ∃ D, v = .ref D ∧ h.get? D = none ∧ h'.get? D = some (W.listOf vs.toArray 0)
theorem ev_upto {v e : Expr} {pos spos : Pos} {l : Addr} {vs : List Value} {k : Nat} (g : Gv prog w A (eval v env) h (isV (.ref l))) (hl : h.IsList l vs.toArray) (hsz : vs.length ≤ 2 ^ 20) (ge : Gv prog w A (eval e env) h (isI (k : Int)))
    (ht : ∀ r, letTemporaryGo v (.ref l) r = pure ()) : Gv prog w A (eval (.Subscript v (.Slice none (some e) none spos) pos) env) h (isNewL h (vs.take k)) := fun s E le =>
  Subscript_ (g.use le fun u s₁ k₁ p => wpAny_Slice (evalPart_none_step (evalPart_some_step (ge.use (le.trans (keeps_le k₁)) fun y s₂ k₂ ⟨t, q⟩ => evalPart_none_step (by
    cases p; subst q
    obtain ⟨o, ho, r⟩ := hl
    have kk := keeps_trans k₁ k₂
    have hl₂ : s₂.heap.IsList l vs.toArray := ⟨o, keeps_le kk _ _ (le _ _ ho), r⟩
    refine slice_listK hl₂ .none (.int _ _) ?_ (by with_unfolding_all rfl) ht (by rw [List.size_toArray]; have : sizeLine = 16777216 := rfl; omega)
    refine ⟨keeps_trans kk (keeps_mk (Le.trans (Le.push _ _) (Le.push _ _))), _, rfl, none_of_size (le.trans (keeps_le kk)) (Nat.le_succ _), ?_⟩
    have e1 := Heap.get?_push_size (s₂.heap.push { cls := .type "slice", data := .fields #[.none, .int (k : Int) t, .none] }) (o := { cls := .type "list", data := .seq (slicePick vs.toArray none (some (k : Int)) none) }) rfl
    rw [Heap.size_push] at e1
    refine e1.trans ?_
    rw [slicePick_upto'])))))

theorem srcN_new {iter : Expr} {vs : List Value} (hh : A.handled = none) (g : Gv prog w A (eval iter env) h (isNewL h vs)) (gn : ∀ h', Le h h' → Gv prog w A (eval iter env) h' (isNewL h' vs)) :
    SrcN prog w A env iter h vs.length (fun i v => vs[i]? = some v) := fun s Q E k q =>
  (gn s.heap k).use (Le.refl _) fun v s₁ k₁ p => by
    obtain ⟨l, rfl, hn, ho⟩ := p
    have hl₁ : s₁.heap.IsList l vs.toArray := ⟨_, ho, rfl, 0, rfl⟩
    have hne : l ≠ s₁.heap.objs.size := Nat.ne_of_lt (Heap.lt_size ho)
    have hI : s.heap.get? s₁.heap.objs.size = none := none_of_size (keeps_le k₁) (Nat.le_refl _)
    refine wpAny_pyIter_list hl₁ (q _ _ [s₁.heap.objs.size, l] (fun i h => h.IsListIter s₁.heap.objs.size l i ∧ h.IsList l vs.toArray) (keeps_trans k₁ (keeps_mk (Le.push _ _))) (fun b hb => ?_) hI ?_ ?_ ?_)
    · rcases List.mem_cons.mp hb with rfl | hb
      · exact hI
      · rcases List.mem_cons.mp hb with rfl | hb
        · exact hn
        · cases hb
    · have W := Walks.list (prog := prog) (w := w) hh s₁.heap.objs.size l hne vs.toArray
      simpa using W
    · exact ⟨⟨_, Heap.get?_push_size _ rfl, rfl, rfl⟩, ⟨_, Heap.get?_push_of_some _ ho, rfl, 0, rfl⟩⟩
    · intro b hb
      show b < (s₁.heap.push _).objs.size
      rw [Heap.size_push]
      rcases List.mem_cons.mp hb with rfl | hb
      · exact Nat.lt_succ_self _
      · rcases List.mem_cons.mp hb with rfl | hb
        · exact Nat.lt_succ_of_lt (Heap.lt_size ho)
        · cases hb

/-- a for loop by an invariant over its turns -/
theorem x_for {x : Str} {px pos : Pos} {iter : Expr} {body rest : List Stmt} {n : Nat} {P : Nat → Value → Prop} (S : Addr → Prop) (J : Nat → (Str → Option Value) → Heap → Prop)
    (src : SrcN prog w A env iter s.heap n P) (hfold : ∀ x, foldedSetIterable iter env x = pure x) (hS : ∀ b, S b → ∃ o, s.heap.get? b = some o) (hk : env.scope.kind = .function) (hx : env.kindOf x = some .local)
    {m₀ : Str → Option Value} (hL : S env.locals) (hn : s.heap.Ns env.locals m₀) (J0 : J 0 m₀ s.heap)
    (Jst : ∀ i m h h', J i m h → (∀ b, (∃ o, s.heap.get? b = some o) → ∀ o, h.get? b = some o → h'.get? b = some o) → J i m h')
    (turn : ∀ i v m h₁ h tk, i < n → P i v → J i m h₁ → Heap.SameBut env.locals h₁ h → h.Ns env.locals (fun y => if y = x then some v else m y) →
      wpAny (model prog w) A (execs body env) (fun f s₃ => match f with
        | .next => ∃ m' h' tk', s₃ = { s with heap := h', toks := tk' } ∧ h'.Ns env.locals m' ∧ J (i + 1) m' h' ∧ ∀ b o, ¬ S b → h.get? b = some o → h'.get? b = some o
        | .ret v => Q (.ret v) s₃
        | _ => False) (fun _ _ => False) { s with heap := h, toks := tk })
    (done : ∀ m h tk, h.Ns env.locals m → J n m h → wpAny (model prog w) A (execs rest env) Q E { s with heap := h, toks := tk }) :
    wpAny (model prog w) A (execs (.For (.Name x px) iter body [] pos :: rest) env) Q E s := by
  refine wpAny_execs_cons (wpAny_For (src s _ _ (Le.refl _) fun I s₂ fp St k₂ hfp hI W st hlt => ?_) hfold)
  obtain ⟨h₂, tk₂, rfl, kk⟩ := k₂
  have hIS : ∀ b, S b → b ≠ I := fun b hb e => by obtain ⟨o, ho⟩ := hS b hb; rw [e, hI] at ho; cases ho
  have hfS : ∀ b ∈ fp, ¬ S b := fun b hb hs => by obtain ⟨o, ho⟩ := hS b hs; rw [hfp b hb] at ho; cases ho
  refine codeAny_forLoop (fun k s' => ∃ i h m tk, k + i = n + 1 ∧ i ≤ n ∧ s' = { s with heap := h, toks := tk } ∧ St i h ∧ h.Ns env.locals m ∧ J i m h) ?_ (n + 1)
    ⟨0, h₂, m₀, tk₂, rfl, Nat.zero_le _, rfl, st, hn.keeps kk, Jst _ _ _ _ J0 fun b _ o e => kk b o e⟩
  rintro k s' ⟨i, h, m, tk, hk', hi, rfl, st', hn', hJ⟩
  have old : ∀ b, (∃ o, s.heap.get? b = some o) → b ∉ [I] := fun b ⟨o, ho⟩ hb => by
    rcases List.mem_cons.mp hb with rfl | hb
    · rw [hI] at ho; cases ho
    · cases hb
  by_cases hlt' : i < n
  · refine W.item i _ _ _ hlt' st' fun v h₃ tk₃ hP st₃ hk₃ => ?_
    have hJ₃ : J i m h₃ := Jst _ _ _ _ hJ fun b hb o e => hk₃ b o (old b hb) e
    have hn₃ : h₃.Ns env.locals m := hn'.at' fun o e => hk₃ _ o (old _ (hS _ hL)) e
    refine wpAny_assign_Name (wpAny_storeName_local hx hn₃ (fun h₄ hn₄ sb => ?_) (by rw [hk]; rfl))
    refine wpAny_mono (turn i v m h₃ h₄ _ hlt' hP hJ₃ sb hn₄) (fun f s₅ q => ?_) fun _ _ x => x.elim
    have st₄ : St (i + 1) h₄ := W.frame _ _ _ st₃ fun b hb o e => sb.extBut b o (fun hbl => hfS b hb (hbl ▸ hL)) e
    cases f with
    | next =>
      obtain ⟨m', h', tk', rfl, hn', hJ', hk''⟩ := q
      exact ⟨k - 1, by omega, i + 1, h', m', tk', by omega, by omega, rfl, W.frame _ _ _ st₄ fun b hb o e => hk'' b o (hfS b hb) e, hn', hJ'⟩
    | ret v => exact q
    | brk => exact q.elim
    | cont => exact q.elim
  · have hin : i = n := by omega
    subst hin
    refine W.done _ _ _ st' fun h₃ tk₃ hk₃ => ?_
    refine wpAny_execs_nil ?_
    exact done m h₃ tk₃ (hn'.at' fun o e => hk₃ _ o (old _ (hS _ hL)) e) (Jst _ _ _ _ hJ fun b hb o e => hk₃ b o (old b hb) e)
end
end Mine
open PySem PySem.W PyProof.Rows PySem.Calls
namespace Mine

theorem paired_ints {l : List Value} {ys : List Value} (h : Paired (fun _ y => ∃ n t, y = Value.int n t) l ys) : ∃ ms, IntsAre ys ms ∧ ms.length = l.length := by
  induction h with
  | nil => exact ⟨[], .nil, rfl⟩
  | cons hF _ ih =>
    obtain ⟨n, t, rfl⟩ := hF
    obtain ⟨ms, i, e⟩ := ih
    exact ⟨n :: ms, .cons n t i, by rw [List.length_cons, List.length_cons, e]⟩

def bigB : Value → Bool
  | .int n _ => decide ((10 : Int) ^ (9 : Int).toNat ≤ (if n < 0 then -n else n))
  | _ => false

section
variable {prog : Program} {w : World} {A : Around} {h : Heap} {env : Env}

theorem ev_abs {f e : Expr} {pos : Pos} {a : Int} (gf : Gv prog w A (eval f env) h (isV (.builtin "abs"))) (g : Gv prog w A (eval e env) h (isI a))
    (he : starEach [e] env = (false, eval e env) :: starEach [] env)
    (hc : eval (.Call f [e] [] pos) env = (do callWith pos (← eval f env) [] (backTo pos (starEach [e] env)) (backToKw pos (keywordEach [] env)))) : Gv prog w A (eval (.Call f [e] [] pos) env) h (isI (if a < 0 then -a else a)) :=
  ev_b1 gf g (fun h' v _ ⟨t, e⟩ => by subst e; exact fun s E k => call_abs_int fun u tk => ⟨keeps_tok _ _, u, rfl⟩) he hc
theorem ev_pow {l r : Expr} {pos : Pos} {a n : Int} (h0 : 0 ≤ n) (h1 : n ≤ 1000000) (ha : a.natAbs < 2 ^ 64) (g₁ : Gv prog w A (eval l env) h (isI a)) (g₂ : Gv prog w A (eval r env) h (isI n)) : Gv prog w A (eval (.BinOp l .Pow r pos) env) h (isI (a ^ n.toNat)) :=
  gv_two (step := binaryOp .Pow) (fun _ _ _ => wpAny_BinOp) g₁ g₂ fun u v _ s₁ s₂ E _ _ ⟨_, p⟩ ⟨_, q⟩ => by subst p; subst q; exact pow_int_small h0 h1 ha ⟨keeps_tok _ _, _, rfl⟩

theorem ok_133 : okDef (KK w) 133 [Str.ofString "script"] = true := by kernel_rfl
theorem bd_133 {a : Value} : bindArgs (fdOf w 133) ⟨[a], []⟩ = pure ([Str.ofString "script"].zip [a]) := by kernel_rfl

set_option maxHeartbeats 4000000 in
theorem f_deck_of {ls : Addr} {vs : List Value} {ns : List Int} (l : Lv 4 A) (B : Bs w h) (hls : h.IsList ls vs.toArray) (hi : IntsAre vs ns) (hlt : ns.length < 2 ^ 20) :
    Gv prog w A (call (.ref 133) [.ref ls]) h (fun h' v => ∃ D ms, v = .ref D ∧ h.get? D = none ∧ DeckAt h' D ms ∧ OkDeck ms) :=
  gv_call (IsDef.of ok_133) B l.room bd_133 fun s g L kk F => by
    have hlen := hi.length
    have sl : ∀ h', Le s.heap h' → h'.IsList ls vs.toArray := fun h' k => let ⟨o, ho, r⟩ := hls; ⟨o, k _ _ (F.keep _ _ (kk _ _ ho)), r⟩
    refine x_assign (x := Str.ofString "_law_mixed") (P := isI 7) F ev_int (by kernel_rfl) (by kernel_rfl) rfl fun v h₁ h₂ tk k₁ p F₂ sb => ?_
    obtain ⟨t₁, rfl⟩ := p
    have Sc : ∀ (h' : Heap) (m : Str → Option Value) pos, h'.Ns L m → m (Str.ofString "script") = some (.ref ls) → Gv prog w (A.deeper (envF w 133 L)) (eval (.Name (Str.ofString "script") pos) (envF w 133 L)) h' (isV (.ref ls)) := fun h' m pos hn hm => ev_loc hn hm (by kernel_rfl) (by kernel_rfl) rfl
    have gk : ∀ {h' : Heap} {m : Str → Option Value}, Fr g L h' m → h'.IsList ls vs.toArray := fun F' => let ⟨o, ho, r⟩ := hls; ⟨o, F'.keep _ _ (kk _ _ ho), r⟩
    have g2 : ∀ (h₀ h' : Heap) (m : Str → Option Value) p₁ p₂ p₃ p₄, Fr g L h₀ m → m (Str.ofString "script") = some (.ref ls) → Le h₀ h' →
        Gv prog w (A.deeper (envF w 133 L)) (eval (.Subscript (.Name (Str.ofString "script") p₁) (.Slice none (some (.Constant (.int 24) 0 p₂)) none p₃) p₄) (envF w 133 L)) h' (isNewL h' (vs.take 24)) := fun h₀ h' m p₁ p₂ p₃ p₄ F' hm k =>
      ev_upto (k := 24) (Sc h' _ _ (F'.ns.keeps k) hm) (gk (fr_le F' k)) (by omega) ev_int (fun _ => rfl)
    have Ab : ∀ (h' : Heap) (e : Env) p₁, Bs w h' → e.globals = mainGlobals → e.builtins = builtinsNs → e.scope.kind = .function → e.kindOf (Str.ofString "abs") = some .globalImplicit →
        Gv prog w (A.deeper (envF w 133 L)) (eval (.Name (Str.ofString "abs") p₁) e) h' (isV (.builtin "abs")) := fun h' e p₁ B' a b c d => ev_bin B' (by kernel_rfl) (by kernel_rfl) (by decide) a b c d rfl
    have Bk : ∀ {h' : Heap}, Le g h' → Bs w h' := fun k' => (B.le kk).le k'
    have h24 : (vs.take 24).length ≤ 24 := by rw [List.length_take]; omega
    have p60 : (10 : Int) ^ (60 : Int).toNat ≠ 0 := by decide
    refine x_for (S := fun b => b = L) (fun i m h' => m (Str.ofString "script") = some (.ref ls) ∧ (∃ n t, m (Str.ofString "_law_mixed") = some (.int n t)) ∧ Le g h')
      (srcN_new l.hh (g2 h₂ h₂ _ _ _ _ _ F₂ rfl (Le.refl _)) fun h' k => g2 h₂ h' _ _ _ _ _ F₂ rfl k) (fun _ => rfl) (fun b e => by obtain ⟨o, _, _, ho, _⟩ := F₂.ns; rw [e]; exact ⟨o, ho⟩) (by kernel_rfl) (by kernel_rfl) rfl F₂.ns ⟨rfl, ⟨_, _, rfl⟩, F₂.keep⟩ ?_ ?_ ?_
    · intro i m h₃ h₄ ⟨j1, j2, j3⟩ st
      exact ⟨j1, j2, fun b o e => st b ⟨o, F₂.keep b o e⟩ o (j3 b o e)⟩
    · intro i v m h₃ h₄ tk₄ hi' hP ⟨j1, ⟨n, t, j2⟩, j3⟩ sb' hn'
      obtain ⟨c, tc, rfl, _⟩ := (hi.take 24).at i v hP
      have hgL : ∀ b o, g.get? b = some o → b ≠ L := fun b o e => Nat.ne_of_lt (Nat.lt_of_lt_of_le (Heap.lt_size e) F.above)
      have kg₄ : Le g h₄ := fun b o e => (sb'.2 b (hgL b o e)).trans (j3 b o e)
      have F₄ : Fr g L h₄ _ := ⟨hn', kg₄, F.above⟩
      have B₄ := Bk kg₄
      refine x_assign (x := Str.ofString "_law_mixed") (P := isI _) F₄ (ev_mod (by decide) (ev_add (ev_add (ev_mul (IntMulOk.of_right (by decide)) ((ev_loc (v := .int n t) F₄.ns (by exact j2) (by kernel_rfl) (by kernel_rfl) rfl).to fun _ _ e => ⟨t, e⟩) ev_int)
        (ev_mod p60 (ev_abs (Ab _ _ _ B₄ (by kernel_rfl) (by kernel_rfl) (by kernel_rfl) (by kernel_rfl)) ((ev_loc (v := .int c tc) F₄.ns rfl (by kernel_rfl) (by kernel_rfl) rfl).to fun _ _ e => ⟨tc, e⟩) rfl rfl) (ev_pow (by decide) (by decide) (by decide) ev_int ev_int))) ev_int) ev_int)
        (by kernel_rfl) (by kernel_rfl) rfl fun v h₅ h₆ tk₆ k₅ p F₆ sb₆ => x_nil ?_
      obtain ⟨t₂, rfl⟩ := p
      exact ⟨_, h₆, tk₆, rfl, F₆.ns, ⟨j1, ⟨_, _, rfl⟩, F₆.keep⟩, fun b o hb e => (sb₆.2 b hb).trans (k₅ b o e)⟩
    · intro m h₃ tk₃ hn₃ ⟨j1, ⟨n, t, j2⟩, j3⟩
      have F₃ : Fr g L h₃ m := ⟨hn₃, j3, F.above⟩
      have B₃ := Bk j3
      refine x_ret (P := fun h' v => ∃ D ms, v = .ref D ∧ h₃.get? D = none ∧ DeckAt h' D ms ∧ OkDeck ms) (gv_two (step := binaryOp .Add) (fun _ _ _ => wpAny_BinOp)
        (gv_comp (n := (vs.take 24).length) (P := fun i v => (vs.take 24)[i]? = some v) bigB (fun _ y => ∃ n t, y = Value.int n t) (srcN_new (A := A.deeper (envF w 133 L)) l.hh (g2 h₃ h₃ _ _ _ _ _ F₃ j1 (Le.refl _)) fun h' k => g2 h₃ h' _ _ _ _ _ F₃ j1 k).src (by have : sizeLine = 16777216 := rfl; omega)
          (cl := []) (by kernel_rfl) (by decide) rfl (by decide) rfl (fun _ => rfl)
          (fun C i v s₄ m₄ E₄ hP k₄ hn hm => by
            obtain ⟨c, tc, rfl, _⟩ := (hi.take 24).at i v hP
            exact tests_one s₄ E₄ (ts_cmp (ev_abs (Ab _ _ _ (B₃.le k₄) (by kernel_rfl) (by kernel_rfl) (by kernel_rfl) (by kernel_rfl)) ((ev_loc hn hm (by kernel_rfl) (by kernel_rfl) rfl).to fun _ _ e => ⟨tc, e⟩) rfl rfl) (ev_pow (by decide) (by decide) (by decide) ev_int ev_int) rfl rfl))
          (fun C i v h₄ m₄ hP hp k₄ hn hm => by
            obtain ⟨c, tc, rfl, _⟩ := (hi.take 24).at i v hP
            exact (ev_mod p60 (ev_abs (Ab _ _ _ (B₃.le k₄) (by kernel_rfl) (by kernel_rfl) (by kernel_rfl) (by kernel_rfl)) ((ev_loc hn hm (by kernel_rfl) (by kernel_rfl) rfl).to fun _ _ e => ⟨tc, e⟩) rfl rfl) (ev_pow (by decide) (by decide) (by decide) ev_int ev_int)).to fun _ _ ⟨t, e⟩ => ⟨_, t, e⟩))
        (P₂ := fun h' v => ∃ b tb, v = .ref b ∧ h'.get? b = some { cls := .type "list", data := .seq [Value.int n tb].toArray })
        (fun s₄ E₄ k₄ => List_ (wpAny_items_cons ((ev_loc (v := .int n t) (F₃.ns.keeps k₄) j2 (by kernel_rfl) (by kernel_rfl) rfl).use (Le.refl _) fun u s₅ k₅ e => wpAny_items_nil (by
          cases e
          exact wpAny_newObj_type ⟨keeps_trans k₅ (keeps_mk (Le.push _ _)), _, t, rfl, Heap.get?_push_size _ rfl⟩ (by show 1 ≤ sizeLine; decide)))))
        (fun a b s₀ s₁ s₂ E₂ k₁ k₂ pa pb => ?_)) fun v s' k₄ p => ?_
      · obtain ⟨D, ys, vs', rfl, hD, ⟨kq, hpl⟩, hl', hvs, hpair⟩ := pa
        obtain ⟨b', tb, rfl, hb⟩ := pb
        obtain ⟨ms, im, em⟩ := paired_ints hpair
        have e24 : ms.length ≤ 24 := by
          rw [em]
          have := List.length_filter_le bigB vs'
          omega
        have eys : ys.size = ms.length := by rw [← im.length]; simp
        refine PySem.P.add_list (n := kq) (n2 := 0) (keeps_le k₂ _ _ hpl) hb ⟨keeps_mk (Le.push _ _), _, ms ++ [n], rfl, none_of_size (k₁.trans (keeps_le k₂)) (Nat.le_refl _), ?_, ?_⟩ ?_
        · refine ⟨ys.toList ++ [Value.int n tb], 0, ?_, im.append (.cons _ _ .nil)⟩
          have e3 : ys ++ [Value.int n tb].toArray = (ys.toList ++ [Value.int n tb]).toArray := by apply Array.toList_inj.mp; simp
          rw [← e3]
          exact Heap.get?_push_size _ rfl
        · exact ⟨by simp, by rw [List.length_append, List.length_singleton]; omega⟩
        · rw [eys]
          show ms.length + 1 ≤ sizeLine
          have : sizeLine = 16777216 := rfl
          omega
      · obtain ⟨D, ms, rfl, hD, dk, ok⟩ := p
        refine ⟨fin_k j3 k₄, D, ms, rfl, ?_, dk, ok⟩
        cases e : h.get? D with
        | none => rfl
        | some o => rw [j3 _ _ (kk _ _ e)] at hD; cases hD
end
end Mine
open PySem PySem.W PyProof.Rows PySem.Calls
namespace Mine
section
variable {prog : Program} {w : World} {A : Around} {h : Heap} {env : Env}

theorem enterB {a : Addr} {ps : List Str} {args : List Value} {binds : List (Str × Value)} {R : Result → Shared → Prop} {s : Shared} (D : IsDef w a ps) (B : Bs w s.heap) (hroom : A.depth < recursionLimit)
    (hb : BindsTo s (fdOf w a) ⟨args, []⟩ binds) (hbp : ∀ x ∈ binds, x.1 ∈ ps)
    (h : ∀ h₁ tk, Fr s.heap s.heap.objs.size h₁ (fun x => binds.reverse.lookup x) →
      wpAny (model prog w) (A.deeper (envF w a s.heap.objs.size)) (execs (bodyOf w a) (envF w a s.heap.objs.size)) (fun f s' => R (.ok (.ret (retV f))) s') (fun _ _ => False) { s with heap := h₁, toks := tk }) :
    codeAny (model prog w) A (.call (.ref a) ⟨args, []⟩) R s := by
  obtain ⟨o, ho, hd⟩ := D.at_
  refine codeAny_call_function hroom (B.K _ _ ho) hd D.co D.gen D.body (codeRec_of B.K D.code) ?_
  refine hb _ _ _ _ ?_
  rw [D.clo]
  refine wpAny_newFunctionEnv D.cells (fun x hx => D.loc _ (hbp x hx)) (fun h₁ hns hsb => ⟨B.lim.fresh _ hsb, ?_⟩) D.kind
  show codeAny _ _ (.func (bodyOf w a) (envF w a s.heap.objs.size)) _ _
  refine codeAny_func (wpAny_mono (h h₁ _ ⟨hns, fun b o e => hsb.extBut b o (Nat.ne_of_lt (Heap.lt_size e)) (Heap.get?_push_of_some _ e), Nat.le_refl _⟩) (fun f s' q => ?_) fun _ _ x => x.elim)
  cases f <;> exact q

theorem ok_93 : okDef (KK w) 93 [Str.ofString "self", Str.ofString "codes", Str.ofString "place"] = true := by kernel_rfl
theorem k_makes : makesIn (KK w) 117 = true := by kernel_rfl
theorem k_init : findIn (KK w) (.ref 117) (Str.ofString "__init__") = some (some (.ref 93)) := by kernel_rfl
theorem k_init_fn : typeIn (KK w) (.ref 93) = some (.type "function") := by kernel_rfl
theorem k_setattr : findIn (KK w) (.ref 117) (Str.ofString "__setattr__") = some (some (.builtin "object.__setattr__")) := by kernel_rfl
theorem k_over : plainOver (KK w) 117 = true := by kernel_rfl
theorem k_taker_codes : takerIn (KK w) 117 (Str.ofString "codes") = some none := by kernel_rfl
theorem k_taker_place : takerIn (KK w) 117 (Str.ofString "place") = some none := by kernel_rfl
theorem l_86 : (KK w).lookup 86 = some { cls := .type "tuple", data := .seq #[.int 1 302] } := by kernel_rfl
theorem kp_117 : keepIn (KK w) (.ref 117) = true := by kernel_rfl
theorem g_TextRow : nsIn (KK w) mainGlobals (Str.ofString "TextRow") = some (some (.ref 117)) := by kernel_rfl

theorem lv_make {n : Nat} {as : Args} {C : Addr} {rest : List Value} (l : Lv (n + 1) A) : Lv n (A.under (.builtin "type.__call__" ⟨.ref C :: rest, []⟩)) :=
  ⟨l.hh, by
    have := l.hd
    have e : (A.under (.builtin "type.__call__" ⟨.ref C :: rest, []⟩)).depth = A.depth + 1 := rfl
    omega, by
    have := l.hu
    have e : (A.under (.builtin "type.__call__" ⟨.ref C :: rest, []⟩)).units = A.units + 1 := rfl
    omega⟩

theorem bd_93 {s : Shared} {x c p : Value} (X : (KK w).In s.heap) : BindsTo s (fdOf w 93) ⟨[x, c, p], []⟩ [(Str.ofString "self", x), (Str.ofString "codes", c), (Str.ofString "place", p)] :=
  fun M A E Q hq => (Looks.of_peek (M := M) X (by kernel_rfl)).here hq
theorem bd_93' {s : Shared} {x c : Value} (X : (KK w).In s.heap) : BindsTo s (fdOf w 93) ⟨[x, c], []⟩ [(Str.ofString "self", x), (Str.ofString "codes", c), (Str.ofString "place", .int 1 302)] :=
  fun M A E Q hq => (Looks.of_peek (M := M) X (by kernel_rfl)).here hq

/-- a row all of whose parts are new -/
def RowN (g h : Heap) (x : Addr) (codes : List Int) (first : Int) : Prop :=
  ∃ (dx c : Addr) (h1 h2 : Int) (t1 t2 tk : Tok) (n : Nat) (vs : List Value), g.get? x = none ∧ g.get? dx = none ∧ g.get? c = none ∧ h.get? x = some (instObj 117 dx) ∧
    h.get? dx = some (dictOf [⟨h1, .str (Str.ofString "codes") t1, .ref c⟩, ⟨h2, .str (Str.ofString "place") t2, .int first tk⟩] n) ∧ h.IsList c vs.toArray ∧ IntsAre vs codes ∧ codes.length < 2 ^ 20
theorem RowN.row {g h : Heap} {x : Addr} {codes : List Int} {first : Int} (R : RowN g h x codes first) : RowAt h x codes first := by
  obtain ⟨dx, c, h1, h2, t1, t2, tk, n, vs, _, _, _, r⟩ := R
  exact ⟨dx, c, h1, h2, t1, t2, tk, n, vs, r⟩
theorem none_le {g h : Heap} {b : Addr} (k : Le g h) (e : h.get? b = none) : g.get? b = none := by
  cases e' : g.get? b with
  | none => rfl
  | some o => rw [k _ _ e'] at e; cases e
theorem RowN.of {g g' h : Heap} {x : Addr} {codes : List Int} {first : Int} (k : Le g g') (R : RowN g' h x codes first) : RowN g h x codes first := by
  obtain ⟨dx, c, h1, h2, t1, t2, tk, n, vs, a, b, e, r⟩ := R
  exact ⟨dx, c, h1, h2, t1, t2, tk, n, vs, none_le k a, none_le k b, none_le k e, r⟩

theorem f_init {lc x dx : Addr} {vs : List Value} {codes : List Int} {first : Int} {t : Tok} {args : List Value} {s : Shared} {R : Result → Shared → Prop} (l : Lv 4 A) (B : Bs w h) (k : Le h s.heap) (hl : h.IsList lc vs.toArray) (hi : IntsAre vs codes) (hlt : codes.length < 2 ^ 20)
    (hx : s.heap.get? x = some (instObj 117 dx)) (hdx : s.heap.get? dx = some emptyDict) (nx : h.get? x = none) (nd : h.get? dx = none) (hne : x ≠ dx) (hsz : h.objs.size ≤ s.heap.objs.size)
    (hb : BindsTo s (fdOf w 93) ⟨args, []⟩ [(Str.ofString "self", .ref x), (Str.ofString "codes", .ref lc), (Str.ofString "place", .int first t)])
    (q : ∀ h' tk, Le h h' → RowN h h' x codes first → R (.ok (.ret .none)) { s with heap := h', toks := tk }) :
    codeAny (model prog w) A (.call (.ref 93) ⟨args, []⟩) R s := by
  refine enterB (IsDef.of ok_93) (B.le k) l.room hb (by simp) fun h₁ tk₁ F₁ => ?_
  have hxL : x ≠ s.heap.objs.size := Nat.ne_of_lt (Heap.lt_size hx)
  have hdL : dx ≠ s.heap.objs.size := Nat.ne_of_lt (Heap.lt_size hdx)
  have F : Fr h s.heap.objs.size h₁ _ := ⟨F₁.ns, Le.trans k F₁.keep, hsz⟩
  have N : News h s.heap.objs.size h₁ [(x, instObj 117 dx), (dx, dictOf [] 0)] := by
    intro p hp
    rcases List.mem_cons.mp hp with rfl | hp
    · exact ⟨F₁.keep _ _ hx, hxL, nx⟩
    · rcases List.mem_cons.mp hp with rfl | hp
      · exact ⟨F₁.keep _ _ hdx, hdL, nd⟩
      · cases hp
  generalize s.heap.objs.size = L at F N ⊢
  have hlen := hi.length
  have hl₁ : h₁.IsList lc vs.toArray := let ⟨o, ho, r⟩ := hl; ⟨o, F.keep _ _ ho, r⟩
  refine wpAny_execs_cons (plainObj_wpAny_Assign_Attribute (Call_ ((ev_bin (v := .type "list") ((B.le F.keep)) (by kernel_rfl) (by kernel_rfl) (by decide) (by kernel_rfl) (by kernel_rfl) (by kernel_rfl) (by kernel_rfl) rfl).use (Le.refl _) fun u s₂ k₂ e => ?_)))
  cases e
  obtain ⟨h₂, tk₂, rfl, k₂⟩ := k₂
  have F₂ := fr_le F k₂
  refine PyProof.Rows.callWith_type1 (wpAny_items_cons ((ev_loc (v := .ref lc) F₂.ns rfl (by kernel_rfl) (by kernel_rfl) rfl).use (Le.refl _) fun u s₃ k₃ e => wpAny_items_nil ?_))
  cases e
  obtain ⟨h₃, tk₃, rfl, k₃⟩ := k₃
  have F₃ := fr_le F₂ k₃
  have N₃ : News h L h₃ [(x, instObj 117 dx), (dx, dictOf [] 0)] := fun p hp => ⟨k₃ _ _ (k₂ _ _ (N p hp).1), (N p hp).2⟩
  refine list_copyK F₃ N₃ (let ⟨o, ho, r⟩ := hl₁; ⟨o, k₃ _ _ (k₂ _ _ ho), r⟩) (fun D c h₄ F₄ N₄ hD => ?_) (by rw [List.size_toArray]; have : sizeLine = 16777216 := rfl; omega)
  refine (ev_loc (v := .ref x) F₄.ns rfl (by kernel_rfl) (by kernel_rfl) rfl).use (Le.refl _) fun u s₅ k₅ e => ?_
  cases e
  obtain ⟨h₅, tk₅, rfl, k₅⟩ := k₅
  have F₅ := fr_le F₄ k₅
  have N₅ : News h L h₅ [(D, W.listOf vs.toArray c), (x, instObj 117 dx), (dx, dictOf [] 0)] := fun p hp => ⟨k₅ _ _ (N₄ p hp).1, (N₄ p hp).2⟩
  have hxD : x ≠ D := Nat.ne_of_lt (hD _ (.head _))
  have hdD : dx ≠ D := Nat.ne_of_lt (hD _ (.tail _ (.head _)))
  have I₅ : InstAt h₅ x (instObj 117 dx) 117 (some (dictOf [] 0)) := ⟨N₅.get (.tail _ (.head _)), rfl, rfl, N₅.get (.tail _ (.tail _ (.head _)))⟩
  refine set_dict (K := KK w) F₅ B.K N₅ I₅ rfl k_setattr k_over k_taker_codes k_dict rfl rfl (.tail (Ne.symm hdD) (.tail hne (.head (fun p hp => by cases hp)))) (Nat.le_of_ble_eq_true rfl) fun h₆ F₆ N₆ => ?_
  refine wpAny_execs_cons (plainObj_wpAny_Assign_Attribute ((ev_loc (v := .int first t) F₆.ns rfl (by kernel_rfl) (by kernel_rfl) rfl).use (Le.refl _) fun u s₇ k₇ e => ?_))
  cases e
  obtain ⟨h₇, tk₇, rfl, k₇⟩ := k₇
  have F₇ := fr_le F₆ k₇
  refine (ev_loc (v := .ref x) F₇.ns rfl (by kernel_rfl) (by kernel_rfl) rfl).use (Le.refl _) fun u s₈ k₈ e => ?_
  cases e
  obtain ⟨h₈, tk₈, rfl, k₈⟩ := k₈
  have F₈ := fr_le F₇ k₈
  have N₈ : News h L h₈ _ := fun p hp => ⟨k₈ _ _ (k₇ _ _ (N₆ p hp).1), (N₆ p hp).2⟩
  have I₈ : InstAt h₈ x (instObj 117 dx) 117 (some (dictOf _ _)) := ⟨N₈.get (.tail _ (.head _)), rfl, rfl, N₈.get (.tail _ (.tail _ (.head _)))⟩
  refine set_dict (K := KK w) F₈ B.K N₈ I₈ rfl k_setattr k_over k_taker_place k_dict rfl rfl (.tail (Ne.symm hdD) (.tail hne (.head (fun p hp => by cases hp)))) (Nat.le_of_ble_eq_true rfl) fun h₉ F₉ N₉ => ?_
  refine x_nil (q _ _ F₉.keep ⟨dx, D, _, _, _, _, t, _, vs, nx, nd, (N₉ _ (.head _)).2.2, N₉.get (.tail _ (.head _)), N₉.get (.tail _ (.tail _ (.head _))), ⟨_, N₉.get (.head _), rfl, c, rfl⟩, hi, hlt⟩)

theorem f_row {lc : Addr} {vs : List Value} {codes : List Int} {first : Int} {t : Tok} (l : Lv 6 A) (B : Bs w h) (hl : h.IsList lc vs.toArray) (hi : IntsAre vs codes) (hlt : codes.length < 2 ^ 20) :
    Gv prog w A (call (.ref 117) [.ref lc, .int first t]) h (fun h' v => ∃ x, v = .ref x ∧ RowN h h' x codes first) := fun s E k => by
  obtain ⟨hh, g, d, tk, os⟩ := s
  have k : Le h hh := k
  refine wpAny_call (make_core (makes_of (B.le k).K k_makes) (looks_findIn (B.le k).K k_init) (fun self => bind_fn (B.le k).K self k_init_fn) (.inl rfl) ?_)
  have kp : Le hh ((hh.push emptyDict).push (instObj 117 hh.objs.size)) := Le.trans (Le.push _ _) (Le.push _ _)
  have hx : ((hh.push emptyDict).push (instObj 117 hh.objs.size)).get? (hh.objs.size + 1) = some (instObj 117 hh.objs.size) := by
    have e := Heap.get?_push_size (hh.push emptyDict) (o := instObj 117 hh.objs.size) rfl
    rw [Heap.size_push] at e
    exact e
  have hdx : ((hh.push emptyDict).push (instObj 117 hh.objs.size)).get? hh.objs.size = some emptyDict := Heap.get?_push_of_some _ (Heap.get?_push_size _ rfl)
  refine f_init (h := hh) (x := hh.objs.size + 1) (dx := hh.objs.size) (vs := vs) (lv_make (n := 4) (as := ⟨[], []⟩) (l.mono (by omega))) (B.le k) kp (let ⟨o, ho, r⟩ := hl; ⟨o, k _ _ ho, r⟩) hi hlt hx hdx (none_of_size (Le.refl _) (Nat.le_succ _)) (none_of_size (Le.refl _) (Nat.le_refl _)) (Nat.succ_ne_self _)
    (by rw [Heap.size_push, Heap.size_push]; exact Nat.le_succ_of_le (Nat.le_succ _)) (bd_93 ((B.le k).le kp).K) fun h' tk' k' R => ?_
  exact ⟨rfl, keeps_mk k', _, rfl, R.of k⟩

end
end Mine
open PySem PySem.W PyProof.Rows PySem.Calls
namespace Mine
section
variable {prog : Program} {w : World} {A : Around} {h : Heap} {env : Env} {s : Shared} {Q E : Value → Shared → Prop}

theorem w_call2 {f e₁ e₂ : Expr} {a : Addr} {pos : Pos} {R₁ R₂ : Heap → Value → Prop} (m₁ : Mono R₁) (B : Bs w s.heap) (gf : Gv prog w A (eval f env) s.heap (isV (.ref a))) (hk : keepIn (KK w) (.ref a) = true)
    (g₁ : Gv prog w A (eval e₁ env) s.heap R₁) (g₂ : Gv prog w A (eval e₂ env) s.heap R₂)
    (gc : ∀ v₁ v₂ s', Keeps s s' → R₁ s'.heap v₁ → R₂ s'.heap v₂ → wpAny (model prog w) A (call (.ref a) [v₁, v₂]) Q E s')
    (h₁ : starEach [e₁, e₂] env = (false, eval e₁ env) :: starEach [e₂] env) (h₂ : starEach [e₂] env = (false, eval e₂ env) :: starEach [] env) (hp : ((backTo pos (starEach [e₂] env)).any (·.1)) = false)
    (hc : eval (.Call f [e₁, e₂] [] pos) env = (do callWith pos (← eval f env) [] (backTo pos (starEach [e₁, e₂] env)) (backToKw pos (keywordEach [] env)))) : wpAny (model prog w) A (eval (.Call f [e₁, e₂] [] pos) env) Q E s :=
  Call_ (gf.use (Le.refl _) fun v s₁ k₁ p => by
    cases p
    refine callWith_K (B.le (keeps_le k₁)).K hk (wpAny_items_cons (g₁.use (keeps_le k₁) fun u s₂ k₂ r => wpAny_items_cons (g₂.use (keeps_le (keeps_trans k₁ k₂)) fun y s₃ k₃ q => wpAny_items_nil ⟨(B.le (keeps_le (keeps_trans (keeps_trans k₁ k₂) k₃))).K, ?_⟩) h₂) h₁) h₁ hp
    exact gc u y s₃ (keeps_trans (keeps_trans k₁ k₂) k₃) (m₁ _ _ _ (keeps_le k₃) r) q) hc

theorem g_draw : nsIn (KK w) mainGlobals (Str.ofString "_law_draw") = some (some (.ref 128)) := by kernel_rfl
theorem g_one : nsIn (KK w) mainGlobals (Str.ofString "_law_one") = some (some (.ref 140)) := by kernel_rfl
theorem kp_128 : keepIn (KK w) (.ref 128) = true := by kernel_rfl
theorem kp_140 : keepIn (KK w) (.ref 140) = true := by kernel_rfl
theorem ok_140 : okDef (KK w) 140 [Str.ofString "_law_deck", Str.ofString "_law_items"] = true := by kernel_rfl
theorem bd_140 {v u : Value} : bindArgs (fdOf w 140) ⟨[v, u], []⟩ = pure ([Str.ofString "_law_deck", Str.ofString "_law_items"].zip [v, u]) := by kernel_rfl

/-- a draw, written as a call -/
theorem w_draw {f e₁ e₂ : Expr} {pos : Pos} {d : Addr} {ns : List Int} {many : Int} {g₀ : Heap} (l : Lv 4 A) (B : Bs w g₀) (kg : Le g₀ s.heap) (hd : g₀.get? d = none) (D : DeckAt s.heap d ns) (ok : OkDeck ns) (hm : 0 < many) (hs : many < 1073741824)
    (gf : Gv prog w A (eval f env) s.heap (isV (.ref 128))) (g₁ : Gv prog w A (eval e₁ env) s.heap (isV (.ref d))) (g₂ : Gv prog w A (eval e₂ env) s.heap (isI many))
    (q : ∀ r t h' tk ns', 0 ≤ r → r < many → OkDeck ns' → DeckAt h' d ns' → LeBut d s.heap h' → Q (.int r t) { s with heap := h', toks := tk })
    (h₁ : starEach [e₁, e₂] env = (false, eval e₁ env) :: starEach [e₂] env) (h₂ : starEach [e₂] env = (false, eval e₂ env) :: starEach [] env) (hp : ((backTo pos (starEach [e₂] env)).any (·.1)) = false)
    (hc : eval (.Call f [e₁, e₂] [] pos) env = (do callWith pos (← eval f env) [] (backTo pos (starEach [e₁, e₂] env)) (backToKw pos (keywordEach [] env)))) : wpAny (model prog w) A (eval (.Call f [e₁, e₂] [] pos) env) Q E s :=
  w_call2 (R₁ := isV (.ref d)) (R₂ := isI many) mono_const (B.le kg) gf kp_128 g₁ g₂ (fun v₁ v₂ s' k p₁ p₂ => by
    cases p₁
    obtain ⟨t, rfl⟩ := p₂
    obtain ⟨h', tk', rfl, kk⟩ := k
    exact f_draw l B (Le.trans kg kk) hd (D.le kk) ok hm hs fun r t h₂ tk₂ ns' a b c e f => q r t h₂ tk₂ ns' a b c e (LeBut.trans (LeBut.of kk) f)) h₁ h₂ hp hc

set_option maxHeartbeats 1000000 in
theorem f_one {d l' : Addr} {ns : List Int} {vs : List Value} {g₀ : Heap} (l : Lv 8 A) (B : Bs w g₀) (kg : Le g₀ s.heap) (hd : g₀.get? d = none) (D : DeckAt s.heap d ns) (ok : OkDeck ns) (hl : s.heap.IsList l' vs.toArray) (hne : l' ≠ d)
    (hv : vs ≠ []) (hs : vs.length < 1073741824)
    (q : ∀ (r : Nat) (v : Value) h' tk ns', vs[r]? = some v → OkDeck ns' → DeckAt h' d ns' → LeBut d s.heap h' → Q v { s with heap := h', toks := tk }) :
    wpAny (model prog w) A (call (.ref 140) [.ref d, .ref l']) Q E s := by
  refine enter (IsDef.of ok_140) (B.le kg) l.room bd_140 fun h₁ tk₁ F => ?_
  have K₁ : Le s.heap h₁ := F.keep
  have hdL : d ≠ s.heap.objs.size := by obtain ⟨_, _, e, _⟩ := D; exact Nat.ne_of_lt (Heap.lt_size e)
  generalize s.heap.objs.size = L at F hdL ⊢
  have hl₁ : h₁.IsList l' vs.toArray := let ⟨o, ho, r⟩ := hl; ⟨o, K₁ _ _ ho, r⟩
  have hpos : 0 < vs.length := List.length_pos_iff.mpr hv
  have B₁ : Bs w h₁ := B.le (Le.trans kg K₁)
  refine wpAny_execs_cons (wpAny_Return_some (Subscript_ ((ev_loc (v := .ref l') F.ns rfl (by kernel_rfl) (by kernel_rfl) rfl).use (Le.refl _) fun u s₂ k₂ p => ?_)))
  cases p
  obtain ⟨h₂, tk₂, rfl, k₂⟩ := k₂
  have F₂ := fr_le F k₂
  have B₂ := B₁.le k₂
  refine w_draw (d := d) (many := (vs.length : Int)) (l.deeper.mono (by omega)) B (Le.trans kg (Le.trans K₁ k₂)) hd (D.le (Le.trans K₁ k₂)) ok (by omega) (by omega) (ev_glob B₂ g_draw (by kernel_rfl) (by kernel_rfl) (by kernel_rfl) rfl) (ev_loc (v := .ref d) F₂.ns rfl (by kernel_rfl) (by kernel_rfl) rfl)
    (ev_b1 (ev_bin B₂ (by kernel_rfl) (by kernel_rfl) (by decide) (by kernel_rfl) (by kernel_rfl) (by kernel_rfl) (by kernel_rfl) rfl) (ev_loc (v := .ref l') F₂.ns rfl (by kernel_rfl) (by kernel_rfl) rfl)
      (fun h' v k' e => by cases e; exact gv_len (let ⟨o, ho, r⟩ := hl₁; ⟨o, k' _ _ (k₂ _ _ ho), r⟩) (by omega)) rfl rfl) (fun r t h₃ tk₃ ns' h0 hr ok' D' kb => ?_) rfl rfl rfl rfl
  have hl₃ : h₃.IsList l' vs.toArray := let ⟨o, ho, r⟩ := hl₁; ⟨o, kb _ _ hne (k₂ _ _ ho), r⟩
  have hrt : r.toNat < vs.length := by omega
  have hy : vs[r.toNat]? = some vs[r.toNat] := List.getElem?_eq_getElem hrt
  refine tail_any (Heap.IsList.typeIs hl₃) slot_list_getitem.lookup (wpAny_getItem_list (x := vs[r.toNat]) hl₃ h0 (by omega) (by rw [List.getElem?_toArray]; exact hy) ?_) (by with_unfolding_all rfl)
  exact q r.toNat _ h₃ tk₃ ns' hy ok' D' ((LeBut.of (Le.trans K₁ k₂)).trans kb)
end
end Mine
open PySem PySem.W PyProof.Rows PySem.Calls
namespace Mine

theorem strs_snoc : ∀ {ys : List Value} {ls : List Str} {x : Str} {t : Tok}, StrsAre ys ls → StrsAre (ys ++ [Value.str x t]) (ls ++ [x])
  | _, _, _, _, .nil => .cons _ _ .nil
  | _, _, _, _, .cons a t h => .cons a t (strs_snoc h)

def DeckOk (h : Heap) (d : Addr) : Prop := ∃ ns, DeckAt h d ns ∧ OkDeck ns

section
variable {prog : Program} {w : World} {A : Around} {E : Value → Shared → Prop} {env : Env}

theorem comp_draws {elt iter : Expr} {x : Str} {px : Pos} {scope : Scope} {cl : List (Str × Addr)} {pos : Pos} {s₂ : Shared} {I d : Addr} {fp : List Addr} {n : Nat} {P : Nat → Value → Prop} {menu : List Str} {Q : Value → Shared → Prop}
    {St : Nat → Heap → Prop} (W : Walks prog w A I fp [I] n P St) (hsz : n ≤ 2 ^ 20)
    (hcell : ∀ y ∈ scope.names, y.2 ≠ .cell) (hkind : scope.kind = .function) (hx : scope.names.lookup x = some .local) (hst : St 0 s₂.heap) (hfp : ∀ b ∈ fp, b < s₂.heap.objs.size) (hI : I < s₂.heap.objs.size) (hd : DeckOk s₂.heap d) (hdf : d ∉ fp) (hdI : d ≠ I)
    (helt : ∀ (C : Addr) (s : Shared) (m : Str → Option Value) (E' : Value → Shared → Prop), s.heap.Ns C m → C ≠ d → (∀ b o, b ≠ I → b ≠ d → s₂.heap.get? b = some o → s.heap.get? b = some o) → DeckOk s.heap d →
      wpAny (model prog w) A (eval elt (compEnvC scope cl C env)) (fun v s' => (∃ y t, y ∈ menu ∧ v = .str y t) ∧ ∃ h' tk', s' = { s with heap := h', toks := tk' } ∧ LeBut d s.heap h' ∧ DeckOk h' d) E' s)
    (hQ : ∀ D h' tk ys lines, s₂.heap.get? D = none → h'.PlainList D ys → StrsAre ys.toList lines → lines.length = n → (∀ y ∈ lines, y ∈ menu) → (∀ b o, b ≠ I → b ≠ d → s₂.heap.get? b = some o → h'.get? b = some o) → DeckOk h' d →
      Q (.ref D) { s₂ with heap := h', toks := tk }) :
    wpAny (model prog w) A (newList []) (fun acc s₃ => wpAny (model prog w) A (newFunctionEnv scope env.globals cl [] env.qual none .none (some env)) (fun cenv s₄ =>
      codeAny (model prog w) A (.compStart (.ListComp elt [⟨.Name x px, iter, [], 0⟩] scope pos) 0 (.ref I) acc { cenv with scope := relabel scope env }) (compPost (model prog w) A E none Q acc cenv.locals) s₄) E s₃) E s₂ := by
  refine wpAny_newObj_type (wpAny_newFunctionEnv hcell (by intro y hy; simp at hy) (fun h₁ hns₁ hsb₁ => ?_) hkind)
  dsimp only at hns₁ hsb₁ ⊢
  generalize hH2 : s₂.heap.push { cls := .type "list", dict := none, data := .seq ([] : List Value).toArray } = H2 at hns₁ hsb₁ ⊢
  have hC : H2.objs.size = s₂.heap.objs.size + 1 := by rw [← hH2, Heap.size_push]
  generalize hCe : H2.objs.size = C at hns₁ hsb₁ hC ⊢
  generalize hDe : s₂.heap.objs.size = D at hC ⊢
  have hDC : D ≠ C := by rw [hC]; exact Nat.ne_of_lt (Nat.lt_succ_self _)
  have lt2 : ∀ b, b < s₂.heap.objs.size → b ≠ C ∧ b ≠ D := fun b hb => ⟨by rw [hC]; rw [hDe] at hb; exact Nat.ne_of_lt (Nat.lt_succ_of_lt hb), by rw [hDe] at hb; exact Nat.ne_of_lt hb⟩
  have old2 : ∀ b o, s₂.heap.get? b = some o → b ≠ C ∧ b ≠ D := fun b o e => lt2 b (Heap.lt_size e)
  have hdlt : d ≠ C ∧ d ≠ D := by obtain ⟨ns, ⟨vs, k, e, _⟩, _⟩ := hd; exact old2 _ _ e
  have old : ∀ b o, s₂.heap.get? b = some o → h₁.get? b = some o := fun b o e => hsb₁.extBut b o (old2 b o e).1 (Heap.get?_push_of_some _ (hH2 ▸ Heap.get?_push_of_some _ e))
  have hacc : h₁.PlainList D #[] := ⟨0, hsb₁.extBut _ _ hDC (Heap.get?_push_of_some _ (hH2 ▸ hDe ▸ Heap.get?_push_size _ rfl))⟩
  have hst₁ : St 0 h₁ := W.frame _ _ _ hst fun b _ o e => old b o e
  have hDn : s₂.heap.get? D = none := none_of_size (Le.refl _) (Nat.le_of_eq hDe)
  have hCf : C ∉ fp := fun hm => (lt2 _ (hfp _ hm)).1 rfl
  have hDf : D ∉ fp := fun hm => (lt2 _ (hfp _ hm)).2 rfl
  have hIC : I ≠ C := (lt2 _ hI).1
  have hID : I ≠ D := (lt2 _ hI).2
  have loop : ∀ s₃ : Shared, (∃ tk, s₃ = { s₂ with heap := h₁, toks := tk }) →
      codeAny (model prog w) A (.compLoop (.ListComp elt [⟨.Name x px, iter, [], 0⟩] scope pos) 0 (.ref I) (.ref D) (compEnvC scope cl C env)) (compPost (model prog w) A E none Q (.ref D) C) s₃ := by
    rintro s₃ ⟨tk₀, rfl⟩
    refine codeAny_compLoop_list (fun k s' => ∃ i h m tk ys lines, k + i = n + 1 ∧ i ≤ n ∧ s' = { s₂ with heap := h, toks := tk } ∧ St i h ∧ h.PlainList D ys ∧ StrsAre ys.toList lines ∧ lines.length = i ∧ (∀ y ∈ lines, y ∈ menu) ∧ h.Ns C m ∧
      (∀ b o, b ≠ I → b ≠ d → s₂.heap.get? b = some o → h.get? b = some o) ∧ DeckOk h d) ?_ (n + 1)
      ⟨0, h₁, _, tk₀, #[], [], rfl, Nat.zero_le _, rfl, hst₁, hacc, .nil, rfl, (fun y hy => by cases hy), hns₁, (fun b o _ _ e => old b o e), (let ⟨ns, D', ok⟩ := hd; ⟨ns, D'.le old, ok⟩)⟩
    rintro k s' ⟨i, h, m, tk, ys, lines, hk, hi, rfl, st, hpl, hstr, hlen, hmenu, hns, kp, dk⟩
    by_cases hlt : i < n
    · refine W.item i _ _ _ hlt st fun v h₃ tk₃ hP st₃ hk₃ => ?_
      have hk₃ : ∀ b o, b ≠ I → h.get? b = some o → h₃.get? b = some o := fun b o hb e => hk₃ b o (fun hm => by rcases List.mem_cons.mp hm with e' | hm; (exact hb e'); cases hm) e
      refine wpAny_assign_Name (wpAny_storeName_local (env := compEnvC scope cl C env) (lookup_relabel_local hx) (hns.at' fun o e => hk₃ _ o (Ne.symm hIC) e) (fun h₄ hn₄ sb => ?_) (by simp [compEnvC, relabel, hkind]))
      have sb : ∀ b o, b ≠ C → h₃.get? b = some o → h₄.get? b = some o := fun b o hb e => sb.extBut b o hb e
      have up : ∀ b o, b ≠ I → b ≠ C → h.get? b = some o → h₄.get? b = some o := fun b o hb hb' e => sb b o hb' (hk₃ b o hb e)
      refine wpAny_mono (helt C _ _ _ hn₄ (Ne.symm hdlt.1) (fun b o hb hbd e => up b o hb (old2 b o e).1 (kp b o hb hbd e)) (let ⟨ns, D', ok⟩ := dk; ⟨ns, D'.at' fun o e => up d o hdI hdlt.1 e, ok⟩)) (fun y s₅ q => ?_) fun _ _ e => e
      obtain ⟨⟨z, t, hz, rfl⟩, h₅, tk₅, rfl, kb, dk₅⟩ := q
      have hpl₅ : h₅.PlainList D ys := hpl.at fun o e => kb D o (Ne.symm hdlt.2) (up D o (Ne.symm hID) hDC e)
      have hys : ys.size = lines.length := by have := hstr.length; simpa using this
      refine wpAny_list_append_plain (hsz := by rw [hys, hlen]; have : sizeLine = 16777216 := rfl; omega) hpl₅ fun h₆ hl₆ hs₆ => ?_
      refine ⟨k - 1, by omega, i + 1, h₆, _, tk₅, ys.push (.str z t), lines ++ [z], by omega, by omega, rfl, ?_, hl₆, ?_, ?_, ?_, ((hn₄.at' fun o e => kb C o (Ne.symm hdlt.1) e).sameBut hs₆ (Ne.symm hDC)), ?_, ?_⟩
      · refine W.frame _ _ _ st₃ fun b hb o e => hs₆.extBut b o (fun hm => hDf (hm ▸ hb)) (kb b o (fun hm => hdf (hm ▸ hb)) (sb b o (fun hm => hCf (hm ▸ hb)) e))
      · rw [Array.toList_push]; exact strs_snoc hstr
      · rw [List.length_append, hlen]; rfl
      · intro y hy
        rcases List.mem_append.mp hy with hy | hy
        · exact hmenu y hy
        · rcases List.mem_cons.mp hy with rfl | hy
          · exact hz
          · cases hy
      · intro b o hb hbd e
        exact hs₆.extBut b o (old2 b o e).2 (kb b o hbd (up b o hb (old2 b o e).1 (kp b o hb hbd e)))
      · obtain ⟨ns, D', ok⟩ := dk₅
        exact ⟨ns, D'.at' fun o e => hs₆.extBut d o hdlt.2 e, ok⟩
    · have hin : i = n := by omega
      subst hin
      refine W.done _ _ _ st fun h₃ tk₃ hk₃ => ?_
      have hk₃ : ∀ b o, b ≠ I → h.get? b = some o → h₃.get? b = some o := fun b o hb e => hk₃ b o (fun hm => by rcases List.mem_cons.mp hm with e' | hm; (exact hb e'); cases hm) e
      refine ⟨m, hns.at' fun o e => hk₃ _ o (Ne.symm hIC) e, fun h₄ sb => ?_⟩
      refine hQ D h₄ tk₃ ys lines hDn (hpl.at fun o e => sb.extBut D o hDC (hk₃ D o (Ne.symm hID) e)) hstr hlen hmenu (fun b o hb hbd e => sb.extBut b o (old2 b o e).1 (hk₃ b o hb (kp b o hb hbd e))) ?_
      obtain ⟨ns, D', ok⟩ := dk
      exact ⟨ns, D'.at' fun o e => sb.extBut d o hdlt.1 (hk₃ d o hdI e), ok⟩
  exact codeAny_compStart_list (loop _ ⟨_, rfl⟩) (W.self 0 _ _ _ hst₁ (loop _ ⟨_, rfl⟩))
end
end Mine
open PySem PySem.W PyProof.Rows PySem.Calls
namespace Mine

/-- statements that run as they should (a word of its own, so that the elaborator does not unfold it) -/
structure Wx (prog : Program) (w : World) (A : Around) (body : List Stmt) (env : Env) (Q : Flow → Shared → Prop) (E : Value → Shared → Prop) (s : Shared) : Prop where
  out : wpAny (model prog w) A (execs body env) Q E s
theorem Wx.rest {prog : Program} {w : World} {A : Around} {body rest : List Stmt} {env : Env} {Q : Flow → Shared → Prop} {E : Value → Shared → Prop} {s : Shared} (h : Wx prog w A body env Q E s) (e : body = rest) : wpAny (model prog w) A (execs rest env) Q E s := e ▸ h.out
theorem Wx.rest' {prog : Program} {w : World} {A : Around} {body rest : List Stmt} {env : Env} {Q : Flow → Shared → Prop} {E : Value → Shared → Prop} {s : Shared} (e : body = rest) (h : Wx prog w A rest env Q E s) : Wx prog w A body env Q E s := e ▸ h

noncomputable def turnBody (w : World) : List Stmt := match bodyOf w 155 with
  | [_, .For _ _ b _ _, _, _] => b
  | _ => []

/-- an address that the law's turns never change: not its frame, not a cell, not the deck -/
def Ex (L d b : Addr) : Prop := b ≠ L ∧ b ≠ L + 1 ∧ b ≠ L + 2 ∧ b ≠ L + 3 ∧ b ≠ d
abbrev LeO (L d : Addr) (h h' : Heap) : Prop := ∀ b o, Ex L d b → h.get? b = some o → h'.get? b = some o
theorem LeO.of {L d : Addr} {h h' : Heap} (k : Le h h') : LeO L d h h' := fun b o _ e => k b o e
theorem LeO.trans {L d : Addr} {a b c : Heap} (x : LeO L d a b) (y : LeO L d b c) : LeO L d a c := fun i o hi e => y i o hi (x i o hi e)
theorem LeO.but {L d : Addr} {h h' : Heap} (k : LeBut d h h') : LeO L d h h' := fun b o hb e => k b o hb.2.2.2.2 e
theorem LeO.same {L d a : Addr} {h h' : Heap} (k : Heap.SameBut a h h') (ha : ¬ Ex L d a) : LeO L d h h' := fun b o hb e => (k.2 b (fun q => ha (q ▸ hb))).trans e
theorem ex_L {L d : Addr} : ¬ Ex L d L := fun h => h.1 rfl
theorem ex_1 {L d : Addr} : ¬ Ex L d (L + 1) := fun h => h.2.1 rfl
theorem ex_2 {L d : Addr} : ¬ Ex L d (L + 2) := fun h => h.2.2.1 rfl
theorem ex_3 {L d : Addr} : ¬ Ex L d (L + 3) := fun h => h.2.2.2.1 rfl

theorem nA1 (L : Nat) : L + 1 ≠ L := by omega
theorem nA2 (L : Nat) : L + 2 ≠ L := by omega
theorem nA3 (L : Nat) : L + 3 ≠ L := by omega
theorem nB12 (L : Nat) : L + 1 ≠ L + 2 := by omega
theorem nB32 (L : Nat) : L + 3 ≠ L + 2 := by omega
theorem nB13 (L : Nat) : L + 1 ≠ L + 3 := by omega
theorem nB23 (L : Nat) : L + 2 ≠ L + 3 := by omega
/-- the law's own state at a place of a turn -/
structure LS (w : World) (g gg : Heap) (L d : Addr) (c2 c3 : Option Value) (m : Str → Option Value) (h : Heap) : Prop where
  B : Bs w g
  keep : Le g h
  kO : LeO L d gg h
  gL : g.objs.size ≤ L
  gd : g.get? d = none
  ns : h.Ns L m
  c1 : h.IsCell (L + 1) (some (.ref d))
  c2 : h.IsCell (L + 2) c2
  c3 : h.IsCell (L + 3) c3
  deck : DeckOk h d
  dL : d ≠ L ∧ d ≠ L + 1 ∧ d ≠ L + 2 ∧ d ≠ L + 3

section
variable {prog : Program} {w : World} {A : Around} {g gg h h' : Heap} {L d : Addr} {c2 c3 : Option Value} {m : Str → Option Value}
theorem LS.Bh (S : LS w g gg L d c2 c3 m h) : Bs w h := S.B.le S.keep
theorem LS.le (S : LS w g gg L d c2 c3 m h) (k : Le h h') : LS w g gg L d c2 c3 m h' :=
  { S with keep := Le.trans S.keep k, kO := S.kO.trans (.of k), ns := S.ns.keeps k, c1 := S.c1.keeps k, c2 := S.c2.keeps k, c3 := S.c3.keeps k, deck := let ⟨ns, D, o⟩ := S.deck; ⟨ns, D.le k, o⟩ }
/-- a draw: the deck alone has changed -/
theorem LS.draw (S : LS w g gg L d c2 c3 m h) (k : LeBut d h h') (dk : DeckOk h' d) : LS w g gg L d c2 c3 m h' :=
  { S with keep := LeBut.ground S.keep S.gd k, kO := S.kO.trans (.but k), ns := S.ns.at' fun o e => k L o (Ne.symm S.dL.1) e,
           c1 := let ⟨o, e, r⟩ := S.c1; ⟨o, k _ _ (Ne.symm S.dL.2.1) e, r⟩, c2 := let ⟨o, e, r⟩ := S.c2; ⟨o, k _ _ (Ne.symm S.dL.2.2.1) e, r⟩, c3 := let ⟨o, e, r⟩ := S.c3; ⟨o, k _ _ (Ne.symm S.dL.2.2.2) e, r⟩, deck := dk }
theorem LS.gne (S : LS w g gg L d c2 c3 m h) {b : Addr} {o : Obj} (e : g.get? b = some o) : b < L := Nat.lt_of_lt_of_le (Heap.lt_size e) S.gL
/-- the frame has been stored into -/
theorem LS.store (S : LS w g gg L d c2 c3 m h) {m' : Str → Option Value} (n : h'.Ns L m') (k : Heap.SameBut L h h') : LS w g gg L d c2 c3 m' h' :=
  { S with keep := fun b o e => (k.2 b (Nat.ne_of_lt (S.gne e))).trans (S.keep b o e), kO := S.kO.trans (.same k ex_L), ns := n,
           c1 := S.c1.sameBut k (nA1 L), c2 := S.c2.sameBut k (nA2 L), c3 := S.c3.sameBut k (nA3 L), deck := let ⟨ns, D, o⟩ := S.deck; ⟨ns, D.at' fun o e => (k.2 d S.dL.1).trans e, o⟩ }
theorem LS.store2 (S : LS w g gg L d c2 c3 m h) {v : Option Value} (n : h'.IsCell (L + 2) v) (k : Heap.SameBut (L + 2) h h') : LS w g gg L d v c3 m h' :=
  { S with keep := fun b o e => (k.2 b (Nat.ne_of_lt (Nat.lt_trans (S.gne e) (Nat.lt_add_of_pos_right (by decide))))).trans (S.keep b o e), kO := S.kO.trans (.same k ex_2), ns := S.ns.sameBut k (Ne.symm (nA2 L)),
           c1 := S.c1.sameBut k (nB12 L), c2 := n, c3 := S.c3.sameBut k (nB32 L), deck := let ⟨ns, D, o⟩ := S.deck; ⟨ns, D.at' fun o e => (k.2 d S.dL.2.2.1).trans e, o⟩ }
theorem LS.store3 (S : LS w g gg L d c2 c3 m h) {v : Option Value} (n : h'.IsCell (L + 3) v) (k : Heap.SameBut (L + 3) h h') : LS w g gg L d c2 v m h' :=
  { S with keep := fun b o e => (k.2 b (Nat.ne_of_lt (Nat.lt_trans (S.gne e) (Nat.lt_add_of_pos_right (by decide))))).trans (S.keep b o e), kO := S.kO.trans (.same k ex_3), ns := S.ns.sameBut k (Ne.symm (nA3 L)),
           c1 := S.c1.sameBut k (nB13 L), c2 := S.c2.sameBut k (nB23 L), c3 := n, deck := let ⟨ns, D, o⟩ := S.deck; ⟨ns, D.at' fun o e => (k.2 d S.dL.2.2.2).trans e, o⟩ }
/-- what is new is none of these -/
theorem LS.new (S : LS w g gg L d c2 c3 m h) {b : Addr} (e : h.get? b = none) : Ex L d b := by
  obtain ⟨oL, _, _, hL, _⟩ := S.ns
  obtain ⟨o1, h1, _⟩ := S.c1
  obtain ⟨o2, h2, _⟩ := S.c2
  obtain ⟨o3, h3, _⟩ := S.c3
  obtain ⟨ns, ⟨vs, k, hd, _⟩, _⟩ := S.deck
  refine ⟨?_, ?_, ?_, ?_, ?_⟩ <;> rintro rfl <;> simp_all

theorem k155 : (fdOf w 155).scope.kind = .function := by kernel_rfl
theorem cells155 {L : Addr} : cellsFrom (L + 1) (fdOf w 155).scope.names [] = [(Str.ofString "_law_at", L + 3), (Str.ofString "_law_lines", L + 2), (Str.ofString "_law_deck", L + 1)] := by kernel_rfl

/-- the deck, the lines, the place: out of their cells -/
theorem e_deck {h : Heap} {pos : Pos} (S : LS w g gg L d c2 c3 m h) : Gv prog w A (eval (.Name (Str.ofString "_law_deck") pos) (envG w 155 L)) h (isV (.ref d)) := ev_cell S.c1 (by kernel_rfl) (by kernel_rfl) (by kernel_rfl) rfl
theorem e_lines {h : Heap} {pos : Pos} {v : Value} (S : LS w g gg L d (some v) c3 m h) : Gv prog w A (eval (.Name (Str.ofString "_law_lines") pos) (envG w 155 L)) h (isV v) := ev_cell S.c2 (by kernel_rfl) (by kernel_rfl) (by kernel_rfl) rfl
theorem e_at {h : Heap} {pos : Pos} {v : Value} (S : LS w g gg L d c2 (some v) m h) : Gv prog w A (eval (.Name (Str.ofString "_law_at") pos) (envG w 155 L)) h (isV v) := ev_cell S.c3 (by kernel_rfl) (by kernel_rfl) (by kernel_rfl) rfl
theorem e_drawf {h : Heap} {pos : Pos} (B : Bs w h) : Gv prog w A (eval (.Name (Str.ofString "_law_draw") pos) (envG w 155 L)) h (isV (.ref 128)) := ev_glob B g_draw (by kernel_rfl) (by kernel_rfl) (by kernel_rfl) rfl

/-- a draw in the law's own frame -/
theorem l_draw {p₁ p₂ pos : Pos} {e : Expr} {many : Int} {s : Shared} {Q E : Value → Shared → Prop} (l : Lv 4 A) (S : LS w g gg L d c2 c3 m s.heap) (hm : 0 < many) (hs : many < 1073741824)
    (ge : Gv prog w A (eval e (envG w 155 L)) s.heap (isI many))
    (q : ∀ r t h' tk, 0 ≤ r → r < many → LS w g gg L d c2 c3 m h' → LeBut d s.heap h' → Q (.int r t) { s with heap := h', toks := tk })
    (h₁ : starEach [.Name (Str.ofString "_law_deck") p₂, e] (envG w 155 L) = (false, eval (.Name (Str.ofString "_law_deck") p₂) (envG w 155 L)) :: starEach [e] (envG w 155 L)) (h₂ : starEach [e] (envG w 155 L) = (false, eval e (envG w 155 L)) :: starEach [] (envG w 155 L)) (hp : ((backTo pos (starEach [e] (envG w 155 L))).any (·.1)) = false)
    (hc : eval (.Call (.Name (Str.ofString "_law_draw") p₁) [.Name (Str.ofString "_law_deck") p₂, e] [] pos) (envG w 155 L) = (do callWith pos (← eval (.Name (Str.ofString "_law_draw") p₁) (envG w 155 L)) [] (backTo pos (starEach [.Name (Str.ofString "_law_deck") p₂, e] (envG w 155 L))) (backToKw pos (keywordEach [] (envG w 155 L))))) :
    wpAny (model prog w) A (eval (.Call (.Name (Str.ofString "_law_draw") p₁) [.Name (Str.ofString "_law_deck") p₂, e] [] pos) (envG w 155 L)) Q E s := by
  obtain ⟨ns, D, ok⟩ := S.deck
  exact w_draw l S.B S.keep S.gd D ok hm hs (e_drawf S.Bh) (e_deck S) ge (fun r t h' tk ns' a b c e f => q r t h' tk a b (S.draw f ⟨ns', e, c⟩) f) h₁ h₂ hp hc
end

def menuL : List Str := [Str.ofString "", Str.ofString "a", Str.ofString "b  ", Str.ofString " ", Str.ofString "\t", Str.ofString "c d "]

/-- a list that the turns leave alone -/
def XL (L d : Addr) (h : Heap) (l : Addr) (vs : List Value) : Prop := Ex L d l ∧ h.IsList l vs.toArray
theorem XL.le {L d l : Addr} {h h' : Heap} {vs : List Value} (X : XL L d h l vs) (k : LeO L d h h') : XL L d h' l vs := ⟨X.1, let ⟨o, e, r⟩ := X.2; ⟨o, k _ _ X.1 e, r⟩⟩
/-- a row that the turns leave alone -/
def XR (L d : Addr) (h : Heap) (x : Addr) (codes : List Int) (first : Int) : Prop :=
  ∃ (dx c : Addr) (h1 h2 : Int) (t1 t2 tk : Tok) (n : Nat) (vs : List Value), Ex L d x ∧ Ex L d dx ∧ Ex L d c ∧ h.get? x = some (instObj 117 dx) ∧
    h.get? dx = some (dictOf [⟨h1, .str (Str.ofString "codes") t1, .ref c⟩, ⟨h2, .str (Str.ofString "place") t2, .int first tk⟩] n) ∧ h.IsList c vs.toArray ∧ IntsAre vs codes ∧ codes.length < 2 ^ 20
theorem XR.le {L d x : Addr} {h h' : Heap} {codes : List Int} {first : Int} (X : XR L d h x codes first) (k : LeO L d h h') : XR L d h' x codes first := by
  obtain ⟨dx, c, h1, h2, t1, t2, tk, n, vs, a₁, a₂, a₃, a, b, ⟨o, l⟩, r⟩ := X
  exact ⟨dx, c, h1, h2, t1, t2, tk, n, vs, a₁, a₂, a₃, k _ _ a₁ a, k _ _ a₂ b, ⟨o, k _ _ a₃ l.1, l.2⟩, r⟩
theorem XR.row {L d x : Addr} {h : Heap} {codes : List Int} {first : Int} (X : XR L d h x codes first) : RowAt h x codes first := by
  obtain ⟨dx, c, h1, h2, t1, t2, tk, n, vs, a₁, a₂, a₃, r⟩ := X
  exact ⟨dx, c, h1, h2, t1, t2, tk, n, vs, r⟩
/-- a pair that the turns leave alone -/
def XT (L d : Addr) (h : Heap) (q : Addr) (a b : Value) : Prop := Ex L d q ∧ h.get? q = some { cls := .type "tuple", data := .seq #[a, b] }
theorem XT.le {L d q : Addr} {h h' : Heap} {a b : Value} (X : XT L d h q a b) (k : LeO L d h h') : XT L d h' q a b := ⟨X.1, k _ _ X.1 X.2⟩

section
variable {prog : Program} {w : World} {A : Around} {g gg h : Heap} {L d : Addr} {c2 c3 : Option Value} {m : Str → Option Value} {s : Shared} {Q : Flow → Shared → Prop} {E : Value → Shared → Prop}

theorem LS.tup (S : LS w g gg L d c2 c3 m h) {q : Addr} {a b : Value} (e : h.get? q = some { cls := .type "tuple", data := .seq #[a, b] }) : XT L d h q a b := by
  refine ⟨?_, e⟩
  obtain ⟨oL, _, _, hL, r⟩ := S.ns
  obtain ⟨o1, h1, r1⟩ := S.c1
  obtain ⟨o2, h2, r2⟩ := S.c2
  obtain ⟨o3, h3, r3⟩ := S.c3
  obtain ⟨ns, ⟨vs, k, hd, _⟩, _⟩ := S.deck
  refine ⟨?_, ?_, ?_, ?_, ?_⟩ <;> rintro rfl
  · rw [e] at hL; cases hL; simp_all
  · rw [e] at h1; cases h1; simp_all
  · rw [e] at h2; cases h2; simp_all
  · rw [e] at h3; cases h3; simp_all
  · rw [e] at hd; have hd := congrArg (fun o => o.cls) (Option.some.inj hd); simp [W.listOf] at hd

/-- one of the frame's own names is bound -/
theorem t_assign {x : Str} {p' pos : Pos} {e : Expr} {rest : List Stmt} {P : Heap → Value → Prop} (S : LS w g gg L d c2 c3 m s.heap) (g' : Gv prog w A (eval e (envG w 155 L)) s.heap P) (hl : (envG w 155 L).kindOf x = some .local)
    (hs : swapsWith e (some (.Name x p')) pos.line (envG w 155 L) = pure false)
    (q : ∀ v h₁ h' tk, Le s.heap h₁ → P h₁ v → LS w g gg L d c2 c3 m h₁ → LS w g gg L d c2 c3 (fun y => if y = x then some v else m y) h' → LeO L d h₁ h' → LeO L d s.heap h' → Wx prog w A rest (envG w 155 L) Q E { s with heap := h', toks := tk }) :
    wpAny (model prog w) A (execs (.Assign [.Name x p'] e pos :: rest) (envG w 155 L)) Q E s :=
  wpAny_execs_cons (wpAny_Assign_Name (g'.use (Le.refl _) fun v s' k p => by
    obtain ⟨h₁, tk, rfl, hk'⟩ := k
    exact wpAny_storeName_local hl (S.le hk').ns (fun h' hn hsb => (q v h₁ h' _ hk' p (S.le hk') ((S.le hk').store hn hsb) (.same hsb ex_L) ((LeO.of hk').trans (.same hsb ex_L))).out) (by rw [show (envG w 155 L).scope.kind = _ from k155 (w := w)]; rfl)) hs)
end
end Mine
open PySem PySem.W PyProof.Rows PySem.Calls
namespace Mine
section
variable {prog : Program} {w : World} {A : Around} {h : Heap} {env : Env} {s : Shared} {E : Value → Shared → Prop}
theorem strs_cons_q {x : Str} {xs : List Str} {vs : List Value} (q : ∃ v r, vs = v :: r ∧ (∃ t, v = .str x t) ∧ StrsAre r xs) : StrsAre vs (x :: xs) := by
  obtain ⟨v, r, rfl, ⟨t, rfl⟩, hr⟩ := q; exact .cons _ _ hr
theorem gs_str {x : Str} {k : Nat} {p pos : Pos} {rest : List Expr} {xs : List Str} (g₂ : Gv prog w A (spliced (backTo pos (starEach rest env))) h (fun _ vs => StrsAre vs xs))
    (hs : starEach (.Constant (.str x) k p :: rest) env = (false, eval (.Constant (.str x) k p) env) :: starEach rest env) :
    Gv prog w A (spliced (backTo pos (starEach (.Constant (.str x) k p :: rest) env))) h (fun _ vs => StrsAre vs (x :: xs)) :=
  (gs_cons (P := fun v => ∃ t, v = .str x t) (R := fun r => StrsAre r xs) ev_str g₂ hs).to fun _ _ q => strs_cons_q q
theorem gs_strs_nil {pos : Pos} : Gv prog w A (spliced (backTo pos (starEach [] env))) h (fun _ vs => StrsAre vs []) := gs_nil.to fun _ _ e => by rw [e]; exact .nil
theorem ev_strs {es : List Expr} {pos : Pos} {xs : List Str} (g : Gv prog w A (spliced (backTo pos (starEach es env))) h (fun _ vs => StrsAre vs xs)) (hx : xs.length ≤ sizeLine) :
    Gv prog w A (eval (.List es pos) env) h (fun h' v => ∃ D vs, v = .ref D ∧ h.get? D = none ∧ h'.IsList D (List.toArray vs) ∧ StrsAre vs xs) := fun s E k =>
  List_ (g.use k fun vs s₁ k₁ q => wpAny_newObj_type ⟨keeps_trans k₁ (keeps_mk (Le.push _ _)), _, vs, rfl, none_of_size (k.trans (keeps_le k₁)) (Nat.le_refl _), ⟨_, Heap.get?_push_size _ rfl, rfl, 0, rfl⟩, q⟩ (by show vs.length ≤ sizeLine; rw [q.len_eq]; exact hx))
end

section
variable {prog : Program} {w : World} {A : Around} {g gg : Heap} {L d : Addr} {c2 c3 : Option Value} {m : Str → Option Value} {s : Shared} {Q : Flow → Shared → Prop} {E : Value → Shared → Prop}

set_option maxHeartbeats 4000000 in
theorem turn1 (l : Lv 14 A) (S : LS w g gg L d c2 c3 m s.heap)
    (q : ∀ ll vl lines h' tk, LS w g gg L d (some (.ref ll)) c3 m h' → XL L d h' ll vl → StrsAre vl lines → 1 ≤ lines.length → lines.length ≤ 5 → (∀ y ∈ lines, y ∈ menuL) →
      Wx prog w A ((turnBody w).drop 1) (envG w 155 L) Q E { s with heap := h', toks := tk }) :
    Wx prog w A (turnBody w) (envG w 155 L) Q E s := by
  refine Wx.mk ?_
  refine wpAny_execs_cons ?_
  refine wpAny_Assign_Name ?_ (by kernel_rfl)
  rw [eval_ListComp]
  refine wpAny_comprehension_free (use := none) rfl (fun _ => rfl) (cl := [(Str.ofString "_law_deck", L + 1)]) (by kernel_rfl) rfl (by decide) ?_
  refine Call_ ?_ ?_
  rotate_left
  · kernel_rfl
  refine (ev_bin (v := .type "range") S.Bh (by kernel_rfl) (by kernel_rfl) (by decide) (by kernel_rfl) (by kernel_rfl) (by kernel_rfl) (by kernel_rfl) rfl).use (Le.refl _) fun u s₁ k₁ p => ?_
  cases p
  obtain ⟨h₁, tk₁, rfl, k₁⟩ := k₁
  have S₁ := S.le k₁
  dsimp only at S₁ ⊢
  refine PyProof.Rows.callWith_type1 ?_ ?_ ?_
  rotate_left
  · kernel_rfl
  · kernel_rfl
  refine wpAny_items_cons ?_ ?_
  rotate_left
  · kernel_rfl
  refine wpAny_BinOp ?_
  refine ev_int.use (Le.refl _) fun u s₂ k₂ p => ?_
  obtain ⟨t₂, rfl⟩ := p
  obtain ⟨h₂, tk₂, rfl, k₂⟩ := k₂
  have S₂ := S₁.le k₂
  dsimp only at S₂ ⊢
  refine l_draw (many := 5) (l.mono (by omega)) S₂ (by decide) (by decide) ev_int (fun r t h₃ tk₃ hr0 hr5 S₃ kb₃ => ?_) ?_ ?_ ?_ ?_
  rotate_left
  · kernel_rfl
  · kernel_rfl
  · kernel_rfl
  · kernel_rfl
  refine add_int (wpAny_items_nil (call_range_1 ?_))
  refine wpAny_pyIter_range (IsRange.new ..) (small_one (by decide) (by decide) (by omega) (by omega)) ?_
  dsimp only
  have hn : ((1 + r).toNat : Int) = 1 + r := by omega
  have hn1 : 1 ≤ (1 + r).toNat := by omega
  have hn5 : (1 + r).toNat ≤ 5 := by omega
  have hsz : Builtin.Range.rangeSize 0 (1 + r) 1 = (1 + r) := by rw [rangeSize_one]; split <;> omega
  generalize hH : (h₃.push { cls := .type "range", data := .fields #[.int 0 _, .int (1 + r) _, .int 1 _] }) = H₄
  have k₄ : Le h₃ H₄ := by rw [← hH]; exact Le.push _ _
  have hI4 := Heap.get?_push_size H₄ (o := { cls := .type "range_iterator", data := .fields #[rawInt 0, rawInt (Builtin.Range.rangeSize 0 (1 + r) 1), rawInt 1] }) rfl
  generalize hH5 : (H₄.push { cls := .type "range_iterator", data := .fields #[rawInt 0, rawInt (Builtin.Range.rangeSize 0 (1 + r) 1), rawInt 1] }) = H₅ at hI4 ⊢
  have k₅ : Le H₄ H₅ := by rw [← hH5]; exact Le.push _ _
  have S₄ := S₃.le k₄
  have S₅ := S₄.le k₅
  have hIn : H₄.get? H₄.objs.size = none := none_of_size (Le.refl _) (Nat.le_refl _)
  have xI := S₄.new hIn
  generalize H₄.objs.size = I at hI4 xI hIn ⊢
  have hit : IsRangeIter H₅ I 0 ((1 + r).toNat : Int) 1 := by rw [hn, ← hsz]; exact hI4
  refine comp_draws (d := d) (fp := [I]) (menu := menuL) (Walks.range (prog := prog) (w := w) l.hh I 0 1 (1 + r).toNat) (by omega) (by decide) rfl rfl ?_ ?_ (Heap.lt_size hI4) S₅.deck (fun hm => ?_) (Ne.symm xI.2.2.2.2) ?_ ?_
  · show IsRangeIter _ _ _ _ _
    simpa using hit
  · intro b hb
    rcases List.mem_cons.mp hb with rfl | hb
    · exact Heap.lt_size hI4
    · cases hb
  · rcases List.mem_cons.mp hm with e | hm
    · exact xI.2.2.2.2 e.symm
    · cases hm
  · intro C s₆ m₆ E' hC hCd hk dk
    have B₆ : Bs w s₆.heap := S.B.le fun b o e => hk b o (fun hb => by rw [hb] at e; rw [S₄.keep _ _ e] at hIn; cases hIn) (fun hb => by rw [hb, S.gd] at e; cases e) (S₅.keep _ _ e)
    have kg : Le g s₆.heap := fun b o e => hk b o (fun hb => by rw [hb] at e; rw [S₄.keep _ _ e] at hIn; cases hIn) (fun hb => by rw [hb, S.gd] at e; cases e) (S₅.keep _ _ e)
    have c1 : s₆.heap.IsCell (L + 1) (some (.ref d)) := let ⟨o, e, r⟩ := S₅.c1; ⟨o, hk _ _ (Ne.symm xI.2.1) (Ne.symm S.dL.2.1) e, r⟩
    refine w_call2 (R₁ := isV (.ref d)) (R₂ := fun h' v => ∃ D vs, v = .ref D ∧ s₆.heap.get? D = none ∧ h'.IsList D (List.toArray vs) ∧ StrsAre vs menuL) mono_const B₆ ?_ kp_140 ?_ ?_ (fun v₁ v₂ s₇ k₇ p₁ p₂ => ?_) ?_ ?_ ?_ ?_
    · refine ev_glob B₆ g_one ?_ ?_ ?_ rfl <;> kernel_rfl
    · refine ev_cell c1 ?_ ?_ ?_ rfl <;> kernel_rfl
    · refine ev_strs (xs := menuL) ?_ (by decide)
      refine gs_str ?_ ?_
      rotate_left
      · kernel_rfl
      refine gs_str ?_ ?_
      rotate_left
      · kernel_rfl
      refine gs_str ?_ ?_
      rotate_left
      · kernel_rfl
      refine gs_str ?_ ?_
      rotate_left
      · kernel_rfl
      refine gs_str ?_ ?_
      rotate_left
      · kernel_rfl
      refine gs_str ?_ ?_
      rotate_left
      · kernel_rfl
      exact gs_strs_nil
    rotate_left
    · kernel_rfl
    · kernel_rfl
    · kernel_rfl
    · kernel_rfl
    cases p₁
    obtain ⟨D, vs, rfl, hD, hl, hs⟩ := p₂
    obtain ⟨h₇, tk₇, rfl, k₇⟩ := k₇
    obtain ⟨ns, DA, ok⟩ := dk
    have DA₇ := DA.le k₇
    have hDd : D ≠ d := fun e => by obtain ⟨_, _, e', _⟩ := DA; rw [← e, hD] at e'; cases e'
    have hlen : vs.length = 6 := hs.len_eq
    refine f_one (l.mono (by omega)) S.B (Le.trans kg k₇) S.gd DA₇ ok hl hDd (by intro e; rw [e] at hlen; cases hlen) (by omega) fun r v h₈ tk₈ ns' hv ok' D' kb => ?_
    obtain ⟨y, t, rfl, hy⟩ := hs.item _ _ hv
    exact ⟨⟨y, t, List.mem_of_getElem? hy, rfl⟩, h₈, tk₈, rfl, (LeBut.of k₇).trans kb, ns', D', ok'⟩
  · intro D h₆ tk₆ ys lines hD hpl hstr hlen hmenu hk dk
    have hkL : ∀ b o, Ex L d b → H₄.get? b = some o → h₆.get? b = some o := fun b o hb e => hk b o (fun e' => by rw [e', hIn] at e; cases e) hb.2.2.2.2 (k₅ _ _ e)
    have nI : ∀ b o, H₄.get? b = some o → b ≠ I := fun b o e e' => by rw [e', hIn] at e; cases e
    have S₆ : LS w g gg L d c2 c3 m h₆ :=
      { S₅ with keep := fun b o e => hk b o (nI b o (S₄.keep _ _ e)) (fun hb => by rw [hb, S.gd] at e; cases e) (S₅.keep _ _ e), kO := S₄.kO.trans hkL, ns := S₅.ns.at' fun o e => hk _ _ (Ne.symm xI.1) (Ne.symm S.dL.1) e,
                c1 := let ⟨o, e, r⟩ := S₅.c1; ⟨o, hk _ _ (Ne.symm xI.2.1) (Ne.symm S.dL.2.1) e, r⟩, c2 := let ⟨o, e, r⟩ := S₅.c2; ⟨o, hk _ _ (Ne.symm xI.2.2.1) (Ne.symm S.dL.2.2.1) e, r⟩, c3 := let ⟨o, e, r⟩ := S₅.c3; ⟨o, hk _ _ (Ne.symm xI.2.2.2.1) (Ne.symm S.dL.2.2.2) e, r⟩, deck := dk }
    refine wpAny_storeName_cell ?_ ?_ ?_ S₆.c2 fun h₇ hc sb => ?_
    · kernel_rfl
    · kernel_rfl
    · kernel_rfl
    refine Wx.rest (body := (turnBody w).drop 1) ?_ ?_
    rotate_left
    · kernel_rfl
    dsimp only at sb
    have S₇ := S₆.store2 hc sb
    have X₆ : XL L d h₆ D ys.toList := ⟨S₅.new hD, by rw [Array.toArray_toList]; exact hpl.isList⟩
    have X₇ := X₆.le (LeO.same (d := d) sb ex_2)
    have e1 : 1 ≤ lines.length := by rw [hlen]; exact hn1
    have e5 : lines.length ≤ 5 := by rw [hlen]; exact hn5
    exact q D ys.toList lines h₇ tk₆ S₇ X₇ hstr e1 e5 hmenu
end
end Mine
open PySem PySem.W PyProof.Rows PySem.Calls
namespace Mine
section
variable {prog : Program} {w : World} {A : Around} {g gg h : Heap} {L d : Addr} {c2 c3 : Option Value} {m : Str → Option Value} {s : Shared} {Q : Flow → Shared → Prop} {E : Value → Shared → Prop}

/-- a pair is taken apart into two of the frame's own names -/
theorem t_pair {y z : Str} {q : Addr} {a b : Value} {Q : Unit → Shared → Prop} (hh : A.handled = none) (S : LS w g gg L d c2 c3 m s.heap) (e : s.heap.get? q = some { cls := .type "tuple", data := .seq #[a, b] })
    (hy : (envG w 155 L).kindOf y = some .local) (hz : (envG w 155 L).kindOf z = some .local)
    (k : ∀ h' tk, LS w g gg L d c2 c3 (fun u => if u = y then some a else if u = z then some b else m u) h' → LeO L d s.heap h' → Q () { s with heap := h', toks := tk }) :
    wpAny (model prog w) A (unpackItems (.ref q) [y, z].length none) (fun items s₂ => wpAny (model prog w) A (assignInOrder ([y, z].reverse.map fun n => bindName (envG w 155 L) n) items.reverse) Q E s₂) E s := by
  refine unpackItems_tuple hh (items := #[a, b]) ⟨_, e, rfl, 0, rfl⟩ fun h₂ x₂ => ?_
  have l₂ : Le s.heap h₂ := le_of_ext x₂
  have S₂ := S.le l₂
  have hp : ∀ L' : Addr, ((envG w 155 L).scope.kind == .class || ((envG w 155 L).scope.kind == .module && L' != (envG w 155 L).globals)) = false := fun L' => by rw [show (envG w 155 L).scope.kind = _ from k155 (w := w)]; rfl
  refine wpAny_bind (wpAny_holding (wpAny_bindName (wpAny_storeName_local hz S₂.ns (fun h₃ n₃ s₃ => ?_) (hp _))))
  have S₃ := S₂.store n₃ s₃
  refine wpAny_bind (wpAny_holding (wpAny_bindName (wpAny_storeName_local hy S₃.ns (fun h₄ n₄ s₄ => ?_) (hp _))))
  exact wpAny_pure (k h₄ _ (S₃.store n₄ s₄) (((LeO.of l₂).trans (.same s₃ ex_L)).trans (.same s₄ ex_L)))

theorem menu_len : ∀ {lines : List Str}, (∀ y ∈ lines, y ∈ menuL) → (lines.map (·.length)).sum ≤ 4 * lines.length
  | [], _ => by simp
  | y :: r, h => by
    have ih := menu_len (lines := r) fun z hz => h z (.tail _ hz)
    have hy : y.length ≤ 4 := by
      have : ∀ z ∈ menuL, z.length ≤ 4 := by decide
      exact this y (h y (.head _))
    rw [List.map_cons, List.sum_cons, List.length_cons]; omega

def textOf (lines : List Str) : Str := Txt.join (Str.ofString "\n") lines

set_option maxHeartbeats 4000000 in
theorem turn2 {ll : Addr} {vl : List Value} {lines : List Str} (l : Lv 14 A) (S : LS w g gg L d (some (.ref ll)) c3 m s.heap) (X : XL L d s.heap ll vl) (hs : StrsAre vl lines) (h5 : lines.length ≤ 5) (hm : ∀ y ∈ lines, y ∈ menuL)
    (q : ∀ r t t₂ h' tk, 0 ≤ r → r < 3 → LS w g gg L d (some (.ref ll)) c3 (fun u => if u = Str.ofString "_law_text" then some (.str (textOf lines) t) else if u = Str.ofString "_law_first" then some (.int (1 + r) t₂) else m u) h' → XL L d h' ll vl →
      Wx prog w A ((turnBody w).drop 2) (envG w 155 L) Q E { s with heap := h', toks := tk }) :
    Wx prog w A ((turnBody w).drop 1) (envG w 155 L) Q E s := by
  refine Wx.mk ?_
  refine wpAny_execs_cons ?_
  refine Assign_Tuple_swapped (names := [Str.ofString "_law_text", Str.ofString "_law_first"]) ?_ (by kernel_rfl) (by kernel_rfl)
  refine Tuple_ ?_
  refine wpAny_items_cons ?_ ?_
  rotate_left
  · kernel_rfl
  refine Call_method1 ?_ ?_ ?_ ?_
  · kernel_rfl
  · kernel_rfl
  · kernel_rfl
  refine ev_str.use (Le.refl _) fun u s₁ k₁ p => ?_
  obtain ⟨t, rfl⟩ := p
  obtain ⟨h₁, tk₁, rfl, k₁⟩ := k₁
  have S₁ := S.le k₁
  refine SB.join ((e_lines S₁).use (Le.refl _) fun u s₂ k₂ p => ?_)
  cases p
  obtain ⟨h₂, tk₂, rfl, k₂⟩ := k₂
  have S₂ := S₁.le k₂
  have X₂ := X.le (.of (Le.trans k₁ k₂))
  obtain ⟨ls, hv, ht⟩ := strsAre_values hs
  have hml := menu_len hm
  refine ⟨ll, ls, rfl, by rw [← hv]; exact X₂.2, lines, ht, joinOk_of ?_, fun t' k => ?_⟩
  · have : (Str.ofString "\n").length = 1 := rfl
    rw [this]; omega
  refine wpAny_items_cons ?_ ?_
  rotate_left
  · kernel_rfl
  refine wpAny_BinOp ?_
  refine ev_int.use (Le.refl _) fun u s₃ k₃ p => ?_
  obtain ⟨t₃, rfl⟩ := p
  obtain ⟨h₃, tk₃, rfl, k₃⟩ := k₃
  have S₃ := S₂.le k₃
  refine l_draw (many := 3) (l.mono (by omega)) S₃ (by decide) (by decide) ev_int (fun r t₄ h₄ tk₄ hr0 hr3 S₄ kb₄ => ?_) rfl rfl rfl rfl
  refine add_int (wpAny_items_nil (wpAny_newObj_type ?_ (by show 2 ≤ sizeLine; decide)))
  have S₅ := S₄.le (Le.push h₄ { cls := .type "tuple", data := .seq #[.str (textOf lines) t', .int (1 + r) tk₄] })
  refine t_pair l.hh S₅ (Heap.get?_push_size _ rfl) (by kernel_rfl) (by kernel_rfl) fun h₆ tk₆ S₆ k₆ => ?_
  refine Wx.rest (body := (turnBody w).drop 2) ?_ ?_
  rotate_left
  · kernel_rfl
  exact q r t' tk₄ h₆ tk₆ hr0 hr3 S₆ (((X₂.le (.of k₃)).le (.but kb₄)).le ((LeO.of (Le.push _ _)).trans k₆))
end
end Mine
open PySem PySem.W PyProof.Rows PySem.Calls
namespace Mine

def stI (lines : List Str) (k : Nat) : Int := ((lines.take k).map fun y => (y.length : Int) + 1).sum
def stsI (lines : List Str) : List Int := (List.range' 0 lines.length).map (stI lines)

theorem paired_lens : ∀ {vs ys : List Value} {ls : List Str}, StrsAre vs ls → Paired (fun v y => ∀ s t, v = .str s t → ∃ t', y = .int ((s.length : Int) + 1) t') vs ys → IntsAre ys (ls.map fun y => (y.length : Int) + 1)
  | _, _, _, .nil, .nil => .nil
  | _, _, _, .cons y t hs, .cons hF hp => by
    obtain ⟨t', rfl⟩ := hF _ _ rfl
    exact .cons _ _ (paired_lens hs hp)
theorem paired_starts (f : Nat → Int) : ∀ {vs ys : List Value} (k : Nat), Paired (fun v y => ∀ (i : Nat) t, v = .int (i : Int) t → ∃ t', y = .int (f i) t') vs ys → (∀ (j : Nat) v, vs[j]? = some v → ∃ t, v = .int ((k + j : Nat) : Int) t) → IntsAre ys ((List.range' k vs.length).map f)
  | _, _, _, .nil, _ => .nil
  | _, _, k, .cons hF hp, h => by
    obtain ⟨t, e⟩ := h 0 _ rfl
    obtain ⟨t', rfl⟩ := hF _ _ e
    rw [List.length_cons, List.range'_succ, List.map_cons]
    refine .cons _ _ (paired_starts f (k + 1) hp fun j v' e' => ?_)
    obtain ⟨t₂, e₂⟩ := h (j + 1) v' (by simpa using e')
    exact ⟨t₂, by rw [e₂]; congr 2; omega⟩
theorem strs_take : ∀ {vs : List Value} {ls : List Str} (k : Nat), StrsAre vs ls → StrsAre (vs.take k) (ls.take k)
  | _, _, 0, _ => by simp; exact .nil
  | _, _, k + 1, .nil => by simp; exact .nil
  | _, _, k + 1, .cons y t h => by rw [List.take_succ_cons, List.take_succ_cons]; exact .cons _ _ (strs_take k h)
theorem filter_true : ∀ (vs : List Value), vs.filter (fun _ => true) = vs
  | [] => rfl
  | v :: r => by rw [List.filter_cons]; simp

section
variable {prog : Program} {w : World} {A : Around} {g gg h : Heap} {L d : Addr} {c2 c3 : Option Value} {m : Str → Option Value} {s : Shared} {Q : Flow → Shared → Prop} {E : Value → Shared → Prop} {env : Env}

theorem gv_lenS {x : Str} {t : Tok} (hx : x.length < 1000000) : Gv prog w A (call (.builtin "len") [.str x t]) h (isI x.length) := fun s E k =>
  PySem.P.len_str (by have : (2 : Int) ^ 63 = 9223372036854775808 := by decide
                      rw [this]; omega) ⟨keeps_tok _ _, s.toks + 1, rfl⟩

set_option maxHeartbeats 4000000 in
theorem turn3 {ll : Addr} {vl : List Value} {lines : List Str} (l : Lv 14 A) (S : LS w g gg L d (some (.ref ll)) c3 m s.heap) (X : XL L d s.heap ll vl) (hs : StrsAre vl lines) (h5 : lines.length ≤ 5) (hm : ∀ y ∈ lines, y ∈ menuL)
    (q : ∀ ls vs h' tk, LS w g gg L d (some (.ref ll)) c3 (fun u => if u = Str.ofString "_law_starts" then some (.ref ls) else m u) h' → LeO L d s.heap h' → XL L d h' ls vs → IntsAre vs (stsI lines) →
      Wx prog w A ((turnBody w).drop 3) (envG w 155 L) Q E { s with heap := h', toks := tk }) :
    Wx prog w A ((turnBody w).drop 2) (envG w 155 L) Q E s := by
  refine Wx.mk ?_
  have hvl : vl.length = lines.length := hs.len_eq
  refine wpAny_execs_cons ?_
  refine wpAny_Assign_ListComp_free (cl := [(Str.ofString "_law_lines", L + 2)]) (fun _ => true) (fun v y => ∀ (i : Nat) t, v = .int (i : Int) t → ∃ t', y = .int (stI lines i) t') ?_ ?_ ?_ ?_ ?_ ?_ ?_ ?_ ?_ ?_
  · kernel_rfl
  · kernel_rfl
  · decide
  · rfl
  · decide
  · rfl
  · kernel_rfl
  · kernel_rfl
  · refine src_range (h := s.heap) (n := lines.length) l.hh (by omega) (ev_bin S.Bh ?_ ?_ ?_ ?_ ?_ ?_ ?_ ?_) (ev_b1 (id := "len") (R := isV (.ref ll)) (ev_bin S.Bh ?_ ?_ ?_ ?_ ?_ ?_ ?_ ?_) (e_lines S) (fun h' v k e => ?_) ?_ ?_) ?_ ?_ _ _ _ (Le.refl _) fun I s₂ fp St k₂ hI W st hfp => ?_
    any_goals first | kernel_rfl | decide
    · cases e
      rw [← hvl]
      exact gv_len ⟨_, k _ _ X.2.choose_spec.1, X.2.choose_spec.2⟩ (by omega)
    · obtain ⟨h₂, tk₂, rfl, k₂⟩ := k₂
      have S₂ := S.le k₂
      have X₂ := X.le (.of k₂)
      have xI := S.new hI
      have nI : ∀ b o, s.heap.get? b = some o → b ∉ [I] := fun b o e hb => by
        rcases List.mem_cons.mp hb with rfl | hb
        · rw [hI] at e; cases e
        · cases hb
      refine ⟨I, fp, [I], lines.length, _, St, m, rfl, W, ?_, st, hfp, ?_, S₂.ns, ⟨?_, ?_⟩, ?_⟩
      · have : sizeLine = 16777216 := rfl; omega
      · intro hb
        rcases List.mem_cons.mp hb with e | hb
        · exact xI.1 e.symm
        · cases hb
      · intro C i v s₃ m₃ E' hC hP hn hm hk ht
        exact tests_nil (v := v) s₃ E'
      · intro C i v s₃ m₃ E' hC hP hp hn hm₃ hk ht
        obtain ⟨tv, rfl⟩ := hP
        have up : Le s.heap s₃.heap := fun b o e => hk b o (nI b o e) (k₂ _ _ e)
        have B₃ := S.Bh.le up
        have X₃ := X.le (.of up)
        have it : ∀ (j : Nat) (u : Value), (vl.take i)[j]? = some u → ∃ (y : Str) (t : Tok), u = .str y t ∧ y.length < 1000000 := fun j u e => by
          obtain ⟨y, t, rfl, hy⟩ := (strs_take i hs).item j u e
          have hmy := hm y (List.mem_of_mem_take (List.mem_of_getElem? hy))
          have : ∀ z ∈ menuL, z.length < 1000000 := by decide
          exact ⟨y, t, rfl, this y hmy⟩
        have hti : (vl.take i).length ≤ 5 := by rw [List.length_take]; omega
        refine Gv.use (h := s₃.heap) (P := isI (stI lines i)) (ev_b1 (id := "sum") (R := isComp s₃.heap (vl.take i).length (fun j u => (vl.take i)[j]? = some u) (fun _ => true) (fun v y => ∀ s t, v = .str s t → ∃ t', y = .int ((s.length : Int) + 1) t')) (ev_bin B₃ ?_ ?_ ?_ ?_ ?_ ?_ ?_ ?_)
          (gv_comp (cl := []) _ _ (srcN_new l.hh (ev_upto (ev_cell (S.c2.keeps up) ?_ ?_ ?_ ?_) X₃.2 ?_ ((ev_loc hn hm₃ ?_ ?_ ?_).to fun _ _ e => ⟨tv, e⟩) ?_) (fun h' k => ev_upto (ev_cell ((S.c2.keeps up).keeps k) ?_ ?_ ?_ ?_) (X₃.le (.of k)).2 ?_ ((ev_loc (hn.keeps k) hm₃ ?_ ?_ ?_).to fun _ _ e => ⟨tv, e⟩) ?_)).src ?_ ?_ ?_ ?_ ?_ ?_ ?_ ?_ ?_)
          (fun h' v' k e => ?_) ?_ ?_) (Le.refl _) fun y s₄ k₄ p => ⟨fun i' t' e => ?_, k₄⟩
        any_goals first | kernel_rfl | decide
        · rw [hvl]; omega
        · intro r; with_unfolding_all rfl
        · rw [hvl]; omega
        · intro r; with_unfolding_all rfl
        · have : sizeLine = 16777216 := rfl
          omega
        · intro x; rfl
        · intro C₂ i₂ u s₅ m₅ E₅ _ _ _ _
          exact tests_nil (v := u) s₅ E₅
        · intro C₂ i₂ u h₅ m₅ hu _ k₅ hn₅ hm₅
          obtain ⟨y, ty, rfl, hy⟩ := it _ _ hu
          refine (ev_add (a := (y.length : Int)) (b := 1) (ev_b1 (id := "len") (R := isV (.str y ty)) (ev_bin (B₃.le k₅) ?_ ?_ ?_ ?_ ?_ ?_ ?_ ?_) (ev_loc hn₅ hm₅ ?_ ?_ ?_) (fun h₆ v₆ k₆ e => ?_) ?_ ?_) ev_int).to fun _ v p => ?_
          any_goals first | kernel_rfl | decide
          · cases e
            exact gv_lenS hy
          · obtain ⟨t₇, rfl⟩ := p
            intro x t e
            cases e
            exact ⟨t₇, rfl⟩
        · obtain ⟨D, ys, vs', rfl, hD, hpl, hlen, hvs, hpair⟩ := e
          have e := same_list hlen hvs
          subst e
          rw [filter_true] at hpair
          exact gv_sum (vs := ys.toList) l.hh (by rw [Array.toArray_toList]; exact hpl.isList) (paired_lens (strs_take i hs) hpair)
        · cases e
          exact p
      · intro D h' tk ys vs hD hl hpl hlen hvs hpair hn hk
        have kO : LeO L d s.heap h' := fun b o hb e => hk b o hb.1 (nI b o e) (k₂ _ _ e)
        refine Wx.rest (body := (turnBody w).drop 3) ?_ ?_
        rotate_left
        · kernel_rfl
        have hDL := S₂.new hD
        have S' : LS w g gg L d (some (.ref ll)) c3 (fun u => if u = Str.ofString "_law_starts" then some (.ref D) else m u) h' :=
          { S₂ with keep := fun b o e => hk b o (Nat.ne_of_lt (S.gne e)) (nI b o (S.keep _ _ e)) (S₂.keep _ _ e), kO := S.kO.trans kO, ns := hn,
                    c1 := let ⟨o, e, r⟩ := S.c1; ⟨o, hk _ _ (nA1 L) (nI _ _ e) (k₂ _ _ e), r⟩, c2 := let ⟨o, e, r⟩ := S.c2; ⟨o, hk _ _ (nA2 L) (nI _ _ e) (k₂ _ _ e), r⟩, c3 := let ⟨o, e, r⟩ := S.c3; ⟨o, hk _ _ (nA3 L) (nI _ _ e) (k₂ _ _ e), r⟩,
                    deck := let ⟨ns, D', o⟩ := S.deck; ⟨ns, D'.at' fun o e => hk _ _ S.dL.1 (nI _ _ e) (k₂ _ _ e), o⟩ }
        rw [filter_true] at hpair
        have hi := paired_starts (stI lines) 0 hpair fun j v e => by
          obtain ⟨t, e'⟩ := hvs j v e
          exact ⟨t, by rw [e', Nat.zero_add]⟩
        rw [hlen] at hi
        exact q D ys.toList h' tk S' kO ⟨hDL, by rw [Array.toArray_toList]; exact hl⟩ hi
  · intro x
    rfl
end
end Mine
open PySem PySem.W PyProof.Rows PySem.Calls
namespace Mine

/-- the codes of a text -/
def codesOf (x : Str) : List Int := x.cps.toList.map fun c : Nat => (c : Int)

theorem paired_codes (x : Str) : ∀ {vs ys : List Value} (cs : List Nat) (k : Nat), Paired (fun v y => ∀ (c : Nat) t, v = .str ⟨#[c]⟩ t → ∃ t', y = .int (c : Int) t') vs ys → vs.length = cs.length → (∀ (j : Nat) v, vs[j]? = some v → ∃ c u, cs[j]? = some c ∧ v = .str ⟨#[c]⟩ u) → IntsAre ys (cs.map fun c : Nat => (c : Int))
  | _, _, [], _, .nil, _, _ => .nil
  | _, _, _ :: _, _, .nil, e, _ => by cases e
  | _, _, [], _, .cons _ _, e, _ => by cases e
  | _, _, c :: cs, k, .cons hF hp, e, h => by
    obtain ⟨c', u, e₁, e₂⟩ := h 0 _ rfl
    cases e₁
    obtain ⟨t', rfl⟩ := hF _ _ e₂
    exact .cons _ _ (paired_codes x cs k hp (by simpa using e) fun j v ej => by simpa using h (j + 1) v (by simpa using ej))

section
variable {prog : Program} {w : World} {A : Around} {g gg h : Heap} {L d : Addr} {c2 c3 : Option Value} {m : Str → Option Value} {s : Shared} {Q : Flow → Shared → Prop} {E : Value → Shared → Prop} {env : Env}

theorem LS.xr (S : LS w g gg L d c2 c3 m h) {h' : Heap} {x : Addr} {codes : List Int} {first : Int} (R : RowN h h' x codes first) : XR L d h' x codes first := by
  obtain ⟨dx, c, h1, h2, t1, t2, tk, n, vs, a, b, e, r⟩ := R
  exact ⟨dx, c, h1, h2, t1, t2, tk, n, vs, S.new a, S.new b, S.new e, r⟩

set_option maxHeartbeats 4000000 in
theorem turn4 {x : Str} {tx tf : Tok} {first : Int} (l : Lv 14 A) (S : LS w g gg L d c2 c3 m s.heap) (hx : x.length < 1000)
    (hmx : m (Str.ofString "_law_text") = some (.str x tx)) (hmf : m (Str.ofString "_law_first") = some (.int first tf))
    (q : ∀ v r t h' tk, 0 ≤ r → r < (x.length : Int) + 1 → LS w g gg L d c2 (some (.int r t)) (fun u => if u = Str.ofString "_law_view" then some (.ref v) else m u) h' → LeO L d s.heap h' → XR L d h' v (codesOf x) first →
      Wx prog w A ((turnBody w).drop 4) (envG w 155 L) Q E { s with heap := h', toks := tk }) :
    Wx prog w A ((turnBody w).drop 3) (envG w 155 L) Q E s := by
  refine Wx.mk ?_
  refine wpAny_execs_cons ?_
  refine Assign_Tuple ?_ ?_ ?_
  rotate_left
  · kernel_rfl
  · kernel_rfl
  refine Tuple_ ?_
  refine wpAny_items_cons ?_ ?_
  rotate_left
  · kernel_rfl
  refine w_call2 (R₁ := fun h' v => ∃ D vs, v = .ref D ∧ h'.IsList D (List.toArray vs) ∧ IntsAre vs (codesOf x)) (R₂ := isI first) ?_ S.Bh ?_ kp_117 ?_ ?_ (fun v₁ v₂ s₁ k₁ p₁ p₂ => ?_) ?_ ?_ ?_ ?_
  · rintro h h' v k ⟨D, vs, rfl, ⟨o, ho, r⟩, hi⟩
    exact ⟨D, vs, rfl, ⟨o, k _ _ ho, r⟩, hi⟩
  · refine ev_glob S.Bh g_TextRow ?_ ?_ ?_ rfl <;> kernel_rfl
  · refine Gv.to (P := isComp s.heap x.cps.size (SignAt x) (fun _ => true) (fun v y => ∀ (c : Nat) t, v = .str ⟨#[c]⟩ t → ∃ t', y = .int (c : Int) t')) (gv_comp (cl := []) _ _ (src_str l.hh ((ev_loc (v := .str x tx) S.ns hmx ?_ ?_ ?_).to fun _ _ e => ⟨tx, e⟩)) ?_ ?_ ?_ ?_ ?_ ?_ ?_ ?_ ?_) fun h' v p => ?_
    any_goals first | kernel_rfl | decide
    · have : sizeLine = 16777216 := rfl
      have : x.length = x.cps.size := rfl
      omega
    · intro y; rfl
    · intro C₂ i₂ u s₅ m₅ E₅ _ _ _ _
      exact tests_nil (v := u) s₅ E₅
    · intro C₂ i₂ u h₅ m₅ hu _ k₅ hn₅ hm₅
      obtain ⟨c, tc, hc, rfl⟩ := hu
      refine (ev_b1 (id := "ord") (P := isI (c : Int)) (R := isV (.str ⟨#[c]⟩ tc)) (ev_bin (S.Bh.le k₅) ?_ ?_ ?_ ?_ ?_ ?_ ?_ ?_) (ev_loc hn₅ hm₅ ?_ ?_ ?_) (fun h₆ v₆ k₆ e => ?_) ?_ ?_).to fun _ v p => ?_
      any_goals first | kernel_rfl | decide
      · cases e
        exact fun s E k => PySem.P.ord_of_char ⟨keeps_tok _ _, _, rfl⟩
      · obtain ⟨t₇, rfl⟩ := p
        intro c' t e
        cases e
        exact ⟨t₇, rfl⟩
    · obtain ⟨D, ys, vs', rfl, hD, hpl, hlen, hvs, hpair⟩ := p
      rw [filter_true] at hpair
      refine ⟨D, ys.toList, rfl, by rw [Array.toArray_toList]; exact hpl.isList, paired_codes x _ 0 hpair (hlen.trans (Array.length_toList (xs := x.cps)).symm) fun j v e => ?_⟩
      obtain ⟨c, u, e₁, e₂⟩ := hvs j v e
      exact ⟨c, u, by simpa using e₁, e₂⟩
  · exact (ev_loc (v := .int first tf) S.ns hmf (by kernel_rfl) (by kernel_rfl) rfl).to fun _ _ e => ⟨tf, e⟩
  rotate_left
  · kernel_rfl
  · kernel_rfl
  · kernel_rfl
  · kernel_rfl
  obtain ⟨D, vs, rfl, hl, hi⟩ := p₁
  obtain ⟨t₁, rfl⟩ := p₂
  obtain ⟨h₁, tk₁, rfl, k₁⟩ := k₁
  have S₁ := S.le k₁
  have hcl : (codesOf x).length < 2 ^ 20 := by
    unfold codesOf
    rw [List.length_map]
    have : x.length = x.cps.size := rfl
    have : x.cps.toList.length = x.cps.size := by simp
    omega
  refine (f_row (l.mono (by omega)) S₁.Bh hl hi hcl).use (Le.refl _) fun v s₂ k₂ p => ?_
  obtain ⟨v, rfl, R⟩ := p
  obtain ⟨h₂, tk₂, rfl, k₂⟩ := k₂
  have S₂ := S₁.le k₂
  have XR₂ := S₁.xr R
  dsimp only at S₂ XR₂ ⊢
  refine wpAny_items_cons ?_ ?_
  rotate_left
  · kernel_rfl
  refine l_draw (many := (x.length : Int) + 1) (l.mono (by omega)) S₂ (by omega) (by omega) ?_ (fun r t₄ h₄ tk₄ hr0 hr3 S₄ kb₄ => ?_) ?_ ?_ ?_ ?_
  · refine ev_add (ev_b1 (id := "len") (R := isV (.str x tx)) (ev_bin S₂.Bh ?_ ?_ ?_ ?_ ?_ ?_ ?_ ?_) (ev_loc S₂.ns hmx ?_ ?_ ?_) (fun h₆ v₆ k₆ e => ?_) ?_ ?_) ev_int
    any_goals first | kernel_rfl | decide
    cases e
    exact gv_lenS (by omega)
  rotate_left
  · kernel_rfl
  · kernel_rfl
  · kernel_rfl
  · kernel_rfl
  refine wpAny_items_nil ?_
  refine wpAny_newObj_type ?_ (by show 2 ≤ sizeLine; decide)
  have k₅ := Le.push h₄ { cls := .type "tuple", data := .seq #[.ref v, .int r t₄] }
  have S₅ := S₄.le k₅
  have XR₅ := (XR₂.le (.but kb₄)).le (.of k₅)
  have e₅ := Heap.get?_push_size h₄ (o := { cls := .type "tuple", data := .seq #[.ref v, .int r t₄] }) rfl
  dsimp only
  refine assign_Tuple_tuple l.hh (items := #[.ref v, .int r t₄]) ⟨_, e₅, rfl, 0, rfl⟩ ?_ ?_ fun h₆ he => ?_
  · kernel_rfl
  · kernel_rfl
  have k₆ := le_of_ext he
  have S₆ := S₅.le k₆
  have XR₆ := XR₅.le (.of k₆)
  have hp : ∀ L' : Addr, ((envG w 155 L).scope.kind == .class || ((envG w 155 L).scope.kind == .module && L' != (envG w 155 L).globals)) = false := fun L' => by rw [show (envG w 155 L).scope.kind = _ from k155 (w := w)]; rfl
  refine assignInOrder_cons ?_
  refine assign_Name ?_
  refine wpAny_storeName_local ?_ S₆.ns (fun h₇ n₇ s₇ => ?_) ?_
  · kernel_rfl
  rotate_left
  · exact hp _
  have S₇ := S₆.store n₇ s₇
  refine assignInOrder_cons ?_
  refine assign_Name ?_
  refine wpAny_storeName_cell ?_ ?_ ?_ S₇.c3 fun h₈ c₈ s₈ => ?_
  · kernel_rfl
  · kernel_rfl
  · kernel_rfl
  have S₈ := S₇.store3 c₈ s₈
  refine assignInOrder_nil ?_
  refine Wx.rest (body := (turnBody w).drop 4) ?_ ?_
  rotate_left
  · kernel_rfl
  have kO : LeO L d s.heap h₈ := (((((LeO.of (Le.trans k₁ k₂)).trans (.but kb₄)).trans (.of k₅)).trans (.of k₆)).trans (.same s₇ ex_L)).trans (.same s₈ ex_3)
  dsimp only
  exact q v r t₄ h₈ _ hr0 hr3 S₈ kO ((XR₆.le (.same s₇ ex_L)).le (.same s₈ ex_3))
end
end Mine
open PySem PySem.W PyProof.Rows PySem.Calls
namespace Mine
section
variable {prog : Program} {w : World} {A : Around} {g gg h : Heap} {L d : Addr} {c2 c3 : Option Value} {m : Str → Option Value} {s : Shared} {Q : Flow → Shared → Prop} {E : Value → Shared → Prop} {env : Env}

theorem l_int {h : Heap} {y : Str} {pos : Pos} {n : Int} {t : Tok} (S : LS w g gg L d c2 c3 m h) (e : m y = some (.int n t)) (hk : (envG w 155 L).kindOf y = some .local) (hd : (y == ("__debug__" : Str)) = false) : Gv prog w A (eval (.Name y pos) (envG w 155 L)) h (isI n) :=
  (ev_loc (v := .int n t) S.ns e (k155 (w := w)) hk hd).to fun _ _ e => ⟨t, e⟩
theorem l_val {h : Heap} {y : Str} {pos : Pos} {v : Value} (S : LS w g gg L d c2 c3 m h) (e : m y = some v) (hk : (envG w 155 L).kindOf y = some .local) (hd : (y == ("__debug__" : Str)) = false) : Gv prog w A (eval (.Name y pos) (envG w 155 L)) h (isV v) :=
  ev_loc S.ns e (k155 (w := w)) hk hd
theorem l_at {h : Heap} {pos : Pos} {n : Int} {t : Tok} (S : LS w g gg L d c2 (some (.int n t)) m h) : Gv prog w A (eval (.Name (Str.ofString "_law_at") pos) (envG w 155 L)) h (isI n) := (e_at S).to fun _ _ e => ⟨t, e⟩
theorem l_len {h : Heap} {pos : Pos} (B : Bs w h) : Gv prog w A (eval (.Name (Str.ofString "len") pos) (envG w 155 L)) h (isV (.builtin "len")) := by
  refine ev_bin B ?_ ?_ ?_ ?_ ?_ ?_ ?_ ?_
  any_goals first | kernel_rfl | decide

set_option maxHeartbeats 4000000 in
theorem turn5 {ls : Addr} {vs : List Value} {starts : List Int} {at' : Int} {ta : Tok} (l : Lv 14 A) (S : LS w g gg L d c2 (some (.int at' ta)) m s.heap) (X : XL L d s.heap ls vs) (hi : IntsAre vs starts) (hlt : starts.length ≤ 5)
    (hms : m (Str.ofString "_law_starts") = some (.ref ls))
    (q : ∀ t h' tk, LS w g gg L d c2 (some (.int at' ta)) (fun u => if u = Str.ofString "_law_row" then some (.int (rowOf starts at') t) else m u) h' → LeO L d s.heap h' →
      Wx prog w A ((turnBody w).drop 5) (envG w 155 L) Q E { s with heap := h', toks := tk }) :
    Wx prog w A ((turnBody w).drop 4) (envG w 155 L) Q E s := by
  refine Wx.mk ?_
  have hvl : vs.length = starts.length := hi.length
  refine t_assign (P := isI (rowOf starts at' + 1 - 1)) S ?_ ?_ ?_ fun v h₁ h' tk k₁ p S₁ S' k' kO => ?_
  · refine ev_sub (ev_b1 (id := "len") (R := isComp s.heap vs.length (fun i v => vs[i]? = some v) (leB at') (fun v y => y = v)) (l_len S.Bh)
      (gv_comp (cl := [(Str.ofString "_law_at", L + 3)]) (leB at') (fun v y => y = v) (src_list (l := ls) (vs := vs) l.hh (l_val S hms ?_ ?_) X.2) ?_ ?_ ?_ ?_ ?_ ?_ ?_ ?_ ?_) (fun h₂ v k₂ q => gv_row X.2 hi (by omega) v h₂ q) ?_ ?_) ev_int
    any_goals first | kernel_rfl | decide
    · rw [hvl]; have : sizeLine = 16777216 := rfl; omega
    · intro x; rfl
    · intro C i v s₂ m₂ E₂ hP k₂ hn hm
      obtain ⟨n, tn, rfl, hns⟩ := hi.at i v hP
      refine tests_one s₂ E₂ (ts_cmp (a := n) (b := at') ((ev_loc hn hm ?_ ?_ ?_).to fun _ _ e => ⟨tn, e⟩) ((ev_cell (S.c3.keeps k₂) ?_ ?_ ?_ ?_).to fun _ _ e => ⟨ta, e⟩) ?_ ?_)
      any_goals first | kernel_rfl | rfl
    · intro C i v h₂ m₂ hP hp k₂ hn hm
      refine ev_loc hn hm ?_ ?_ ?_
      any_goals first | kernel_rfl | rfl
  · kernel_rfl
  · kernel_rfl
  obtain ⟨tr, rfl⟩ := p
  have er : rowOf starts at' + 1 - 1 = rowOf starts at' := by omega
  rw [er] at S'
  refine Wx.rest' (rest := (turnBody w).drop 5) ?_ ?_
  · kernel_rfl
  exact q tr h' tk S' kO

set_option maxHeartbeats 4000000 in
theorem turn6 {ll ls : Addr} {vl vs : List Value} {lines : List Str} {starts : List Int} {row : Nat} {tr : Tok} {st : Int} {y : Str} (l : Lv 14 A) (S : LS w g gg L d (some (.ref ll)) c3 m s.heap) (X : XL L d s.heap ll vl) (hs : StrsAre vl lines) (Xs : XL L d s.heap ls vs) (hi : IntsAre vs starts)
    (hrow : row < 5) (hst : starts[row]? = some st) (hy : lines[row]? = some y) (hyl : y.length < 1000) (hms : m (Str.ofString "_law_starts") = some (.ref ls)) (hmr : m (Str.ofString "_law_row") = some (.int (row : Int) tr))
    (q : ∀ many whole t₁ t₂ t₃ h' tk, -3 ≤ many → many ≤ 3 →
      LS w g gg L d (some (.ref ll)) c3 (fun u => if u = Str.ofString "_law_whole" then some (.bool whole) else if u = Str.ofString "_law_many" then some (.int many t₃) else if u = Str.ofString "_law_begin" then some (.int st t₂) else if u = Str.ofString "_law_end" then some (.int (st + y.length) t₁) else m u) h' → LeO L d s.heap h' →
      Wx prog w A ((turnBody w).drop 6) (envG w 155 L) Q E { s with heap := h', toks := tk }) :
    Wx prog w A ((turnBody w).drop 5) (envG w 155 L) Q E s := by
  refine Wx.mk ?_
  obtain ⟨t₁, hti⟩ := hi.get row st hst
  obtain ⟨ty, hvy⟩ := hs.at hy
  have It : ∀ h' pos p₁ p₂, Le s.heap h' → Gv prog w A (eval (.Subscript (.Name (Str.ofString "_law_starts") p₁) (.Name (Str.ofString "_law_row") p₂) pos) (envG w 155 L)) h' (isI st) := fun h' pos p₁ p₂ k => by
    refine (ev_item (k := row) (l_val (S.le k) hms ?_ ?_) (Xs.le (.of k)).2 (l_int (S.le k) hmr ?_ ?_) (by omega) (by omega) hti (fun _ => ?_)).to fun _ _ e => ⟨t₁, e⟩
    any_goals first | kernel_rfl | rfl
  refine wpAny_execs_cons ?_
  refine Assign_Tuple ?_ ?_ ?_
  rotate_left
  · kernel_rfl
  · kernel_rfl
  refine Tuple_ ?_
  refine wpAny_items_cons ?_ ?_
  rotate_left
  · kernel_rfl
  refine Gv.use (h := s.heap) (P := isI (st + y.length)) (ev_add (It _ _ _ _ (Le.refl _)) (ev_b1 (id := "len") (R := isV (.str y ty)) (l_len S.Bh) (ev_item (k := row) (e_lines S) X.2 (l_int S hmr ?_ ?_) ?_ ?_ hvy (fun _ => ?_)) (fun h₆ v₆ k₆ e => ?_) ?_ ?_)) (Le.refl _) fun v₁ s₁ k₁ p₁ => ?_
  any_goals first | kernel_rfl | omega
  · cases e
    exact gv_lenS (by omega)
  obtain ⟨u₁, rfl⟩ := p₁
  obtain ⟨h₁, tk₁, rfl, k₁⟩ := k₁
  refine wpAny_items_cons ?_ ?_
  rotate_left
  · kernel_rfl
  refine Gv.use (h := h₁) (P := isI st) (It _ _ _ _ k₁) (Le.refl _) fun v₂ s₂ k₂ p₂ => ?_
  obtain ⟨u₂, rfl⟩ := p₂
  obtain ⟨h₂, tk₂, rfl, k₂⟩ := k₂
  have S₂ := S.le (Le.trans k₁ k₂)
  dsimp only at S₂ ⊢
  refine wpAny_items_cons ?_ ?_
  rotate_left
  · kernel_rfl
  refine wpAny_BinOp ?_
  refine l_draw (many := 7) (l.mono (by omega)) S₂ (by decide) (by decide) ev_int (fun r t₄ h₄ tk₄ hr0 hr3 S₄ kb₄ => ?_) ?_ ?_ ?_ ?_
  rotate_left
  · kernel_rfl
  · kernel_rfl
  · kernel_rfl
  · kernel_rfl
  dsimp only
  refine ev_int.use (Le.refl _) fun v₅ s₅ k₅ p₅ => ?_
  obtain ⟨u₅, rfl⟩ := p₅
  obtain ⟨h₅, tk₅, rfl, k₅⟩ := k₅
  refine sub_int ?_
  have S₅ := S₄.le k₅
  dsimp only at S₅ ⊢
  refine wpAny_items_cons ?_ ?_
  rotate_left
  · kernel_rfl
  refine wpAny_Compare1 ?_ ?_
  rotate_left
  · kernel_rfl
  refine l_draw (many := 2) (l.mono (by omega)) S₅ (by decide) (by decide) ev_int (fun r₂ t₆ h₆ tk₆ hr20 hr23 S₆ kb₆ => ?_) ?_ ?_ ?_ ?_
  rotate_left
  · kernel_rfl
  · kernel_rfl
  · kernel_rfl
  · kernel_rfl
  dsimp only
  refine ev_int.use (Le.refl _) fun v₇ s₇ k₇ p₇ => ?_
  obtain ⟨u₇, rfl⟩ := p₇
  obtain ⟨h₇, tk₇, rfl, k₇⟩ := k₇
  have S₇ := S₆.le k₇
  dsimp only at S₇ ⊢
  refine eq_int ?_
  refine wpAny_items_nil ?_
  refine wpAny_newObj_type ?_ (by show 4 ≤ sizeLine; decide)
  dsimp only
  have k₈ := Le.push h₇ { cls := .type "tuple", data := .seq #[.int (st + y.length) u₁, .int st u₂, .int (r - 3) tk₅, .bool (r₂ == 1)] }
  have S₈ := S₇.le k₈
  have e₈ := Heap.get?_push_size h₇ (o := { cls := .type "tuple", data := .seq #[.int (st + y.length) u₁, .int st u₂, .int (r - 3) tk₅, .bool (r₂ == 1)] }) rfl
  refine assign_Tuple_tuple l.hh (items := #[.int (st + y.length) u₁, .int st u₂, .int (r - 3) tk₅, .bool (r₂ == 1)]) ⟨_, e₈, rfl, 0, rfl⟩ ?_ ?_ fun h₉ he => ?_
  · kernel_rfl
  · kernel_rfl
  have k₉ := le_of_ext he
  have S₉ := S₈.le k₉
  have hp : ∀ L' : Addr, ((envG w 155 L).scope.kind == .class || ((envG w 155 L).scope.kind == .module && L' != (envG w 155 L).globals)) = false := fun L' => by rw [show (envG w 155 L).scope.kind = _ from k155 (w := w)]; rfl
  refine assignInOrder_cons ?_
  refine assign_Name ?_
  refine wpAny_storeName_local ?_ S₉.ns (fun ha na sa => ?_) ?_
  · kernel_rfl
  rotate_left
  · exact hp _
  have Sa := S₉.store na sa
  refine assignInOrder_cons ?_
  refine assign_Name ?_
  refine wpAny_storeName_local ?_ Sa.ns (fun hb nb sb => ?_) ?_
  · kernel_rfl
  rotate_left
  · exact hp _
  have Sb := Sa.store nb sb
  refine assignInOrder_cons ?_
  refine assign_Name ?_
  refine wpAny_storeName_local ?_ Sb.ns (fun hc nc sc => ?_) ?_
  · kernel_rfl
  rotate_left
  · exact hp _
  have Sc := Sb.store nc sc
  refine assignInOrder_cons ?_
  refine assign_Name ?_
  refine wpAny_storeName_local ?_ Sc.ns (fun hd nd sd => ?_) ?_
  · kernel_rfl
  rotate_left
  · exact hp _
  have Sd := Sc.store nd sd
  refine assignInOrder_nil ?_
  refine Wx.rest (body := (turnBody w).drop 6) ?_ ?_
  rotate_left
  · kernel_rfl
  have kO : LeO L d s.heap hd := ((((((((((LeO.of (Le.trans k₁ k₂)).trans (.but kb₄)).trans (.of k₅)).trans (.but kb₆)).trans (.of k₇)).trans (.of k₈)).trans (.of k₉)).trans (.same sa ex_L)).trans (.same sb ex_L)).trans (.same sc ex_L)).trans (.same sd ex_L)
  dsimp only
  exact q (r - 3) (r₂ == 1) u₁ u₂ _ hd _ (by omega) (by omega) Sd kO
end
end Mine
open PySem PySem.W PyProof.Rows PySem.Calls
namespace Mine

/-- what the turn's own reckoning must give: the plain law, over lists of codes -/
structure PL (codes starts : List Int) (nl : Nat) (x : Str) (o st en : Nat) : Prop where
  size : codes.length = x.length
  le : o ≤ codes.length
  ls : lsN codes o = st
  le_ : leN codes o = en
  tg : ∀ k : Int, (tgN codes o k : Int) = movedI starts nl codes.length o k
  tgb : ∀ k : Int, (tgN codes st k : Int) = movedI starts nl codes.length st k
  beg : isBeg codes o = (o == st)
  blank : o ≠ codes.length → isEnd codes (beN codes o) = (Txt.stripChars (Txt.slice x (some (o : Int)) (some (en : Int))) (Str.ofString " \t") == Str.ofString "")
  row0 : 0 ≤ rowOf starts o
  rowb : 0 ≤ rowOf starts st

/-- the names that the turn's state holds -/
def rsNames : List Str := [Str.ofString "_law_text", Str.ofString "_law_first", Str.ofString "_law_starts", Str.ofString "_law_view", Str.ofString "_law_end", Str.ofString "_law_begin", Str.ofString "_law_many", Str.ofString "_law_whole"]

structure RS (w : World) (g gg : Heap) (L d ll ls v : Addr) (vl vs : List Value) (x : Str) (starts : List Int) (first at' st en many : Int) (whole : Bool) (m : Str → Option Value) (h : Heap) : Prop where
  S : ∃ ta, LS w g gg L d (some (.ref ll)) (some (.int at' ta)) m h
  X : XL L d h ll vl
  Xs : XL L d h ls vs
  hi : IntsAre vs starts
  R : XR L d h v (codesOf x) first
  text : ∃ t, m (Str.ofString "_law_text") = some (.str x t)
  first_ : ∃ t, m (Str.ofString "_law_first") = some (.int first t)
  starts_ : m (Str.ofString "_law_starts") = some (.ref ls)
  view : m (Str.ofString "_law_view") = some (.ref v)
  end_ : ∃ t, m (Str.ofString "_law_end") = some (.int en t)
  begin_ : ∃ t, m (Str.ofString "_law_begin") = some (.int st t)
  many : ∃ t, m (Str.ofString "_law_many") = some (.int many t)
  whole : m (Str.ofString "_law_whole") = some (.bool whole)
  hx : x.length < 1000
  hsl : starts.length ≤ 5
  hvl : starts.length = vl.length

section
variable {prog : Program} {w : World} {A : Around} {g gg h h' : Heap} {L d ll ls v : Addr} {vl vs : List Value} {x : Str} {starts : List Int} {first at' st en many : Int} {whole : Bool} {m : Str → Option Value} {s : Shared} {Q : Flow → Shared → Prop} {E : Value → Shared → Prop} {env : Env}

theorem RS.B (R : RS w g gg L d ll ls v vl vs x starts first at' st en many whole m h) : Bs w h := let ⟨_, S⟩ := R.S; S.Bh
theorem RS.le (R : RS w g gg L d ll ls v vl vs x starts first at' st en many whole m h) (k : Le h h') : RS w g gg L d ll ls v vl vs x starts first at' st en many whole m h' :=
  { R with S := let ⟨t, S⟩ := R.S; ⟨t, S.le k⟩, X := R.X.le (.of k), Xs := R.Xs.le (.of k), R := R.R.le (.of k) }
/-- a name that is none of the state's own has been bound -/
theorem RS.set {y : Str} {u : Value} (R : RS w g gg L d ll ls v vl vs x starts first at' st en many whole m h) (S' : ∃ ta, LS w g gg L d (some (.ref ll)) (some (.int at' ta)) (fun z => if z = y then some u else m z) h') (k : LeO L d h h') (hy : (rsNames.contains y) = false) :
    RS w g gg L d ll ls v vl vs x starts first at' st en many whole (fun z => if z = y then some u else m z) h' := by
  have ne : ∀ z ∈ rsNames, z ≠ y := fun z hz e => by
    have : rsNames.contains y = true := by rw [← e]; exact List.contains_iff_mem.mpr hz
    rw [hy] at this; cases this
  refine { R with S := S', X := R.X.le k, Xs := R.Xs.le k, R := R.R.le k, text := ?_, first_ := ?_, starts_ := ?_, view := ?_, end_ := ?_, begin_ := ?_, many := ?_, whole := ?_ }
  · rw [if_neg (ne _ (by simp [rsNames]))]; exact R.text
  · rw [if_neg (ne _ (by simp [rsNames]))]; exact R.first_
  · rw [if_neg (ne _ (by simp [rsNames]))]; exact R.starts_
  · rw [if_neg (ne _ (by simp [rsNames]))]; exact R.view
  · rw [if_neg (ne _ (by simp [rsNames]))]; exact R.end_
  · rw [if_neg (ne _ (by simp [rsNames]))]; exact R.begin_
  · rw [if_neg (ne _ (by simp [rsNames]))]; exact R.many
  · rw [if_neg (ne _ (by simp [rsNames]))]; exact R.whole

theorem r_first {pos : Pos} (R : RS w g gg L d ll ls v vl vs x starts first at' st en many whole m h) : Gv prog w A (eval (.Name (Str.ofString "_law_first") pos) (envG w 155 L)) h (isI first) := by
  obtain ⟨_, S⟩ := R.S; obtain ⟨t, e⟩ := R.first_; exact l_int S e (by kernel_rfl) rfl
theorem r_end {pos : Pos} (R : RS w g gg L d ll ls v vl vs x starts first at' st en many whole m h) : Gv prog w A (eval (.Name (Str.ofString "_law_end") pos) (envG w 155 L)) h (isI en) := by
  obtain ⟨_, S⟩ := R.S; obtain ⟨t, e⟩ := R.end_; exact l_int S e (by kernel_rfl) rfl
theorem r_begin {pos : Pos} (R : RS w g gg L d ll ls v vl vs x starts first at' st en many whole m h) : Gv prog w A (eval (.Name (Str.ofString "_law_begin") pos) (envG w 155 L)) h (isI st) := by
  obtain ⟨_, S⟩ := R.S; obtain ⟨t, e⟩ := R.begin_; exact l_int S e (by kernel_rfl) rfl
theorem r_many {pos : Pos} (R : RS w g gg L d ll ls v vl vs x starts first at' st en many whole m h) : Gv prog w A (eval (.Name (Str.ofString "_law_many") pos) (envG w 155 L)) h (isI many) := by
  obtain ⟨_, S⟩ := R.S; obtain ⟨t, e⟩ := R.many; exact l_int S e (by kernel_rfl) rfl
theorem r_whole {pos : Pos} (R : RS w g gg L d ll ls v vl vs x starts first at' st en many whole m h) : Gv prog w A (eval (.Name (Str.ofString "_law_whole") pos) (envG w 155 L)) h (isB whole) := by
  obtain ⟨_, S⟩ := R.S; exact l_val S R.whole (by kernel_rfl) rfl
theorem r_view {pos : Pos} (R : RS w g gg L d ll ls v vl vs x starts first at' st en many whole m h) : Gv prog w A (eval (.Name (Str.ofString "_law_view") pos) (envG w 155 L)) h (isV (.ref v)) := by
  obtain ⟨_, S⟩ := R.S; exact l_val S R.view (by kernel_rfl) rfl
theorem r_starts {pos : Pos} (R : RS w g gg L d ll ls v vl vs x starts first at' st en many whole m h) : Gv prog w A (eval (.Name (Str.ofString "_law_starts") pos) (envG w 155 L)) h (isV (.ref ls)) := by
  obtain ⟨_, S⟩ := R.S; exact l_val S R.starts_ (by kernel_rfl) rfl
theorem r_lines {pos : Pos} (R : RS w g gg L d ll ls v vl vs x starts first at' st en many whole m h) : Gv prog w A (eval (.Name (Str.ofString "_law_lines") pos) (envG w 155 L)) h (isV (.ref ll)) := by
  obtain ⟨_, S⟩ := R.S; exact e_lines S
theorem r_at {pos : Pos} (R : RS w g gg L d ll ls v vl vs x starts first at' st en many whole m h) : Gv prog w A (eval (.Name (Str.ofString "_law_at") pos) (envG w 155 L)) h (isI at') := by
  obtain ⟨_, S⟩ := R.S; exact l_at S
theorem r_text {pos : Pos} (R : RS w g gg L d ll ls v vl vs x starts first at' st en many whole m h) : Gv prog w A (eval (.Name (Str.ofString "_law_text") pos) (envG w 155 L)) h (isS x) := by
  obtain ⟨_, S⟩ := R.S; obtain ⟨t, e⟩ := R.text
  exact (l_val S e (by kernel_rfl) rfl).to fun _ _ e => ⟨t, e⟩
theorem r_len {p₁ p₂ pos : Pos} (R : RS w g gg L d ll ls v vl vs x starts first at' st en many whole m h) : Gv prog w A (eval (.Call (.Name (Str.ofString "len") p₁) [.Name (Str.ofString "_law_text") p₂] [] pos) (envG w 155 L)) h (isI x.length) := by
  refine ev_b1 (id := "len") (R := isS x) (l_len R.B) (r_text R) (fun h₆ v₆ k₆ e => ?_) ?_ ?_
  · obtain ⟨t, rfl⟩ := e; exact gv_lenS (by have := R.hx; omega)
  · rfl
  · rfl

theorem ev_call5 {f e₁ e₂ e₃ e₄ e₅ : Expr} {a : Addr} {pos : Pos} {R₁ R₂ R₃ R₄ R₅ : Value → Prop} {P : Heap → Value → Prop} (B : Bs w h) (gf : Gv prog w A (eval f env) h (isV (.ref a))) (hk : keepIn (KK w) (.ref a) = true)
    (g₁ : Gv prog w A (eval e₁ env) h (fun _ => R₁)) (g₂ : Gv prog w A (eval e₂ env) h (fun _ => R₂)) (g₃ : Gv prog w A (eval e₃ env) h (fun _ => R₃)) (g₄ : Gv prog w A (eval e₄ env) h (fun _ => R₄)) (g₅ : Gv prog w A (eval e₅ env) h (fun _ => R₅))
    (gc : ∀ v₁ v₂ v₃ v₄ v₅, R₁ v₁ → R₂ v₂ → R₃ v₃ → R₄ v₄ → R₅ v₅ → Gv prog w A (call (.ref a) [v₁, v₂, v₃, v₄, v₅]) h P)
    (h₁ : starEach [e₁, e₂, e₃, e₄, e₅] env = (false, eval e₁ env) :: starEach [e₂, e₃, e₄, e₅] env) (h₂ : starEach [e₂, e₃, e₄, e₅] env = (false, eval e₂ env) :: starEach [e₃, e₄, e₅] env) (h₃ : starEach [e₃, e₄, e₅] env = (false, eval e₃ env) :: starEach [e₄, e₅] env)
    (h₄ : starEach [e₄, e₅] env = (false, eval e₄ env) :: starEach [e₅] env) (h₅ : starEach [e₅] env = (false, eval e₅ env) :: starEach [] env)
    (hp : ((backTo pos (starEach [e₂, e₃, e₄, e₅] env)).any (·.1)) = false)
    (hc : eval (.Call f [e₁, e₂, e₃, e₄, e₅] [] pos) env = (do callWith pos (← eval f env) [] (backTo pos (starEach [e₁, e₂, e₃, e₄, e₅] env)) (backToKw pos (keywordEach [] env)))) : Gv prog w A (eval (.Call f [e₁, e₂, e₃, e₄, e₅] [] pos) env) h P := by
  refine ev_call (R := fun vs => ∃ a b c d e, vs = [a, b, c, d, e] ∧ R₁ a ∧ R₂ b ∧ R₃ c ∧ R₄ d ∧ R₅ e) B gf hk ?_ ?_ h₁ hp hc
  · refine (gs_cons g₁ (R := fun r => ∃ b c d e, r = [b, c, d, e] ∧ R₂ b ∧ R₃ c ∧ R₄ d ∧ R₅ e) ?_ h₁).to ?_
    · refine (gs_cons g₂ (R := fun r => ∃ c d e, r = [c, d, e] ∧ R₃ c ∧ R₄ d ∧ R₅ e) ?_ h₂).to ?_
      · refine (gs_cons g₃ (R := fun r => ∃ d e, r = [d, e] ∧ R₄ d ∧ R₅ e) ?_ h₃).to ?_
        · refine (gs_cons g₄ (R := fun r => ∃ e, r = [e] ∧ R₅ e) ?_ h₄).to ?_
          · refine (gs_cons g₅ (R := fun r => r = []) gs_nil h₅).to ?_
            rintro _ vs ⟨e, r, rfl, p, rfl⟩; exact ⟨e, rfl, p⟩
          · rintro _ vs ⟨a, r, rfl, p, e, rfl, q⟩; exact ⟨_, _, rfl, p, q⟩
        · rintro _ vs ⟨a, r, rfl, p, d, e, rfl, q⟩; exact ⟨_, _, _, rfl, p, q⟩
      · rintro _ vs ⟨a, r, rfl, p, c, d, e, rfl, q⟩; exact ⟨_, _, _, _, rfl, p, q⟩
    · rintro _ vs ⟨a, r, rfl, p, b, c, d, e, rfl, q⟩; exact ⟨_, _, _, _, _, rfl, p, q⟩
  · rintro vs ⟨a, b, c, d, e, rfl, p₁, p₂, p₃, p₄, p₅⟩; exact gc a b c d e p₁ p₂ p₃ p₄ p₅

theorem g_moved : nsIn (KK w) mainGlobals (Str.ofString "_law_moved") = some (some (.ref 150)) := by kernel_rfl
theorem kp_150 : keepIn (KK w) (.ref 150) = true := by kernel_rfl
theorem g_klt : nsIn (KK w) mainGlobals (Str.ofString "kill_line_target") = some (some (.ref 71)) := by kernel_rfl
theorem kp_71 : keepIn (KK w) (.ref 71) = true := by kernel_rfl
theorem g_wlb : nsIn (KK w) mainGlobals (Str.ofString "whole_line_bounds") = some (some (.ref 78)) := by kernel_rfl
theorem kp_78 : keepIn (KK w) (.ref 78) = true := by kernel_rfl

/-- the law's own reckoning of a place some lines on or back -/
theorem r_moved {e₄ e₅ : Expr} {p₀ p₁ p₂ p₃ p₄ p₅ pos : Pos} {a k : Int} (l : Lv 14 A) (R : RS w g gg L d ll ls v vl vs x starts first at' st en many whole m h) (g₄ : Gv prog w A (eval e₄ (envG w 155 L)) h (isI a)) (g₅ : Gv prog w A (eval e₅ (envG w 155 L)) h (isI k)) (hr : 0 ≤ rowOf starts a)
    (h₃ : starEach [.Call (.Name (Str.ofString "len") p₃) [.Name (Str.ofString "_law_text") p₄] [] p₅, e₄, e₅] (envG w 155 L) = (false, eval (.Call (.Name (Str.ofString "len") p₃) [.Name (Str.ofString "_law_text") p₄] [] p₅) (envG w 155 L)) :: starEach [e₄, e₅] (envG w 155 L))
    (h₄ : starEach [e₄, e₅] (envG w 155 L) = (false, eval e₄ (envG w 155 L)) :: starEach [e₅] (envG w 155 L)) (h₅ : starEach [e₅] (envG w 155 L) = (false, eval e₅ (envG w 155 L)) :: starEach [] (envG w 155 L))
    (h₁ : starEach [.Name (Str.ofString "_law_lines") p₁, .Name (Str.ofString "_law_starts") p₂, .Call (.Name (Str.ofString "len") p₃) [.Name (Str.ofString "_law_text") p₄] [] p₅, e₄, e₅] (envG w 155 L) = (false, eval (.Name (Str.ofString "_law_lines") p₁) (envG w 155 L)) :: starEach [.Name (Str.ofString "_law_starts") p₂, .Call (.Name (Str.ofString "len") p₃) [.Name (Str.ofString "_law_text") p₄] [] p₅, e₄, e₅] (envG w 155 L))
    (h₂ : starEach [.Name (Str.ofString "_law_starts") p₂, .Call (.Name (Str.ofString "len") p₃) [.Name (Str.ofString "_law_text") p₄] [] p₅, e₄, e₅] (envG w 155 L) = (false, eval (.Name (Str.ofString "_law_starts") p₂) (envG w 155 L)) :: starEach [.Call (.Name (Str.ofString "len") p₃) [.Name (Str.ofString "_law_text") p₄] [] p₅, e₄, e₅] (envG w 155 L))
    (hp : ((backTo pos (starEach [.Name (Str.ofString "_law_starts") p₂, .Call (.Name (Str.ofString "len") p₃) [.Name (Str.ofString "_law_text") p₄] [] p₅, e₄, e₅] (envG w 155 L))).any (·.1)) = false)
    (hc : eval (.Call (.Name (Str.ofString "_law_moved") p₀) [.Name (Str.ofString "_law_lines") p₁, .Name (Str.ofString "_law_starts") p₂, .Call (.Name (Str.ofString "len") p₃) [.Name (Str.ofString "_law_text") p₄] [] p₅, e₄, e₅] [] pos) (envG w 155 L) = (do callWith pos (← eval (.Name (Str.ofString "_law_moved") p₀) (envG w 155 L)) [] (backTo pos (starEach [.Name (Str.ofString "_law_lines") p₁, .Name (Str.ofString "_law_starts") p₂, .Call (.Name (Str.ofString "len") p₃) [.Name (Str.ofString "_law_text") p₄] [] p₅, e₄, e₅] (envG w 155 L))) (backToKw pos (keywordEach [] (envG w 155 L))))) :
    Gv prog w A (eval (.Call (.Name (Str.ofString "_law_moved") p₀) [.Name (Str.ofString "_law_lines") p₁, .Name (Str.ofString "_law_starts") p₂, .Call (.Name (Str.ofString "len") p₃) [.Name (Str.ofString "_law_text") p₄] [] p₅, e₄, e₅] [] pos) (envG w 155 L)) h (isI (movedI starts vl.length x.length a k)) := by
  refine ev_call5 (a := 150) R.B ?_ kp_150 (r_lines R) (r_starts R) (r_len R) g₄ g₅ ?_ h₁ h₂ h₃ h₄ h₅ hp hc
  · refine ev_glob R.B g_moved ?_ ?_ ?_ rfl <;> kernel_rfl
  · rintro _ _ _ _ _ rfl rfl ⟨t₁, rfl⟩ ⟨t₂, rfl⟩ ⟨t₃, rfl⟩
    exact f_moved (l.mono (by omega)) R.B R.X.2 R.Xs.2 R.hi R.hvl (by have := R.hsl; omega) hr

/-- `!=` of two values that read as the same data -/
theorem ts_ne {e₁ e₂ : Expr} {pos : Pos} {da : PyData} (l : Lv 14 A) (hsh : SeqAt.shaped da = true) (heq : PyData.eqv da da = true) {P₁ P₂ : Heap → Value → Prop} (m₁ : Mono P₁)
    (r₁ : ∀ h v, P₁ h v → ∃ as, Reads h v da as) (r₂ : ∀ h v, P₂ h v → ∃ as, Reads h v da as)
    (g₁ : Gv prog w A (eval e₁ env) h P₁) (g₂ : Gv prog w A (eval e₂ env) h P₂)
    (hm : behindInMarks .NotEq e₂ = false) : Ts prog w A env (.Compare e₁ [.NotEq] [e₂] pos) h false := fun s E k =>
  wpAny_isTrue_Compare1 (g₁.use k fun u s₁ k₁ p => g₂.use (k.trans (keeps_le k₁)) fun v s₂ k₂ q => by
    obtain ⟨a₁, ra⟩ := r₁ _ _ (m₁ _ _ _ (keeps_le k₂) p)
    obtain ⟨a₂, rb⟩ := r₂ _ _ q
    refine ne_dataH ra rb hsh hsh (by have := l.hu; omega) ?_
    rw [heq]
    exact wpAny_truthy_bool ⟨keeps_trans k₁ k₂, rfl⟩) hm
theorem rd_tupIS {a : Int} {z : Str} (h : Heap) (v : Value) (p : isTup (isI a) (isS z) h v) : ∃ as, Reads h v (.tuple [.int a, .str z]) as := by
  obtain ⟨q, u, u', rfl, e, ⟨t, rfl⟩, ⟨t', rfl⟩⟩ := p
  exact ⟨_, .tuple e rfl rfl (.cons (.int _ _) (.cons (.str _ _) .nil))⟩
theorem rd_tupII {a b : Int} (h : Heap) (v : Value) (p : isTup (isI a) (isI b) h v) : ∃ as, Reads h v (.tuple [.int a, .int b]) as := by
  obtain ⟨q, u, u', rfl, e, ⟨t, rfl⟩, ⟨t', rfl⟩⟩ := p
  exact ⟨_, .tuple e rfl rfl (.cons (.int _ _) (.cons (.int _ _) .nil))⟩
theorem eqv_IS (a : Int) (z : Str) : PyData.eqv (.tuple [.int a, .str z]) (.tuple [.int a, .str z]) = true := by simp [PyData.eqv, PyData.eqvAll]
theorem eqv_II (a b : Int) : PyData.eqv (.tuple [.int a, .int b]) (.tuple [.int a, .int b]) = true := by simp [PyData.eqv, PyData.eqvAll]

/-- a turn's test that does not bring the law to an end -/
theorem t_if0 {t : Expr} {body rest : List Stmt} {pos : Pos} (g' : Ts prog w A env t s.heap false) (q : ∀ s', Keeps s s' → Wx prog w A rest env Q E s') :
    wpAny (model prog w) A (execs (.If t body [] pos :: rest) env) Q E s :=
  x_if g' (fun e => nomatch e) fun _ s' k => x_nil (q s' k).out
end
end Mine
open PySem PySem.W PyProof.Rows PySem.Calls
namespace Mine

def joinC : List (List Int) → List Int
  | [] => []
  | [a] => a
  | a :: b :: r => a ++ 10 :: joinC (b :: r)
def sN (Ls : List (List Int)) (k : Nat) : Nat := ((Ls.take k).map fun y => y.length + 1).sum
def blankC (c : Int) : Bool := [32, 9].any fun y => y == c

theorem sN_zero (Ls : List (List Int)) : sN Ls 0 = 0 := by unfold sN; rw [List.take_zero]; rfl
theorem sN_cons (a : List Int) (r : List (List Int)) (k : Nat) : sN (a :: r) (k + 1) = a.length + 1 + sN r k := by
  unfold sN; rw [List.take_succ_cons, List.map_cons, List.sum_cons]
theorem sN_succ : ∀ (Ls : List (List Int)) (k : Nat) (a : List Int), Ls[k]? = some a → sN Ls (k + 1) = sN Ls k + a.length + 1
  | b :: r, 0, a, e => by
    rw [List.getElem?_cons_zero] at e
    cases e
    rw [sN_cons, sN_zero, sN_zero]; omega
  | b :: r, k + 1, a, e => by
    rw [List.getElem?_cons_succ] at e
    rw [sN_cons, sN_cons, sN_succ r k a e]; omega
  | [], k, a, e => by simp at e

/-- a line, and what lies ahead of it and behind it -/
theorem dec : ∀ (Ls : List (List Int)) (row : Nat) (a : List Int), Ls[row]? = some a →
    ∃ pre post, joinC Ls = pre ++ (a ++ post) ∧ pre.length = sN Ls row ∧ (row = 0 → pre = []) ∧ (0 < row → ∃ p, pre = p ++ [10]) ∧ (row + 1 < Ls.length → ∃ p, post = 10 :: p) ∧ (row + 1 = Ls.length → post = [])
  | [], _, _, e => by simp at e
  | [b], 0, a, e => by
    cases e
    exact ⟨[], [], by simp [joinC], by rw [sN_zero]; rfl, fun _ => rfl, fun h => by omega, fun h => by simp at h, fun _ => rfl⟩
  | [b], k + 1, a, e => by simp at e
  | b :: c :: r, 0, a, e => by
    cases e
    exact ⟨[], 10 :: joinC (c :: r), by simp [joinC], by rw [sN_zero]; rfl, fun _ => rfl, fun h => by omega, fun _ => ⟨_, rfl⟩, fun h => by simp at h⟩
  | b :: c :: r, k + 1, a, e => by
    rw [List.getElem?_cons_succ] at e
    obtain ⟨pre, post, h1, h2, h3, h4, h5, h6⟩ := dec (c :: r) k a e
    refine ⟨b ++ 10 :: pre, post, ?_, ?_, fun h => by omega, fun _ => ?_, fun h => h5 (by simp at h ⊢; omega), fun h => h6 (by simp at h ⊢; omega)⟩
    · show b ++ 10 :: joinC (c :: r) = _
      rw [h1]; simp
    · rw [sN_cons, ← h2]; simp; omega
    · by_cases hk : 0 < k
      · obtain ⟨p, rfl⟩ := h4 hk
        exact ⟨b ++ 10 :: p, by simp⟩
      · have : pre = [] := h3 (by omega)
        subst this
        exact ⟨b, by simp⟩

/-- every place lies in a line -/
theorem place : ∀ (Ls : List (List Int)), 1 ≤ Ls.length → ∀ o, o ≤ (joinC Ls).length → ∃ row a c, Ls[row]? = some a ∧ c ≤ a.length ∧ o = sN Ls row + c
  | [], h, _, _ => by simp at h
  | [b], _, o, ho => ⟨0, b, o, rfl, ho, by rw [sN_zero]; omega⟩
  | b :: c :: r, _, o, ho => by
    by_cases h : o ≤ b.length
    · exact ⟨0, b, o, rfl, h, by rw [sN_zero]; omega⟩
    · have e : (joinC (b :: c :: r)).length = b.length + 1 + (joinC (c :: r)).length := by
        show (b ++ 10 :: joinC (c :: r)).length = _
        simp; omega
      obtain ⟨row, a, k, e1, e2, e3⟩ := place (c :: r) (by simp) (o - b.length - 1) (by omega)
      exact ⟨row + 1, a, k, by rw [List.getElem?_cons_succ]; exact e1, e2, by rw [sN_cons]; omega⟩

section
variable {pre a post codes : List Int}
theorem at_line (e : codes = pre ++ (a ++ post)) {i : Nat} (hi : i < a.length) : codes[pre.length + i]? = a[i]? := by
  subst e
  rw [List.getElem?_append_right (by omega), Nat.add_sub_cancel_left, List.getElem?_append_left hi]
theorem at_post (e : codes = pre ++ (a ++ post)) : codes[pre.length + a.length]? = post[0]? := by
  subst e
  rw [List.getElem?_append_right (by omega), Nat.add_sub_cancel_left, List.getElem?_append_right (Nat.le_refl _), Nat.sub_self]
theorem drop_line (e : codes = pre ++ (a ++ post)) {c : Nat} (hc : c ≤ a.length) : codes.drop (pre.length + c) = a.drop c ++ post := by
  subst e
  rw [← List.drop_drop, List.drop_left, List.drop_append_of_le_length hc]

theorem tw_short {p : Int → Bool} : ∀ (r post : List Int), r.all p = false → ∃ k, k < r.length ∧ ((r ++ post).takeWhile p).length = k
  | [], _, h => by simp at h
  | b :: r, post, h => by
    rw [List.cons_append, List.takeWhile_cons]
    cases hb : p b with
    | false => exact ⟨0, by simp, by simp⟩
    | true =>
      rw [List.all_cons, hb, Bool.true_and] at h
      obtain ⟨k, h1, h2⟩ := tw_short r post h
      exact ⟨k + 1, by simp; omega, by simp [h2]⟩
theorem tw_line {p : Int → Bool} (e : codes = pre ++ (a ++ post)) (hp : post = [] ∨ ∃ q, post = 10 :: q) (h10 : p 10 = false) {c : Nat} (hc : c ≤ a.length) (hall : (a.drop c).all p = true) : scanN p codes (pre.length + c) = pre.length + a.length := by
  unfold scanN
  rw [drop_line e hc]
  have : ((a.drop c ++ post).takeWhile p) = a.drop c := by
    rw [List.takeWhile_append_of_pos (by intro x hx; exact List.all_eq_true.mp hall x hx)]
    rcases hp with rfl | ⟨q, rfl⟩
    · simp
    · rw [List.takeWhile_cons]; simp [h10]
  rw [this, List.length_drop]; omega
theorem lsN_line (e : codes = pre ++ (a ++ post)) (ha : ∀ x ∈ a, x ≠ 10) (hpre : pre = [] ∨ ∃ q, pre = q ++ [10]) : ∀ c, c ≤ a.length → lsN codes (pre.length + c) = pre.length
  | 0, _ => by
    rcases hpre with rfl | ⟨q, rfl⟩
    · rfl
    · rw [Nat.add_zero, List.length_append, List.length_singleton]
      unfold lsN
      rw [if_pos]
      subst e
      simp
  | c + 1, h => by
    show lsN codes (pre.length + c + 1) = _
    unfold lsN
    rw [at_line e (by omega), if_neg, lsN_line e ha hpre c (by omega)]
    rw [List.getElem?_eq_getElem (by omega)]
    intro h'
    exact ha _ (List.getElem_mem _) (Option.some.inj h')
theorem beg_line (e : codes = pre ++ (a ++ post)) (ha : ∀ x ∈ a, x ≠ 10) (hpre : pre = [] ∨ ∃ q, pre = q ++ [10]) {c : Nat} (hc : c ≤ a.length) : isBeg codes (pre.length + c) = (pre.length + c == pre.length) := by
  unfold isBeg
  cases c with
  | zero =>
    rcases hpre with rfl | ⟨q, rfl⟩
    · rfl
    · subst e
      simp
  | succ c =>
    have h1 : (pre.length + (c + 1) == pre.length) = false := by simp
    have h2 : (pre.length + (c + 1) == 0) = false := by simp
    have h3 : pre.length + (c + 1) - 1 = pre.length + c := by omega
    rw [h1, h2, h3, Bool.false_or, List.getD_eq_getElem?_getD, at_line e (by omega), List.getElem?_eq_getElem (by omega)]
    simp only [Option.getD_some, beq_eq_false_iff_ne]
    exact ha _ (List.getElem_mem _)
theorem end_line (e : codes = pre ++ (a ++ post)) (ha : ∀ x ∈ a, x ≠ 10) (hp : post = [] ∨ ∃ q, post = 10 :: q) {c : Nat} (hc : c ≤ a.length) : isEnd codes (beN codes (pre.length + c)) = (a.drop c).all blankC := by
  cases hall : (a.drop c).all blankC with
  | true =>
    rw [show beN codes (pre.length + c) = pre.length + a.length from tw_line (p := blankC) e hp rfl hc hall]
    unfold isEnd
    rcases hp with rfl | ⟨q, rfl⟩
    · subst e; simp
    · rw [List.getD_eq_getElem?_getD, at_post e]; simp
  | false =>
    have h1 : ∃ k, k < (a.drop c).length ∧ beN codes (pre.length + c) = pre.length + c + k := by
      obtain ⟨k, h1, h2⟩ := tw_short (p := blankC) (a.drop c) post hall
      refine ⟨k, h1, ?_⟩
      show pre.length + c + ((codes.drop (pre.length + c)).takeWhile blankC).length = _
      rw [drop_line e hc, h2]
    obtain ⟨k, hk, e2⟩ := h1
    rw [e2]
    rw [List.length_drop] at hk
    unfold isEnd
    have h2 : (pre.length + c + k == codes.length) = false := by
      subst e; simp; omega
    rw [h2, Bool.false_or, Nat.add_assoc, List.getD_eq_getElem?_getD, at_line e (by omega), List.getElem?_eq_getElem (by omega)]
    simp only [Option.getD_some, beq_eq_false_iff_ne]
    exact ha _ (List.getElem_mem _)
end
end Mine
open PySem PySem.W PyProof.Rows PySem.Calls
namespace Mine

/-- lines of codes without a newline -/
def NoNl (Ls : List (List Int)) : Prop := ∀ a ∈ Ls, ∀ x ∈ a, x ≠ (10 : Int)

/-- one line's whole reckoning -/
structure At (Ls : List (List Int)) (row : Nat) (a : List Int) : Prop where
  ls : ∀ c, c ≤ a.length → lsN (joinC Ls) (sN Ls row + c) = sN Ls row
  le_ : ∀ c, c ≤ a.length → leN (joinC Ls) (sN Ls row + c) = sN Ls row + a.length
  beg : ∀ c, c ≤ a.length → isBeg (joinC Ls) (sN Ls row + c) = (sN Ls row + c == sN Ls row)
  end_ : ∀ c, c ≤ a.length → isEnd (joinC Ls) (beN (joinC Ls) (sN Ls row + c)) = (a.drop c).all blankC
  drop : ∀ c, c ≤ a.length → ((joinC Ls).drop (sN Ls row + c)).take (a.length - c) = a.drop c
  last : row + 1 = Ls.length → (joinC Ls).length = sN Ls row + a.length
  more : row + 1 < Ls.length → sN Ls row + a.length < (joinC Ls).length

theorem at_of {Ls : List (List Int)} {row : Nat} {a : List Int} (hn : NoNl Ls) (e : Ls[row]? = some a) : At Ls row a := by
  obtain ⟨pre, post, h1, h2, h3, h4, h5, h6⟩ := dec Ls row a e
  have ha : ∀ x ∈ a, x ≠ (10 : Int) := hn a (List.mem_of_getElem? e)
  have hrow : row < Ls.length := (List.getElem?_eq_some_iff.mp e).1
  have hpre : pre = [] ∨ ∃ q, pre = q ++ [10] := by
    by_cases h : 0 < row
    · exact .inr (h4 h)
    · exact .inl (h3 (by omega))
  have hpost : post = [] ∨ ∃ q, post = (10 : Int) :: q := by
    by_cases h : row + 1 < Ls.length
    · exact .inr (h5 h)
    · exact .inl (h6 (by omega))
  have hlen : (joinC Ls).length = pre.length + a.length + post.length := by rw [h1]; simp; omega
  refine ⟨fun c hc => ?_, fun c hc => ?_, fun c hc => ?_, fun c hc => ?_, fun c hc => ?_, fun h => ?_, fun h => ?_⟩
  all_goals rw [← h2]
  · exact lsN_line h1 ha hpre c hc
  · refine tw_line h1 hpost rfl hc ?_
    rw [List.all_eq_true]
    intro x hx
    have := ha x (List.mem_of_mem_drop hx)
    simpa using this
  · exact beg_line h1 ha hpre hc
  · exact end_line h1 ha hpost hc
  · rw [drop_line h1 hc, List.take_append_of_le_length (by rw [List.length_drop]; exact Nat.le_refl _)]
    rw [List.take_of_length_le (by rw [List.length_drop]; exact Nat.le_refl _)]
  · rw [hlen, h6 h]; simp
  · obtain ⟨q, hq⟩ := h5 h
    rw [hlen, hq]; simp

theorem sN_pos {Ls : List (List Int)} {k : Nat} (h : k < Ls.length) : sN Ls k < sN Ls (k + 1) := by
  rw [sN_succ Ls k Ls[k] (List.getElem?_eq_getElem h)]; omega
theorem sN_mono {Ls : List (List Int)} : ∀ {j k : Nat}, j ≤ k → k ≤ Ls.length → sN Ls j ≤ sN Ls k
  | j, 0, h, _ => by have : j = 0 := by omega
                     subst this; exact Nat.le_refl _
  | j, k + 1, h, hk => by
    by_cases e : j = k + 1
    · subst e; exact Nat.le_refl _
    · have := sN_mono (Ls := Ls) (j := j) (k := k) (by omega) (by omega)
      have := sN_pos (Ls := Ls) (k := k) (by omega)
      omega

theorem back {Ls : List (List Int)} (hn : NoNl Ls) : ∀ (j row : Nat), row < Ls.length → backN (joinC Ls) j (sN Ls row) = sN Ls (row - j)
  | 0, row, _ => rfl
  | j + 1, 0, h => by
    unfold backN
    rw [sN_zero, if_neg (by omega), Nat.zero_sub, sN_zero]
  | j + 1, row + 1, h => by
    have e := List.getElem?_eq_getElem (show row < Ls.length by omega)
    have hs := sN_succ Ls row Ls[row] e
    unfold backN
    rw [if_pos (by omega), show sN Ls (row + 1) - 1 = sN Ls row + Ls[row].length by omega, (at_of hn e).ls _ (Nat.le_refl _), back hn j row (by omega)]
    congr 1; omega
theorem fwd {Ls : List (List Int)} (hn : NoNl Ls) : ∀ (j row : Nat) (a : List Int) (c : Nat), Ls[row]? = some a → c ≤ a.length → fwdN (joinC Ls) (j + 1) (sN Ls row + c) = if row + j + 1 < Ls.length then sN Ls (row + j + 1) else (joinC Ls).length
  | j, row, a, c, e, hc => by
    have A := at_of hn e
    have hrow : row < Ls.length := (List.getElem?_eq_some_iff.mp e).1
    unfold fwdN
    rw [A.le_ c hc]
    by_cases h : row + 1 < Ls.length
    · rw [if_pos (A.more h)]
      have e' := List.getElem?_eq_getElem h
      have hs := sN_succ Ls row a e
      rw [← hs]
      cases j with
      | zero => rw [if_pos (by omega)]; rfl
      | succ j =>
        have this : fwdN (joinC Ls) (j + 1) (sN Ls (row + 1)) = _ := fwd hn j (row + 1) _ 0 e' (Nat.zero_le _)
        rw [this]
        rw [show row + 1 + j + 1 = row + (j + 1) + 1 by omega]
    · have hl := A.last (by omega)
      rw [if_neg (by omega), if_neg (by omega)]

/-- where the lines begin, as ints -/
def stZ (Ls : List (List Int)) : List Int := (List.range' 0 Ls.length).map fun k => (sN Ls k : Int)
theorem stZ_get {Ls : List (List Int)} {k : Nat} (h : k < Ls.length) : (stZ Ls)[k]? = some (sN Ls k : Int) := by
  unfold stZ
  rw [List.getElem?_map, List.getElem?_range' h]
  simp
theorem filt {Ls : List (List Int)} {row o : Nat} (h0 : row < Ls.length) (h1 : sN Ls row ≤ o) (h2 : ∀ k, row < k → k < Ls.length → o < sN Ls k) : ∀ (n i : Nat), i + n = Ls.length → (((List.range' i n).map fun k => (sN Ls k : Int)).filter fun s => decide (s ≤ (o : Int))).length = (row + 1 - i) - (row + 1 - (i + n))
  | 0, i, _ => by simp
  | n + 1, i, h => by
    rw [List.range'_succ, List.map_cons, List.filter_cons]
    have ih := filt h0 h1 h2 n (i + 1) (by omega)
    by_cases hi : i ≤ row
    · have hle := sN_mono (Ls := Ls) hi (by omega)
      rw [if_pos (by rw [decide_eq_true_eq]; omega), List.length_cons, ih]; omega
    · have := h2 i (by omega) (by omega)
      rw [if_neg (by rw [decide_eq_true_eq]; omega), ih]; omega
theorem row_of {Ls : List (List Int)} {row : Nat} {a : List Int} {c : Nat} (e : Ls[row]? = some a) (hc : c ≤ a.length) : rowOf (stZ Ls) ((sN Ls row + c : Nat) : Int) = row := by
  have hrow : row < Ls.length := (List.getElem?_eq_some_iff.mp e).1
  unfold rowOf stZ
  rw [filt (row := row) (o := sN Ls row + c) hrow (by omega) (fun k h1 h2 => ?_) Ls.length 0 (by omega)]
  · omega
  · have := sN_succ Ls row a e
    have := sN_mono (Ls := Ls) (j := row + 1) (k := k) (by omega) (by omega)
    omega

/-- the targets, both ways -/
theorem targets {Ls : List (List Int)} (hn : NoNl Ls) {row : Nat} {a : List Int} {c : Nat} (e : Ls[row]? = some a) (hc : c ≤ a.length) (k : Int) :
    (tgN (joinC Ls) (sN Ls row + c) k : Int) = movedI (stZ Ls) Ls.length (joinC Ls).length ((sN Ls row + c : Nat) : Int) k := by
  have hrow : row < Ls.length := (List.getElem?_eq_some_iff.mp e).1
  unfold tgN movedI
  rw [row_of e hc]
  by_cases hk : k ≤ 0
  · rw [if_pos hk, if_pos hk, (at_of hn e).ls c hc, back hn _ row hrow, List.getD_eq_getElem?_getD]
    have e2 : (if (row : Int) + k > 0 then (row : Int) + k else 0).toNat = row - (-k).toNat := by split <;> omega
    rw [e2, stZ_get (by omega)]; rfl
  · rw [if_neg hk, if_neg hk]
    obtain ⟨j, hj⟩ : ∃ j : Nat, k = (j : Int) + 1 := ⟨(k - 1).toNat, by omega⟩
    subst hj
    rw [show ((j : Int) + 1).toNat = j + 1 by omega, fwd hn j row a c e hc]
    by_cases h : row + j + 1 < Ls.length
    · rw [if_pos h, if_pos (by omega), List.getD_eq_getElem?_getD, show ((row : Int) + ((j : Int) + 1)).toNat = row + j + 1 by omega, stZ_get h]; rfl
    · rw [if_neg h, if_neg (by omega)]
end Mine
open PySem PySem.W PyProof.Rows PySem.Calls
namespace Mine

theorem codes_len (x : Str) : (codesOf x).length = x.length := by
  unfold codesOf
  rw [List.length_map, Array.length_toList]; rfl
theorem codes_app (x y : Str) : codesOf (x ++ y) = codesOf x ++ codesOf y := by
  show ((x.cps ++ y.cps).toList.map fun c : Nat => (c : Int)) = _
  rw [Array.toList_append, List.map_append]; rfl
theorem codes_nl : codesOf (Str.ofString "\n") = [10] := by kernel_rfl
theorem codes_join : ∀ lines : List Str, codesOf (Str.join (Str.ofString "\n") lines) = joinC (lines.map codesOf)
  | [] => rfl
  | [x] => rfl
  | x :: y :: r => by
    show codesOf (x ++ Str.ofString "\n" ++ Str.join (Str.ofString "\n") (y :: r)) = codesOf x ++ 10 :: joinC ((y :: r).map codesOf)
    rw [codes_app, codes_app, codes_nl, codes_join (y :: r)]; simp
theorem codes_text (lines : List Str) : codesOf (textOf lines) = joinC (lines.map codesOf) := by
  have e : textOf lines = Str.join (Str.ofString "\n") lines := StrLaws.glued_eq_join _ _
  rw [e, codes_join]
theorem stI_sN (lines : List Str) (k : Nat) : stI lines k = (sN (lines.map codesOf) k : Int) := by
  unfold stI sN
  rw [← List.map_take, List.map_map]
  induction lines.take k with
  | nil => rfl
  | cons a r ih =>
    rw [List.map_cons, List.map_cons, List.sum_cons, List.sum_cons, ih]
    show (a.length : Int) + 1 + _ = (((codesOf a).length + 1 + _ : Nat) : Int)
    rw [codes_len]; push_cast; rfl
theorem sts_stZ (lines : List Str) : stsI lines = stZ (lines.map codesOf) := by
  unfold stsI stZ
  rw [List.length_map]
  apply List.map_congr_left
  intro k _
  exact stI_sN lines k

theorem menu_nl : (menuL.all fun y => (codesOf y).all fun c => c != 10) = true := by kernel_rfl
theorem menu_blank : (menuL.all fun y => (List.range 6).all fun c => (Txt.stripChars ⟨(y.cps.toList.drop c).toArray⟩ (Str.ofString " \t") == Str.ofString "") == ((codesOf y).drop c).all blankC) = true := by kernel_rfl
theorem menu_short : ∀ y ∈ menuL, y.length < 6 := by decide

theorem map_inj : ∀ {l r : List Nat}, (l.map fun c : Nat => (c : Int)) = (r.map fun c : Nat => (c : Int)) → l = r
  | [], [], _ => rfl
  | [], _ :: _, h => by simp at h
  | _ :: _, [], h => by simp at h
  | a :: l, b :: r, h => by
    rw [List.map_cons, List.map_cons, List.cons.injEq] at h
    rw [map_inj h.2, show a = b by have := h.1; omega]

theorem pl_of (lines : List Str) (h1 : 1 ≤ lines.length) (hm : ∀ y ∈ lines, y ∈ menuL) (o : Nat) (ho : o ≤ (textOf lines).length) :
    ∃ (row st : Nat) (y : Str), rowOf (stsI lines) o = row ∧ (stsI lines)[row]? = some (st : Int) ∧ lines[row]? = some y ∧ PL (codesOf (textOf lines)) (stsI lines) lines.length (textOf lines) o st (st + y.length) := by
  have hlen : (lines.map codesOf).length = lines.length := List.length_map ..
  have hn : NoNl (lines.map codesOf) := by
    intro a ha x hx
    obtain ⟨y, hy, rfl⟩ := List.mem_map.mp ha
    have := List.all_eq_true.mp (List.all_eq_true.mp menu_nl y (hm y hy)) x hx
    simpa using this
  have hsz : (joinC (lines.map codesOf)).length = (textOf lines).length := by rw [← codes_text, codes_len]
  obtain ⟨row, a, c, e, hc, rfl⟩ := place (lines.map codesOf) (by rw [hlen]; exact h1) o (by rw [hsz]; exact ho)
  have hrow : row < lines.length := by rw [← hlen]; exact (List.getElem?_eq_some_iff.mp e).1
  rw [List.getElem?_map, List.getElem?_eq_getElem hrow, Option.map_some] at e
  have ea := Option.some.inj e
  have e' : (lines.map codesOf)[row]? = some a := by rw [List.getElem?_map, List.getElem?_eq_getElem hrow, Option.map_some]; exact e
  have A := at_of hn e'
  have hal : a.length = lines[row].length := by rw [← ea, codes_len]
  have hym : lines[row] ∈ menuL := hm _ (List.getElem_mem _)
  refine ⟨row, sN (lines.map codesOf) row, lines[row], ?_, ?_, List.getElem?_eq_getElem hrow, ?_⟩
  · rw [sts_stZ]; exact row_of e' hc
  · rw [sts_stZ]; exact stZ_get (by rw [hlen]; exact hrow)
  rw [sts_stZ, codes_text]
  refine ⟨hsz, by rw [hsz]; exact ho, A.ls c hc, ?_, fun k => ?_, fun k => ?_, A.beg c hc, fun _ => ?_, ?_, ?_⟩
  · rw [← hal]; exact A.le_ c hc
  · rw [← hlen]; exact targets hn e' hc k
  · rw [← hlen]; exact targets hn e' (Nat.zero_le _) k
  · rw [A.end_ c hc]
    have hen : sN (lines.map codesOf) row + lines[row].length ≤ (textOf lines).length := by
      rw [← hsz, ← hal]
      by_cases h : row + 1 < (lines.map codesOf).length
      · exact Nat.le_of_lt (A.more h)
      · exact Nat.le_of_eq (A.last (by omega)).symm
    have hs := eq_of_beq (slice_closesL (x := textOf lines) (i := ((sN (lines.map codesOf) row + c : Nat) : Int)) (j := ((sN (lines.map codesOf) row + lines[row].length : Nat) : Int)) (by omega) (by omega) (by omega))
    rw [hs]
    have hd := A.drop c hc
    rw [← codes_text, ← ea] at hd
    have e2 : ((textOf lines).cps.toList.drop (sN (lines.map codesOf) row + c)).take (lines[row].length - c) = lines[row].cps.toList.drop c := by
      apply map_inj
      rw [List.map_take, List.map_drop, List.map_drop]
      rw [codes_len] at hd
      exact hd
    have n1 : (((sN (lines.map codesOf) row + c : Nat) : Int)).toNat = sN (lines.map codesOf) row + c := by omega
    have n2 : ((((sN (lines.map codesOf) row + lines[row].length : Nat) : Int)) - ((sN (lines.map codesOf) row + c : Nat) : Int)).toNat = lines[row].length - c := by omega
    rw [n1, n2, e2, ← ea]
    have hb := List.all_eq_true.mp (List.all_eq_true.mp menu_blank _ hym) c (List.mem_range.mpr (by have := menu_short _ hym; omega))
    exact (eq_of_beq hb).symm
  · rw [row_of e' hc]; omega
  · have := row_of e' (Nat.zero_le a.length)
    rw [Nat.add_zero] at this
    rw [this]; omega
end Mine
open PySem PySem.W PyProof.Rows PySem.Calls
namespace Mine
section
variable {prog : Program} {w : World} {A : Around} {g gg h h' : Heap} {L d ll ls v : Addr} {vl vs : List Value} {x : Str} {starts : List Int} {first many : Int} {o st en : Nat} {whole : Bool} {m : Str → Option Value} {s : Shared} {Q : Flow → Shared → Prop} {E : Value → Shared → Prop} {env : Env}

theorem shaped_IS (a : Int) {z : Str} (hz : PyData.canLay0 (.str z) = true) : SeqAt.shaped (.tuple [.int a, .str z]) = true := by
  have e : PyData.canLay0 (.tuple [.int a, .str z]) = true := by
    show (PyData.canLay0 (.int a) && (PyData.canLay0 (.str z) && true)) = true
    rw [hz]; rfl
  unfold SeqAt.shaped
  rw [e]; rfl
theorem shaped_II (a b : Int) : SeqAt.shaped (.tuple [.int a, .int b]) = true := rfl
theorem strOk0 : PyData.canLay0 (.str (Str.ofString "")) = true := by kernel_rfl
theorem strOk1 : PyData.canLay0 (.str (Str.ofString "end-of-buffer")) = true := by kernel_rfl
/-- what is due, as the turn holds it -/
def Due (L d : Addr) (n : Int) (z : Str) (m : Str → Option Value) (h : Heap) : Prop := ∃ q t u, m (Str.ofString "_law_due") = some (.ref q) ∧ XT L d h q (.int n t) (.str z u)
theorem Due.le {n : Int} {z : Str} (D : Due L d n z m h) (k : LeO L d h h') : Due L d n z m h' := let ⟨q, t, u, e, X⟩ := D; ⟨q, t, u, e, X.le k⟩

set_option maxHeartbeats 4000000 in
theorem turn7 (l : Lv 14 A) (R : RS w g gg L d ll ls v vl vs x starts first o st en many whole m s.heap) (P : PL (codesOf x) starts vl.length x o st en) (hf : 0 ≤ first)
    (q : ∀ h' tk, RS w g gg L d ll ls v vl vs x starts first o st en many whole m h' → Wx prog w A ((turnBody w).drop 7) (envG w 155 L) Q E { s with heap := h', toks := tk }) :
    Wx prog w A ((turnBody w).drop 6) (envG w 155 L) Q E s := by
  refine Wx.mk ?_
  refine t_if0 ?_ fun s' k => ?_
  · refine ts_ne (P₁ := isTup (isI (first + movedI starts vl.length x.length o many)) (isS (Str.ofString ""))) (P₂ := isTup (isI (first + movedI starts vl.length x.length o many)) (isS (Str.ofString ""))) l ?_ (eqv_IS _ _) (mono_tup mono_const mono_const) rd_tupIS rd_tupIS ?_ ?_ ?_
    · exact shaped_IS _ strOk0
    · refine ev_call4 (a := 71) R.B ?_ kp_71 (r_view R) (ev_add (r_first R) (r_at R)) (r_many R) (r_whole R) ?_ ?_ ?_ ?_ ?_ ?_ ?_
      · refine ev_glob R.B g_klt ?_ ?_ ?_ rfl <;> kernel_rfl
      · rintro _ _ _ _ rfl ⟨t₁, rfl⟩ ⟨t₂, rfl⟩ rfl
        have e := P.tg many
        rw [P.size] at e
        rw [← e]
        exact f_klt_some (l.mono (by omega)) R.B R.R.row P.le hf
      · kernel_rfl
      · kernel_rfl
      · kernel_rfl
      · kernel_rfl
      · kernel_rfl
      · kernel_rfl
    · refine ev_tuple2 mono_const mono_const (ev_add (r_first R) (r_moved l R (r_at R) (r_many R) P.row0 ?_ ?_ ?_ ?_ ?_ ?_ ?_)) ev_str ?_ ?_
      · kernel_rfl
      · kernel_rfl
      · kernel_rfl
      · kernel_rfl
      · kernel_rfl
      · kernel_rfl
      · kernel_rfl
      · kernel_rfl
      · kernel_rfl
    · kernel_rfl
  · obtain ⟨h', tk, rfl, k⟩ := k
    refine Wx.rest' (rest := (turnBody w).drop 7) ?_ ?_
    · kernel_rfl
    exact q h' tk (R.le k)

set_option maxHeartbeats 4000000 in
theorem turn8 (l : Lv 14 A) (R : RS w g gg L d ll ls v vl vs x starts first o st en many whole m s.heap)
    (q : ∀ m' h' tk, RS w g gg L d ll ls v vl vs x starts first o st en many whole m' h' → Due L d (first + en) (Str.ofString "") m' h' → Wx prog w A ((turnBody w).drop 8) (envG w 155 L) Q E { s with heap := h', toks := tk }) :
    Wx prog w A ((turnBody w).drop 7) (envG w 155 L) Q E s := by
  refine Wx.mk ?_
  obtain ⟨ta, S⟩ := R.S
  refine t_assign (P := isTup (isI (first + en)) (isS (Str.ofString ""))) S ?_ ?_ ?_ fun u h₁ h' tk k₁ p S₁ S' k' kO => ?_
  · refine ev_tuple2 mono_const mono_const (ev_add (r_first R) (r_end R)) ev_str ?_ ?_
    · kernel_rfl
    · kernel_rfl
  · kernel_rfl
  · kernel_rfl
  obtain ⟨q', a, b, rfl, e, ⟨t, rfl⟩, ⟨t', rfl⟩⟩ := p
  refine Wx.rest' (rest := (turnBody w).drop 8) ?_ ?_
  · kernel_rfl
  exact q _ h' tk (R.set ⟨_, S'⟩ kO (by decide)) ⟨q', t, t', if_pos rfl, (S₁.tup e).le k'⟩

/-- the rest of the line, without its blanks, is empty -/
theorem ts_blank {p₁ p₂ p₃ p₄ p₅ : Pos} (R : RS w g gg L d ll ls v vl vs x starts first o st en many whole m h) :
    Gv prog w A (eval (.Subscript (.Name (Str.ofString "_law_text") p₁) (.Slice (some (.Name (Str.ofString "_law_at") p₂)) (some (.Name (Str.ofString "_law_end") p₃)) none p₄) p₅) (envG w 155 L)) h (isS (Txt.slice x (some (o : Int)) (some (en : Int)))) := fun s E le =>
  Subscript_ ((r_text R).use le fun u s₁ k₁ ⟨t₁, e₁⟩ => wpAny_Slice (evalPart_some_step (((r_at R).le le).use (keeps_le k₁) fun y s₂ k₂ ⟨t₂, e₂⟩ => evalPart_some_step (((r_end R).le le).use ((keeps_le k₁).trans (keeps_le k₂)) fun z s₃ k₃ ⟨t₃, e₃⟩ => evalPart_none_step (by
    subst e₁; subst e₂; subst e₃
    have kk := keeps_trans (keeps_trans k₁ k₂) k₃
    refine tail_of_ItemOn (SBH.sliceItem_ss (P := fun h' => Le s.heap h') (fun h' ob k => k.trans (Le.push _ _)) (keeps_le kk) (fun h' t' k p => ?_) (by have := R.hx; have : sizeLine = 16777216 := rfl; omega)) (by with_unfolding_all rfl) (by intro _; with_unfolding_all rfl)
    obtain ⟨hh, tk, rfl, _⟩ := kk
    exact ⟨keeps_mk p, t', rfl⟩)))))
end
end Mine
open PySem PySem.W PyProof.Rows PySem.Calls
namespace Mine
section
variable {prog : Program} {w : World} {A : Around} {g gg h h' : Heap} {L d ll ls v : Addr} {vl vs : List Value} {x : Str} {starts : List Int} {first many : Int} {o st en : Nat} {whole : Bool} {m : Str → Option Value} {s : Shared} {Q : Flow → Shared → Prop} {E : Value → Shared → Prop} {env : Env}

theorem ts_eqS {l r : Expr} {pos : Pos} {y z : Str} (g₁ : Gv prog w A (eval l env) h (isS y)) (g₂ : Gv prog w A (eval r env) h (isS z)) (hm : behindInMarks .Eq r = false) : Ts prog w A env (.Compare l [.Eq] [r] pos) h (y == z) := fun s E k =>
  wpAny_isTrue_Compare1 (g₁.use k fun u s₁ k₁ ⟨_, p⟩ => g₂.use (k.trans (keeps_le k₁)) fun v s₂ k₂ ⟨_, q⟩ => by
    subst p; subst q; exact eq_str (wpAny_truthy_bool ⟨keeps_trans k₁ k₂, rfl⟩)) hm
theorem ts_neS {l r : Expr} {pos : Pos} {y z : Str} (g₁ : Gv prog w A (eval l env) h (isS y)) (g₂ : Gv prog w A (eval r env) h (isS z)) (hm : behindInMarks .NotEq r = false) : Ts prog w A env (.Compare l [.NotEq] [r] pos) h (y != z) := fun s E k =>
  wpAny_isTrue_Compare1 (g₁.use k fun u s₁ k₁ ⟨_, p⟩ => g₂.use (k.trans (keeps_le k₁)) fun v s₂ k₂ ⟨_, q⟩ => by
    subst p; subst q; exact ne_str (wpAny_truthy_bool ⟨keeps_trans k₁ k₂, rfl⟩)) hm
theorem ev_strip {e : Expr} {y z : Str} {apos pos p : Pos} {k : Nat} (hy : y.length < 1000) (g : Gv prog w A (eval e env) h (isS y)) (hbase : attributeBase e (Str.ofString "strip") env (eval e env) = eval e env) (hline : (apos.endLine == pos.line) = true) :
    Gv prog w A (eval (.Call (.Attribute e (Str.ofString "strip") apos) [.Constant (.str z) k p] [] pos) env) h (isS (Txt.stripChars y z)) := fun s E le => by
  refine Call_method1 hbase rfl hline (g.use le fun u s₁ k₁ ⟨t₁, e₁⟩ => ?_)
  subst e₁
  refine SB.stripChars (ev_str.use (Le.refl _) fun v s₂ k₂ ⟨t₂, e₂⟩ => ⟨z, t₂, e₂, fun t' k => ⟨keeps_trans (keeps_trans k₁ k₂) (keeps_tok _ _), t', rfl⟩⟩) (by have : sizeLine = 16777216 := rfl; omega)

theorem slice_len (x : Str) (a b : Option Int) : (Txt.slice x a b).length ≤ x.length := Txt.slice_le x a b

theorem bqN (a b : Nat) : ((a : Int) == (b : Int)) = (a == b) := by
  rw [Bool.eq_iff_iff, beq_iff_eq, beq_iff_eq]; omega
def dueN9 (x : Str) (starts : List Int) (nl : Nat) (o st en : Nat) (whole : Bool) : Int :=
  if ((Txt.stripChars (Txt.slice x (some (o : Int)) (some (en : Int))) (Str.ofString " \t") == Str.ofString "") || (whole && (o == st))) = true then movedI starts nl x.length o 1 else en

set_option maxHeartbeats 4000000 in
theorem turn9 (l : Lv 14 A) (R : RS w g gg L d ll ls v vl vs x starts first o st en many whole m s.heap) (hr : 0 ≤ rowOf starts o) (D : Due L d (first + en) (Str.ofString "") m s.heap)
    (q : ∀ m' h' tk, RS w g gg L d ll ls v vl vs x starts first o st en many whole m' h' → Due L d (first + dueN9 x starts vl.length o st en whole) (Str.ofString "") m' h' → Wx prog w A ((turnBody w).drop 9) (envG w 155 L) Q E { s with heap := h', toks := tk }) :
    Wx prog w A ((turnBody w).drop 8) (envG w 155 L) Q E s := by
  refine Wx.mk ?_
  have hsl := slice_len x (some (o : Int)) (some (en : Int))
  have hx := R.hx
  refine x_if (b := (Txt.stripChars (Txt.slice x (some (o : Int)) (some (en : Int))) (Str.ofString " \t") == Str.ofString "") || (whole && ((o : Int) == (st : Int)))) (ts_or (ts_eqS (ev_strip (by omega) (ts_blank R) ?_ ?_) ev_str ?_) (fun _ => ts_and (ts_val (r_whole R) ?_) fun _ => ts_cmp (r_at R) (r_begin R) rfl ?_)) ?_ ?_
  · kernel_rfl
  · kernel_rfl
  · kernel_rfl
  · kernel_rfl
  · kernel_rfl
  · intro hb s₁ k₁
    obtain ⟨h₁, tk₁, rfl, k₁⟩ := k₁
    have R₁ := R.le k₁
    obtain ⟨ta, S⟩ := R₁.S
    refine t_assign (P := isTup (isI (first + movedI starts vl.length x.length o 1)) (isS (Str.ofString ""))) S ?_ ?_ ?_ fun u h₂ h' tk k₂ p S₁ S' k' kO => ?_
    · refine ev_tuple2 mono_const mono_const (ev_add (r_first R₁) (r_moved l R₁ (r_at R₁) ev_int hr ?_ ?_ ?_ ?_ ?_ ?_ ?_)) ev_str ?_ ?_
      all_goals kernel_rfl
    · kernel_rfl
    · kernel_rfl
    obtain ⟨q', a, b, rfl, e, ⟨t, rfl⟩, ⟨t', rfl⟩⟩ := p
    refine ⟨x_nil ?_⟩
    refine Wx.rest (body := (turnBody w).drop 9) ?_ ?_
    rotate_left
    · kernel_rfl
    have eb : dueN9 x starts vl.length o st en whole = movedI starts vl.length x.length o 1 := by
      have hb' : ((o : Int) == (st : Int)) = (o == st) := bqN o st
      rw [hb'] at hb
      exact if_pos hb
    exact q _ h' tk (R₁.set ⟨_, S'⟩ kO (by decide)) ⟨q', t, t', if_pos rfl, by rw [eb]; exact (S₁.tup e).le k'⟩
  · intro hb s₁ k₁
    obtain ⟨h₁, tk₁, rfl, k₁⟩ := k₁
    refine x_nil ?_
    refine Wx.rest (body := (turnBody w).drop 9) ?_ ?_
    rotate_left
    · kernel_rfl
    have eb : dueN9 x starts vl.length o st en whole = en := by
      have hb' : ((o : Int) == (st : Int)) = (o == st) := bqN o st
      rw [hb'] at hb
      exact if_neg (by rw [hb]; decide)
    rw [← eb] at D
    exact q m h₁ tk₁ (R.le k₁) (D.le (.of k₁))

def dueN10 (x : Str) (starts : List Int) (nl : Nat) (o st en : Nat) (whole : Bool) : Int := if o = x.length then o else dueN9 x starts nl o st en whole
def dueS10 (x : Str) (o : Nat) : Str := if o = x.length then Str.ofString "end-of-buffer" else Str.ofString ""

set_option maxHeartbeats 4000000 in
theorem turn10 (l : Lv 14 A) (R : RS w g gg L d ll ls v vl vs x starts first o st en many whole m s.heap) (D : Due L d (first + dueN9 x starts vl.length o st en whole) (Str.ofString "") m s.heap)
    (q : ∀ m' h' tk, RS w g gg L d ll ls v vl vs x starts first o st en many whole m' h' → Due L d (first + dueN10 x starts vl.length o st en whole) (dueS10 x o) m' h' → Wx prog w A ((turnBody w).drop 10) (envG w 155 L) Q E { s with heap := h', toks := tk }) :
    Wx prog w A ((turnBody w).drop 9) (envG w 155 L) Q E s := by
  refine Wx.mk ?_
  refine x_if (b := (o : Int) == (x.length : Int)) (ts_cmp (r_at R) (r_len R) rfl ?_) ?_ ?_
  · kernel_rfl
  · intro hb s₁ k₁
    obtain ⟨h₁, tk₁, rfl, k₁⟩ := k₁
    have hb' : o = x.length := by have := eq_of_beq hb; omega
    have R₁ := R.le k₁
    obtain ⟨ta, S⟩ := R₁.S
    refine t_assign (P := isTup (isI (first + o)) (isS (Str.ofString "end-of-buffer"))) S ?_ ?_ ?_ fun u h₂ h' tk k₂ p S₁ S' k' kO => ?_
    · refine ev_tuple2 mono_const mono_const (ev_add (r_first R₁) (r_at R₁)) ev_str ?_ ?_
      all_goals kernel_rfl
    · kernel_rfl
    · kernel_rfl
    obtain ⟨q', a, b, rfl, e, ⟨t, rfl⟩, ⟨t', rfl⟩⟩ := p
    refine ⟨x_nil ?_⟩
    refine Wx.rest (body := (turnBody w).drop 10) ?_ ?_
    rotate_left
    · kernel_rfl
    have e1 : dueN10 x starts vl.length o st en whole = o := if_pos hb'
    have e2 : dueS10 x o = Str.ofString "end-of-buffer" := if_pos hb'
    exact q _ h' tk (R₁.set ⟨_, S'⟩ kO (by decide)) ⟨q', t, t', if_pos rfl, by rw [e1, e2]; exact (S₁.tup e).le k'⟩
  · intro hb s₁ k₁
    obtain ⟨h₁, tk₁, rfl, k₁⟩ := k₁
    have hb' : ¬ o = x.length := fun e => by rw [e] at hb; simp at hb
    refine x_nil ?_
    refine Wx.rest (body := (turnBody w).drop 10) ?_ ?_
    rotate_left
    · kernel_rfl
    have e1 : dueN10 x starts vl.length o st en whole = dueN9 x starts vl.length o st en whole := if_neg hb'
    have e2 : dueS10 x o = Str.ofString "" := if_neg hb'
    rw [← e1, ← e2] at D
    exact q m h₁ tk₁ (R.le k₁) (D.le (.of k₁))

theorem due_klt {nl : Nat} (P : PL (codesOf x) starts nl x o st en) : ((kltP (codesOf x) o whole : Nat) : Int) = dueN10 x starts nl o st en whole ∧ kltS (codesOf x) o = dueS10 x o := by
  have hs := P.size
  unfold kltP kltS dueN10 dueS10 dueN9
  rw [P.beg, P.le_, hs]
  by_cases e : o = x.length
  · simp only [if_pos e]; exact ⟨trivial, trivial⟩
  · simp only [if_neg e]
    rw [P.blank (by rw [hs]; exact e)]
    refine ⟨?_, trivial⟩
    split
    · have := P.tg 1
      rw [hs] at this
      exact this
    · rfl

theorem canLay_dueS10 : PyData.canLay0 (.str (dueS10 x o)) = true := by
  unfold dueS10
  split
  · exact strOk1
  · exact strOk0

set_option maxHeartbeats 4000000 in
theorem turn11 (l : Lv 14 A) (R : RS w g gg L d ll ls v vl vs x starts first o st en many whole m s.heap) (P : PL (codesOf x) starts vl.length x o st en) (hf : 0 ≤ first) (D : Due L d (first + dueN10 x starts vl.length o st en whole) (dueS10 x o) m s.heap)
    (q : ∀ h' tk, RS w g gg L d ll ls v vl vs x starts first o st en many whole m h' → Wx prog w A ((turnBody w).drop 11) (envG w 155 L) Q E { s with heap := h', toks := tk }) :
    Wx prog w A ((turnBody w).drop 10) (envG w 155 L) Q E s := by
  refine Wx.mk ?_
  refine t_if0 ?_ fun s' k => ?_
  · obtain ⟨e1, e2⟩ := due_klt (whole := whole) P
    refine ts_ne (P₁ := isTup (isI (first + dueN10 x starts vl.length o st en whole)) (isS (dueS10 x o))) (P₂ := isTup (isI (first + dueN10 x starts vl.length o st en whole)) (isS (dueS10 x o))) l ?_ (eqv_IS _ _) (mono_tup mono_const mono_const) rd_tupIS rd_tupIS ?_ ?_ ?_
    · exact shaped_IS _ canLay_dueS10
    · refine ev_call4 (a := 71) (R₃ := fun v => v = .none) R.B ?_ kp_71 (r_view R) (ev_add (r_first R) (r_at R)) ev_none (r_whole R) ?_ ?_ ?_ ?_ ?_ ?_ ?_
      · refine ev_glob R.B g_klt ?_ ?_ ?_ rfl <;> kernel_rfl
      · rintro _ _ _ _ rfl ⟨t₁, rfl⟩ rfl rfl
        rw [← e1, ← e2]
        exact f_klt_none (l.mono (by omega)) R.B R.R.row P.le hf
      all_goals kernel_rfl
    · obtain ⟨ta, S⟩ := R.S
      obtain ⟨q', t, u, hq, X⟩ := D
      refine fun s₁ E₁ k => (l_val (v := .ref q') S hq ?_ ?_).use k fun y s₂ k₂ e => ⟨k₂, q', _, _, e, keeps_le k₂ _ _ (k _ _ X.2), ⟨t, rfl⟩, ⟨u, rfl⟩⟩
      · kernel_rfl
      · rfl
    · kernel_rfl
  · obtain ⟨h', tk, rfl, k⟩ := k
    refine Wx.rest' (rest := (turnBody w).drop 11) ?_ ?_
    · kernel_rfl
    exact q h' tk (R.le k)
end
end Mine
open PySem PySem.W PyProof.Rows PySem.Calls
namespace Mine

/-- two names: a pair of ints, and a text -/
def Two (y z : Str) (L d : Addr) (a b : Int) (x : Str) (m : Str → Option Value) (h : Heap) : Prop :=
  (∃ q t u, m y = some (.ref q) ∧ XT L d h q (.int a t) (.int b u)) ∧ ∃ t, m z = some (.str x t)
theorem Two.le {y z : Str} {L d : Addr} {a b : Int} {x : Str} {m : Str → Option Value} {h h' : Heap} (T : Two y z L d a b x m h) (k : LeO L d h h') : Two y z L d a b x m h' :=
  let ⟨⟨q, t, u, e, X⟩, r⟩ := T; ⟨⟨q, t, u, e, X.le k⟩, r⟩
theorem Two.set {y z p : Str} {u : Value} {L d : Addr} {a b : Int} {x : Str} {m : Str → Option Value} {h h' : Heap} (T : Two y z L d a b x m h) (k : LeO L d h h') (h₁ : y ≠ p) (h₂ : z ≠ p) : Two y z L d a b x (fun i => if i = p then some u else m i) h' := by
  obtain ⟨⟨q, t, u, e, X⟩, t', r⟩ := T
  exact ⟨⟨q, t, u, (if_neg h₁).trans e, X.le k⟩, t', (if_neg h₂).trans r⟩
abbrev Told := Two (Str.ofString "_law_told") (Str.ofString "_law_word")
abbrev Pair := Two (Str.ofString "_law_pair") (Str.ofString "_law_name")

section
variable {prog : Program} {w : World} {A : Around} {g gg h h' : Heap} {L d ll ls v : Addr} {vl vs : List Value} {x : Str} {starts : List Int} {first many : Int} {o st en : Nat} {whole : Bool} {m : Str → Option Value} {s : Shared} {Q : Flow → Shared → Prop} {E : Value → Shared → Prop} {env : Env}

set_option maxHeartbeats 4000000 in
theorem turn12 (l : Lv 14 A) (R : RS w g gg L d ll ls v vl vs x starts first o st en many whole m s.heap) (P : PL (codesOf x) starts vl.length x o st en) (hf : 0 ≤ first)
    (q : ∀ m' h' tk, RS w g gg L d ll ls v vl vs x starts first o st en many whole m' h' → Told L d (first + wlbA (codesOf x) o many) (first + wlbB (codesOf x) o many) (wlbS (codesOf x) o many) m' h' → Wx prog w A ((turnBody w).drop 12) (envG w 155 L) Q E { s with heap := h', toks := tk }) :
    Wx prog w A ((turnBody w).drop 11) (envG w 155 L) Q E s := by
  refine Wx.mk ?_
  refine wpAny_execs_cons ?_
  refine Assign_Tuple ?_ ?_ ?_
  rotate_left
  · kernel_rfl
  · kernel_rfl
  refine Gv.use (h := s.heap) (P := isTup (isTup (isI (first + wlbA (codesOf x) o many)) (isI (first + wlbB (codesOf x) o many))) (isS (wlbS (codesOf x) o many))) ?_ (Le.refl _) fun u s₁ k₁ p => ?_
  · refine ev_call3 (a := 78) R.B ?_ kp_78 (r_view R) (ev_add (r_first R) (r_at R)) (r_many R) ?_ ?_ ?_ ?_ ?_ ?_
    · refine ev_glob R.B g_wlb ?_ ?_ ?_ rfl <;> kernel_rfl
    · rintro _ _ _ rfl ⟨t₁, rfl⟩ ⟨t₂, rfl⟩
      exact f_wlb (l.mono (by omega)) R.B R.R.row P.le hf
    all_goals kernel_rfl
  obtain ⟨q₁, a, b, rfl, e₁, ⟨q₂, a₂, b₂, rfl, e₂, ⟨t₁, rfl⟩, ⟨t₂, rfl⟩⟩, ⟨t₃, rfl⟩⟩ := p
  obtain ⟨h₁, tk₁, rfl, k₁⟩ := k₁
  have R₁ := R.le k₁
  refine assign_Tuple_tuple l.hh (items := #[.ref q₂, .str (wlbS (codesOf x) o many) t₃]) ⟨_, e₁, rfl, 0, rfl⟩ ?_ ?_ fun h₂ he => ?_
  · kernel_rfl
  · kernel_rfl
  have k₂ := le_of_ext he
  have R₂ := R₁.le k₂
  obtain ⟨ta, S₂⟩ := R₂.S
  have X₂ := S₂.tup (k₂ _ _ e₂)
  have hp : ∀ L' : Addr, ((envG w 155 L).scope.kind == .class || ((envG w 155 L).scope.kind == .module && L' != (envG w 155 L).globals)) = false := fun L' => by rw [show (envG w 155 L).scope.kind = _ from k155 (w := w)]; rfl
  refine assignInOrder_cons ?_
  refine assign_Name ?_
  refine wpAny_storeName_local ?_ S₂.ns (fun ha na sa => ?_) ?_
  · kernel_rfl
  rotate_left
  · exact hp _
  have Sa := S₂.store na sa
  have Ra := R₂.set ⟨_, Sa⟩ (.same sa ex_L) (by decide)
  refine assignInOrder_cons ?_
  refine assign_Name ?_
  refine wpAny_storeName_local ?_ Sa.ns (fun hb nb sb => ?_) ?_
  · kernel_rfl
  rotate_left
  · exact hp _
  have Sb := Sa.store nb sb
  have Rb := Ra.set ⟨_, Sb⟩ (.same sb ex_L) (by decide)
  refine assignInOrder_nil ?_
  refine Wx.rest (body := (turnBody w).drop 12) ?_ ?_
  rotate_left
  · kernel_rfl
  dsimp only
  exact q _ hb _ Rb ⟨⟨q₂, t₁, t₂, (if_neg (by decide)).trans (if_pos rfl), (X₂.le (.same sa ex_L)).le (.same sb ex_L)⟩, t₃, if_pos rfl⟩

/-- the pair and the name, bound -/
theorem t_pn {rest : List Stmt} {e : Expr} {p₁ p₂ p₃ tpos vpos pos : Pos} {k k' k'' : Nat} {a b a' b' : Int} {z z' : Str} (l : Lv 14 A) (R : RS w g gg L d ll ls v vl vs x starts first o st en many whole m s.heap) (W : Told L d a' b' z' m s.heap)
    (g₁ : Gv prog w A (eval e (envG w 155 L)) s.heap (isTup (isI a) (isI b)))
    (h₁ : starEach [e, .Constant (.str z) k'' p₃] (envG w 155 L) = (false, eval e (envG w 155 L)) :: starEach [.Constant (.str z) k'' p₃] (envG w 155 L)) (h₂ : starEach [.Constant (.str z) k'' p₃] (envG w 155 L) = (false, eval (.Constant (.str z) k'' p₃) (envG w 155 L)) :: starEach [] (envG w 155 L))
    (hs : swapsWithSole [.Tuple [.Name (Str.ofString "_law_pair") p₁, .Name (Str.ofString "_law_name") p₂] k tpos] (.Tuple [e, .Constant (.str z) k'' p₃] k' vpos) pos.line (envG w 155 L) = pure false)
    (hw : swappedStores [.Tuple [.Name (Str.ofString "_law_pair") p₁, .Name (Str.ofString "_law_name") p₂] k tpos] (.Tuple [e, .Constant (.str z) k'' p₃] k' vpos) (envG w 155 L) = pure (some [Str.ofString "_law_pair", Str.ofString "_law_name"]))
    (q : ∀ m' h' tk, RS w g gg L d ll ls v vl vs x starts first o st en many whole m' h' → Told L d a' b' z' m' h' → Pair L d a b z m' h' → Wx prog w A rest (envG w 155 L) Q E { s with heap := h', toks := tk }) :
    wpAny (model prog w) A (execs (.Assign [.Tuple [.Name (Str.ofString "_law_pair") p₁, .Name (Str.ofString "_law_name") p₂] k tpos] (.Tuple [e, .Constant (.str z) k'' p₃] k' vpos) pos :: rest) (envG w 155 L)) Q E s := by
  refine wpAny_execs_cons (Assign_Tuple_swapped ?_ hs hw)
  refine (ev_tuple2 (mono_tup mono_const mono_const) mono_const g₁ (ev_str (x := z)) h₁ h₂).use (Le.refl _) fun u s₁ k₁ p => ?_
  obtain ⟨q₁, a₁, b₁, rfl, e₁, ⟨q₂, a₂, b₂, rfl, e₂, ⟨t₁, rfl⟩, ⟨t₂, rfl⟩⟩, ⟨t₃, rfl⟩⟩ := p
  obtain ⟨h₁, tk₁, rfl, k₁⟩ := k₁
  have R₁ := R.le k₁
  obtain ⟨ta, S₁⟩ := R₁.S
  have X₁ := S₁.tup e₂
  have hp : ∀ L' : Addr, ((envG w 155 L).scope.kind == .class || ((envG w 155 L).scope.kind == .module && L' != (envG w 155 L).globals)) = false := fun L' => by rw [show (envG w 155 L).scope.kind = _ from k155 (w := w)]; rfl
  refine unpackItems_tuple l.hh (items := #[.ref q₂, .str z t₃]) ⟨_, e₁, rfl, 0, rfl⟩ fun h₂ x₂ => ?_
  have l₂ := le_of_ext x₂
  have S₂ := S₁.le l₂
  have R₂ := R₁.le l₂
  refine wpAny_bind (wpAny_holding (wpAny_bindName (wpAny_storeName_local ?_ S₂.ns (fun h₃ n₃ s₃ => ?_) (hp _))))
  · kernel_rfl
  have S₃ := S₂.store n₃ s₃
  have R₃ := R₂.set ⟨_, S₃⟩ (.same s₃ ex_L) (by decide)
  refine wpAny_bind (wpAny_holding (wpAny_bindName (wpAny_storeName_local ?_ S₃.ns (fun h₄ n₄ s₄ => ?_) (hp _))))
  · kernel_rfl
  have S₄ := S₃.store n₄ s₄
  have R₄ := R₃.set ⟨_, S₄⟩ (.same s₄ ex_L) (by decide)
  refine wpAny_pure ?_
  refine Wx.out ?_
  dsimp only
  refine q _ h₄ _ R₄ (((W.le ((LeO.of k₁).trans (.of l₂))).set (.same s₃ ex_L) (by decide) (by decide)).set (.same s₄ ex_L) (by decide) (by decide)) ⟨⟨q₂, t₁, t₂, if_pos rfl, (((X₁.le (.of l₂)).le (.same s₃ ex_L)).le (.same s₄ ex_L))⟩, t₃, (if_neg (by decide)).trans (if_pos rfl)⟩
end
end Mine
open PySem PySem.W PyProof.Rows PySem.Calls
namespace Mine
section
variable {codes starts : List Int} {nl : Nat} {x : Str} {o st en : Nat} {k : Int}
theorem wl1 (P : PL codes starts nl x o st en) (hk : 0 < k) (e : st = x.length) : ((wlbA codes o k : Nat) : Int) = o ∧ ((wlbB codes o k : Nat) : Int) = o ∧ wlbS codes o k = Str.ofString "end-of-buffer" := by
  unfold wlbA wlbB wlbS
  rw [P.ls, P.size]
  simp only [if_pos (And.intro hk e)]
  exact ⟨trivial, trivial, trivial⟩
theorem wl2 (P : PL codes starts nl x o st en) (hk : 0 < k) (e : st ≠ x.length) : ((wlbA codes o k : Nat) : Int) = st ∧ ((wlbB codes o k : Nat) : Int) = movedI starts nl x.length st k ∧ wlbS codes o k = Str.ofString "" := by
  have t := P.tgb k
  rw [P.size] at t
  unfold wlbA wlbB wlbS
  rw [P.ls, P.size, P.le_, ← t]
  rw [if_neg (fun h => e h.2), if_neg (fun h => by omega), if_neg (by omega), if_neg (by omega), if_neg (fun h => e h.2), if_neg (fun h => by omega), if_neg (by omega), if_neg (by omega), if_neg (fun h => e h.2), if_neg (fun h => by omega)]
  exact ⟨rfl, rfl, rfl⟩
theorem wl3 (P : PL codes starts nl x o st en) (hk : k = 0) : ((wlbA codes o k : Nat) : Int) = st ∧ ((wlbB codes o k : Nat) : Int) = en ∧ wlbS codes o k = Str.ofString "" := by
  unfold wlbA wlbB wlbS
  rw [P.ls, P.le_]
  rw [if_neg (fun h => by omega), if_neg (fun h => by omega), if_pos hk, if_neg (fun h => by omega), if_neg (fun h => by omega), if_pos hk, if_neg (fun h => by omega), if_neg (fun h => by omega)]
  exact ⟨rfl, rfl, rfl⟩
theorem wl4 (P : PL codes starts nl x o st en) (hk : k < 0) (e : en = 0) : ((wlbA codes o k : Nat) : Int) = o ∧ ((wlbB codes o k : Nat) : Int) = o ∧ wlbS codes o k = Str.ofString "beginning-of-buffer" := by
  unfold wlbA wlbB wlbS
  rw [P.le_]
  rw [if_neg (fun h => by omega), if_pos ⟨hk, e⟩, if_neg (fun h => by omega), if_pos ⟨hk, e⟩, if_neg (fun h => by omega), if_pos ⟨hk, e⟩]
  exact ⟨rfl, rfl, rfl⟩
theorem wl5 (P : PL codes starts nl x o st en) (hk : k < 0) (e : en ≠ 0) : ((wlbA codes o k : Nat) : Int) = en ∧ ((wlbB codes o k : Nat) : Int) = (if 0 < movedI starts nl x.length o (k + 1) then movedI starts nl x.length o (k + 1) - 1 else 0) ∧ wlbS codes o k = Str.ofString "" := by
  have t := P.tg (k + 1)
  rw [P.size] at t
  have n1 : ¬ (0 < k ∧ lsN codes o = codes.length) := fun h => by omega
  have n2 : ¬ (k < 0 ∧ en = 0) := fun h => e h.2
  have n3 : ¬ k = 0 := by omega
  unfold wlbA wlbB wlbS
  rw [P.le_, ← t]
  simp only [if_neg n1, if_neg n2, if_neg n3, if_pos hk]
  refine ⟨trivial, ?_, trivial⟩
  split <;> split <;> omega
end

section
variable {prog : Program} {w : World} {A : Around} {g gg h h' : Heap} {L d ll ls v : Addr} {vl vs : List Value} {x : Str} {starts : List Int} {first many : Int} {o st en : Nat} {whole : Bool} {m : Str → Option Value} {s : Shared} {Q : Flow → Shared → Prop} {E : Value → Shared → Prop} {env : Env}

theorem Two.eq {y z : Str} {a b a' b' : Int} {x x' : Str} (T : Two y z L d a b x m h) (e₁ : a' = a) (e₂ : b' = b) (e₃ : x' = x) : Two y z L d a' b' x' m h := by subst e₁; subst e₂; subst e₃; exact T

set_option maxHeartbeats 8000000 in
theorem turn13 {a' b' : Int} {z' : Str} (l : Lv 14 A) (R : RS w g gg L d ll ls v vl vs x starts first o st en many whole m s.heap) (P : PL (codesOf x) starts vl.length x o st en) (W : Told L d a' b' z' m s.heap)
    (q : ∀ m' h' tk, RS w g gg L d ll ls v vl vs x starts first o st en many whole m' h' → Told L d a' b' z' m' h' → Pair L d (wlbA (codesOf x) o many) (wlbB (codesOf x) o many) (wlbS (codesOf x) o many) m' h' → Wx prog w A ((turnBody w).drop 13) (envG w 155 L) Q E { s with heap := h', toks := tk }) :
    Wx prog w A ((turnBody w).drop 12) (envG w 155 L) Q E s := by
  refine Wx.mk ?_
  refine x_if (b := decide (0 < many)) (ts_cmp (r_many R) ev_int rfl ?_) ?_ ?_
  · kernel_rfl
  · intro hb s₁ k₁
    have hb := of_decide_eq_true hb
    obtain ⟨h₁, tk₁, rfl, k₁⟩ := k₁
    have R₁ := R.le k₁
    refine t_pn (a := st) (b := movedI starts vl.length x.length st many) (z := Str.ofString "") l R₁ (W.le (.of k₁)) (ev_tuple2 mono_const mono_const (r_begin R₁) (r_moved l R₁ (r_begin R₁) (r_many R₁) P.rowb ?_ ?_ ?_ ?_ ?_ ?_ ?_) ?_ ?_) ?_ ?_ ?_ ?_ fun m₂ h₂ tk₂ R₂ W₂ T₂ => ?_
    all_goals try kernel_rfl
    refine ⟨x_if (b := (st : Int) == (x.length : Int)) (ts_cmp (r_begin R₂) (r_len R₂) rfl ?_) ?_ ?_⟩
    · kernel_rfl
    · intro hb₂ s₃ k₃
      obtain ⟨h₃, tk₃, rfl, k₃⟩ := k₃
      have hb' : st = x.length := by have := eq_of_beq hb₂; omega
      have R₃ := R₂.le k₃
      refine t_pn (a := o) (b := o) (z := Str.ofString "end-of-buffer") l R₃ (W₂.le (.of k₃)) (ev_tuple2 mono_const mono_const (r_at R₃) (r_at R₃) ?_ ?_) ?_ ?_ ?_ ?_ fun m₄ h₄ tk₄ R₄ W₄ T₄ => ?_
      all_goals try kernel_rfl
      refine ⟨x_nil (x_nil ?_)⟩
      refine Wx.rest (body := (turnBody w).drop 13) ?_ ?_
      rotate_left
      · kernel_rfl
      obtain ⟨w1, w2, w3⟩ := wl1 P hb hb'
      exact q m₄ h₄ _ R₄ W₄ (T₄.eq w1 w2 w3)
    · intro hb₂ s₃ k₃
      obtain ⟨h₃, tk₃, rfl, k₃⟩ := k₃
      have hb' : st ≠ x.length := fun e => by rw [e] at hb₂; simp at hb₂
      refine x_nil (x_nil ?_)
      refine Wx.rest (body := (turnBody w).drop 13) ?_ ?_
      rotate_left
      · kernel_rfl
      obtain ⟨w1, w2, w3⟩ := wl2 P hb hb'
      exact q m₂ h₃ _ (R₂.le k₃) (W₂.le (.of k₃)) ((T₂.le (.of k₃)).eq w1 w2 w3)
  · intro hb s₁ k₁
    have hb := of_decide_eq_false hb
    obtain ⟨h₁, tk₁, rfl, k₁⟩ := k₁
    have R₁ := R.le k₁
    have W₁ := W.le (.of k₁)
    refine x_if (b := many == 0) (ts_cmp (r_many R₁) ev_int rfl ?_) ?_ ?_
    · kernel_rfl
    · intro hb₂ s₃ k₃
      obtain ⟨h₃, tk₃, rfl, k₃⟩ := k₃
      have hb' : many = 0 := eq_of_beq hb₂
      have R₃ := R₁.le k₃
      refine t_pn (a := st) (b := en) (z := Str.ofString "") l R₃ (W₁.le (.of k₃)) (ev_tuple2 mono_const mono_const (r_begin R₃) (r_end R₃) ?_ ?_) ?_ ?_ ?_ ?_ fun m₄ h₄ tk₄ R₄ W₄ T₄ => ?_
      all_goals try kernel_rfl
      refine ⟨x_nil (x_nil ?_)⟩
      refine Wx.rest (body := (turnBody w).drop 13) ?_ ?_
      rotate_left
      · kernel_rfl
      obtain ⟨w1, w2, w3⟩ := wl3 P hb'
      exact q m₄ h₄ _ R₄ W₄ (T₄.eq w1 w2 w3)
    · intro hb₂ s₃ k₃
      obtain ⟨h₃, tk₃, rfl, k₃⟩ := k₃
      have hb' : many < 0 := by
        have : many ≠ 0 := fun e => by rw [e] at hb₂; simp at hb₂
        omega
      have R₃ := R₁.le k₃
      have W₃ := W₁.le (.of k₃)
      obtain ⟨ta, S₃⟩ := R₃.S
      refine t_assign (P := isI (movedI starts vl.length x.length o (many + 1))) S₃ ?_ ?_ ?_ fun u h₄ h₅ tk k₄ p S₄ S₅ k' kO => ?_
      · refine r_moved l R₃ (r_at R₃) (ev_add (r_many R₃) ev_int) P.row0 ?_ ?_ ?_ ?_ ?_ ?_ ?_
        all_goals kernel_rfl
      · kernel_rfl
      · kernel_rfl
      obtain ⟨tu, rfl⟩ := p
      have R₅ := R₃.set ⟨_, S₅⟩ kO (by decide)
      have W₅ : Told L d a' b' z' _ h₅ := W₃.set (u := .int (movedI starts vl.length x.length o (many + 1)) tu) (p := Str.ofString "_law_other") kO (by decide) (by decide)
      have Oth : ∀ pos, Gv prog w A (eval (.Name (Str.ofString "_law_other") pos) (envG w 155 L)) h₅ (isI (movedI starts vl.length x.length o (many + 1))) := fun pos => by
        refine l_int (t := tu) S₅ (if_pos rfl) ?_ rfl
        kernel_rfl
      refine ⟨t_pn (a := en) (b := if 0 < movedI starts vl.length x.length o (many + 1) then movedI starts vl.length x.length o (many + 1) - 1 else 0) (z := Str.ofString "") l R₅ W₅ (ev_tuple2 mono_const mono_const (r_end R₅) (ev_ifexp (c := decide (0 < movedI starts vl.length x.length o (many + 1))) (ts_cmp (Oth _) ev_int rfl ?_) (fun hc => ?_) (fun hc => ?_)) ?_ ?_) ?_ ?_ ?_ ?_ fun m₆ h₆ tk₆ R₆ W₆ T₆ => ?_⟩
      · kernel_rfl
      · rw [if_pos (of_decide_eq_true hc)]; exact ev_sub (Oth _) ev_int
      · rw [if_neg (of_decide_eq_false hc)]; exact ev_int
      all_goals try kernel_rfl
      refine ⟨x_if (b := (en : Int) == 0) (ts_cmp (r_end R₆) ev_int rfl ?_) ?_ ?_⟩
      · kernel_rfl
      · intro hb₃ s₇ k₇
        obtain ⟨h₇, tk₇, rfl, k₇⟩ := k₇
        have he : en = 0 := by have := eq_of_beq hb₃; omega
        have R₇ := R₆.le k₇
        refine t_pn (a := o) (b := o) (z := Str.ofString "beginning-of-buffer") l R₇ (W₆.le (.of k₇)) (ev_tuple2 mono_const mono_const (r_at R₇) (r_at R₇) ?_ ?_) ?_ ?_ ?_ ?_ fun m₈ h₈ tk₈ R₈ W₈ T₈ => ?_
        all_goals try kernel_rfl
        refine ⟨x_nil (x_nil (x_nil ?_))⟩
        refine Wx.rest (body := (turnBody w).drop 13) ?_ ?_
        rotate_left
        · kernel_rfl
        obtain ⟨w1, w2, w3⟩ := wl4 P hb' he
        exact q m₈ h₈ _ R₈ W₈ (T₈.eq w1 w2 w3)
      · intro hb₃ s₇ k₇
        obtain ⟨h₇, tk₇, rfl, k₇⟩ := k₇
        have he : en ≠ 0 := fun e => by rw [e] at hb₃; simp at hb₃
        refine x_nil (x_nil (x_nil ?_))
        refine Wx.rest (body := (turnBody w).drop 13) ?_ ?_
        rotate_left
        · kernel_rfl
        obtain ⟨w1, w2, w3⟩ := wl5 P hb' he
        exact q m₆ h₇ _ (R₆.le k₇) (W₆.le (.of k₇)) ((T₆.le (.of k₇)).eq w1 w2 w3)
end
end Mine
open PySem PySem.W PyProof.Rows PySem.Calls
namespace Mine
section
variable {prog : Program} {w : World} {A : Around} {g gg h h' : Heap} {L d ll ls v : Addr} {vl vs : List Value} {x : Str} {starts : List Int} {first many : Int} {o st en : Nat} {whole : Bool} {m : Str → Option Value} {s : Shared} {Q : Flow → Shared → Prop} {E : Value → Shared → Prop} {env : Env} {c2 c3 : Option Value}

set_option maxHeartbeats 4000000 in
theorem turn14 {a b : Int} {z : Str} (l : Lv 14 A) (R : RS w g gg L d ll ls v vl vs x starts first o st en many whole m s.heap) (W : Told L d (first + a) (first + b) z m s.heap) (T : Pair L d a b z m s.heap)
    (q : ∀ h' tk, RS w g gg L d ll ls v vl vs x starts first o st en many whole m h' → Q .next { s with heap := h', toks := tk }) :
    Wx prog w A ((turnBody w).drop 13) (envG w 155 L) Q E s := by
  refine Wx.mk ?_
  obtain ⟨ta, S⟩ := R.S
  obtain ⟨⟨q₁, t₁, t₂, e₁, X₁⟩, t₃, e₃⟩ := W
  obtain ⟨⟨q₂, u₁, u₂, f₁, Y₁⟩, u₃, f₃⟩ := T
  have gp : ∀ pos, Gv prog w A (eval (.Name (Str.ofString "_law_pair") pos) (envG w 155 L)) s.heap (isTup (isI a) (isI b)) := fun pos s₁ E₁ k => by
    refine (l_val (v := .ref q₂) S f₁ ?_ ?_).use k fun y s₂ k₂ e => ⟨k₂, q₂, _, _, e, keeps_le k₂ _ _ (k _ _ Y₁.2), ⟨u₁, rfl⟩, ⟨u₂, rfl⟩⟩
    · kernel_rfl
    · rfl
  refine t_if0 ?_ fun s' k => ?_
  · refine Gv.to (P := isT ((z != z) || false)) (ts_or (ts_neS ((l_val S e₃ ?_ ?_).to fun _ _ e => ⟨t₃, e⟩) ((l_val S f₃ ?_ ?_).to fun _ _ e => ⟨u₃, e⟩) ?_) fun _ => ts_ne (P₁ := isTup (isI (first + a)) (isI (first + b))) (P₂ := isTup (isI (first + a)) (isI (first + b))) l (shaped_II _ _) (eqv_II _ _) (mono_tup mono_const mono_const) rd_tupII rd_tupII ?_ ?_ ?_) fun _ v p => p.trans (by simp)
    any_goals first | kernel_rfl | rfl
    · refine fun s₁ E₁ k => (l_val (v := .ref q₁) S e₁ ?_ ?_).use k fun y s₂ k₂ e => ⟨k₂, q₁, _, _, e, keeps_le k₂ _ _ (k _ _ X₁.2), ⟨t₁, rfl⟩, ⟨t₂, rfl⟩⟩
      · kernel_rfl
      · rfl
    · refine ev_tuple2 mono_const mono_const (ev_add (r_first R) (ev_fst (gp _) mono_const)) (ev_add (r_first R) (ev_snd (gp _) mono_const)) ?_ ?_
      · kernel_rfl
      · kernel_rfl
  · obtain ⟨h', tk, rfl, k⟩ := k
    exact ⟨x_nil (q h' tk (R.le k))⟩

theorem text_len {lines : List Str} (h5 : lines.length ≤ 5) (hm : ∀ y ∈ lines, y ∈ menuL) : (textOf lines).length < 1000 := by
  have h := StrLaws.join_length_le (Str.ofString "\n") lines
  have e : textOf lines = Str.join (Str.ofString "\n") lines := StrLaws.glued_eq_join _ _
  have := menu_len hm
  have h1 : (Str.ofString "\n").length = 1 := rfl
  rw [h1] at h
  rw [e]
  omega

set_option maxHeartbeats 4000000 in
/-- one whole turn -/
theorem turn (l : Lv 14 A) (S : LS w g gg L d c2 c3 m s.heap) (q : ∀ c2' c3' m' h' tk, LS w g gg L d c2' c3' m' h' → Q .next { s with heap := h', toks := tk }) : Wx prog w A (turnBody w) (envG w 155 L) Q E s := by
  refine turn1 l S fun ll vl lines h₁ tk₁ S₁ X₁ hs h1 h5 hm => ?_
  have hxl := text_len h5 hm
  refine turn2 l S₁ X₁ hs h5 hm fun r t t₂ h₂ tk₂ r0 r3 S₂ X₂ => ?_
  refine turn3 l S₂ X₂ hs h5 hm fun ls vs h₃ tk₃ S₃ k₃ Xs hi => ?_
  have X₃ := X₂.le k₃
  refine turn4 (x := textOf lines) (tx := t) (tf := t₂) (first := 1 + r) l S₃ hxl ?_ ?_ fun v at' ta h₄ tk₄ a0 a1 S₄ k₄ XR => ?_
  · rfl
  · rfl
  have X₄ := X₃.le k₄
  have Xs₄ := Xs.le k₄
  obtain ⟨o, rfl⟩ : ∃ o : Nat, at' = o := ⟨at'.toNat, by omega⟩
  have hlen : (stsI lines).length = lines.length := by unfold stsI; simp
  obtain ⟨row, st, y, hrow, hst, hy, P⟩ := pl_of lines h1 hm o (by omega)
  have hrl : row < lines.length := by
    have := List.getElem?_eq_some_iff.mp hy
    exact this.1
  refine turn5 l S₄ Xs₄ hi (by omega) ?_ fun t₅ h₅ tk₅ S₅ k₅ => ?_
  · rfl
  have X₅ := X₄.le k₅
  have Xs₅ := Xs₄.le k₅
  have XR₅ := XR.le k₅
  rw [hrow] at S₅
  have hyl : y.length < 1000 := by
    have hy' : y ∈ menuL := hm y (List.mem_of_getElem? hy)
    have : ∀ z ∈ menuL, z.length < 1000 := by decide
    exact this y hy'
  refine turn6 (row := row) (tr := t₅) l S₅ X₅ hs Xs₅ hi (by omega) hst hy hyl ?_ ?_ fun many whole a₁ a₂ a₃ h₆ tk₆ m3 m4 S₆ k₆ => ?_
  · rfl
  · rfl
  have hvl : vl.length = lines.length := hs.len_eq
  have R : RS w g gg L d ll ls v vl vs (textOf lines) (stsI lines) (1 + r) o st ((st + y.length : Nat) : Int) many whole _ h₆ :=
    { S := ⟨ta, S₆⟩, X := X₅.le k₆, Xs := Xs₅.le k₆, hi := hi, R := XR₅.le k₆, text := ⟨t, rfl⟩, first_ := ⟨t₂, rfl⟩, starts_ := rfl, view := rfl, end_ := ⟨a₁, by rfl⟩, begin_ := ⟨a₂, rfl⟩, many := ⟨a₃, rfl⟩, whole := rfl, hx := hxl, hsl := by omega, hvl := by omega }
  rw [← hvl] at P
  refine turn7 l R P (by omega) fun h₇ tk₇ R₇ => ?_
  refine turn8 l R₇ fun m₈ h₈ tk₈ R₈ D₈ => ?_
  refine turn9 l R₈ P.row0 D₈ fun m₉ h₉ tk₉ R₉ D₉ => ?_
  refine turn10 l R₉ D₉ fun m₁₀ h₁₀ tk₁₀ R₁₀ D₁₀ => ?_
  refine turn11 l R₁₀ P (by omega) D₁₀ fun h₁₁ tk₁₁ R₁₁ => ?_
  refine turn12 l R₁₁ P (by omega) fun m₁₂ h₁₂ tk₁₂ R₁₂ W₁₂ => ?_
  refine turn13 l R₁₂ P W₁₂ fun m₁₃ h₁₃ tk₁₃ R₁₃ W₁₃ T₁₃ => ?_
  refine turn14 l R₁₃ W₁₃ T₁₃ fun h₁₄ tk₁₄ R₁₄ => ?_
  obtain ⟨tz, Sz⟩ := R₁₄.S
  exact q _ _ _ h₁₄ tk₁₄ Sz
end
end Mine
open PySem PySem.W PyProof.Rows PySem.Calls
namespace Mine
section
variable {prog : Program} {w : World} {A : Around} {g gg h h' : Heap} {L d : Addr} {m : Str → Option Value} {s : Shared} {Q E : Value → Shared → Prop} {env : Env} {c2 c3 : Option Value}

theorem ok_155 : okDefC (KK w) 155 [Str.ofString "script"] = true := by kernel_rfl
theorem bd_155 {v : Value} : bindArgs (fdOf w 155) ⟨[v], []⟩ = pure ([Str.ofString "script"].zip [v]) := by kernel_rfl
theorem g_deckof : nsIn (KK w) mainGlobals (Str.ofString "_law_deck_of") = some (some (.ref 133)) := by kernel_rfl
theorem kp_133 : keepIn (KK w) (.ref 133) = true := by kernel_rfl

/-- a row made of a list alone: its place is one -/
theorem f_row1 {lc : Addr} {vs : List Value} {codes : List Int} (l : Lv 6 A) (B : Bs w h) (hl : h.IsList lc vs.toArray) (hi : IntsAre vs codes) (hlt : codes.length < 2 ^ 20) :
    Gv prog w A (call (.ref 117) [.ref lc]) h (fun h' v => ∃ x, v = .ref x ∧ RowN h h' x codes 1) := fun s E k => by
  obtain ⟨hh, g, d, tk, os⟩ := s
  have k : Le h hh := k
  refine wpAny_call (make_core (makes_of (B.le k).K k_makes) (looks_findIn (B.le k).K k_init) (fun self => bind_fn (B.le k).K self k_init_fn) (.inl rfl) ?_)
  have kp : Le hh ((hh.push emptyDict).push (instObj 117 hh.objs.size)) := Le.trans (Le.push _ _) (Le.push _ _)
  have hx : ((hh.push emptyDict).push (instObj 117 hh.objs.size)).get? (hh.objs.size + 1) = some (instObj 117 hh.objs.size) := by
    have e := Heap.get?_push_size (hh.push emptyDict) (o := instObj 117 hh.objs.size) rfl
    rw [Heap.size_push] at e
    exact e
  have hdx : ((hh.push emptyDict).push (instObj 117 hh.objs.size)).get? hh.objs.size = some emptyDict := Heap.get?_push_of_some _ (Heap.get?_push_size _ rfl)
  refine f_init (h := hh) (x := hh.objs.size + 1) (dx := hh.objs.size) (vs := vs) (lv_make (n := 4) (as := ⟨[], []⟩) (l.mono (by omega))) (B.le k) kp (let ⟨o, ho, r⟩ := hl; ⟨o, k _ _ ho, r⟩) hi hlt hx hdx (none_of_size (Le.refl _) (Nat.le_succ _)) (none_of_size (Le.refl _) (Nat.le_refl _)) (Nat.succ_ne_self _)
    (by rw [Heap.size_push, Heap.size_push]; exact Nat.le_succ_of_le (Nat.le_succ _)) (bd_93' ((B.le k).le kp).K) fun h' tk' k' R => ?_
  exact ⟨rfl, keeps_mk k', _, rfl, R.of k⟩

theorem LS.at' (S : LS w g g L d c2 c3 m h) (k : ∀ b, (b = L ∨ b = L + 1 ∨ b = L + 2 ∨ b = L + 3 ∨ b = d ∨ ∃ o, g.get? b = some o) → ∀ o, h.get? b = some o → h'.get? b = some o) : LS w g g L d c2 c3 m h' :=
  have kk : Le g h' := fun b o e => k b (.inr (.inr (.inr (.inr (.inr ⟨o, e⟩))))) o (S.keep _ _ e)
  { S with keep := kk, kO := .of kk, ns := S.ns.at' fun o e => k L (.inl rfl) o e, c1 := let ⟨o, e, r⟩ := S.c1; ⟨o, k _ (.inr (.inl rfl)) o e, r⟩, c2 := let ⟨o, e, r⟩ := S.c2; ⟨o, k _ (.inr (.inr (.inl rfl))) o e, r⟩,
           c3 := let ⟨o, e, r⟩ := S.c3; ⟨o, k _ (.inr (.inr (.inr (.inl rfl)))) o e, r⟩, deck := let ⟨ns, D, ok⟩ := S.deck; ⟨ns, D.at' fun o e => k d (.inr (.inr (.inr (.inr (.inl rfl))))) o e, ok⟩ }

theorem notEx {b : Addr} (h : b = L ∨ b = L + 1 ∨ b = L + 2 ∨ b = L + 3 ∨ b = d) : ¬ Ex L d b := fun e => by
  obtain ⟨a1, a2, a3, a4, a5⟩ := e
  rcases h with h | h | h | h | h
  · exact a1 h
  · exact a2 h
  · exact a3 h
  · exact a4 h
  · exact a5 h

theorem ev_ints4 {a b c e : Int} {k₁ k₂ k₃ k₄ : Nat} {p₁ p₂ p₃ p₄ pos : Pos} : Gv prog w A (eval (.List [.Constant (.int a) k₁ p₁, .Constant (.int b) k₂ p₂, .Constant (.int c) k₃ p₃, .Constant (.int e) k₄ p₄] pos) env) h (fun h' v => ∃ D vs, v = .ref D ∧ h'.IsList D (List.toArray vs) ∧ IntsAre vs [a, b, c, e]) := fun s E k =>
  List_ (wpAny_items_cons (ev_int.use k fun u₁ s₁ k₁ ⟨t₁, e₁⟩ => wpAny_items_cons (ev_int.use (k.trans (keeps_le k₁)) fun u₂ s₂ k₂ ⟨t₂, e₂⟩ => wpAny_items_cons (ev_int.use (k.trans (keeps_le (keeps_trans k₁ k₂))) fun u₃ s₃ k₃ ⟨t₃, e₃⟩ => wpAny_items_cons (ev_int.use (k.trans (keeps_le (keeps_trans (keeps_trans k₁ k₂) k₃))) fun u₄ s₄ k₄ ⟨t₄, e₄⟩ => wpAny_items_nil (by
    subst e₁; subst e₂; subst e₃; subst e₄
    refine wpAny_newObj_type ⟨keeps_trans (keeps_trans (keeps_trans (keeps_trans k₁ k₂) k₃) k₄) (keeps_mk (Le.push _ _)), _, [.int a t₁, .int b t₂, .int c t₃, .int e t₄], rfl, ⟨_, Heap.get?_push_size _ rfl, rfl, 0, rfl⟩, .cons _ _ (.cons _ _ (.cons _ _ (.cons _ _ .nil)))⟩ ?_
    show 4 ≤ sizeLine
    decide)) rfl) rfl) rfl) rfl)

theorem w_call1 {f e₁ : Expr} {a : Addr} {pos : Pos} {R₁ P : Heap → Value → Prop} (B : Bs w h) (gf : Gv prog w A (eval f env) h (isV (.ref a))) (hk : keepIn (KK w) (.ref a) = true)
    (g₁ : Gv prog w A (eval e₁ env) h R₁)
    (gc : ∀ v₁ h', Le h h' → R₁ h' v₁ → Gv prog w A (call (.ref a) [v₁]) h' P)
    (h₁ : starEach [e₁] env = (false, eval e₁ env) :: starEach [] env) (hp : ((backTo pos (starEach [] env)).any (·.1)) = false)
    (hc : eval (.Call f [e₁] [] pos) env = (do callWith pos (← eval f env) [] (backTo pos (starEach [e₁] env)) (backToKw pos (keywordEach [] env)))) : Gv prog w A (eval (.Call f [e₁] [] pos) env) h P := fun s E k =>
  Call_ (gf.use k fun v s₁ k₁ p => by
    cases p
    refine callWith_K (B.le (k.trans (keeps_le k₁))).K hk (wpAny_items_cons (g₁.use (k.trans (keeps_le k₁)) fun u s₂ k₂ r => wpAny_items_nil ⟨(B.le ((k.trans (keeps_le k₁)).trans (keeps_le k₂))).K, ?_⟩) h₁) h₁ hp
    rw [List.nil_append]
    exact (gc u _ ((k.trans (keeps_le k₁)).trans (keeps_le k₂)) r).use (Le.refl _) fun u s₃ k₃ q => ⟨keeps_trans (keeps_trans k₁ k₂) k₃, q⟩) hc

/-- `==` of two values that read as the same data -/
theorem ev_eqD {e₁ e₂ : Expr} {pos : Pos} {da : PyData} (l : Lv 14 A) (hsh : SeqAt.shaped da = true) (heq : PyData.eqv da da = true) {P₁ P₂ : Heap → Value → Prop} (m₁ : Mono P₁)
    (r₁ : ∀ h v, P₁ h v → ∃ as, Reads h v da as) (r₂ : ∀ h v, P₂ h v → ∃ as, Reads h v da as)
    (g₁ : Gv prog w A (eval e₁ env) h P₁) (g₂ : Gv prog w A (eval e₂ env) h P₂)
    (hm : behindInMarks .Eq e₂ = false) : Gv prog w A (eval (.Compare e₁ [.Eq] [e₂] pos) env) h (isB true) := fun s E k =>
  wpAny_Compare1 (g₁.use k fun u s₁ k₁ p => g₂.use (k.trans (keeps_le k₁)) fun v s₂ k₂ q => by
    obtain ⟨a₁, ra⟩ := r₁ _ _ (m₁ _ _ _ (keeps_le k₂) p)
    obtain ⟨a₂, rb⟩ := r₂ _ _ q
    refine eq_dataH ra rb hsh hsh (by have := l.hu; omega) ?_
    rw [heq]
    exact ⟨keeps_trans k₁ k₂, rfl⟩) hm

set_option maxHeartbeats 8000000 in
theorem f_law {ls : Addr} {vs : List Value} {ns : List Int} (l : Lv 15 A) (B : Bs w s.heap) (hls : s.heap.IsList ls vs.toArray) (hi : IntsAre vs ns) (hlt : ns.length < 2 ^ 20)
    (q : ∀ h' tk, Le s.heap h' → Q (.bool true) { s with heap := h', toks := tk }) :
    wpAny (model prog w) A (call (.ref 155) [.ref ls]) Q E s := by
  refine enterC (IsDefC.of ok_155) B l.room bd_155 fun h₁ tk F C => ?_
  have l' : Lv 14 (A.deeper (envG w 155 s.heap.objs.size)) := l.deeper
  generalize hA : A.deeper (envG w 155 s.heap.objs.size) = A' at l' ⊢
  have K₁ : Le s.heap h₁ := F.keep
  have C1 := C (Str.ofString "_law_deck") (s.heap.objs.size + 1) (by kernel_rfl)
  have C2 := C (Str.ofString "_law_lines") (s.heap.objs.size + 2) (by kernel_rfl)
  have C3 := C (Str.ofString "_law_at") (s.heap.objs.size + 3) (by kernel_rfl)
  have gL : s.heap.objs.size ≤ s.heap.objs.size := Nat.le_refl _
  generalize s.heap.objs.size = L at F C C1 C2 C3 gL ⊢
  have B₁ := B.le K₁
  have hls₁ : h₁.IsList ls vs.toArray := let ⟨o, ho, r⟩ := hls; ⟨o, K₁ _ _ ho, r⟩
  refine wpAny_execs_cons ?_
  refine wpAny_Assign_Name ?_ (by kernel_rfl)
  refine Gv.use (h := h₁) (P := fun h' v => ∃ D ms, v = .ref D ∧ h₁.get? D = none ∧ DeckAt h' D ms ∧ OkDeck ms) ?_ (Le.refl _) fun u s₂ k₂ p => ?_
  · refine w_call1 (R₁ := isV (.ref ls)) (a := 133) B₁ ?_ kp_133 ?_ (fun v₁ h' k e => ?_) ?_ ?_ ?_
    · refine ev_glob B₁ g_deckof ?_ ?_ ?_ rfl <;> kernel_rfl
    · refine ev_loc (v := .ref ls) F.ns ?_ ?_ ?_ rfl
      · rfl
      · kernel_rfl
      · kernel_rfl
    · cases e
      refine (f_deck_of (l'.mono (by omega)) (B₁.le k) (let ⟨o, ho, r⟩ := hls₁; ⟨o, k _ _ ho, r⟩) hi hlt).to fun h₂ v p => ?_
      obtain ⟨D, ms, e, hn, r⟩ := p
      exact ⟨D, ms, e, none_le k hn, r⟩
    · kernel_rfl
    · kernel_rfl
    · kernel_rfl
  obtain ⟨D, ms, rfl, hD, DA, ok⟩ := p
  obtain ⟨h₂, tk₂, rfl, k₂⟩ := k₂
  dsimp only at DA ⊢
  have neD : ∀ b o, h₁.get? b = some o → D ≠ b := fun b o e e' => by rw [e', e] at hD; cases hD
  refine wpAny_storeName_cell ?_ ?_ ?_ (C1.keeps k₂) fun h₃ c₃ sb => ?_
  · kernel_rfl
  · kernel_rfl
  · kernel_rfl
  have hdL : D ≠ L ∧ D ≠ L + 1 ∧ D ≠ L + 2 ∧ D ≠ L + 3 := by
    obtain ⟨_, _, _, e0, _⟩ := F.ns
    obtain ⟨_, e1, _⟩ := C1
    obtain ⟨_, e2, _⟩ := C2
    obtain ⟨_, e3, _⟩ := C3
    exact ⟨neD _ _ e0, neD _ _ e1, neD _ _ e2, neD _ _ e3⟩
  have keep₃ : Le s.heap h₃ := fun b o e => (sb.2 b (Nat.ne_of_lt (Nat.lt_succ_of_lt (Nat.lt_of_lt_of_le (Heap.lt_size e) F.above)))).trans (k₂ _ _ (K₁ _ _ e))
  have S₃ : LS w s.heap s.heap L D (bindC (envG w 155 L).kindOf ([Str.ofString "script"].zip [Value.ref ls]) (fun _ => none) (Str.ofString "_law_lines")) (bindC (envG w 155 L).kindOf ([Str.ofString "script"].zip [Value.ref ls]) (fun _ => none) (Str.ofString "_law_at")) _ h₃ :=
    { B := B, keep := keep₃, kO := .of keep₃, gL := F.above, gd := none_le K₁ hD, ns := (F.ns.keeps k₂).sameBut sb (Ne.symm (nA1 L)), c1 := c₃, c2 := (C2.keeps k₂).sameBut sb (Ne.symm (nB12 L)), c3 := (C3.keeps k₂).sameBut sb (Ne.symm (nB13 L)),
      deck := ⟨ms, DA.at' fun o e => (sb.2 D hdL.2.1).trans e, ok⟩, dL := hdL }
  dsimp only
  obtain ⟨oL, _, _, eL, _⟩ := id S₃.ns
  obtain ⟨o1, e1, _⟩ := id S₃.c1
  obtain ⟨o2, e2, _⟩ := id S₃.c2
  obtain ⟨o3, e3, _⟩ := id S₃.c3
  obtain ⟨_, ⟨_, _, eD, _⟩, _⟩ := id S₃.deck
  refine x_for (s := { s with heap := h₃, toks := tk₂ }) (n := 3) (P := fun i v => ∃ t, v = .int (i : Int) t) (fun b => b = L ∨ b = L + 1 ∨ b = L + 2 ∨ b = L + 3 ∨ b = D) (fun _ m' h' => ∃ c2 c3, LS w s.heap s.heap L D c2 c3 m' h') ?_ ?_ ?_ ?_ ?_ ?_ S₃.ns ⟨_, _, S₃⟩ ?_ ?_ ?_
  · refine srcN_range l'.hh (by decide) (ev_bin S₃.Bh ?_ ?_ ?_ ?_ ?_ ?_ ?_ ?_) ev_int ?_ ?_
    any_goals first | kernel_rfl | decide
  · intro x; rfl
  · rintro b (rfl | rfl | rfl | rfl | rfl)
    · exact ⟨_, eL⟩
    · exact ⟨_, e1⟩
    · exact ⟨_, e2⟩
    · exact ⟨_, e3⟩
    · exact ⟨_, eD⟩
  · exact k155 (w := w)
  · kernel_rfl
  · exact .inl rfl
  · rintro i m' h₄ h₅ ⟨c2, c3, S₄⟩ k
    refine ⟨c2, c3, S₄.at' fun b hb o e => k b ?_ o e⟩
    rcases hb with rfl | rfl | rfl | rfl | rfl | ⟨o', e'⟩
    · exact ⟨_, eL⟩
    · exact ⟨_, e1⟩
    · exact ⟨_, e2⟩
    · exact ⟨_, e3⟩
    · exact ⟨_, eD⟩
    · exact ⟨_, keep₃ _ _ e'⟩
  · rintro i v m' h₄ h₅ tk₅ _ _ ⟨c2, c3, S₄⟩ sb' hn'
    have S₅ := S₄.store hn' sb'
    have S₅' : LS w s.heap h₅ L D c2 c3 _ h₅ := { S₅ with kO := fun b o _ e => e }
    refine Wx.rest (body := turnBody w) ?_ ?_
    rotate_left
    · kernel_rfl
    refine turn l' S₅' fun c2' c3' m₆ h₆ tk₆ S₆ => ?_
    exact ⟨m₆, h₆, tk₆, rfl, S₆.ns, ⟨c2', c3', { S₆ with kO := .of S₆.keep }⟩, fun b o hb e => S₆.kO b o ⟨fun e => hb (.inl e), fun e => hb (.inr (.inl e)), fun e => hb (.inr (.inr (.inl e))), fun e => hb (.inr (.inr (.inr (.inl e)))), fun e => hb (.inr (.inr (.inr (.inr e))))⟩ e⟩
  rintro m₄ h₄ tk₄ hn₄ ⟨c2, c3, S₄⟩
  refine t_assign (P := fun h' v => ∃ x, v = .ref x ∧ RowN h₄ h' x [97, 32, 10, 98] 1) S₄ ?_ ?_ ?_ fun v h₅ h₆ tk₆ k₅ p S₅ S₆ k₆ kO => ?_
  · refine w_call1 (R₁ := fun h' v => ∃ D vs, v = .ref D ∧ h'.IsList D (List.toArray vs) ∧ IntsAre vs [97, 32, 10, 98]) (a := 117) S₄.Bh ?_ kp_117 ev_ints4 (fun v₁ h' k e => ?_) ?_ ?_ ?_
    · refine ev_glob S₄.Bh g_TextRow ?_ ?_ ?_ rfl <;> kernel_rfl
    · obtain ⟨lc, vs', rfl, hl, hi'⟩ := e
      refine (f_row1 (l'.mono (by omega)) (S₄.Bh.le k) hl hi' (by decide)).to fun h₂ v p => ?_
      obtain ⟨x, e, R⟩ := p
      exact ⟨x, e, R.of k⟩
    · kernel_rfl
    · kernel_rfl
    · kernel_rfl
  · kernel_rfl
  · kernel_rfl
  obtain ⟨x, rfl, R⟩ := p
  have XR₆ := (S₄.xr R).le k₆
  refine ⟨x_ret (P := isB true) (ev_eqD (P₁ := isTup (isI 4) (isS (Str.ofString ""))) (P₂ := isTup (isI 4) (isS (Str.ofString ""))) l' (shaped_IS _ strOk0) (eqv_IS _ _) (mono_tup mono_const mono_const) rd_tupIS rd_tupIS (ev_call4 (a := 71) (R₁ := fun v => v = .ref x) (R₂ := fun v => ∃ t, v = .int 2 t) (R₃ := fun v => v = .none) (R₄ := fun v => v = .bool false) S₆.Bh ?_ kp_71 (l_val S₆ (if_pos rfl) ?_ ?_) ev_int ev_none ev_bool ?_ ?_ ?_ ?_ ?_ ?_ ?_) (ev_tuple2 mono_const mono_const ev_int ev_str ?_ ?_) ?_) fun v s' k p => ?_⟩
  · refine ev_glob S₆.Bh g_klt ?_ ?_ ?_ rfl <;> kernel_rfl
  · kernel_rfl
  · rfl
  · rintro _ _ _ _ rfl ⟨t, rfl⟩ rfl rfl
    exact f_klt_none (o := 1) (first := 1) (codes := [97, 32, 10, 98]) (l'.mono (by omega)) S₆.Bh XR₆.row (by decide) (by decide)
  · kernel_rfl
  · kernel_rfl
  · kernel_rfl
  · kernel_rfl
  · kernel_rfl
  · kernel_rfl
  · kernel_rfl
  · kernel_rfl
  · kernel_rfl
  · cases p
    obtain ⟨h₇, tk₇, rfl, k₇⟩ := k
    exact q h₇ tk₇ (Le.trans S₆.keep k₇)
end
end Mine
open PySem PySem.W PyProof.Rows PySem.Calls
namespace Mine
theorem g_law {w : World} : nsIn (KK w) mainGlobals (Str.ofString "law") = some (some (.ref 155)) := by kernel_rfl
theorem lv_caller : Lv 15 callerA := ⟨rfl, by decide +kernel, by decide +kernel⟩
end Mine
set_option maxHeartbeats 8000000 in
theorem PySem.Challenge.cw_np0015_01_holds : PySem.Challenge.rw_np0015_01.Holds := by
  refine Mine.hd ?_
  k_fill
  intro w s₀ s₁ mg mb G Y fa o pm cd doc dV kV ho hd hcd hD hmg hg args vals as hpre hlay hrd hwl hlo
  have KX := kIn_of Y
  refine Ground.open G ?_
  intro T B D TE TW
  clear ho hd hcd hD
  wrow_args hpre hlay hrd hwl hlo
  rename_i ns _ _ _ _ _ _ _ a vs _ hL _ _ _ hI _ hlen _
  have efa : mg (Str.ofString "law") = some (.ref fa) := hmg
  have e155 := mg_of KX T.g Mine.g_law
  rw [efa] at e155
  cases e155
  have hl63 : ns.length < 2 ^ 20 := by omega
  show wpAny _ _ (call (.ref 155) [.ref a]) _ _ _
  refine Mine.f_law Mine.lv_caller ⟨KX, mg, mb, topRead_of T⟩ hL hI hl63 fun h' tk k => ?_
  refine ⟨.inl ⟨.bool true, .bool true, [], rfl, ?_, .bool _, ?_, fun _ => ⟨List.nodup_nil, fun a ha => nomatch ha⟩⟩, .of_keep k, rfl, .of_eq hg⟩
  · exact raisesW_false (by wrow_none_raised)
  · wrow_post
