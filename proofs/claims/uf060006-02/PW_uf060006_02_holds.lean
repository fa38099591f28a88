import PyProof.Rows.All
import Wide.All
import OpenK.AllK
import Wide.FinOn
import Lean
import PySem.Challenge.RW_uf060006_02
open PySem PySem.W PySem.Calls PyProof.Rows
set_option Elab.async false
set_option maxRecDepth 100000
set_option maxHeartbeats 8000000
set_option autoImplicit false
set_option linter.unusedVariables false
namespace Mine
-- part L1
/-! ## Abstract values and objects -/
inductive V where
  | none
  | bool (b : Bool)
  | int (i : Int)
  | str (x : Str)
  | tup (l : List V)
  | ref (a : Addr)
  | raw (v : Value)
inductive Ob where
  | list (xs : List V)
  | inst (C d : Addr)
  | attrs (es : List (Str × V))
  | cell (o : Option V)
  | raw (o : Obj)

abbrev tupO (vs : List Value) (n : Nat) : Obj := { cls := .type "tuple", data := .seq vs.toArray n }
abbrev Led := List (Addr × Obj)
abbrev Sto := List (Addr × Ob)
abbrev Loc := List (Str × Option V)

mutual
inductive IsV (news : Led) : Value → V → Prop
  | none : IsV news Value.none V.none
  | bool (b : Bool) : IsV news (Value.bool b) (V.bool b)
  | int (i : Int) (t : Tok) : IsV news (Value.int i t) (V.int i)
  | str (x : Str) (t : Tok) : IsV news (Value.str x t) (V.str x)
  | ref (a : Addr) : IsV news (Value.ref a) (V.ref a)
  | raw (v : Value) : IsV news v (V.raw v)
  | tup {a : Addr} {vs : List Value} {n : Nat} {l : List V} : (a, tupO vs n) ∈ news → IsVs news vs l → IsV news (Value.ref a) (V.tup l)
inductive IsVs (news : Led) : List Value → List V → Prop
  | nil : IsVs news [] []
  | cons {v : Value} {vs : List Value} {x : V} {xs : List V} : IsV news v x → IsVs news vs xs → IsVs news (v :: vs) (x :: xs)
end

mutual
theorem IsV.mono {n₁ n₂ : Led} (hs : ∀ p ∈ n₁, p ∈ n₂) : ∀ {v : Value} {x : V}, IsV n₁ v x → IsV n₂ v x
  | _, _, .none => .none
  | _, _, .bool b => .bool b
  | _, _, .int i t => .int i t
  | _, _, .str x t => .str x t
  | _, _, .ref a => .ref a
  | _, _, .raw v => .raw v
  | _, _, .tup h r => .tup (hs _ h) (IsVs.mono hs r)
theorem IsVs.mono {n₁ n₂ : Led} (hs : ∀ p ∈ n₁, p ∈ n₂) : ∀ {vs : List Value} {xs : List V}, IsVs n₁ vs xs → IsVs n₂ vs xs
  | _, _, .nil => .nil
  | _, _, .cons h r => .cons (IsV.mono hs h) (IsVs.mono hs r)
end

/-- one object of the ledger exchanged -/
def upd (news : Led) (a : Addr) (o' : Obj) : Led := news.map fun p => if p.1 = a then (a, o') else p
theorem upd_fst (news : Led) (a : Addr) (o' : Obj) : (upd news a o').map (·.1) = news.map (·.1) := by
  unfold upd
  rw [List.map_map]
  refine List.map_congr_left fun p _ => ?_
  simp only [Function.comp]
  split
  · rename_i h; exact h.symm
  · rfl
theorem mem_upd_ne {news : Led} {a b : Addr} {o o' : Obj} (h : (b, o) ∈ news) (hn : b ≠ a) : (b, o) ∈ upd news a o' :=
  List.mem_map.mpr ⟨(b, o), h, by simp [hn]⟩
theorem mem_upd_self {news : Led} {a : Addr} {o o' : Obj} (h : (a, o) ∈ news) : (a, o') ∈ upd news a o' :=
  List.mem_map.mpr ⟨(a, o), h, by simp⟩
theorem led_one {news : Led} (nd : (news.map (·.1)).Nodup) {a : Addr} {o o' : Obj} (h : (a, o) ∈ news) (h' : (a, o') ∈ news) : o = o' := by
  induction news with
  | nil => cases h
  | cons p r ih =>
    simp only [List.map_cons, List.nodup_cons] at nd
    rcases List.mem_cons.mp h with e | h
    · rcases List.mem_cons.mp h' with e' | h'
      · exact congrArg Prod.snd (e.trans e'.symm)
      · exact absurd (List.mem_map.mpr ⟨_, h', by rw [← e]⟩) nd.1
    · rcases List.mem_cons.mp h' with e' | h'
      · exact absurd (List.mem_map.mpr ⟨_, h, by rw [← e']⟩) nd.1
      · exact ih nd.2 h h'
theorem upd_Upd {news : Led} {a : Addr} {o o' : Obj} (nd : (news.map (·.1)).Nodup) (h : (a, o) ∈ news) : Upd a o o' news (upd news a o') := by
  induction news with
  | nil => cases h
  | cons p r ih =>
    simp only [List.map_cons, List.nodup_cons] at nd
    rcases List.mem_cons.mp h with e | h
    · subst e
      have hr : upd r a o' = r := by
        unfold upd
        conv => rhs; rw [← List.map_id r]
        refine List.map_congr_left fun q hq => ?_
        have : q.1 ≠ a := fun e => nd.1 (List.mem_map.mpr ⟨q, hq, e⟩)
        simp [this]
      show Upd a o o' ((a, o) :: r) ((if a = a then (a, o') else (a, o)) :: upd r a o')
      rw [if_pos rfl, hr]
      exact .head fun q hq e => nd.1 (List.mem_map.mpr ⟨q, hq, e⟩)
    · have hp : p.1 ≠ a := fun e => nd.1 (e ▸ List.mem_map.mpr ⟨(a, o), h, rfl⟩)
      show Upd a o o' (p :: r) ((if p.1 = a then (a, o') else p) :: upd r a o')
      rw [if_neg hp]
      exact .tail hp (ih nd.2 h)

def NotTup (o : Obj) : Prop := ∀ vs n, o ≠ tupO vs n
mutual
theorem IsV.upd {news : Led} {a : Addr} {o o' : Obj} (nd : (news.map (·.1)).Nodup) (h : (a, o) ∈ news) (ht : NotTup o) : ∀ {v : Value} {x : V}, IsV news v x → IsV (upd news a o') v x
  | _, _, .none => .none
  | _, _, .bool b => .bool b
  | _, _, .int i t => .int i t
  | _, _, .str x t => .str x t
  | _, _, .ref a => .ref a
  | _, _, .raw v => .raw v
  | _, _, .tup hm r => .tup (mem_upd_ne hm fun e => ht _ _ (led_one nd h (e ▸ hm))) (IsVs.upd nd h ht r)
theorem IsVs.upd {news : Led} {a : Addr} {o o' : Obj} (nd : (news.map (·.1)).Nodup) (h : (a, o) ∈ news) (ht : NotTup o) : ∀ {vs : List Value} {xs : List V}, IsVs news vs xs → IsVs (upd news a o') vs xs
  | _, _, .nil => .nil
  | _, _, .cons hv r => .cons (IsV.upd nd h ht hv) (IsVs.upd nd h ht r)
end

theorem IsVs.length {news : Led} : ∀ {vs : List Value} {xs : List V}, IsVs news vs xs → vs.length = xs.length
  | _, _, .nil => rfl
  | _, _, .cons _ r => by rw [List.length_cons, List.length_cons, r.length]
theorem IsVs.append {news : Led} : ∀ {vs ws : List Value} {xs ys : List V}, IsVs news vs xs → IsVs news ws ys → IsVs news (vs ++ ws) (xs ++ ys)
  | _, _, _, _, .nil, k => k
  | _, _, _, _, .cons h r, k => .cons h (r.append k)
theorem IsVs.get {news : Led} : ∀ {vs : List Value} {xs : List V} {k : Nat} {x : V}, IsVs news vs xs → xs[k]? = some x → ∃ v, vs[k]? = some v ∧ IsV news v x
  | _, _, 0, _, .cons h _, e => by cases e; exact ⟨_, rfl, h⟩
  | _, _, k + 1, _, .cons _ r, e => r.get (k := k) (by simpa using e)
theorem IsVs.set {news : Led} {v : Value} {x : V} (h : IsV news v x) : ∀ {vs : List Value} {xs : List V}, IsVs news vs xs → ∀ k : Nat, IsVs news (vs.set k v) (xs.set k x)
  | _, _, .nil, _ => .nil
  | _, _, .cons _ r, 0 => .cons h r
  | _, _, .cons h' r, k + 1 => .cons h' (r.set h k)

def Ents (news : Led) : List DictEntry → List (Str × V) → Prop
  | [], [] => True
  | e :: es, p :: ps => (∃ t, e.key = .str p.1 t) ∧ IsV news e.val p.2 ∧ Ents news es ps
  | _, _ => False

def IsOb (news : Led) (a : Addr) : Ob → Prop
  | .list xs => ∃ vs n, (a, listOf (List.toArray vs) n) ∈ news ∧ IsVs news vs xs
  | .inst C d => (a, instObj C d) ∈ news
  | .attrs as => ∃ es n, (a, dictOf es n) ∈ news ∧ Ents news es as ∧ (as.map (·.1)).Nodup
  | .cell o => ∃ ob w, (a, ob) ∈ news ∧ ob.data = .cell w ∧ (match o with | none => True | some x => ∃ v, w = some v ∧ IsV news v x)
  | .raw o => (a, o) ∈ news

theorem Ents.mono {n₁ n₂ : Led} (hs : ∀ p ∈ n₁, p ∈ n₂) : ∀ {es : List DictEntry} {ps : List (Str × V)}, Ents n₁ es ps → Ents n₂ es ps
  | [], [], _ => trivial
  | _ :: _, _ :: _, ⟨h1, h2, h3⟩ => ⟨h1, h2.mono hs, h3.mono hs⟩
theorem Ents.upd {news : Led} {a : Addr} {o o' : Obj} (nd : (news.map (·.1)).Nodup) (h : (a, o) ∈ news) (ht : NotTup o) : ∀ {es : List DictEntry} {ps : List (Str × V)}, Ents news es ps → Ents (upd news a o') es ps
  | [], [], _ => trivial
  | _ :: _, _ :: _, ⟨h1, h2, h3⟩ => ⟨h1, h2.upd nd h ht, h3.upd nd h ht⟩
theorem IsOb.mono {n₁ n₂ : Led} (hs : ∀ p ∈ n₁, p ∈ n₂) {a : Addr} : ∀ {ob : Ob}, IsOb n₁ a ob → IsOb n₂ a ob
  | .list _, ⟨vs, n, h, r⟩ => ⟨vs, n, hs _ h, r.mono hs⟩
  | .inst _ _, h => hs _ h
  | .attrs _, ⟨es, n, h, r, nd⟩ => ⟨es, n, hs _ h, r.mono hs, nd⟩
  | .cell none, ⟨ob, w, h, hd, _⟩ => ⟨ob, w, hs _ h, hd, trivial⟩
  | .cell (some _), ⟨ob, w, h, hd, v, e, hv⟩ => ⟨ob, w, hs _ h, hd, v, e, hv.mono hs⟩
  | .raw _, h => hs _ h
theorem IsOb.upd {news : Led} {a b : Addr} {o o' : Obj} (nd : (news.map (·.1)).Nodup) (h : (a, o) ∈ news) (ht : NotTup o) (hn : b ≠ a) : ∀ {ob : Ob}, IsOb news b ob → IsOb (upd news a o') b ob
  | .list _, ⟨vs, n, h', r⟩ => ⟨vs, n, mem_upd_ne h' hn, r.upd nd h ht⟩
  | .inst _ _, h' => mem_upd_ne h' hn
  | .attrs _, ⟨es, n, h', r, nd'⟩ => ⟨es, n, mem_upd_ne h' hn, r.upd nd h ht, nd'⟩
  | .cell none, ⟨ob, w, h', hd, _⟩ => ⟨ob, w, mem_upd_ne h' hn, hd, trivial⟩
  | .cell (some _), ⟨ob, w, h', hd, v, e, hv⟩ => ⟨ob, w, mem_upd_ne h' hn, hd, v, e, hv.upd nd h ht⟩
  | .raw _, h' => mem_upd_ne h' hn

/-- one abstract object exchanged, by its place -/
inductive Up (a : Addr) (o o' : Ob) : Sto → Sto → Prop
  | head {r : Sto} : Up a o o' ((a, o) :: r) ((a, o') :: r)
  | tail {p : Addr × Ob} {r r' : Sto} : Up a o o' r r' → Up a o o' (p :: r) (p :: r')
theorem Up.mem {a : Addr} {o o' : Ob} : ∀ {σ σ' : Sto}, Up a o o' σ σ' → (a, o) ∈ σ
  | _, _, .head => .head _
  | _, _, .tail h => .tail _ h.mem
theorem Up.fst {a : Addr} {o o' : Ob} : ∀ {σ σ' : Sto}, Up a o o' σ σ' → σ'.map (·.1) = σ.map (·.1)
  | _, _, .head => rfl
  | _, _, .tail h => by rw [List.map_cons, List.map_cons, h.fst]
theorem Up.case {a : Addr} {o o' : Ob} : ∀ {σ σ' : Sto}, Up a o o' σ σ' → (σ.map (·.1)).Nodup → ∀ p ∈ σ', p = (a, o') ∨ (p ∈ σ ∧ p.1 ≠ a)
  | _, _, .head, nd, p, hp => by
    simp only [List.map_cons, List.nodup_cons] at nd
    rcases List.mem_cons.mp hp with e | hp
    · exact .inl e
    · exact .inr ⟨.tail _ hp, fun e => nd.1 (List.mem_map.mpr ⟨p, hp, e⟩)⟩
  | _, _, .tail (p := q) h, nd, p, hp => by
    simp only [List.map_cons, List.nodup_cons] at nd
    rcases List.mem_cons.mp hp with e | hp
    · refine .inr ⟨e ▸ .head _, fun e' => nd.1 ?_⟩
      exact List.mem_map.mpr ⟨(a, o), h.mem, by rw [← e, e']⟩
    · rcases h.case nd.2 p hp with e | ⟨h1, h2⟩
      · exact .inl e
      · exact .inr ⟨.tail _ h1, h2⟩
-- part L2
structure Cx where
  prog : Program
  w : World
  K : Frag
  p : Program
  loose : List Str
  mean : ExcName → Option Value
  mg : Str → Option Value
  mb : Str → Option Value
  A₀ : Around
  base : Heap
  outer : List Env
  g : Heap
  L : Addr
  qual : Str
  scope : Scope
  fa : Addr
  cd : Value
  cl : List (Str × Addr)
  s₀ : Shared
abbrev Cx.env (c : Cx) : Env := envX c.qual c.scope c.L c.fa c.cd c.cl
abbrev Cx.A (c : Cx) : Around := c.A₀.deeper c.env
abbrev Cx.M (c : Cx) : Model := model c.prog c.w

/-- what holds of a frame's surroundings; n: how many frames may still stand above it -/
structure Cx.Ok (c : Cx) (n : Nat) : Prop where
  B : Below c.A₀ c.base c.outer c.g
  X : c.K.In c.g
  T : Top c.p c.loose c.mean c.mg c.mb c.g
  kind : c.scope.kind = .function
  hh : c.A₀.handled = none
  room : c.A₀.depth + n < 900
  units : c.A₀.units + 10 * n < 5000
theorem Cx.Ok.less {c : Cx} {n k : Nat} (h : c.Ok n) (hk : k ≤ n) : c.Ok k := ⟨h.B, h.X, h.T, h.kind, h.hh, by have := h.room; omega, by have := h.units; omega⟩

structure Fm where
  vs : List Value
  xs : List V
  φ : Sto
abbrev Fm.push (f : Fm) (v : Value) (x : V) : Fm := ⟨v :: f.vs, x :: f.xs, f.φ⟩

/-- the frame's values known, over a ledger -/
structure Has (c : Cx) (f : Fm) (ρ : Loc) (σ : Sto) (m : Str → Option Value) (news : Led) : Prop where
  one : (news.map (·.1)).Nodup
  vals : IsVs news f.vs f.xs
  obs : ∀ p ∈ f.φ ++ σ, IsOb news p.1 p.2
  locs : ∀ p ∈ ρ, ∀ x, p.2 = some x → ∃ v, m p.1 = some v ∧ IsV news v x
  nd : ((f.φ ++ σ).map (·.1)).Nodup
  rn : (ρ.map (·.1)).Nodup
  rl : ∀ p ∈ ρ, c.env.kindOf p.1 = some .local

structure Rep (c : Cx) (f : Fm) (ρ : Loc) (σ : Sto) (s : Shared) : Prop where
  ex : ∃ m news, Fr c.g c.L s.heap m ∧ News c.g c.L s.heap news ∧ Has c f ρ σ m news
  st : ∃ h t, s = { c.s₀ with heap := h, toks := t }

/-- an exception under way, in the frame c -/
def Raised (c : Cx) (ea C : Addr) (m : Str → Option Value) (news : Led) (s : Shared) : Prop :=
  (∃ h vs, Fr c.g c.L h m ∧ News c.g c.L h news ∧ Heap.MadeExcOf h s.heap ea (.ref C) vs) ∨
  (∃ t vs h, RaisedK c.base (c.env :: c.outer) ea (.ref C) t vs news s.heap ∧ Fr c.g c.L h m ∧ h.UpToSlots s.heap)
structure RepX (c : Cx) (C : Addr) (f : Fm) (ρ : Loc) (σ : Sto) (e : Value) (s : Shared) : Prop where
  ex : ∃ ea m news, e = .ref ea ∧ Has c f ρ σ m news ∧ Raised c ea C m news s
  st : ∃ h t, s = { c.s₀ with heap := h, toks := t }

abbrev XP := Addr → Loc → Sto → Prop
abbrev noX : XP := fun _ _ _ => False
def Exn (c : Cx) (X : XP) (f : Fm) : Value → Shared → Prop := fun e s => ∃ C ρ σ, X C ρ σ ∧ RepX c C f ρ σ e s

theorem Has.pop {c : Cx} {f : Fm} {v : Value} {x : V} {ρ : Loc} {σ : Sto} {m : Str → Option Value} {news : Led} (h : Has c (f.push v x) ρ σ m news) : Has c f ρ σ m news :=
  ⟨h.one, by cases h.vals with | cons _ r => exact r, h.obs, h.locs, h.nd, h.rn, h.rl⟩
theorem Rep.pop {c : Cx} {f : Fm} {v : Value} {x : V} {ρ : Loc} {σ : Sto} {s : Shared} (h : Rep c (f.push v x) ρ σ s) : Rep c f ρ σ s :=
  let ⟨m, news, F, N, H⟩ := h.ex; ⟨⟨m, news, F, N, H.pop⟩, h.st⟩
theorem Exn.pop {c : Cx} {X : XP} {f : Fm} {v : Value} {x : V} {e : Value} {s : Shared} (h : Exn c X (f.push v x) e s) : Exn c X f e s :=
  let ⟨C, ρ, σ, hx, r⟩ := h; let ⟨ea, m, news, e1, H, R⟩ := r.ex; ⟨C, ρ, σ, hx, ⟨⟨ea, m, news, e1, H.pop, R⟩, r.st⟩⟩

def Ev (c : Cx) (X : XP) (e : Expr) (ρ : Loc) (σ : Sto) (Q : V → Sto → Prop) : Prop :=
  ∀ f s, Rep c f ρ σ s → wpAny c.M c.A (eval e c.env) (fun v s' => ∃ x σ', Q x σ' ∧ Rep c (f.push v x) ρ σ' s') (Exn c X f) s
/-- a test -/
def Ts (c : Cx) (X : XP) (e : Expr) (ρ : Loc) (σ : Sto) (Q : Bool → Sto → Prop) : Prop :=
  ∀ f s, Rep c f ρ σ s → wpAny c.M c.A (isTrue e c.env (eval e c.env)) (fun b s' => ∃ σ', Q b σ' ∧ Rep c f ρ σ' s') (Exn c X f) s
inductive Fl where
  | next | brk | cont
  | ret (x : V)
def ExPost (c : Cx) (f : Fm) (Q : Fl → Loc → Sto → Prop) : Flow → Shared → Prop
  | .next, s => ∃ ρ σ, Q .next ρ σ ∧ Rep c f ρ σ s
  | .brk, s => ∃ ρ σ, Q .brk ρ σ ∧ Rep c f ρ σ s
  | .cont, s => ∃ ρ σ, Q .cont ρ σ ∧ Rep c f ρ σ s
  | .ret v, s => ∃ x ρ σ, Q (.ret x) ρ σ ∧ Rep c (f.push v x) ρ σ s
def Ex (c : Cx) (X : XP) (ss : List Stmt) (ρ : Loc) (σ : Sto) (Q : Fl → Loc → Sto → Prop) : Prop :=
  ∀ f s, Rep c f ρ σ s → wpAny c.M c.A (execs ss c.env) (ExPost c f Q) (Exn c X f) s
def Ex1 (c : Cx) (X : XP) (st : Stmt) (ρ : Loc) (σ : Sto) (Q : Fl → Loc → Sto → Prop) : Prop :=
  ∀ f s, Rep c f ρ σ s → wpAny c.M c.A (exec st c.env) (ExPost c f Q) (Exn c X f) s
/-- a call of a function's value -/
def Cl (c : Cx) (X : XP) (ρ : Loc) (fv : Value) (args : List V) (σ : Sto) (Q : V → Sto → Prop) : Prop :=
  ∀ f as s, Rep c ⟨as ++ f.vs, args ++ f.xs, f.φ⟩ ρ σ s → as.length = args.length →
    wpAny c.M c.A (call fv as) (fun v s' => ∃ x σ', Q x σ' ∧ Rep c (f.push v x) ρ σ' s') (Exn c X f) s

section
variable {c : Cx} {X : XP} {ρ : Loc} {σ : Sto}

theorem ev_mono {e : Expr} {Q Q' : V → Sto → Prop} (h : Ev c X e ρ σ Q) (hQ : ∀ x σ', Q x σ' → Q' x σ') : Ev c X e ρ σ Q' :=
  fun f s R => wpAny_mono (h f s R) (fun _ _ ⟨x, σ', q, r⟩ => ⟨x, σ', hQ _ _ q, r⟩) fun _ _ h => h
theorem ts_mono {e : Expr} {Q Q' : Bool → Sto → Prop} (h : Ts c X e ρ σ Q) (hQ : ∀ x σ', Q x σ' → Q' x σ') : Ts c X e ρ σ Q' :=
  fun f s R => wpAny_mono (h f s R) (fun _ _ ⟨σ', q, r⟩ => ⟨σ', hQ _ _ q, r⟩) fun _ _ h => h
theorem ExPost.mono {f : Fm} {Q Q' : Fl → Loc → Sto → Prop} (hQ : ∀ fl ρ σ, Q fl ρ σ → Q' fl ρ σ) : ∀ {fl : Flow} {s : Shared}, ExPost c f Q fl s → ExPost c f Q' fl s
  | .next, _, ⟨ρ, σ, q, r⟩ => ⟨ρ, σ, hQ _ _ _ q, r⟩
  | .brk, _, ⟨ρ, σ, q, r⟩ => ⟨ρ, σ, hQ _ _ _ q, r⟩
  | .cont, _, ⟨ρ, σ, q, r⟩ => ⟨ρ, σ, hQ _ _ _ q, r⟩
  | .ret _, _, ⟨x, ρ, σ, q, r⟩ => ⟨x, ρ, σ, hQ _ _ _ q, r⟩
theorem ex_mono {ss : List Stmt} {Q Q' : Fl → Loc → Sto → Prop} (h : Ex c X ss ρ σ Q) (hQ : ∀ fl ρ σ, Q fl ρ σ → Q' fl ρ σ) : Ex c X ss ρ σ Q' :=
  fun f s R => wpAny_mono (h f s R) (fun _ _ h => ExPost.mono hQ h) fun _ _ h => h

/-! ### statements in a row -/
theorem ex_nil {Q : Fl → Loc → Sto → Prop} (h : Q .next ρ σ) : Ex c X [] ρ σ Q :=
  fun _ _ R => wpAny_execs_nil ⟨ρ, σ, h, R⟩
def Then (c : Cx) (X : XP) (rest : List Stmt) (Q : Fl → Loc → Sto → Prop) : Fl → Loc → Sto → Prop
  | .next, ρ, σ => Ex c X rest ρ σ Q
  | fl, ρ, σ => Q fl ρ σ
theorem ex_cons {st : Stmt} {rest : List Stmt} {Q : Fl → Loc → Sto → Prop} (h : Ex1 c X st ρ σ (Then c X rest Q)) : Ex c X (st :: rest) ρ σ Q :=
  fun f s R => wpAny_execs_cons (wpAny_mono (h f s R) (fun fl s' hp => by
    cases fl with
    | next => obtain ⟨ρ', σ', q, r⟩ := hp; exact q f s' r
    | brk => exact hp
    | cont => exact hp
    | ret v => exact hp) fun _ _ h => h)

/-! ### expressions -/
theorem IsVs.head {news : Led} {v : Value} {vs : List Value} {x : V} {xs : List V} (h : IsVs news (v :: vs) (x :: xs)) : IsV news v x := by cases h with | cons h _ => exact h
theorem IsVs.tail {news : Led} {v : Value} {vs : List Value} {x : V} {xs : List V} (h : IsVs news (v :: vs) (x :: xs)) : IsVs news vs xs := by cases h with | cons _ h => exact h

theorem Has.push {f : Fm} {v : Value} {x : V} {m : Str → Option Value} {news : Led} (h : Has c f ρ σ m news) (hv : IsV news v x) : Has c (f.push v x) ρ σ m news :=
  ⟨h.one, .cons hv h.vals, h.obs, h.locs, h.nd, h.rn, h.rl⟩
theorem Rep.toks {f : Fm} {s : Shared} {t : Nat} (h : Rep c f ρ σ s) : Rep c f ρ σ { s with toks := t } :=
  ⟨h.ex, let ⟨hp, _, e⟩ := h.st; ⟨hp, t, by rw [e]⟩⟩
/-- a value that needs no ledger -/
theorem Rep.pushV {f : Fm} {s : Shared} {v : Value} {x : V} (h : Rep c f ρ σ s) (hv : ∀ news, IsV news v x) : Rep c (f.push v x) ρ σ s :=
  let ⟨m, news, F, N, H⟩ := h.ex; ⟨⟨m, news, F, N, H.push (hv news)⟩, h.st⟩

theorem ev_int {i : Int} {k} {pos : Pos} {Q : V → Sto → Prop} (h : Q (.int i) σ) : Ev c X (.Constant (.int i) k pos) ρ σ Q :=
  fun _ _ R => wpAny_Constant_int ⟨_, _, h, R.toks.pushV fun _ => .int _ _⟩
end
-- part L3
/-- a name of the frame set -/
inductive PutF (x : Str) : Loc → (V → Loc) → Prop
  | head {o : Option V} {r : Loc} : PutF x ((x, o) :: r) (fun v => (x, some v) :: r)
  | tail {p : Str × Option V} {r : Loc} {g : V → Loc} : PutF x r g → PutF x (p :: r) (fun v => p :: g v)
theorem PutF.fst {x : Str} {v : V} : ∀ {ρ : Loc} {g : V → Loc}, PutF x ρ g → (g v).map (·.1) = ρ.map (·.1)
  | _, _, .head => rfl
  | _, _, .tail h => by simp only [List.map_cons, h.fst]
theorem PutF.mem {x : Str} : ∀ {ρ : Loc} {g : V → Loc}, PutF x ρ g → ∃ o, (x, o) ∈ ρ
  | _, _, .head => ⟨_, .head _⟩
  | _, _, .tail h => let ⟨o, hm⟩ := h.mem; ⟨o, .tail _ hm⟩
theorem PutF.case {x : Str} {v : V} : ∀ {ρ : Loc} {g : V → Loc}, PutF x ρ g → (ρ.map (·.1)).Nodup → ∀ p ∈ g v, p = (x, some v) ∨ (p ∈ ρ ∧ p.1 ≠ x)
  | _, _, .head, nd, p, hp => by
    simp only [List.map_cons, List.nodup_cons] at nd
    rcases List.mem_cons.mp hp with e | hp
    · exact .inl e
    · exact .inr ⟨.tail _ hp, fun e => nd.1 (List.mem_map.mpr ⟨p, hp, e⟩)⟩
  | _, _, .tail (p := q) h, nd, p, hp => by
    simp only [List.map_cons, List.nodup_cons] at nd
    rcases List.mem_cons.mp hp with e | hp
    · refine .inr ⟨e ▸ .head _, fun e' => nd.1 ?_⟩
      obtain ⟨o, hm⟩ := h.mem
      exact List.mem_map.mpr ⟨(x, o), hm, by rw [← e, e']⟩
    · rcases h.case nd.2 p hp with e | ⟨h1, h2⟩
      · exact .inl e
      · exact .inr ⟨.tail _ h1, h2⟩

section
variable {c : Cx} {X : XP} {ρ : Loc} {σ : Sto} {n : Nat}

theorem Has.put {f : Fm} {m : Str → Option Value} {news : Led} {x : Str} {g : V → Loc} {v : Value} {xv : V} (H : Has c f ρ σ m news) (hp : PutF x ρ g) (hv : IsV news v xv) :
    Has c f (g xv) σ (fun y => if y = x then some v else m y) news :=
  ⟨H.one, H.vals, H.obs, fun p hm y hy => by
    rcases hp.case H.rn p hm with e | ⟨h1, h2⟩
    · subst e
      cases hy
      exact ⟨v, if_pos rfl, hv⟩
    · obtain ⟨w, h3, h4⟩ := H.locs p h1 y hy
      exact ⟨w, (if_neg h2).trans h3, h4⟩, H.nd, by rw [hp.fst]; exact H.rn, fun p hm => by
    rcases hp.case H.rn p hm with e | ⟨h1, _⟩
    · obtain ⟨o, ho⟩ := hp.mem
      subst e
      exact H.rl (x, o) ho
    · exact H.rl p h1⟩

/-! ### names and constants -/
theorem ev_name {x : Str} {v : V} {pos : Pos} {Q : V → Sto → Prop} (ok : c.Ok n) (hx : (x, some v) ∈ ρ) (h : Q v σ) (hd : (x == ("__debug__" : Str)) = false := by decide) : Ev c X (.Name x pos) ρ σ Q := fun f s R => by
  obtain ⟨m, news, F, N, H⟩ := R.ex
  obtain ⟨v', hm, hv⟩ := H.locs _ hx v rfl
  exact nameX_L F hm ⟨v, σ, h, ⟨m, news, F, N, H.push hv⟩, R.st⟩ ok.kind (H.rl _ hx) hd
theorem ev_cellv {x : Str} {a : Addr} {v : V} {pos : Pos} {Q : V → Sto → Prop} (ok : c.Ok n) (hc : c.cl.lookup x = some a) (hx : (a, Ob.cell (some v)) ∈ σ) (h : Q v σ)
    (hk : c.env.kindOf x = some .cell := by rfl) (hd : (x == ("__debug__" : Str)) = false := by decide) : Ev c X (.Name x pos) ρ σ Q := fun f s R => by
  obtain ⟨m, news, F, N, H⟩ := R.ex
  obtain ⟨ob, w, hm, he, v', rfl, hv⟩ := H.obs _ (List.mem_append_right _ hx)
  exact nameX_C N hc hm he ⟨v, σ, h, ⟨m, news, F, N, H.push hv⟩, R.st⟩ ok.kind hk hd
theorem ev_glob {x : Str} {v : Value} {pos : Pos} {Q : V → Sto → Prop} (ok : c.Ok n) (e : nsIn c.K mainGlobals x = some (some v)) (h : Q (.raw v) σ)
    (hk : c.env.kindOf x = some .globalImplicit := by rfl) (hd : (x == ("__debug__" : Str)) = false := by decide) : Ev c X (.Name x pos) ρ σ Q := fun f s R => by
  obtain ⟨m, news, F, N, H⟩ := R.ex
  exact nameX_K F ok.X (topRead_of ok.T) e ⟨_, σ, h, ⟨m, news, F, N, H.push (.raw v)⟩, R.st⟩ ok.kind hk hd
theorem ev_builtin {x : Str} {v : Value} {pos : Pos} {Q : V → Sto → Prop} (ok : c.Ok n) (e : nsIn c.K mainGlobals x = some none) (hv : bootBuiltins x = some v) (hn : x ≠ "__name__") (h : Q (.raw v) σ)
    (hk : c.env.kindOf x = some .globalImplicit := by rfl) (hd : (x == ("__debug__" : Str)) = false := by decide) : Ev c X (.Name x pos) ρ σ Q := fun f s R => by
  obtain ⟨m, news, F, N, H⟩ := R.ex
  exact nameX_B F ok.X (topRead_of ok.T) e hv hn ⟨_, σ, h, ⟨m, news, F, N, H.push (.raw v)⟩, R.st⟩ ok.kind hk hd
theorem ev_none {k} {pos : Pos} {Q : V → Sto → Prop} (h : Q .none σ) : Ev c X (.Constant .none k pos) ρ σ Q :=
  fun _ _ R => wpAny_Constant_none ⟨_, _, h, R.pushV fun _ => .none⟩
theorem ev_bool {b : Bool} {k} {pos : Pos} {Q : V → Sto → Prop} (h : Q (.bool b) σ) : Ev c X (.Constant (.bool b) k pos) ρ σ Q :=
  fun _ _ R => wpAny_Constant_bool ⟨_, _, h, R.pushV fun _ => .bool b⟩

/-! ### two values -/
theorem Rep.two {f : Fm} {s : Shared} {v w : Value} {x y : V} (R : Rep c ((f.push v x).push w y) ρ σ s) : ∃ m news, Fr c.g c.L s.heap m ∧ News c.g c.L s.heap news ∧ Has c f ρ σ m news ∧ IsV news v x ∧ IsV news w y := by
  obtain ⟨m, news, F, N, H⟩ := R.ex
  exact ⟨m, news, F, N, H.pop.pop, H.vals.tail.head, H.vals.head⟩

/-- the int operators -/
def opI : Operator → Int → Int → Option Int
  | .Add, a, b => some (a + b)
  | .Sub, a, b => some (a - b)
  | .Mod, a, b => if b = 0 then none else some (a.fmod b)
  | _, _, _ => none
theorem ev_binop {l r : Expr} {op : Operator} {pos : Pos} {Q : V → Sto → Prop}
    (h : Ev c X l ρ σ (fun a σ₁ => Ev c X r ρ σ₁ (fun b σ₂ => ∃ i j k, a = .int i ∧ b = .int j ∧ opI op i j = some k ∧ Q (.int k) σ₂))) : Ev c X (.BinOp l op r pos) ρ σ Q := fun f s R => by
  refine wpAny_BinOp (wpAny_mono (h f s R) (fun a s₁ ha => ?_) fun _ _ e => e)
  obtain ⟨x, σ₁, h₁, R₁⟩ := ha
  refine wpAny_mono (h₁ _ _ R₁) (fun b s₂ hb => ?_) fun _ _ e => Exn.pop e
  obtain ⟨y, σ₂, ⟨i, j, k, rfl, rfl, ho, hq⟩, R₂⟩ := hb
  have R₀ := R₂.pop.pop
  obtain ⟨m, news, F, N, H, hx, hy⟩ := R₂.two
  cases hx; cases hy
  unfold opI at ho
  split at ho
  · cases ho; exact PySem.P.add_int ⟨_, _, hq, R₀.toks.pushV fun _ => .int _ _⟩
  · cases ho; exact PySem.P.sub_int ⟨_, _, hq, R₀.toks.pushV fun _ => .int _ _⟩
  · split at ho
    · cases ho
    · rename_i hb; cases ho; exact mod_int' hb ⟨_, _, hq, R₀.toks.pushV fun _ => .int _ _⟩
  · cases ho

/-- the comparisons of ints, and with None -/
def cmpI : CmpOp → Int → Int → Option Bool
  | .Eq, a, b => some (a == b)
  | .NotEq, a, b => some (a != b)
  | .Lt, a, b => some (decide (a < b))
  | .LtE, a, b => some (decide (a ≤ b))
  | .Gt, a, b => some (decide (a > b))
  | .GtE, a, b => some (decide (a ≥ b))
  | _, _, _ => none
theorem cmp_int {op : CmpOp} {i j : Int} {t u : Tok} {b : Bool} {A : Around} {E : Value → Shared → Prop} {s : Shared} {Q : Value → Shared → Prop} (ho : cmpI op i j = some b) (h : Q (.bool b) s) : wpAny c.M A (compareOp op (.int i t) (.int j u)) Q E s := by
  unfold cmpI at ho
  split at ho <;> cases ho
  · exact PySem.P.eq_int h
  · exact PySem.P.ne_int h
  · exact PySem.P.lt_int h
  · exact PySem.P.le_int h
  · exact PySem.P.gt_int h
  · exact PySem.P.ge_int h
end
-- part L4
/-- comparisons of scalars -/
def cmpS : CmpOp → V → V → Option Bool
  | .Is, .none, .none => some true
  | .Is, .int _, .none => some false
  | .Is, .bool _, .none => some false
  | .Is, .str _, .none => some false
  | .Is, .tup _, .none => some false
  | .Is, .ref _, .none => some false
  | .IsNot, .none, .none => some false
  | .IsNot, .int _, .none => some true
  | .IsNot, .bool _, .none => some true
  | .IsNot, .str _, .none => some true
  | .IsNot, .tup _, .none => some true
  | .IsNot, .ref _, .none => some true
  | .Eq, .none, .none => some true
  | .Eq, .int _, .none => some false
  | .Eq, .none, .int _ => some false
  | .Eq, .none, .str _ => some false
  | .Eq, .str x, .str y => some (x == y)
  | .NotEq, .none, .none => some false
  | .NotEq, .int _, .none => some true
  | .NotEq, .none, .int _ => some true
  | .NotEq, .none, .str _ => some true
  | .NotEq, .str x, .str y => some (x != y)
  | op, .int i, .int j => cmpI op i j
  | _, _, _ => none

section
variable {c : Cx} {X : XP} {ρ : Loc} {σ : Sto} {n : Nat}
theorem cmp_scalar {op : CmpOp} {x y : V} {v w : Value} {b : Bool} {news : Led} {A : Around} {E : Value → Shared → Prop} {s : Shared} {Q : Value → Shared → Prop} (hx : IsV news v x) (hy : IsV news w y) (ho : cmpS op x y = some b) (h : Q (.bool b) s) :
    wpAny c.M A (compareOp op v w) Q E s := by
  unfold cmpS at ho
  split at ho
  case h_23 => cases hx; cases hy; exact cmp_int ho h
  case h_24 => cases ho
  all_goals (cases ho; cases hx; cases hy)
  · exact wpAny_is_plain rfl h
  · exact wpAny_is_plain rfl h
  · exact wpAny_is_plain rfl h
  · exact wpAny_is_plain rfl h
  · exact wpAny_is_plain rfl h
  · exact wpAny_is_plain rfl h
  · exact wpAny_isNot_plain rfl h
  · exact wpAny_isNot_plain rfl h
  · exact wpAny_isNot_plain rfl h
  · exact wpAny_isNot_plain rfl h
  · exact wpAny_isNot_plain rfl h
  · exact wpAny_isNot_plain rfl h
  · exact EqNone.eq_none_none h
  · exact EqNone.eq_int_none h
  · exact EqNone.eq_none_int h
  · exact EqNone.eq_none_str h
  · exact PyProof.Rows.eq_str h
  · exact EqNone.ne_none_none h
  · exact EqNone.ne_int_none h
  · exact EqNone.ne_none_int h
  · exact EqNone.ne_none_str h
  · exact PyProof.Rows.ne_str h

theorem ev_cmp {l r : Expr} {op : CmpOp} {pos : Pos} {Q : V → Sto → Prop}
    (h : Ev c X l ρ σ (fun a σ₁ => Ev c X r ρ σ₁ (fun b σ₂ => ∃ t, cmpS op a b = some t ∧ Q (.bool t) σ₂))) (hm : behindInMarks op r = false := by with_unfolding_all rfl) : Ev c X (.Compare l [op] [r] pos) ρ σ Q := fun f s R => by
  refine wpAny_Compare1 (wpAny_mono (h f s R) (fun a s₁ ha => ?_) fun _ _ e => e) hm
  obtain ⟨x, σ₁, h₁, R₁⟩ := ha
  refine wpAny_mono (h₁ _ _ R₁) (fun b s₂ hb => ?_) fun _ _ e => Exn.pop e
  obtain ⟨y, σ₂, ⟨t, ho, hq⟩, R₂⟩ := hb
  obtain ⟨m, news, F, N, H, hx, hy⟩ := R₂.two
  exact cmp_scalar hx hy ho ⟨_, _, hq, R₂.pop.pop.pushV fun _ => .bool t⟩
theorem ts_cmp {l r : Expr} {op : CmpOp} {pos : Pos} {Q : Bool → Sto → Prop}
    (h : Ev c X l ρ σ (fun a σ₁ => Ev c X r ρ σ₁ (fun b σ₂ => ∃ t, cmpS op a b = some t ∧ Q t σ₂))) (hm : behindInMarks op r = false := by with_unfolding_all rfl) : Ts c X (.Compare l [op] [r] pos) ρ σ Q := fun f s R => by
  refine wpAny_isTrue_Compare1 (wpAny_mono (h f s R) (fun a s₁ ha => ?_) fun _ _ e => e) hm
  obtain ⟨x, σ₁, h₁, R₁⟩ := ha
  refine wpAny_mono (h₁ _ _ R₁) (fun b s₂ hb => ?_) fun _ _ e => Exn.pop e
  obtain ⟨y, σ₂, ⟨t, ho, hq⟩, R₂⟩ := hb
  obtain ⟨m, news, F, N, H, hx, hy⟩ := R₂.two
  exact cmp_scalar hx hy ho (wpAny_truthy_bool ⟨_, hq, R₂.pop.pop⟩)
theorem ts_not {x : Expr} {pos : Pos} {Q : Bool → Sto → Prop} (h : Ts c X x ρ σ (fun b σ' => Q (!b) σ')) : Ts c X (.UnaryOp .Not x pos) ρ σ Q :=
  fun f s R => isTrue_not (h f s R)
theorem ts_and_nil {pos : Pos} {Q : Bool → Sto → Prop} (h : Q true σ) : Ts c X (.BoolOp .And [] pos) ρ σ Q := fun _ _ R => isTrue_and_nil ⟨_, h, R⟩
theorem ts_or_nil {pos : Pos} {Q : Bool → Sto → Prop} (h : Q false σ) : Ts c X (.BoolOp .Or [] pos) ρ σ Q := fun _ _ R => isTrue_or_nil ⟨_, h, R⟩
theorem ts_and {x : Expr} {rest : List Expr} {pos : Pos} {Q : Bool → Sto → Prop} (h : Ts c X x ρ σ (fun b σ' => (b = true → Ts c X (.BoolOp .And rest pos) ρ σ' Q) ∧ (b = false → Q false σ'))) : Ts c X (.BoolOp .And (x :: rest) pos) ρ σ Q := fun f s R => by
  refine isTrue_and (wpAny_mono (h f s R) (fun b s' hb => ?_) fun _ _ e => e)
  obtain ⟨σ', ⟨h1, h2⟩, R'⟩ := hb
  cases b with
  | true => exact h1 rfl f s' R'
  | false => exact ⟨σ', h2 rfl, R'⟩
theorem ts_or {x : Expr} {rest : List Expr} {pos : Pos} {Q : Bool → Sto → Prop} (h : Ts c X x ρ σ (fun b σ' => (b = true → Q true σ') ∧ (b = false → Ts c X (.BoolOp .Or rest pos) ρ σ' Q))) : Ts c X (.BoolOp .Or (x :: rest) pos) ρ σ Q := fun f s R => by
  refine isTrue_or (wpAny_mono (h f s R) (fun b s' hb => ?_) fun _ _ e => e)
  obtain ⟨σ', ⟨h1, h2⟩, R'⟩ := hb
  cases b with
  | true => exact ⟨σ', h1 rfl, R'⟩
  | false => exact h2 rfl f s' R'
/-- truth of a scalar -/
def truV : V → Option Bool
  | .none => some false
  | .bool b => some b
  | .int i => some (i != 0)
  | _ => none
theorem ts_val {e : Expr} {Q : Bool → Sto → Prop} (h : Ev c X e ρ σ (fun v σ' => ∃ b, truV v = some b ∧ Q b σ'))
    (he : ∀ whole, isTrue e c.env whole = (do let v ← whole; standAt e.pos; holding [v] (truthy v)) := by intro _; rfl) : Ts c X e ρ σ Q := fun f s R => by
  refine isTrue_plain (wpAny_mono (h f s R) (fun v s' hv => ?_) fun _ _ e => e) (he _)
  obtain ⟨x, σ', ⟨b, hb, hq⟩, R'⟩ := hv
  obtain ⟨m, news, F, N, H⟩ := R'.ex
  have hx := H.vals.head
  unfold truV at hb
  split at hb <;> cases hb <;> cases hx
  · exact truthy_none ⟨_, hq, R'.pop⟩
  · exact wpAny_truthy_bool ⟨_, hq, R'.pop⟩
  · exact PySem.P.truthy_int ⟨_, hq, R'.pop⟩

/-! ### statements -/
theorem ex_if {test : Expr} {body orelse rest : List Stmt} {pos : Pos} {Q : Fl → Loc → Sto → Prop}
    (h : Ts c X test ρ σ (fun b σ' => (b = true → Ex c X body ρ σ' (Then c X rest Q)) ∧ (b = false → Ex c X orelse ρ σ' (Then c X rest Q)))) : Ex c X (.If test body orelse pos :: rest) ρ σ Q := by
  refine ex_cons fun f s R => wpAny_If (wpAny_mono (h f s R) (fun b s' hb => ?_) fun _ _ e => e)
  obtain ⟨σ', ⟨h1, h2⟩, R'⟩ := hb
  cases b with
  | true => exact h1 rfl f s' R'
  | false => exact h2 rfl f s' R'
theorem ex_then {rest : List Stmt} {Q : Fl → Loc → Sto → Prop} (h : Ex c X rest ρ σ Q) : Ex c X [] ρ σ (Then c X rest Q) := ex_nil h
theorem ex_return {e : Expr} {rest : List Stmt} {pos : Pos} {Q : Fl → Loc → Sto → Prop} (h : Ev c X e ρ σ (fun v σ' => Q (.ret v) ρ σ')) : Ex c X (.Return (some e) pos :: rest) ρ σ Q := by
  refine ex_cons fun f s R => wpAny_Return_some (wpAny_mono (h f s R) (fun v s' hv => ?_) fun _ _ e => e)
  obtain ⟨x, σ', hq, R'⟩ := hv
  exact ⟨x, ρ, σ', hq, R'⟩
theorem ex_return0 {rest : List Stmt} {pos : Pos} {Q : Fl → Loc → Sto → Prop} (h : Q (.ret .none) ρ σ) : Ex c X (.Return none pos :: rest) ρ σ Q :=
  ex_cons fun _ _ R => wpAny_Return_none ⟨.none, ρ, σ, h, R.pushV fun _ => .none⟩
theorem ex_pass {rest : List Stmt} {pos : Pos} {Q : Fl → Loc → Sto → Prop} (h : Ex c X rest ρ σ Q) : Ex c X (.Pass pos :: rest) ρ σ Q :=
  ex_cons fun _ _ R => wpAny_Pass ⟨ρ, σ, h, R⟩
theorem ex_assign {x : Str} {pos' pos : Pos} {value : Expr} {rest : List Stmt} {g : V → Loc} {Q : Fl → Loc → Sto → Prop} (ok : c.Ok n) (hp : PutF x ρ g) (h : Ev c X value ρ σ (fun v σ' => Ex c X rest (g v) σ' Q))
    (hs : swapsWith value (some (.Name x pos')) pos.line c.env = pure false := by rfl) : Ex c X (.Assign [.Name x pos'] value pos :: rest) ρ σ Q := by
  refine ex_cons fun f s R => wpAny_Assign_Name (wpAny_mono (h f s R) (fun v s' hv => ?_) fun _ _ e => e) hs
  obtain ⟨xv, σ', hq, R'⟩ := hv
  obtain ⟨m, news, F, N, H⟩ := R'.ex
  obtain ⟨o, ho⟩ := hp.mem
  refine storeX_L F N (fun h' F' N' => ⟨g xv, σ', hq, ⟨⟨_, news, F', N', H.pop.put hp H.vals.head⟩, ?_⟩⟩) ok.kind (H.rl _ ho)
  obtain ⟨hh, t, e⟩ := R'.st
  exact ⟨h', s'.toks + 1, by rw [e]⟩
/-- an expression as a statement, of no object -/
theorem ex_expr {e : Expr} {rest : List Stmt} {pos : Pos} {Q : Fl → Loc → Sto → Prop} (h : Ev c X e ρ σ (fun v σ' => v = .none ∧ Ex c X rest ρ σ' Q))
    (hi : interactive c.env = false := by rfl) (hs : swapsWith e none pos.line c.env = pure false := by rfl) : Ex c X (.Expr e pos :: rest) ρ σ Q := by
  refine ex_cons fun f s R => wpAny_Expr (wpAny_mono (h f s R) (fun v s' hv => ?_) fun _ _ e => e) hi hs
  obtain ⟨x, σ', ⟨rfl, hq⟩, R'⟩ := hv
  obtain ⟨m, news, F, N, H⟩ := R'.ex
  cases H.vals.head
  exact ⟨ρ, σ', hq, R'.pop⟩
end
-- part L5
def NoRaw (x : V) : Prop := match x with | .raw _ => False | _ => True
theorem IsV.handed {news : Led} {v : Value} {x : V} (h : IsV news v x) (hr : NoRaw x) : handedIn v = true := by
  cases h <;> first | rfl | exact hr.elim
theorem isStr_str (x y : Str) (t : Tok) : (Value.str x t).isStr y = (x == y) := rfl

/-! ### attributes of an object -/
theorem ents_get {news : Led} {name : Str} {x : V} : ∀ {es : List DictEntry} {as : List (Str × V)}, Ents news es as → (as.map (·.1)).Nodup → (name, x) ∈ as → ∃ v, getL name es = some (some v) ∧ IsV news v x
  | [], [], _, _, hm => nomatch hm
  | [], _ :: _, h, _, _ => h.elim
  | _ :: _, [], h, _, _ => h.elim
  | e :: es, p :: ps, ⟨⟨t, h1⟩, h2, h3⟩, nd, hm => by
    simp only [List.map_cons, List.nodup_cons] at nd
    rcases List.mem_cons.mp hm with q | hm
    · subst q
      refine ⟨e.val, ?_, h2⟩
      unfold getL
      rw [List.find?_cons_of_pos (by rw [h1, isStr_str]; exact beq_self_eq_true _)]
    · have hne : p.1 ≠ name := fun q => nd.1 (List.mem_map.mpr ⟨_, hm, q.symm⟩)
      obtain ⟨v, hv, hi⟩ := ents_get h3 nd.2 hm
      refine ⟨v, ?_, hi⟩
      unfold getL at hv ⊢
      rw [List.find?_cons_of_neg (by rw [h1, isStr_str]; simpa using hne)]
      split at hv
      · exact hv
      · split at hv <;> cases hv
theorem ents_none {news : Led} {name : Str} : ∀ {es : List DictEntry} {as : List (Str × V)}, Ents news es as → (∀ p ∈ as, p.1 ≠ name) → getL name es = some none := by
  intro es as h hn
  have h1 : es.find? (·.key.isStr name) = none ∧ es.any (·.refKey) = false := by
    induction es generalizing as with
    | nil => exact ⟨rfl, rfl⟩
    | cons e es ih =>
      cases as with
      | nil => exact h.elim
      | cons p ps =>
        obtain ⟨⟨t, h1⟩, h2, h3⟩ := h
        obtain ⟨i1, i2⟩ := ih h3 fun q hq => hn q (.tail _ hq)
        refine ⟨?_, ?_⟩
        · rw [List.find?_cons_of_neg (by rw [h1, isStr_str]; simpa using hn p (.head _))]; exact i1
        · rw [List.any_cons, i2, Bool.or_false]; unfold DictEntry.refKey; rw [h1]
  unfold getL
  rw [h1.1, h1.2]; rfl
/-- one attribute exchanged -/
inductive UpA (name : Str) : List (Str × V) → (V → List (Str × V)) → Prop
  | head {o : V} {r : List (Str × V)} : UpA name ((name, o) :: r) (fun v => (name, v) :: r)
  | tail {p : Str × V} {r : List (Str × V)} {g : V → List (Str × V)} : UpA name r g → UpA name (p :: r) (fun v => p :: g v)
theorem UpA.fst {name : Str} {v : V} : ∀ {as : List (Str × V)} {g : V → List (Str × V)}, UpA name as g → (g v).map (·.1) = as.map (·.1)
  | _, _, .head => rfl
  | _, _, .tail h => by simp only [List.map_cons, h.fst]
theorem UpA.mem {name : Str} : ∀ {as : List (Str × V)} {g : V → List (Str × V)}, UpA name as g → name ∈ as.map (·.1)
  | _, _, .head => .head _
  | _, _, .tail h => .tail _ h.mem
theorem ents_put {news : Led} {name : Str} {hsh : Int} {key v : Value} {x : V} (hv : IsV news v x) {as : List (Str × V)} {g : V → List (Str × V)} (hu : UpA name as g) : ∀ {es : List DictEntry}, Ents news es as → (as.map (·.1)).Nodup →
    Ents news (putL name hsh key v es) (g x) ∧ ((getL name es).isSome = true) ∧ (putL name hsh key v es).length = as.length := by
  induction hu with
  | head =>
    intro es hE nd
    obtain _ | ⟨e, es⟩ := es
    · exact hE.elim
    obtain ⟨⟨t, h1⟩, h2, h3⟩ := hE
    have hk : e.key.isStr name = true := by rw [h1, isStr_str]; exact beq_self_eq_true _
    have hl : ∀ {es : List DictEntry} {ps : List (Str × V)}, Ents news es ps → es.length = ps.length := by
      intro es
      induction es with
      | nil => intro ps h; cases ps with | nil => rfl | cons _ _ => exact h.elim
      | cons e es ih => intro ps h; cases ps with | nil => exact h.elim | cons p ps => rw [List.length_cons, List.length_cons, ih h.2.2]
    refine ⟨?_, ?_, ?_⟩
    · unfold putL; rw [if_pos hk]; exact ⟨⟨t, h1⟩, hv, h3⟩
    · unfold getL; rw [List.find?_cons_of_pos (p := fun x : DictEntry => x.key.isStr name) (a := e) hk]; rfl
    · unfold putL; rw [if_pos hk, List.length_cons, List.length_cons, hl h3]
  | tail hu ih =>
    rename_i p r g
    intro es hE nd
    obtain _ | ⟨e, es⟩ := es
    · exact hE.elim
    obtain ⟨⟨t, h1⟩, h2, h3⟩ := hE
    simp only [List.map_cons, List.nodup_cons] at nd
    have hne : p.1 ≠ name := fun q => nd.1 (q ▸ hu.mem)
    have hk : ¬ e.key.isStr name = true := by rw [h1, isStr_str]; simpa using hne
    obtain ⟨i1, i2, i3⟩ := ih h3 nd.2
    refine ⟨?_, ?_, ?_⟩
    · unfold putL; rw [if_neg hk]; exact ⟨⟨t, h1⟩, h2, i1⟩
    · unfold getL at i2 ⊢
      rw [List.find?_cons_of_neg (p := fun x : DictEntry => x.key.isStr name) (a := e) hk]
      split at i2
      · rfl
      · rename_i q
        split at i2
        · cases i2
        · rename_i q2
          have : (e :: es).any (·.refKey) = false := by rw [List.any_cons]; simp only [Bool.not_eq_true] at q2; rw [q2]; unfold DictEntry.refKey; rw [h1]; rfl
          rw [this]; rfl
    · unfold putL; rw [if_neg hk, List.length_cons, List.length_cons, i3]

structure AttrOk (K : Frag) (C : Addr) (name : Str) : Prop where
  get : plainGet K C name = true
  dict : hasDictIn K C = true
  cls : findIn K (.ref C) name = some none
structure SetOk (K : Frag) (C : Addr) (name : Str) : Prop where
  set : findIn K (.ref C) "__setattr__" = some (some (.builtin "object.__setattr__"))
  over : plainOver K C = true
  taker : takerIn K C name = some none
  dict : hasDictIn K C = true
structure MethOk (K : Frag) (C : Addr) (name : Str) (f : Addr) : Prop where
  get : plainGet K C name = true
  cls : findIn K (.ref C) name = some (some (.ref f))
  fn : isFn K (.ref f) = true
  keep : keepIn K (.ref f) = true

section
variable {c : Cx} {X : XP} {ρ : Loc} {σ : Sto} {n : Nat}
theorem ev_attr {value : Expr} {name : Str} {pos : Pos} {Q : V → Sto → Prop} (ok : c.Ok n)
    (h : Ev c X value ρ σ (fun o σ' => ∃ a C d as x, o = .ref a ∧ (a, Ob.inst C d) ∈ σ' ∧ (d, Ob.attrs as) ∈ σ' ∧ (name, x) ∈ as ∧ AttrOk c.K C name ∧ NoRaw x ∧ Q x σ'))
    (he : eval (.Attribute value name pos) c.env = (do let o ← eval value c.env; standAt pos.atName; let r ← holding [o] (getAttr o name true); letTemporaryGo value o r; pure r) := by with_unfolding_all rfl) :
    Ev c X (.Attribute value name pos) ρ σ Q := fun f s R => by
  refine Attribute_any_ (wpAny_mono (h f s R) (fun o s' ho => ?_) fun _ _ e => e) he
  obtain ⟨y, σ', ⟨a, C, d, as, x, rfl, h1, h2, h3, hK, hr, hq⟩, R'⟩ := ho
  obtain ⟨m, news, F, N, H⟩ := R'.ex
  cases H.vals.head
  have o1 := H.obs _ (List.mem_append_right _ h1)
  obtain ⟨es, k, o2, o3, o4⟩ := H.obs _ (List.mem_append_right _ h2)
  obtain ⟨v, g1, g2⟩ := ents_get o3 o4 h3
  exact get_own F ok.X (InstAt.of_news N o1 o2) hK.get hK.dict hK.cls rfl g1 (g2.handed hr) ⟨x, σ', hq, (⟨⟨m, news, F, N, H.pop.push g2⟩, R'.st⟩ : Rep c _ ρ σ' s').toks⟩

/-- storing an attribute that is there -/
theorem Has.upd {f : Fm} {m : Str → Option Value} {news : Led} {a : Addr} {o : Ob} {σ' : Sto} {ob : Ob} {o₁ o₂ : Obj} (H : Has c f ρ σ m news) (hu : Up a o ob σ σ') (h₁ : (a, o₁) ∈ news) (ht : NotTup o₁) (hn : IsOb (upd news a o₂) a ob) :
    Has c f ρ σ' m (upd news a o₂) :=
  ⟨by rw [upd_fst]; exact H.one, H.vals.upd H.one h₁ ht, fun p hp => by
    have nds : (σ.map (·.1)).Nodup := (List.nodup_append.mp (by rw [← List.map_append]; exact H.nd)).2.1
    rcases List.mem_append.mp hp with hp | hp
    · refine (H.obs p (List.mem_append_left _ hp)).upd H.one h₁ ht fun e => ?_
      have dj := (List.nodup_append.mp (show (f.φ.map (·.1) ++ σ.map (·.1)).Nodup by rw [← List.map_append]; exact H.nd)).2.2
      exact dj _ (List.mem_map.mpr ⟨p, hp, rfl⟩) _ (List.mem_map.mpr ⟨(a, o), hu.mem, rfl⟩) e
    · rcases hu.case nds p hp with e | ⟨h1, h2⟩
      · subst e; exact hn
      · exact (H.obs p (List.mem_append_right _ h1)).upd H.one h₁ ht h2,
   fun p hp x hx => let ⟨v, h1, h2⟩ := H.locs p hp x hx; ⟨v, h1, h2.upd H.one h₁ ht⟩,
   by rw [List.map_append, hu.fst, ← List.map_append]; exact H.nd, H.rn, H.rl⟩
theorem notTup_dict (es : List DictEntry) (k : Nat) : NotTup (dictOf es k) := fun _ _ e => absurd (congrArg Obj.cls e) (by simp)
theorem notTup_list (vs : Array Value) (k : Nat) : NotTup (listOf vs k) := fun _ _ e => absurd (congrArg Obj.cls e) (by simp)

theorem ex_setattr {o value : Expr} {name : Str} {pos' pos : Pos} {rest : List Stmt} {Q : Fl → Loc → Sto → Prop} (ok : c.Ok n)
    (h : Ev c X value ρ σ (fun v σ₁ => Ev c X o ρ σ₁ (fun ov σ₂ => ∃ a C d as g σ₃, ov = .ref a ∧ (a, Ob.inst C d) ∈ σ₂ ∧ UpA name as g ∧ Up d (.attrs as) (.attrs (g v)) σ₂ σ₃ ∧ SetOk c.K C name ∧ as.length ≤ 1000 ∧ Ex c X rest ρ σ₃ Q)))
    (hs : swapsWith value (some (.Attribute o name pos')) pos.line c.env = pure false := by rfl) : Ex c X (.Assign [.Attribute o name pos'] value pos :: rest) ρ σ Q := by
  refine ex_cons fun f s R => plainObj_wpAny_Assign_Attribute (wpAny_mono (h f s R) (fun v s₁ hv => ?_) fun _ _ e => e) hs
  obtain ⟨x, σ₁, h₁, R₁⟩ := hv
  refine wpAny_mono (h₁ _ _ R₁) (fun ov s₂ ho => ?_) fun _ _ e => Exn.pop e
  obtain ⟨y, σ₂, ⟨a, C, d, as, g, σ₃, rfl, h1, h2, h3, hK, hz, hq⟩, R₂⟩ := ho
  obtain ⟨m, news, F, N, H, hx, hy⟩ := R₂.two
  cases hy
  have o1 := H.obs _ (List.mem_append_right _ h1)
  obtain ⟨es, k, o2, o3, o4⟩ := H.obs _ (List.mem_append_right _ h3.mem)
  obtain ⟨p1, p2, p3⟩ := ents_put (hsh := PyData.keyHash c.w.params name) (key := .str name (s₂.toks + 1)) hx h2 o3 o4
  refine set_dict F ok.X N (InstAt.of_news N o1 o2) rfl hK.set hK.over hK.taker hK.dict p2 rfl (upd_Upd H.one o2) (by rw [p3]; exact hz) fun h' F' N' => ?_
  refine ⟨ρ, σ₃, hq, ⟨⟨m, _, F', N', H.upd h3 o2 (notTup_dict _ _) ?_⟩, ?_⟩⟩
  · refine ⟨_, _, mem_upd_self o2, ?_, by rw [h2.fst]; exact o4⟩
    exact p1.upd H.one o2 (notTup_dict _ _)
  · obtain ⟨hh, t, e⟩ := R₂.st
    exact ⟨h', s₂.toks + 2, by rw [e]⟩
end
-- part L6
section
variable {c : Cx} {X : XP} {ρ : Loc} {σ : Sto} {n : Nat}

/-! ### items -/
theorem ob_list {news : Led} {h₀ h : Heap} {L a : Addr} {vs : List Value} {k : Nat} (N : News h₀ L h news) (hm : (a, listOf vs.toArray k) ∈ news) : h.IsList a vs.toArray := ⟨_, (N _ hm).1, rfl, k, rfl⟩
theorem ob_tup {news : Led} {h₀ h : Heap} {L a : Addr} {vs : List Value} {k : Nat} (N : News h₀ L h news) (hm : (a, tupO vs k) ∈ news) : IsTup h a vs.toArray := ⟨_, (N _ hm).1, rfl, k, rfl⟩
theorem idx63 {α : Type} {l : List α} {i : Nat} (hl : l.length ≤ 2 ^ 24) (h : i < l.length) : (i : Int) < 2 ^ 63 := by
  have : (2 : Int) ^ 63 = 9223372036854775808 := by decide
  rw [this]; omega
/-- xs[i] of a list of the store -/
theorem ev_item {value slice : Expr} {pos : Pos} {Q : V → Sto → Prop}
    (h : Ev c X value ρ σ (fun o σ₁ => Ev c X slice ρ σ₁ (fun i σ₂ => ∃ a xs k x, o = .ref a ∧ i = .int (k : Nat) ∧ (a, Ob.list xs) ∈ σ₂ ∧ xs.length ≤ 2 ^ 24 ∧ xs[k]? = some x ∧ Q x σ₂)))
    (hs : ∀ a (k : Int) u, subscripted slice false (.ref a) (.int k u) = operate [.ref a, .int k u] (getItem (.ref a) (.int k u)) := by intro _ _ _; with_unfolding_all rfl) :
    Ev c X (.Subscript value slice pos) ρ σ Q := fun f s R => by
  refine Subscript_ (wpAny_mono (h f s R) (fun o s₁ ho => ?_) fun _ _ e => e)
  obtain ⟨x, σ₁, h₁, R₁⟩ := ho
  refine wpAny_mono (h₁ _ _ R₁) (fun i s₂ hi => ?_) fun _ _ e => Exn.pop e
  obtain ⟨y, σ₂, ⟨a, xs, k, z, rfl, rfl, h1, h2, h3, hq⟩, R₂⟩ := hi
  obtain ⟨m, news, F, N, H, hx, hy⟩ := R₂.two
  cases hx; cases hy
  obtain ⟨vs, kk, o1, o2⟩ := H.obs _ (List.mem_append_right _ h1)
  obtain ⟨v, g1, g2⟩ := o2.get h3
  have hl := ob_list N o1
  have hlt : k < xs.length := (List.getElem?_eq_some_iff.mp h3).1
  exact tail_any hl.typeIs slot_list_getitem.lookup (wpAny_getItem_list hl (Int.natCast_nonneg k) (idx63 h2 hlt) (by simpa using g1) ⟨z, σ₂, hq, ⟨m, news, F, N, H.push g2⟩, R₂.st⟩) (hs _ _ _)
/-- t[i] of a tuple, at a written place -/
theorem ev_titem {value slice : Expr} {pos : Pos} {Q : V → Sto → Prop}
    (h : Ev c X value ρ σ (fun o σ₁ => Ev c X slice ρ σ₁ (fun i σ₂ => ∃ xs k x, o = .tup xs ∧ i = .int (k : Nat) ∧ xs.length ≤ 2 ^ 24 ∧ xs[k]? = some x ∧ Q x σ₂)))
    (hs : ∀ a (k : Int) u, subscripted slice false (.ref a) (.int k u) = operate [.ref a, .int k u] (getItem (.ref a) (.int k u)) := by intro _ _ _; with_unfolding_all rfl) :
    Ev c X (.Subscript value slice pos) ρ σ Q := fun f s R => by
  refine Subscript_ (wpAny_mono (h f s R) (fun o s₁ ho => ?_) fun _ _ e => e)
  obtain ⟨x, σ₁, h₁, R₁⟩ := ho
  refine wpAny_mono (h₁ _ _ R₁) (fun i s₂ hi => ?_) fun _ _ e => Exn.pop e
  obtain ⟨y, σ₂, ⟨xs, k, z, rfl, rfl, h2, h3, hq⟩, R₂⟩ := hi
  obtain ⟨m, news, F, N, H, hx, hy⟩ := R₂.two
  cases hy
  cases hx with
  | tup o1 o2 =>
  obtain ⟨v, g1, g2⟩ := o2.get h3
  have hl := ob_tup N o1
  have hlt : k < xs.length := (List.getElem?_eq_some_iff.mp h3).1
  have h63 := idx63 h2 hlt
  refine item_tupleT hl ?_ h63 ?_ g1 ⟨z, σ₂, hq, ⟨m, news, F, N, H.push g2⟩, R₂.st⟩ (hs _ _ _)
  · have : (2 : Int) ^ 63 = 9223372036854775808 := by decide
    rw [this]; omega
  · unfold seqIndex?
    have hl' := o2.length
    have h0 : ¬ ((k : Int) < 0) := by omega
    simp only [h0, if_false]
    have h1 : (0 : Int) ≤ (k : Int) ∧ (k : Int) < ((_ : List Value).length : Nat) := ⟨by omega, by rw [hl']; omega⟩
    simp [h1]
/-- xs[i] = v -/
theorem ex_setitem {o i value : Expr} {pos' pos : Pos} {rest : List Stmt} {Q : Fl → Loc → Sto → Prop}
    (h : Ev c X value ρ σ (fun v σ₁ => Ev c X o ρ σ₁ (fun ov σ₂ => Ev c X i ρ σ₂ (fun iv σ₃ => ∃ a xs k σ₄, ov = .ref a ∧ iv = .int (k : Nat) ∧ xs.length ≤ 2 ^ 24 ∧ k < xs.length ∧ Up a (.list xs) (.list (xs.set k v)) σ₃ σ₄ ∧ Ex c X rest ρ σ₄ Q))))
    (hs : swapsWith value (some (.Subscript o i pos')) pos.line c.env = pure false := by rfl) : Ex c X (.Assign [.Subscript o i pos'] value pos :: rest) ρ σ Q := by
  refine ex_cons fun f s R => wpAny_Assign_Subscript (wpAny_mono (h f s R) (fun v s₁ hv => ?_) fun _ _ e => e) hs
  obtain ⟨x, σ₁, h₁, R₁⟩ := hv
  refine wpAny_mono (h₁ _ _ R₁) (fun ov s₂ ho => ?_) fun _ _ e => Exn.pop e
  obtain ⟨y, σ₂, h₂, R₂⟩ := ho
  refine wpAny_mono (h₂ _ _ R₂) (fun iv s₃ hi => ?_) fun _ _ e => Exn.pop (Exn.pop e)
  obtain ⟨z, σ₃, ⟨a, xs, k, σ₄, rfl, rfl, h3, h4, hu, hq⟩, R₃⟩ := hi
  obtain ⟨m, news, F, N, H⟩ := R₃.ex
  cases H.vals.head
  cases H.vals.tail.head
  have hx := H.vals.tail.tail.head
  have H' := H.pop.pop.pop
  obtain ⟨vs, kk, o1, o2⟩ := H.obs _ (List.mem_append_right _ hu.mem)
  have hl := o2.length
  obtain ⟨pre, post, e1, e2, pa, pb⟩ := (upd_Upd (o' := listOf (vs.set k v).toArray kk) H.one o1).split
  have N' := N
  rw [e1] at N'
  have z := N _ o1
  refine ki_setAt z.1 (Int.natCast_nonneg k) (idx63 h3 h4) (by rw [List.size_toArray, hl]; omega) ?_
  have N₂ : News c.g c.L (s₃.heap.update a (Obj.mapSeq (·.setIfInBounds (k : Int).toNat v))) (upd news a (listOf (vs.set k v).toArray kk)) := by
    rw [e2]
    refine ki_turn (n' := kk) (its' := (vs.set k v).toArray) _ N' pa pb ?_ ?_
    · show vs.toArray.setIfInBounds (k : Int).toNat v = (vs.set k v).toArray
      apply Array.toList_inj.mp
      simp
    · simp
  refine ⟨ρ, σ₄, hq, ⟨⟨m, _, F.change (Heap.SameBut.update ..) z.2.1 z.2.2, N₂, H'.upd hu o1 (notTup_list _ _) ?_⟩, ?_⟩⟩
  · refine ⟨_, _, mem_upd_self o1, ?_⟩
    exact (o2.set hx k).upd H.one o1 (notTup_list _ _)
  · obtain ⟨hh, t, e⟩ := R₃.st
    exact ⟨_, t, by rw [e]⟩
end
-- part L7
theorem IsVs.split {news : Led} {ws : List Value} {ys : List V} : ∀ {vs : List Value} {xs : List V}, IsVs news (vs ++ ws) (xs ++ ys) → vs.length = xs.length → IsVs news vs xs ∧ IsVs news ws ys
  | [], [], h, _ => ⟨.nil, h⟩
  | _ :: _, _ :: _, .cons h r, e => let ⟨a, b⟩ := r.split (by simpa using e); ⟨.cons h a, b⟩
  | [], _ :: _, _, e => by simp at e
  | _ :: _, [], _, e => by simp at e

section
variable {c : Cx} {X : XP} {ρ : Loc} {σ : Sto} {n : Nat}

/-- arguments in a row -/
def Evs (c : Cx) (X : XP) (es : List Expr) (pos : Pos) (ρ : Loc) (σ : Sto) (Q : List V → Sto → Prop) : Prop :=
  ∀ f s, Rep c f ρ σ s → wpAny c.M c.A (spliced (backTo pos (starEach es c.env))) (fun vs s' => ∃ xs σ', Q xs σ' ∧ vs.length = xs.length ∧ Rep c ⟨vs ++ f.vs, xs ++ f.xs, f.φ⟩ ρ σ' s') (Exn c X f) s
theorem Has.vals' {f f' : Fm} {m : Str → Option Value} {news : Led} (H : Has c f ρ σ m news) (hv : IsVs news f'.vs f'.xs) (hφ : f'.φ = f.φ) : Has c f' ρ σ m news :=
  ⟨H.one, hv, by rw [hφ]; exact H.obs, H.locs, by rw [hφ]; exact H.nd, H.rn, H.rl⟩
theorem Rep.vals' {f f' : Fm} {s : Shared} (R : Rep c f ρ σ s) (hv : ∀ news, IsVs news f.vs f.xs → IsVs news f'.vs f'.xs) (hφ : f'.φ = f.φ := by rfl) : Rep c f' ρ σ s :=
  let ⟨m, news, F, N, H⟩ := R.ex; ⟨⟨m, news, F, N, H.vals' (hv _ H.vals) hφ⟩, R.st⟩
theorem evs_nil {pos : Pos} {Q : List V → Sto → Prop} (h : Q [] σ) : Evs c X [] pos ρ σ Q := fun _ _ R => args_nil ⟨[], σ, h, rfl, R⟩
theorem evs_cons {e : Expr} {rest : List Expr} {pos : Pos} {Q : List V → Sto → Prop} (h : Ev c X e ρ σ (fun x σ₁ => Evs c X rest pos ρ σ₁ (fun xs σ₂ => Q (x :: xs) σ₂)))
    (he : starEach (e :: rest) c.env = (false, eval e c.env) :: starEach rest c.env := by rfl) : Evs c X (e :: rest) pos ρ σ Q := fun f s R => by
  refine args_cons (wpAny_mono (h f s R) (fun v s₁ hv => ?_) fun _ _ e => e) he
  obtain ⟨x, σ₁, h₁, R₁⟩ := hv
  refine wpAny_mono (h₁ _ _ R₁) (fun vs s₂ hvs => ?_) fun _ _ e => Exn.pop e
  obtain ⟨xs, σ₂, hq, hl, R₂⟩ := hvs
  refine ⟨x :: xs, σ₂, hq, by rw [List.length_cons, List.length_cons, hl], R₂.vals' fun news hv => ?_⟩
  obtain ⟨a, b⟩ := hv.split hl
  exact .cons b.head (a.append b.tail)

theorem ev_call0 {x : Str} {np pos : Pos} {fa : Addr} {Q : V → Sto → Prop} (ok : c.Ok n) (e : nsIn c.K mainGlobals x = some (some (.ref fa))) (hk : keepIn c.K (.ref fa) = true) (h : Cl c X ρ (.ref fa) [] σ Q)
    (hx : c.env.kindOf x = some .globalImplicit := by rfl) (hd : (x == ("__debug__" : Str)) = false := by decide) : Ev c X (.Call (.Name x np) [] [] pos) ρ σ Q := fun f s R => by
  obtain ⟨m, news, F, N, H⟩ := R.ex
  refine Call_ (nameX_K F ok.X (topRead_of ok.T) e (callWith_K0 (ok.X.keeps F.keep) hk ?_) ok.kind hx hd)
  exact h f [] s R rfl
theorem ev_call {x : Str} {np pos : Pos} {e₀ : Expr} {rest : List Expr} {fa : Addr} {Q : V → Sto → Prop} (ok : c.Ok n) (e : nsIn c.K mainGlobals x = some (some (.ref fa))) (hk : keepIn c.K (.ref fa) = true)
    (h : Evs c X (e₀ :: rest) pos ρ σ (fun xs σ₁ => Cl c X ρ (.ref fa) xs σ₁ Q))
    (hx : c.env.kindOf x = some .globalImplicit := by rfl) (hd : (x == ("__debug__" : Str)) = false := by decide)
    (he : starEach (e₀ :: rest) c.env = (false, eval e₀ c.env) :: starEach rest c.env := by rfl) (hplain : (backTo pos (starEach rest c.env)).any (·.1) = false := by rfl) : Ev c X (.Call (.Name x np) (e₀ :: rest) [] pos) ρ σ Q := fun f s R => by
  obtain ⟨m, news, F, N, H⟩ := R.ex
  refine Call_ (nameX_K F ok.X (topRead_of ok.T) e (callWith_K ok.X hk (wpAny_mono (h f s R) (fun vs s₁ hv => ?_) fun _ _ e => e) he hplain) ok.kind hx hd)
  obtain ⟨xs, σ₁, hq, hl, R₁⟩ := hv
  obtain ⟨_, _, F₁, _⟩ := R₁.ex
  exact ⟨ok.X.keeps F₁.keep, hq f vs s₁ R₁ hl⟩

/-- a method of an object -/
structure IsM (K : Frag) (σ : Sto) (name : Str) (a f : Addr) : Prop where
  ex : ∃ C d as, (a, Ob.inst C d) ∈ σ ∧ (d, Ob.attrs as) ∈ σ ∧ MethOk K C name f ∧ ∀ p ∈ as, p.1 ≠ name
theorem getM {f : Fm} {a fa : Addr} {name : Str} {m : Str → Option Value} {news : Led} {s : Shared} {pl : Sem Bool} {A : Around} {E : Value → Shared → Prop} {Q : Value × List Value → Shared → Prop} (ok : c.Ok n) (hM : IsM c.K σ name a fa) (F : Fr c.g c.L s.heap m) (N : News c.g c.L s.heap news) (H : Has c f ρ σ m news)
    (h : Q (.ref fa, [.ref a]) s) : wpAny c.M A (getMethod (.ref a) name pl) Q E s := by
  obtain ⟨C, d, as, h1, h2, hK, hn⟩ := hM.ex
  have o1 := H.obs _ (List.mem_append_right _ h1)
  obtain ⟨es, k, o2, o3, o4⟩ := H.obs _ (List.mem_append_right _ h2)
  exact method_inst F ok.X (InstAt.of_news N o1 o2) hK.get hK.cls hK.fn (ents_none o3 hn) h
theorem IsM.keep {K : Frag} {name : Str} {a f : Addr} (h : IsM K σ name a f) : keepIn K (.ref f) = true := let ⟨_, _, _, _, _, hK, _⟩ := h.ex; hK.keep
theorem ev_meth0 {o : Expr} {name : Str} {apos pos : Pos} {pl : Sem Bool} {Q : V → Sto → Prop} (ok : c.Ok n)
    (h : Ev c X o ρ σ (fun ov σ₁ => ∃ a fa, ov = .ref a ∧ IsM c.K σ₁ name a fa ∧ Cl c X ρ (.ref fa) [.ref a] σ₁ Q))
    (he : eval (.Call (.Attribute o name apos) [] [] pos) c.env = (do
      let ov ← eval o c.env
      standAt apos.atName
      let (f, first) ← holding [ov] (getMethod ov name pl)
      callWith pos f first (backTo pos (starEach [] c.env)) []) := by rfl) : Ev c X (.Call (.Attribute o name apos) [] [] pos) ρ σ Q := fun f s R => by
  refine MethodCall_ (wpAny_mono (h f s R) (fun ov s₁ ho => ?_) fun _ _ e => e) he
  obtain ⟨y, σ₁, ⟨a, fa, rfl, hM, hc⟩, R₁⟩ := ho
  obtain ⟨m, news, F, N, H⟩ := R₁.ex
  cases H.vals.head
  refine getM ok hM F N H.pop (callWith_K0 (ok.X.keeps F.keep) hM.keep ?_)
  exact hc f [.ref a] s₁ R₁ rfl
theorem ev_meth {o : Expr} {name : Str} {apos pos : Pos} {e₀ : Expr} {rest : List Expr} {pl : Sem Bool} {Q : V → Sto → Prop} (ok : c.Ok n)
    (h : Ev c X o ρ σ (fun ov σ₁ => ∃ a fa, ov = .ref a ∧ IsM c.K σ₁ name a fa ∧ Evs c X (e₀ :: rest) pos ρ σ₁ (fun xs σ₂ => Cl c X ρ (.ref fa) (.ref a :: xs) σ₂ Q)))
    (he : eval (.Call (.Attribute o name apos) (e₀ :: rest) [] pos) c.env = (do
      let ov ← eval o c.env
      standAt apos.atName
      let (f, first) ← holding [ov] (getMethod ov name pl)
      callWith pos f first (backTo pos (starEach (e₀ :: rest) c.env)) []) := by rfl)
    (he' : starEach (e₀ :: rest) c.env = (false, eval e₀ c.env) :: starEach rest c.env := by rfl) (hplain : (backTo pos (starEach rest c.env)).any (·.1) = false := by rfl) : Ev c X (.Call (.Attribute o name apos) (e₀ :: rest) [] pos) ρ σ Q := fun f s R => by
  refine MethodCall_ (wpAny_mono (h f s R) (fun ov s₁ ho => ?_) fun _ _ e => e) he
  obtain ⟨y, σ₁, ⟨a, fa, rfl, hM, hc⟩, R₁⟩ := ho
  obtain ⟨m, news, F, N, H⟩ := R₁.ex
  cases H.vals.head
  refine getM ok hM F N H.pop (callWith_K ok.X hM.keep (wpAny_mono (hc _ _ R₁) (fun vs s₂ hv => ?_) fun _ _ e => Exn.pop e) he' hplain)
  obtain ⟨xs, σ₂, hq, hl, R₂⟩ := hv
  obtain ⟨_, _, F₂, _⟩ := R₂.ex
  refine ⟨ok.X.keeps F₂.keep, hq f (.ref a :: vs) s₂ (R₂.vals' fun news hv => ?_) (by rw [List.length_cons, List.length_cons, hl])⟩
  obtain ⟨p, q⟩ := hv.split hl
  exact .cons q.head (p.append q.tail)
end
-- part L8
/-- a frame's names at its start -/
def bnd : List Str → List V → Loc
  | [], _ => []
  | x :: xs, [] => (x, none) :: bnd xs []
  | x :: xs, v :: vs => (x, some v) :: bnd xs vs
theorem bnd_fst : ∀ (xs : List Str) (vs : List V), (bnd xs vs).map (·.1) = xs
  | [], _ => rfl
  | x :: xs, [] => by simp only [bnd, List.map_cons, bnd_fst xs []]
  | x :: xs, v :: vs => by simp only [bnd, List.map_cons, bnd_fst xs vs]
theorem bnd_none : ∀ (xs : List Str) (p : Str × Option V), p ∈ bnd xs [] → p.2 = none
  | x :: xs, p, hp => by
    rcases List.mem_cons.mp hp with rfl | hp
    · rfl
    · exact bnd_none xs p hp
theorem bnd_zip {news : Led} : ∀ (xs : List Str) {as : List Value} {vs : List V}, IsVs news as vs → ∀ p ∈ bnd xs vs, ∀ y, p.2 = some y → ∃ v, (p.1, v) ∈ (xs.take vs.length).zip as ∧ IsV news v y
  | x :: xs, [], [], .nil, p, hp, y, hy => by rw [bnd_none _ p hp] at hy; cases hy
  | x :: xs, _ :: _, _ :: _, .cons h r, p, hp, y, hy => by
    rcases List.mem_cons.mp hp with rfl | hp
    · cases hy; exact ⟨_, .head _, h⟩
    · obtain ⟨v, h1, h2⟩ := bnd_zip xs r p hp y hy
      exact ⟨v, .tail _ h1, h2⟩
theorem lookup_mem {xs : List Str} {as : List Value} (nd : xs.Nodup) (hle : xs.length ≤ as.length) {x : Str} {v : Value} (h : (x, v) ∈ xs.zip as) : (xs.zip as).reverse.lookup x = some v := by
  have hsub : ((xs.zip as).map (·.1)).Nodup := by
    have : (xs.zip as).map (·.1) = xs := List.map_fst_zip hle
    rw [this]; exact nd
  have hr : (((xs.zip as).reverse).map (·.1)).Nodup := by rw [List.map_reverse]; exact List.pairwise_reverse.mpr (hsub.imp Ne.symm)
  have hm : (x, v) ∈ (xs.zip as).reverse := List.mem_reverse.mpr h
  revert hr hm
  generalize (xs.zip as).reverse = l
  intro hr hm
  induction l with
  | nil => cases hm
  | cons q r ih =>
    obtain ⟨a, b⟩ := q
    simp only [List.map_cons, List.nodup_cons] at hr
    rcases List.mem_cons.mp hm with e | hm
    · cases e; simp
    · have : a ≠ x := fun e => hr.1 (e ▸ List.mem_map.mpr ⟨_, hm, rfl⟩)
      have hb : (x == a) = false := by simpa using fun e => this e.symm
      rw [List.lookup_cons, hb]
      exact ih hr.2 hm

section
variable {c : Cx} {X : XP} {ρ : Loc} {σ : Sto} {n : Nat}
theorem locs_pack {m : Str → Option Value} {news : Led} : ∀ {ρ : Loc}, (∀ p ∈ ρ, ∀ x, p.2 = some x → ∃ v, m p.1 = some v ∧ IsV news v x) →
    ∃ lv, IsVs news lv (ρ.filterMap (·.2)) ∧ ∀ news', IsVs news' lv (ρ.filterMap (·.2)) → ∀ p ∈ ρ, ∀ x, p.2 = some x → ∃ v, m p.1 = some v ∧ IsV news' v x
  | [], _ => ⟨[], .nil, fun _ _ _ hp => nomatch hp⟩
  | (y, none) :: r, h => by
    obtain ⟨lv, h1, h2⟩ := locs_pack (ρ := r) fun p hp => h p (.tail _ hp)
    refine ⟨lv, h1, fun news' hv p hp x hx => ?_⟩
    rcases List.mem_cons.mp hp with rfl | hp
    · cases hx
    · exact h2 news' hv p hp x hx
  | (y, some z) :: r, h => by
    obtain ⟨lv, h1, h2⟩ := locs_pack (ρ := r) fun p hp => h p (.tail _ hp)
    obtain ⟨v, g1, g2⟩ := h _ (.head _) z rfl
    refine ⟨v :: lv, .cons g2 h1, fun news' hv p hp x hx => ?_⟩
    rcases List.mem_cons.mp hp with rfl | hp
    · cases hx; exact ⟨v, g1, hv.head⟩
    · exact h2 news' hv.tail p hp x hx

/-- the frame of a called def -/
abbrev Cx.sub (c : Cx) (g : Heap) (L : Addr) (qual : Str) (scope : Scope) (fa : Addr) (cd : Value) (cl : List (Str × Addr)) : Cx :=
  { c with A₀ := c.A, outer := c.env :: c.outer, g := g, L := L, qual := qual, scope := scope, fa := fa, cd := cd, cl := cl }
def retV : Fl → V
  | .ret v => v
  | _ => .none

theorem leave_exn {g : Heap} {L : Addr} {qual : Str} {scope : Scope} {fa : Addr} {cd : Value} {f : Fm} {lv : List Value} {m : Str → Option Value} {e : Value} {s : Shared} {E : Value → Shared → Prop}
    (B : Below c.A c.base (c.env :: c.outer) g) (hk : scope.kind = .function) (FG : Fr c.g c.L g m) (rn : (ρ.map (·.1)).Nodup) (rl : ∀ p ∈ ρ, c.env.kindOf p.1 = some .local)
    (pk : ∀ news', IsVs news' lv (ρ.filterMap (·.2)) → ∀ p ∈ ρ, ∀ x, p.2 = some x → ∃ v, m p.1 = some v ∧ IsV news' v x) (hl : lv.length = (ρ.filterMap (·.2)).length)
    (h : Exn (c.sub g L qual scope fa cd []) (fun C _ σ' => X C ρ σ') ⟨lv ++ f.vs, ρ.filterMap (·.2) ++ f.xs, f.φ⟩ e s) :
    wpAny c.M (c.A.deeper (envX qual scope L fa cd [])) (leaving (envX qual scope L fa cd []) e) (fun _ s' => Exn c X f e s') E s := by
  obtain ⟨C, ρ', σ', hx, r⟩ := h
  obtain ⟨ea, m', news, rfl, H, hR⟩ := r.ex
  obtain ⟨v1, v2⟩ := H.vals.split hl
  have H' : Has c f ρ σ' m news := ⟨H.one, v2, H.obs, pk news v1, H.nd, rn, rl⟩
  obtain ⟨hh, t, es⟩ := r.st
  rcases hR with ⟨h, vs, F', N', hM⟩ | ⟨t', vs, h, hK, F', hU⟩
  · exact leave_raiseK (name := qual) (a := fa) (cd := cd) B hM F' N' (fun h' t'' R1 U1 => ⟨C, ρ, σ', hx, ⟨⟨ea, m, news, rfl, H', .inr ⟨t'', vs, g, R1, FG, U1⟩⟩, ⟨h', t, by rw [es]⟩⟩⟩) hk
  · exact leave_onK (name := qual) (a := fa) (cd := cd) B F' hK hU fun h' R1 U1 => ⟨C, ρ, σ', hx, ⟨⟨ea, m, news, rfl, H', .inr ⟨t', vs, g, R1, FG, U1⟩⟩, ⟨h', t, by rw [es]⟩⟩⟩

/-- a def without cells is called -/
theorem cl_intro {fa : Addr} {name qual : Str} {params : Arguments} {body : List Stmt} {scope : Scope} {dV kV doc pm cdv ct oc : Value} {an od : Option Addr} {osl : Array (Option Value)} {args : List V} {ln : List Str} {Q : V → Sto → Prop}
    (ok : c.Ok (n + 1)) (ho : c.K.lookup fa = some ⟨oc, od, .func (fnOf name qual params body scope dV kV doc pm an cdv ct), osl⟩) (hcd : codeIn c.K cdv qual = true)
    (hb : ∀ as : List Value, as.length = args.length → bindArgs (fnOf name qual params body scope dV kV doc pm an cdv ct) ⟨as, []⟩ = pure ((ln.take args.length).zip as))
    (hl : (ln.all fun x => scope.names.lookup x == some .local) = true) (hnd : ln.Nodup)
    (h : ∀ g L, (c.sub g L qual scope fa cdv []).Ok n → Ex (c.sub g L qual scope fa cdv []) (fun C _ σ' => X C ρ σ') body (bnd ln args) σ (fun fl _ σ' => Q (retV fl) σ'))
    (hco : scope.isCoroutine = false := by rfl) (hgen : scope.isGenerator = false := by rfl) (hk : scope.kind = .function := by rfl) (hcell : ∀ x ∈ scope.names, x.2 ≠ .cell := by decide) :
    Cl c X ρ (.ref fa) args σ Q := fun f as s R hlen => by
  obtain ⟨m, news, F, N, H⟩ := R.ex
  obtain ⟨va, vf⟩ := H.vals.split hlen
  obtain ⟨lv, pk1, pk2⟩ := locs_pack H.locs
  have hloc : ∀ x ∈ ln, scope.names.lookup x = some .local := fun x hx => by simpa using List.all_eq_true.mp hl x hx
  have hlk : lv.length = (ρ.filterMap (·.2)).length := pk1.length
  refine wpAny_call (code_def ok.B F ok.X N ok.T (Around.frames_deeper ok.B.stack) rfl ok.kind ho hcd (by show c.A₀.depth + 1 < recursionLimit; have := ok.room; unfold recursionLimit; omega) (BindsTo.of_eq (hb as hlen)) (fun y hy => hloc _ ?_) ?_ hco hgen hk hcell)
  · exact List.mem_of_mem_take (List.of_mem_zip hy).1
  intro g L' h₁ FG F' N' B' X' T'
  have ok' : (c.sub g L' qual scope fa cdv []).Ok n := ⟨B', X', T', hk, ok.hh, by show c.A₀.depth + 1 + n < 900; have := ok.room; omega, by show c.A₀.units + 3 + 10 * n < 5000; have := ok.units; omega⟩
  have R' : Rep (c.sub g L' qual scope fa cdv []) ⟨lv ++ f.vs, ρ.filterMap (·.2) ++ f.xs, f.φ⟩ (bnd ln args) σ { s with heap := h₁, toks := s.toks + ((ln.take args.length).zip as).length } := by
    refine ⟨⟨_, news, F', N', ⟨H.one, pk1.append vf, H.obs, fun p hp x hx => ?_, H.nd, by rw [bnd_fst]; exact hnd, fun p hp => ?_⟩⟩, ?_⟩
    · obtain ⟨v, h1, h2⟩ := bnd_zip ln va p hp x hx
      exact ⟨v, lookup_mem (hnd.sublist (List.take_sublist _ _)) (by rw [List.length_take, hlen]; exact Nat.min_le_left _ _) h1, h2⟩
    · have hm : p.1 ∈ ln := by rw [← bnd_fst ln args]; exact List.mem_map.mpr ⟨p, hp, rfl⟩
      exact hloc _ hm
    · obtain ⟨hh, t, e⟩ := R.st
      exact ⟨h₁, _, by rw [e]⟩
  refine wpAny_mono (h g L' ok' _ _ R') (fun fl s' hp => ?_) (fun e s' he => ?_)
  · have key : ∀ (v : Value) (x : V) (ρ' : Loc) (σ' : Sto), Q x σ' → Rep (c.sub g L' qual scope fa cdv []) (Fm.push ⟨lv ++ f.vs, ρ.filterMap (·.2) ++ f.xs, f.φ⟩ v x) ρ' σ' s' →
        LeaveK c.g c.L m g (fun r s' => match r with | .ok (.ret v) => ∃ x σ', Q x σ' ∧ Rep c (f.push v x) ρ σ' s' | .ok _ => False | .error e => Exn c X f e s') v s' := by
      intro v x ρ' σ' hq r
      obtain ⟨m₂, news₂, F₂, N₂, H₂⟩ := r.ex
      refine leaveK_ F₂ N₂ fun F₃ N₃ => ⟨x, σ', hq, ⟨⟨m, news₂, F₃, N₃, ?_⟩, r.st⟩⟩
      obtain ⟨p1, p2⟩ := H₂.vals.tail.split hlk
      exact ⟨H₂.one, .cons H₂.vals.head p2, H₂.obs, pk2 _ p1, H₂.nd, H.rn, H.rl⟩
    cases fl with
    | next => obtain ⟨ρ', σ', hq, r⟩ := hp; exact key _ _ ρ' σ' hq (r.pushV fun _ => .none)
    | brk => obtain ⟨ρ', σ', hq, r⟩ := hp; exact key _ _ ρ' σ' hq (r.pushV fun _ => .none)
    | cont => obtain ⟨ρ', σ', hq, r⟩ := hp; exact key _ _ ρ' σ' hq (r.pushV fun _ => .none)
    | ret v => obtain ⟨x, ρ', σ', hq, r⟩ := hp; exact key v x ρ' σ' hq r
  · refine wpAny_mono (leave_exn B' hk FG H.rn H.rl pk2 hlk he) (fun _ _ x => x) (fun _ _ x => x)
end
-- part L9
section
variable {c : Cx} {X : XP} {ρ : Loc} {σ : Sto} {n : Nat}

theorem Exn.no {f : Fm} {e : Value} {s : Shared} (h : Exn c noX f e s) : False := let ⟨_, _, _, h, _⟩ := h; h

/-- what a turn of a loop must come to -/
def Turn (c : Cx) (X : XP) (rest : List Stmt) (Q : Fl → Loc → Sto → Prop) (I : Loc → Sto → Prop) : Fl → Loc → Sto → Prop
  | .next, ρ, σ => I ρ σ
  | .cont, ρ, σ => I ρ σ
  | .brk, ρ, σ => Ex c X rest ρ σ Q
  | .ret v, ρ, σ => Q (.ret v) ρ σ

theorem ex_while {test : Expr} {body rest : List Stmt} {pos : Pos} {Q : Fl → Loc → Sto → Prop} (I : Nat → Loc → Sto → Prop) (k : Nat) (start : I k ρ σ)
    (turn : ∀ k ρ σ, I k ρ σ → Ts c noX test ρ σ (fun b σ' => (b = true → Ex c noX body ρ σ' (Turn c X rest Q fun ρ σ => ∃ j, j < k ∧ I j ρ σ)) ∧ (b = false → Ex c X rest ρ σ' Q))) :
    Ex c X (.While test body [] pos :: rest) ρ σ Q := by
  refine ex_cons fun f s R => wpAny_While ?_
  refine codeAny_whileLoop (fun k s => ∃ ρ σ, I k ρ σ ∧ Rep c f ρ σ s) ?_ k ⟨ρ, σ, start, R⟩
  rintro k s₁ ⟨ρ₁, σ₁, hI, R₁⟩
  refine wpAny_mono (turn k ρ₁ σ₁ hI f s₁ R₁) (fun b s₂ hb => ?_) fun _ _ e => e.no.elim
  obtain ⟨σ₂, ⟨h1, h2⟩, R₂⟩ := hb
  cases b with
  | false =>
    rw [if_neg Bool.false_ne_true]
    exact wpAny_execs_nil ⟨ρ₁, σ₂, h2 rfl, R₂⟩
  | true =>
    rw [if_pos rfl]
    refine wpAny_mono (h1 rfl f s₂ R₂) (fun fl s₃ hp => ?_) fun _ _ e => e.no.elim
    cases fl with
    | next => obtain ⟨ρ', σ', ⟨j, hj, hi⟩, r⟩ := hp; exact ⟨j, hj, ρ', σ', hi, r⟩
    | cont => obtain ⟨ρ', σ', ⟨j, hj, hi⟩, r⟩ := hp; exact ⟨j, hj, ρ', σ', hi, r⟩
    | brk => exact hp
    | ret v => exact hp

/-- an iterator: its items, what it wants of the store, its object's states -/
structure Stp (c : Cx) (I : Addr) (n : Nat) (item : Nat → V) (J : Sto → Prop) (Itr : Nat → Obj → Prop) : Prop where
  item : ∀ (i : Nat) (f : Fm) (ρ : Loc) (σ : Sto) (o : Obj) (s : Shared) (E : Value → Shared → Prop), i < n → J σ → Itr i o → Rep c ⟨f.vs, f.xs, (I, .raw o) :: f.φ⟩ ρ σ s →
    wpAny c.M c.A (pyNext (.ref I)) (fun r s' => ∃ v o', r = some v ∧ Itr (i + 1) o' ∧ Rep c ⟨v :: f.vs, item i :: f.xs, (I, .raw o') :: f.φ⟩ ρ σ s') E s
  done : ∀ (f : Fm) (ρ : Loc) (σ : Sto) (o : Obj) (s : Shared) (E : Value → Shared → Prop), J σ → Itr n o → Rep c ⟨f.vs, f.xs, (I, .raw o) :: f.φ⟩ ρ σ s → wpAny c.M c.A (pyNext (.ref I)) (fun r s' => r = none ∧ Rep c f ρ σ s') E s

theorem for_loop {I : Addr} {k : Nat} {item : Nat → V} {J : Sto → Prop} {Itr : Nat → Obj → Prop} {x : Str} {px : Pos} {body rest : List Stmt} {Q : Fl → Loc → Sto → Prop} {f : Fm} {o : Obj} {s : Shared} (ok : c.Ok n) (S : Stp c I k item J Itr)
    (Inv : Nat → Loc → Sto → Prop) (hJ : ∀ i ρ σ, Inv i ρ σ → J σ) (start : Inv 0 ρ σ)
    (turn : ∀ i ρ σ, i < k → Inv i ρ σ → ∃ g, PutF x ρ g ∧ Ex c noX body (g (item i)) σ (Turn c X rest Q (Inv (i + 1)))) (done : ∀ ρ σ, Inv k ρ σ → Ex c X rest ρ σ Q)
    (hi : Itr 0 o) (R : Rep c ⟨f.vs, f.xs, (I, .raw o) :: f.φ⟩ ρ σ s) :
    codeAny c.M c.A (.forLoop (.Name x px) (.ref I) body [] c.env) (fun r s' => match r with | .ok fl => ExPost c f (Then c X rest Q) fl s' | .error e => cameBackBy c.M c.A c.env (Exn c X f) e s') s := by
  have drop : ∀ {f : Fm} {ρ : Loc} {σ : Sto} {o : Obj} {s : Shared}, Rep c ⟨f.vs, f.xs, (I, .raw o) :: f.φ⟩ ρ σ s → Rep c f ρ σ s := fun R =>
    let ⟨m, news, F, N, H⟩ := R.ex
    ⟨⟨m, news, F, N, ⟨H.one, H.vals, fun p hp => H.obs p (.tail _ hp), H.locs, (List.nodup_cons.mp H.nd).2, H.rn, H.rl⟩⟩, R.st⟩
  refine codeAny_forLoop (fun j s => ∃ i ρ σ o, j + i = k ∧ Inv i ρ σ ∧ Itr i o ∧ Rep c ⟨f.vs, f.xs, (I, .raw o) :: f.φ⟩ ρ σ s) ?_ k ⟨0, ρ, σ, o, rfl, start, hi, R⟩
  rintro j s₁ ⟨i, ρ₁, σ₁, o₁, hj, hI, hit, R₁⟩
  by_cases hik : i < k
  · refine wpAny_mono (S.item i f ρ₁ σ₁ o₁ s₁ _ hik (hJ _ _ _ hI) hit R₁) (fun r s₂ hr => ?_) fun _ _ e => e
    obtain ⟨v, o', rfl, hit', R₂⟩ := hr
    obtain ⟨g, hp, hb⟩ := turn i ρ₁ σ₁ hik hI
    obtain ⟨m, news, F, N, H⟩ := R₂.ex
    obtain ⟨oo, ho⟩ := hp.mem
    refine wpAny_assign_Name (storeX_L F N (fun h' F' N' => ?_) ok.kind (H.rl _ ho))
    have R₃ : Rep c ⟨f.vs, f.xs, (I, .raw o') :: f.φ⟩ (g (item i)) σ₁ { s₂ with heap := h', toks := s₂.toks + 1 } := by
      refine ⟨⟨_, news, F', N', ?_⟩, ?_⟩
      · have H' : Has c ⟨f.vs, f.xs, (I, .raw o') :: f.φ⟩ ρ₁ σ₁ m news := ⟨H.one, H.vals.tail, H.obs, H.locs, H.nd, H.rn, H.rl⟩
        exact H'.put hp H.vals.head
      · obtain ⟨hh, t, e⟩ := R₂.st
        exact ⟨h', _, by rw [e]⟩
    refine wpAny_mono (hb _ _ R₃) (fun fl s₄ hp4 => ?_) fun _ _ e => e.no.elim
    cases fl with
    | next => obtain ⟨ρ', σ', hi', r⟩ := hp4; exact ⟨j - 1, by omega, i + 1, ρ', σ', o', by omega, hi', hit', r⟩
    | cont => obtain ⟨ρ', σ', hi', r⟩ := hp4; exact ⟨j - 1, by omega, i + 1, ρ', σ', o', by omega, hi', hit', r⟩
    | brk => obtain ⟨ρ', σ', hq, r⟩ := hp4; exact ⟨ρ', σ', hq, drop r⟩
    | ret v =>
      obtain ⟨y, ρ', σ', hq, r⟩ := hp4
      exact ⟨y, ρ', σ', hq, drop (f := f.push v y) r⟩
  · have hik' : i = k := by omega
    subst hik'
    refine wpAny_mono (S.done f ρ₁ σ₁ o₁ s₁ _ (hJ _ _ _ hI) hit R₁) (fun r s₂ hr => ?_) fun _ _ e => e
    obtain ⟨rfl, R₂⟩ := hr
    exact wpAny_execs_nil ⟨ρ₁, σ₁, done ρ₁ σ₁ hI, R₂⟩

/-- the head of φ exchanged -/
theorem Rep.turn {f : Fm} {I : Addr} {o o' : Obj} {s : Shared} {h' : Heap} {t : Nat} (R : Rep c ⟨f.vs, f.xs, (I, .raw o) :: f.φ⟩ ρ σ s) (ht : NotTup o) (hs : Heap.SameBut I s.heap h') (ho : h'.get? I = some o') :
    Rep c ⟨f.vs, f.xs, (I, .raw o') :: f.φ⟩ ρ σ { s with heap := h', toks := t } := by
  obtain ⟨m, news, F, N, H⟩ := R.ex
  have hI : (I, o) ∈ news := H.obs (I, .raw o) (.head _)
  have z := N _ hI
  obtain ⟨pre, post, e1, e2, pa, pb⟩ := (upd_Upd (o' := o') H.one hI).split
  have N₂ : News c.g c.L h' (upd news I o') := by
    rw [e2]; rw [e1] at N; exact news_set N pa pb hs ho
  have nd := List.nodup_cons.mp H.nd
  refine ⟨⟨m, _, F.change hs z.2.1 z.2.2, N₂, ⟨by rw [upd_fst]; exact H.one, H.vals.upd H.one hI ht, fun p hp => ?_, fun p hp x hx => let ⟨v, h1, h2⟩ := H.locs p hp x hx; ⟨v, h1, h2.upd H.one hI ht⟩, H.nd, H.rn, H.rl⟩⟩, ?_⟩
  · rcases List.mem_cons.mp hp with e | hp
    · subst e; exact mem_upd_self hI
    · exact (H.obs p (.tail _ hp)).upd H.one hI ht fun e => nd.1 (List.mem_map.mpr ⟨p, hp, e⟩)
  · obtain ⟨hh, t', e⟩ := R.st
    exact ⟨h', t, by rw [e]⟩
/-- the head of φ let go -/
theorem Rep.letGo {f : Fm} {I : Addr} {o : Obj} {s : Shared} {h' : Heap} {t : Nat} (R : Rep c ⟨f.vs, f.xs, (I, .raw o) :: f.φ⟩ ρ σ s) (ht : NotTup o) (hs : Heap.ExtBut I s.heap h') :
    Rep c f ρ σ { s with heap := h', toks := t } := by
  obtain ⟨m, news, F, N, H⟩ := R.ex
  have hI : (I, o) ∈ news := H.obs (I, .raw o) (.head _)
  have z := N _ hI
  have nd := List.nodup_cons.mp H.nd
  let news' := news.filter fun p => p.1 ≠ I
  have hmem : ∀ {b : Addr} {ob : Obj}, (b, ob) ∈ news → b ≠ I → (b, ob) ∈ news' := fun h hb => List.mem_filter.mpr ⟨h, by simpa using hb⟩
  have N' : News c.g c.L h' news' := fun p hp => by
    obtain ⟨h1, h2⟩ := List.mem_filter.mp hp
    have hp1 : p.1 ≠ I := by simpa using h2
    exact ⟨hs _ _ hp1 (N p h1).1, (N p h1).2⟩
  have F' : Fr c.g c.L h' m := by
    obtain ⟨oL, es, ep, hL, r⟩ := F.ns
    refine ⟨⟨oL, es, ep, hs _ _ (fun e => z.2.1 e.symm) hL, r⟩, fun b ob hb => hs _ _ (fun e => ?_) (F.keep b ob hb), F.above⟩
    rw [e, z.2.2] at hb; cases hb
  have one' : (news'.map (·.1)).Nodup := H.one.sublist (List.Sublist.map _ List.filter_sublist)
  -- tuples stay
  have hv : ∀ {v : Value} {x : V}, IsV news v x → IsV news' v x := by
    intro v x
    refine fun h => IsV.rec (motive_1 := fun v x _ => IsV news' v x) (motive_2 := fun vs xs _ => IsVs news' vs xs) .none .bool .int .str .ref .raw (fun {a vs n l} hm _ ih => .tup (hmem hm fun e => ht _ _ (led_one H.one hI (e ▸ hm))) ih) .nil (fun _ _ i1 i2 => .cons i1 i2) h
  have hvs : ∀ {vs : List Value} {xs : List V}, IsVs news vs xs → IsVs news' vs xs := by
    intro vs xs h
    induction vs generalizing xs with
    | nil => cases h; exact .nil
    | cons v vs ih => cases h with | cons h r => exact .cons (hv h) (ih r)
  have hen : ∀ {es : List DictEntry} {ps : List (Str × V)}, Ents news es ps → Ents news' es ps := by
    intro es
    induction es with
    | nil => intro ps h; cases ps with | nil => trivial | cons _ _ => exact h.elim
    | cons e es ih => intro ps h; cases ps with | nil => exact h.elim | cons p ps => exact ⟨h.1, hv h.2.1, ih h.2.2⟩
  refine ⟨⟨m, news', F', N', ⟨one', hvs H.vals, fun p hp => ?_, fun p hp x hx => let ⟨v, h1, h2⟩ := H.locs p hp x hx; ⟨v, h1, hv h2⟩, nd.2, H.rn, H.rl⟩⟩, ?_⟩
  · have hp1 : p.1 ≠ I := fun e => nd.1 (List.mem_map.mpr ⟨p, hp, e⟩)
    have := H.obs p (.tail _ hp)
    obtain ⟨a, ob⟩ := p
    cases ob with
    | list xs => obtain ⟨vs, k, h1, h2⟩ := this; exact ⟨vs, k, hmem h1 hp1, hvs h2⟩
    | inst C d => exact hmem this hp1
    | attrs as => obtain ⟨es, k, h1, h2, h3⟩ := this; exact ⟨es, k, hmem h1 hp1, hen h2, h3⟩
    | cell oo =>
      cases oo with
      | none => obtain ⟨ob, w, h1, h2, _⟩ := this; exact ⟨ob, w, hmem h1 hp1, h2, trivial⟩
      | some y => obtain ⟨ob, w, h1, h2, v, e, h3⟩ := this; exact ⟨ob, w, hmem h1 hp1, h2, v, e, hv h3⟩
    | raw oo => exact hmem this hp1
  · obtain ⟨hh, t', e⟩ := R.st
    exact ⟨h', t, by rw [e]⟩
end
-- part L10
section
variable {c : Cx} {X : XP} {ρ : Loc} {σ : Sto} {n : Nat}

/-! ### the store made smaller -/
theorem Rep.weak {f : Fm} {σ' : Sto} {s : Shared} (R : Rep c f ρ σ s) (hs : ∀ p ∈ σ', p ∈ σ) (nd : (σ'.map (·.1)).Nodup) : Rep c f ρ σ' s := by
  obtain ⟨m, news, F, N, H⟩ := R.ex
  refine ⟨⟨m, news, F, N, ⟨H.one, H.vals, fun p hp => ?_, H.locs, ?_, H.rn, H.rl⟩⟩, R.st⟩
  · rcases List.mem_append.mp hp with hp | hp
    · exact H.obs p (List.mem_append_left _ hp)
    · exact H.obs p (List.mem_append_right _ (hs p hp))
  · have h := H.nd
    rw [List.map_append] at h ⊢
    obtain ⟨a, b, d⟩ := List.nodup_append.mp h
    refine List.nodup_append.mpr ⟨a, nd, fun x hx y hy => d x hx y ?_⟩
    obtain ⟨q, hq, rfl⟩ := List.mem_map.mp hy
    exact List.mem_map.mpr ⟨q, hs q hq, rfl⟩
theorem Rep.ndS {f : Fm} {s : Shared} (R : Rep c f ρ σ s) : (σ.map (·.1)).Nodup := by
  obtain ⟨m, news, F, N, H⟩ := R.ex
  have h := H.nd
  rw [List.map_append] at h
  exact (List.nodup_append.mp h).2.1
theorem Rep.sub {f : Fm} {σ' : Sto} {s : Shared} (R : Rep c f ρ σ s) (hs : σ'.Sublist σ) : Rep c f ρ σ' s :=
  R.weak (fun _ hp => hs.subset hp) (R.ndS.sublist (hs.map _))
theorem Rep.perm {f : Fm} {σ' : Sto} {s : Shared} (R : Rep c f ρ σ s) (hs : σ'.Perm σ) : Rep c f ρ σ' s :=
  R.weak (fun _ hp => hs.mem_iff.mp hp) ((hs.map _).nodup_iff.mpr R.ndS)
theorem ex_sub {ss : List Stmt} {σ' : Sto} {Q : Fl → Loc → Sto → Prop} (hs : σ'.Sublist σ) (h : Ex c X ss ρ σ' Q) : Ex c X ss ρ σ Q := fun f s R => h f s (R.sub hs)
theorem ex_perm {ss : List Stmt} {σ' : Sto} {Q : Fl → Loc → Sto → Prop} (hs : σ'.Perm σ) (h : Ex c X ss ρ σ' Q) : Ex c X ss ρ σ Q := fun f s R => h f s (R.perm hs)
theorem cl_perm {fv : Value} {args : List V} {σ' : Sto} {Q : V → Sto → Prop} (hs : σ'.Perm σ) (h : Cl c X ρ fv args σ' Q) : Cl c X ρ fv args σ Q := fun f as s R hl => h f as s (R.perm hs) hl
/-- a call sees a part of the store alone -/
theorem cl_frame {fv : Value} {args : List V} {σ₂ : Sto} {Q : V → Sto → Prop} {X' : XP} (h : Cl c X' ρ fv args σ (fun v σ' => Q v (σ' ++ σ₂))) (hX : ∀ C ρ' σ', X' C ρ' σ' → X C ρ' (σ' ++ σ₂)) : Cl c X ρ fv args (σ ++ σ₂) Q := fun f as s R hl => by
  have to : ∀ {vs : List Value} {xs : List V} {σ' : Sto} {m : Str → Option Value} {news : Led} {ρ' : Loc}, Has c ⟨vs, xs, f.φ⟩ ρ' (σ' ++ σ₂) m news → Has c ⟨vs, xs, f.φ ++ σ₂⟩ ρ' σ' m news := fun H =>
    have pm : ∀ σ' : Sto, ((f.φ ++ σ₂) ++ σ').Perm (f.φ ++ (σ' ++ σ₂)) := fun σ' => by rw [List.append_assoc]; exact List.Perm.append_left _ List.perm_append_comm
    ⟨H.one, H.vals, fun p hp => H.obs p ((pm _).mem_iff.mp hp), H.locs, ((pm _).map _).nodup_iff.mpr H.nd, H.rn, H.rl⟩
  have back : ∀ {vs : List Value} {xs : List V} {σ' : Sto} {m : Str → Option Value} {news : Led} {ρ' : Loc}, Has c ⟨vs, xs, f.φ ++ σ₂⟩ ρ' σ' m news → Has c ⟨vs, xs, f.φ⟩ ρ' (σ' ++ σ₂) m news := fun H =>
    have pm : ∀ σ' : Sto, ((f.φ ++ σ₂) ++ σ').Perm (f.φ ++ (σ' ++ σ₂)) := fun σ' => by rw [List.append_assoc]; exact List.Perm.append_left _ List.perm_append_comm
    ⟨H.one, H.vals, fun p hp => H.obs p ((pm _).mem_iff.mpr hp), H.locs, ((pm _).map _).nodup_iff.mp H.nd, H.rn, H.rl⟩
  have R' : Rep c ⟨as ++ f.vs, args ++ f.xs, f.φ ++ σ₂⟩ ρ σ s := let ⟨m, news, F, N, H⟩ := R.ex; ⟨⟨m, news, F, N, to H⟩, R.st⟩
  refine wpAny_mono (h ⟨f.vs, f.xs, f.φ ++ σ₂⟩ as s R' hl) (fun v s' hv => ?_) (fun e s' he => ?_)
  · obtain ⟨x, σ', hq, R₂⟩ := hv
    exact ⟨x, σ' ++ σ₂, hq, let ⟨m, news, F, N, H⟩ := R₂.ex; ⟨⟨m, news, F, N, back H⟩, R₂.st⟩⟩
  · obtain ⟨C, ρ', σ', hx, r⟩ := he
    exact ⟨C, ρ', σ' ++ σ₂, hX _ _ _ hx, let ⟨ea, m, news, e1, H, hr⟩ := r.ex; ⟨⟨ea, m, news, e1, back H, hr⟩, r.st⟩⟩

/-! ### new objects -/
theorem Rep.fresh {s : Shared} {m : Str → Option Value} {news : Led} (_ : Fr c.g c.L s.heap m) (N : News c.g c.L s.heap news) : ∀ p ∈ news, p.1 ≠ s.heap.objs.size :=
  fun p hp e => absurd (Heap.lt_size (N p hp).1) (e ▸ Nat.lt_irrefl _)
theorem IsOb.mem {news : Led} {a : Addr} : ∀ {ob : Ob}, IsOb news a ob → ∃ o, (a, o) ∈ news
  | .list _, ⟨_, _, h, _⟩ => ⟨_, h⟩
  | .inst _ _, h => ⟨_, h⟩
  | .attrs _, ⟨_, _, h, _⟩ => ⟨_, h⟩
  | .cell _, ⟨_, _, h, _⟩ => ⟨_, h⟩
  | .raw _, h => ⟨_, h⟩
theorem Has.more {f : Fm} {m : Str → Option Value} {news : Led} {a : Addr} {o : Obj} (H : Has c f ρ σ m news) (ha : ∀ p ∈ news, p.1 ≠ a) : Has c f ρ σ m ((a, o) :: news) :=
  have sub : ∀ p ∈ news, p ∈ (a, o) :: news := fun _ h => .tail _ h
  ⟨List.nodup_cons.mpr ⟨fun h => by obtain ⟨p, hp, e⟩ := List.mem_map.mp h; exact ha p hp e, H.one⟩, H.vals.mono sub, fun p hp => (H.obs p hp).mono sub, fun p hp x hx => let ⟨v, h1, h2⟩ := H.locs p hp x hx; ⟨v, h1, h2.mono sub⟩, H.nd, H.rn, H.rl⟩
theorem Has.obj {f : Fm} {m : Str → Option Value} {news : Led} {a : Addr} {ob : Ob} (H : Has c f ρ σ m news) (hob : IsOb news a ob) (ha : ∀ p ∈ f.φ ++ σ, p.1 ≠ a) : Has c f ρ ((a, ob) :: σ) m news :=
  ⟨H.one, H.vals, fun p hp => by
    rcases List.mem_append.mp hp with hp | hp
    · exact H.obs p (List.mem_append_left _ hp)
    · rcases List.mem_cons.mp hp with rfl | hp
      · exact hob
      · exact H.obs p (List.mem_append_right _ hp), H.locs, by
    have pm : (f.φ ++ (a, ob) :: σ).Perm ((a, ob) :: (f.φ ++ σ)) := List.perm_middle
    refine (pm.map _).nodup_iff.mpr (List.nodup_cons.mpr ⟨fun h => ?_, H.nd⟩)
    obtain ⟨p, hp, e⟩ := List.mem_map.mp h
    exact ha p hp e, H.rn, H.rl⟩
/-- a new object of the store -/
theorem Rep.alloc {f : Fm} {s : Shared} {o : Obj} {ob : Ob} {t : Nat} {h' : Heap} {a : Addr} (R : Rep c f ρ σ s) (eh : h' = s.heap.push o) (ea : a = s.heap.objs.size) (hf : o.isFreed = false)
    (hob : ∀ m news, Has c f ρ σ m ((a, o) :: news) → IsOb ((a, o) :: news) a ob) : Rep c f ρ ((a, ob) :: σ) { s with heap := h', toks := t } ∧ ∀ p ∈ σ, p.1 ≠ a := by
  subst eh; subst ea
  obtain ⟨m, news, F, N, H⟩ := R.ex
  have fr := Rep.fresh F N
  have H' := H.more (o := o) fr
  have ne : ∀ p ∈ f.φ ++ σ, p.1 ≠ s.heap.objs.size := fun p hp e => let ⟨o', hm⟩ := (H.obs p hp).mem; fr _ hm e
  refine ⟨⟨⟨m, _, F.push _, N.push F _ hf, H'.obj (hob _ _ H') ne⟩, ?_⟩, fun p hp => ne p (List.mem_append_right _ hp)⟩
  obtain ⟨hh, t', e⟩ := R.st
  exact ⟨_, t, by rw [e]⟩
theorem ev_list {elts : List Expr} {pos : Pos} {Q : V → Sto → Prop} (h : Evs c X elts pos ρ σ (fun xs σ' => xs.length ≤ 2 ^ 24 ∧ ∀ a, (∀ p ∈ σ', p.1 ≠ a) → Q (.ref a) ((a, .list xs) :: σ'))) : Ev c X (.List elts pos) ρ σ Q := fun f s R => by
  refine List_ (wpAny_mono (h f s R) (fun vs s₁ hv => ?_) fun _ _ e => e)
  obtain ⟨xs, σ', ⟨hz, hq⟩, hl, R₁⟩ := hv
  refine wpAny_newObj_type (T := "list") (data := .seq vs.toArray) ?_ (by show vs.toArray.size ≤ sizeLine; rw [List.size_toArray, hl]; exact hz)
  have R₂ : Rep c f ρ σ' s₁ := let ⟨m, news, F, N, H⟩ := R₁.ex; ⟨⟨m, news, F, N, H.vals' (H.vals.split hl).2 rfl⟩, R₁.st⟩
  have A := R₁.alloc (o := listOf vs.toArray 0) (ob := .list xs) (t := s₁.toks) rfl rfl rfl (fun m news H => ⟨vs, 0, .head _, (H.vals.split hl).1⟩)
  refine ⟨_, _, hq _ A.2, ?_⟩
  exact (let ⟨m, news, F, N, H⟩ := A.1.ex; (⟨⟨m, news, F, N, H.vals' (f' := f.push _ _) (.cons (.ref _) (H.vals.split hl).2) rfl⟩, A.1.st⟩ : Rep c _ ρ _ _))
theorem ev_tuple {elts : List Expr} {k : Nat} {pos : Pos} {Q : V → Sto → Prop} (h : Evs c X elts pos ρ σ (fun xs σ' => xs.length ≤ 2 ^ 24 ∧ Q (.tup xs) σ')) : Ev c X (.Tuple elts k pos) ρ σ Q := fun f s R => by
  refine Tuple_ (wpAny_mono (h f s R) (fun vs s₁ hv => ?_) fun _ _ e => e)
  obtain ⟨xs, σ', ⟨hz, hq⟩, hl, R₁⟩ := hv
  refine wpAny_newObj_type (T := "tuple") (data := .seq vs.toArray) ?_ (by show vs.toArray.size ≤ sizeLine; rw [List.size_toArray, hl]; exact hz)
  obtain ⟨m, news, F, N, H⟩ := R₁.ex
  have fr := Rep.fresh F N
  have H' := H.more (o := tupO vs 0) fr
  obtain ⟨v1, v2⟩ := H'.vals.split hl
  refine ⟨_, σ', hq, ⟨⟨m, _, F.push _, N.push F _ rfl, H'.vals' (f' := f.push _ _) (.cons (.tup (.head _) v1) v2) rfl⟩, ?_⟩⟩
  obtain ⟨hh, t', e⟩ := R₁.st
  exact ⟨_, t', by rw [e]⟩
end
-- part L11
section
variable {c : Cx} {X : XP} {ρ : Loc} {σ : Sto} {n : Nat}

/-- a built-in function, by its name -/
structure IsB (c : Cx) (x : Str) (v : Value) : Prop where
  ns : nsIn c.K mainGlobals x = some none
  boot : bootBuiltins x = some v
  name : x ≠ "__name__"
  kind : c.env.kindOf x = some .globalImplicit
  dbg : (x == ("__debug__" : Str)) = false

theorem ev_bcall {x : Str} {np pos : Pos} {e₀ : Expr} {rest : List Expr} {id : String} {Q : V → Sto → Prop} (ok : c.Ok n) (hb : IsB c x (.builtin id))
    (h : Evs c X (e₀ :: rest) pos ρ σ (fun xs σ₁ => Cl c X ρ (.builtin id) xs σ₁ Q))
    (he : starEach (e₀ :: rest) c.env = (false, eval e₀ c.env) :: starEach rest c.env := by rfl) (hplain : (backTo pos (starEach rest c.env)).any (·.1) = false := by rfl) : Ev c X (.Call (.Name x np) (e₀ :: rest) [] pos) ρ σ Q := fun f s R => by
  obtain ⟨m, news, F, N, H⟩ := R.ex
  refine Call_ (nameX_B F ok.X (topRead_of ok.T) hb.ns hb.boot hb.name (callWith_builtin1 (wpAny_mono (h f s R) (fun vs s₁ hv => ?_) fun _ _ e => e) he hplain) ok.kind hb.kind hb.dbg)
  obtain ⟨xs, σ₁, hq, hl, R₁⟩ := hv
  exact hq f vs s₁ R₁ hl
theorem ev_tcall {x : Str} {np pos : Pos} {e₀ : Expr} {rest : List Expr} {T : String} {Q : V → Sto → Prop} (ok : c.Ok n) (hb : IsB c x (.type T))
    (h : Evs c X (e₀ :: rest) pos ρ σ (fun xs σ₁ => Cl c X ρ (.type T) xs σ₁ Q))
    (he : starEach (e₀ :: rest) c.env = (false, eval e₀ c.env) :: starEach rest c.env := by rfl) (hplain : (backTo pos (starEach rest c.env)).any (·.1) = false := by rfl) : Ev c X (.Call (.Name x np) (e₀ :: rest) [] pos) ρ σ Q := fun f s R => by
  obtain ⟨m, news, F, N, H⟩ := R.ex
  refine Call_ (nameX_B F ok.X (topRead_of ok.T) hb.ns hb.boot hb.name (callWith_type1 (wpAny_mono (h f s R) (fun vs s₁ hv => ?_) fun _ _ e => e) he hplain) ok.kind hb.kind hb.dbg)
  obtain ⟨xs, σ₁, hq, hl, R₁⟩ := hv
  exact hq f vs s₁ R₁ hl
theorem ev_bname {x : Str} {v : Value} {pos : Pos} {Q : V → Sto → Prop} (ok : c.Ok n) (hb : IsB c x v) (h : Q (.raw v) σ) : Ev c X (.Name x pos) ρ σ Q := ev_builtin ok hb.ns hb.boot hb.name h hb.kind hb.dbg

theorem two63 : (2 : Int) ^ 63 = 9223372036854775808 := by decide
theorem two24 : (2 : Nat) ^ 24 = 16777216 := by decide
theorem cl_len {a : Addr} {xs : List V} {Q : V → Sto → Prop} (hm : (a, Ob.list xs) ∈ σ) (hz : xs.length ≤ 2 ^ 24) (h : Q (.int xs.length) σ) : Cl c X ρ (.builtin "len") [.ref a] σ Q := fun f as s R hl => by
  obtain ⟨v, rfl⟩ : ∃ v, as = [v] := by
    match as, hl with | [v], _ => exact ⟨v, rfl⟩
  obtain ⟨m, news, F, N, H⟩ := R.ex
  cases H.vals.head
  obtain ⟨vs, k, o1, o2⟩ := H.obs _ (List.mem_append_right _ hm)
  have el := o2.length
  have es : vs.toArray.size = xs.length := by rw [List.size_toArray, el]
  refine len_list (ob_list N o1) (by rw [es, two63]; rw [two24] at hz; omega) ⟨_, σ, h, ?_⟩
  rw [es]
  exact (Rep.pop (f := f) R).toks.pushV fun _ => .int _ _
theorem cl_lent {xs : List V} {Q : V → Sto → Prop} (hz : xs.length ≤ 2 ^ 24) (h : Q (.int xs.length) σ) : Cl c X ρ (.builtin "len") [.tup xs] σ Q := fun f as s R hl => by
  obtain ⟨v, rfl⟩ : ∃ v, as = [v] := by
    match as, hl with | [v], _ => exact ⟨v, rfl⟩
  obtain ⟨m, news, F, N, H⟩ := R.ex
  cases H.vals.head with
  | tup o1 o2 =>
  rename_i t vs k
  have el := o2.length
  have es : vs.toArray.size = xs.length := by rw [List.size_toArray, el]
  refine len_tuple (ob_tup N o1) (by rw [es, two63]; rw [two24] at hz; omega) ⟨_, σ, h, ?_⟩
  rw [es]
  exact (Rep.pop (f := f) R).toks.pushV fun _ => .int _ _

/-! ### methods of lists -/
theorem ev_append {o e₀ : Expr} {apos pos : Pos} {pl : Sem Bool} {Q : V → Sto → Prop}
    (h : Ev c X o ρ σ (fun ov σ₁ => ∃ a ys, ov = .ref a ∧ (a, Ob.list ys) ∈ σ₁ ∧ Ev c X e₀ ρ σ₁ (fun v σ₂ => ∃ xs σ₃, xs.length < 2 ^ 24 ∧ Up a (.list xs) (.list (xs ++ [v])) σ₂ σ₃ ∧ Q .none σ₃)))
    (he : eval (.Call (.Attribute o "append" apos) [e₀] [] pos) c.env = (do
      let ov ← eval o c.env
      standAt apos.atName
      let (f, first) ← holding [ov] (getMethod ov "append" pl)
      callWith pos f first (backTo pos (starEach [e₀] c.env)) []) := by rfl)
    (he' : starEach [e₀] c.env = (false, eval e₀ c.env) :: starEach [] c.env := by rfl) : Ev c X (.Call (.Attribute o "append" apos) [e₀] [] pos) ρ σ Q := fun f s R => by
  refine MethodCall_ (wpAny_mono (h f s R) (fun ov s₁ ho => ?_) fun _ _ e => e) he
  obtain ⟨y, σ₁, ⟨a, ys, rfl, hm, h₁⟩, R₁⟩ := ho
  obtain ⟨m, news, F, N, H⟩ := R₁.ex
  cases H.vals.head
  obtain ⟨vs, k, o1, o2⟩ := H.obs _ (List.mem_append_right _ hm)
  refine getMethod_append_N N o1 (callWith_method1 (args_cons (wpAny_mono (h₁ _ _ R₁) (fun v s₂ hv => ?_) fun _ _ e => Exn.pop e) he') he' rfl)
  refine args_nil ?_
  obtain ⟨x, σ₂, ⟨xs, σ₃, hz, hu, hq⟩, R₂⟩ := hv
  obtain ⟨m₂, news₂, F₂, N₂, H₂, _, hx⟩ := R₂.two
  obtain ⟨vs₂, k₂, p1, p2⟩ := H₂.obs _ (List.mem_append_right _ hu.mem)
  have el := p2.length
  have ep : vs₂.toArray.push v = (vs₂ ++ [v]).toArray := by simp
  refine append_K F₂ N₂ (by rw [ep]; exact upd_Upd H₂.one p1) (fun h' F' N' => ⟨_, σ₃, hq, ?_⟩) (by rw [List.size_toArray, el]; exact Nat.le_of_lt hz)
  have R₃ : Rep c f ρ σ₃ { s₂ with heap := h' } := by
    refine ⟨⟨m₂, _, F', N', H₂.upd hu p1 (notTup_list _ _) ⟨_, _, mem_upd_self p1, ?_⟩⟩, ?_⟩
    · exact (p2.append (.cons hx .nil)).upd H₂.one p1 (notTup_list _ _)
    · obtain ⟨hh, t, e⟩ := R₂.st
      exact ⟨h', t, by rw [e]⟩
  exact R₃.pushV fun _ => .none
theorem isVs_last {news : Led} : ∀ {vs : List Value} {xs : List V} {x : V}, IsVs news vs (xs ++ [x]) → ∃ us v, vs = us ++ [v] ∧ IsVs news us xs ∧ IsV news v x
  | _, [], _, .cons h .nil => ⟨[], _, rfl, .nil, h⟩
  | _, _ :: _, _, .cons h r => by
    obtain ⟨us, v, e, a, b⟩ := isVs_last r
    exact ⟨_ :: us, v, by rw [e]; rfl, .cons h a, b⟩
theorem ev_pop {o : Expr} {apos pos : Pos} {pl : Sem Bool} {Q : V → Sto → Prop}
    (h : Ev c X o ρ σ (fun ov σ₁ => ∃ a xs x σ₂, ov = .ref a ∧ xs.length < 2 ^ 24 ∧ Up a (.list (xs ++ [x])) (.list xs) σ₁ σ₂ ∧ Q x σ₂))
    (he : eval (.Call (.Attribute o "pop" apos) [] [] pos) c.env = (do
      let ov ← eval o c.env
      standAt apos.atName
      let (f, first) ← holding [ov] (getMethod ov "pop" pl)
      callWith pos f first (backTo pos (starEach [] c.env)) []) := by rfl) : Ev c X (.Call (.Attribute o "pop" apos) [] [] pos) ρ σ Q := fun f s R => by
  refine MethodCall_ (wpAny_mono (h f s R) (fun ov s₁ ho => ?_) fun _ _ e => e) he
  obtain ⟨y, σ₁, ⟨a, xs, x, σ₂, rfl, hz, hu, hq⟩, R₁⟩ := ho
  obtain ⟨m, news, F, N, H⟩ := R₁.ex
  cases H.vals.head
  obtain ⟨vs, k, o1, o2⟩ := H.obs _ (List.mem_append_right _ hu.mem)
  obtain ⟨us, v, rfl, u1, u2⟩ := isVs_last o2
  have el := u1.length
  refine kl_method N o1 PySem.F.slot_list_pop PySem.F.type_list_pop (callWith_method0 ?_)
  refine kl_pop F N (p := us) (y := v) (by simpa using kpa_last v us) (upd_Upd H.one o1) (by simp only [List.length_append, List.length_cons, List.length_nil, el]; unfold sizeLine; omega) fun h' F' N' => ⟨x, σ₂, hq, ?_⟩
  refine ⟨⟨m, _, F', N', ?_⟩, ?_⟩
  · have H' := H.pop.upd (o₂ := listOf us.toArray (k + 1)) hu o1 (notTup_list _ _) ⟨_, _, mem_upd_self o1, u1.upd H.one o1 (notTup_list _ _)⟩
    exact H'.push (u2.upd H.one o1 (notTup_list _ _))
  · obtain ⟨hh, t, e⟩ := R₁.st
    exact ⟨h', t, by rw [e]⟩

/-! ### for -/
def Itb (c : Cx) (v : V) (k : Nat) (item : Nat → V) (σ₁ σ₂ : Sto) (J : Sto → Prop) : Prop := ∀ (f : Fm) (ρ : Loc) (s : Shared) (E : Value → Shared → Prop) (v' : Value), Rep c (f.push v' v) ρ σ₁ s →
  wpAny c.M c.A (pyIter v') (fun it s' => ∃ I o Itr, it = .ref I ∧ Stp c I k item J Itr ∧ Itr 0 o ∧ Rep c ⟨f.vs, f.xs, (I, .raw o) :: f.φ⟩ ρ σ₂ s') E s
theorem ex_for {x : Str} {px pos : Pos} {iter : Expr} {body rest : List Stmt} {Q : Fl → Loc → Sto → Prop} (ok : c.Ok n)
    (h : Ev c X iter ρ σ (fun v σ₁ => ∃ (k : Nat) (item : Nat → V) (J : Sto → Prop) (Inv : Nat → Loc → Sto → Prop) (σ₂ : Sto), Itb c v k item σ₁ σ₂ J ∧ (∀ i ρ σ, Inv i ρ σ → J σ) ∧ Inv 0 ρ σ₂ ∧
      (∀ i ρ σ, i < k → Inv i ρ σ → ∃ g, PutF x ρ g ∧ Ex c noX body (g (item i)) σ (Turn c X rest Q (Inv (i + 1)))) ∧ (∀ ρ σ, Inv k ρ σ → Ex c X rest ρ σ Q)))
    (hs : ∀ x, foldedSetIterable iter c.env x = pure x := by intro _; rfl) : Ex c X (.For (.Name x px) iter body [] pos :: rest) ρ σ Q := by
  refine ex_cons fun f s R => wpAny_For (wpAny_mono (h f s R) (fun v s₁ hv => ?_) fun _ _ e => e) hs
  obtain ⟨y, σ₁, ⟨k, item, J, Inv, σ₂, hI, hJ, h0, turn, done⟩, R₁⟩ := hv
  refine wpAny_mono (hI f ρ s₁ _ v R₁) (fun it s₂ hit => ?_) fun _ _ e => e
  obtain ⟨I, o, Itr, rfl, S, hi, R₂⟩ := hit
  exact for_loop ok S Inv hJ h0 turn done hi R₂

theorem Rep.iter {f : Fm} {s : Shared} {o : Obj} {v' : Value} {v : V} {t : Nat} (R : Rep c (f.push v' v) ρ σ s) (hf : o.isFreed = false) : Rep c ⟨f.vs, f.xs, (s.heap.objs.size, .raw o) :: f.φ⟩ ρ σ { s with heap := s.heap.push o, toks := t } := by
  obtain ⟨m, news, F, N, H⟩ := R.ex
  have fr := Rep.fresh F N
  have H' := H.pop.more (o := o) fr
  refine ⟨⟨m, _, F.push _, N.push F _ hf, ⟨H'.one, H'.vals, fun p hp => ?_, H'.locs, ?_, H'.rn, H'.rl⟩⟩, ?_⟩
  · rcases List.mem_cons.mp hp with rfl | hp
    · exact List.Mem.head _
    · exact H'.obs p hp
  · refine List.nodup_cons.mpr ⟨fun h => ?_, H'.nd⟩
    obtain ⟨p, hp, e⟩ := List.mem_map.mp h
    obtain ⟨o', hm⟩ := (H.obs p hp).mem
    exact fr _ hm e
  · obtain ⟨hh, t', e⟩ := R.st
    exact ⟨_, t, by rw [e]⟩

theorem hhA (ok : c.Ok n) : c.A.handled = none := ok.hh
def LIter (a : Addr) (i : Nat) (o : Obj) : Prop := o.cls = .type "list_iterator" ∧ o.data = .fields #[.ref a, .int i 0]
theorem notTup_cls {o : Obj} (h : o.cls ≠ .type "tuple") : NotTup o := fun _ _ e => h (by rw [e])
theorem itb_list {a : Addr} {xs : List V} (ok : c.Ok n) (hm : (a, Ob.list xs) ∈ σ) : Itb c (.ref a) xs.length (fun i => xs.getD i .none) σ σ (fun σ => (a, Ob.list xs) ∈ σ) := fun f ρ s E v' R => by
  obtain ⟨m, news, F, N, H⟩ := R.ex
  cases H.vals.head
  obtain ⟨vs, k, o1, o2⟩ := H.obs _ (List.mem_append_right _ hm)
  refine wpAny_pyIter_list (ob_list N o1) ⟨s.heap.objs.size, _, LIter a, rfl, ⟨?_, ?_⟩, ⟨rfl, rfl⟩, R.iter rfl⟩
  · intro i f ρ σ o s E hi hm ⟨hc, hd⟩ R
    obtain ⟨m, news, F, N, H⟩ := R.ex
    obtain ⟨vs, k, o1, o2⟩ := H.obs _ (List.mem_append_right _ hm)
    have hI := H.obs _ (List.mem_append_left _ (.head _))
    have hx : xs[i]? = some (xs.getD i .none) := by rw [List.getD_eq_getElem?_getD, List.getElem?_eq_getElem hi]; rfl
    obtain ⟨v, g1, g2⟩ := o2.get hx
    refine wpAny_pyNext_list_item ⟨o, (N _ hI).1, hc, hd⟩ (ob_list N o1) (x := v) (by simpa using g1) fun h' ⟨o', ho', hc', hd'⟩ hs => ⟨v, o', rfl, ⟨hc', hd'⟩, ?_⟩
    have R' : Rep c ⟨(f.push v (xs.getD i .none)).vs, (f.push v (xs.getD i .none)).xs, (_, .raw o) :: (f.push v (xs.getD i .none)).φ⟩ ρ σ s := ⟨⟨m, news, F, N, ⟨H.one, .cons g2 H.vals, H.obs, H.locs, H.nd, H.rn, H.rl⟩⟩, R.st⟩
    exact R'.turn (notTup_cls (by rw [hc]; simp)) hs ho'
  · intro f ρ σ o s E hm ⟨hc, hd⟩ R
    obtain ⟨m, news, F, N, H⟩ := R.ex
    obtain ⟨vs, k, o1, o2⟩ := H.obs _ (List.mem_append_right _ hm)
    have hI := H.obs _ (List.mem_append_left _ (.head _))
    have el := o2.length
    refine wpAny_pyNext_list_end (hhA ok) ⟨o, (N _ hI).1, hc, hd⟩ (ob_list N o1) (by simp [el]) fun h' hs => ⟨rfl, ?_⟩
    exact R.letGo (notTup_cls (by rw [hc]; simp)) hs
end
-- part L12
section
variable {c : Cx} {X : XP} {ρ : Loc} {σ : Sto} {n : Nat}

/-! ### range, reversed -/
def Rng (a b : Int) (o : Obj) : Prop := ∃ t u v, o = { cls := .type "range", data := .fields #[.int a t, .int b u, .int 1 v] }
theorem one_arg {as : List Value} {x : V} (h : as.length = [x].length) : ∃ v, as = [v] := by
  match as, h with | [v], _ => exact ⟨v, rfl⟩
theorem two_args {as : List Value} {x y : V} (h : as.length = [x, y].length) : ∃ v w, as = [v, w] := by
  match as, h with | [v, w], _ => exact ⟨v, w, rfl⟩
theorem Rep.obj {f : Fm} {s : Shared} {a : Addr} (R : Rep c f ρ σ s) : Rep c (f.push (.ref a) (.ref a)) ρ σ s := R.pushV fun _ => .ref a
theorem isV_int {news : Led} {v : Value} {i : Int} (h : IsV news v (.int i)) : ∃ t, v = .int i t := by cases h; exact ⟨_, rfl⟩
theorem cl_range1 {b : Int} {Q : V → Sto → Prop} (h : ∀ r o, (∀ p ∈ σ, p.1 ≠ r) → Rng 0 b o → Q (.ref r) ((r, .raw o) :: σ)) : Cl c X ρ (.type "range") [.int b] σ Q := fun f as s R hl => by
  obtain ⟨v, rfl⟩ := one_arg hl
  obtain ⟨m, news, F, N, H⟩ := R.ex
  obtain ⟨t, rfl⟩ := isV_int H.vals.head
  have A := (Rep.pop (f := f) R).alloc (o := { cls := .type "range", data := .fields #[.int 0 s.toks, .int b t, .int 1 (s.toks + 1)] }) (ob := .raw _) (t := s.toks + 1 + 1) rfl rfl rfl (fun m news H => List.Mem.head _)
  exact call_range_1 ⟨_, _, h _ _ A.2 ⟨_, _, _, rfl⟩, A.1.obj⟩
theorem cl_range2 {a b : Int} {Q : V → Sto → Prop} (h : ∀ r o, (∀ p ∈ σ, p.1 ≠ r) → Rng a b o → Q (.ref r) ((r, .raw o) :: σ)) : Cl c X ρ (.type "range") [.int a, .int b] σ Q := fun f as s R hl => by
  obtain ⟨v, w, rfl⟩ := two_args hl
  obtain ⟨m, news, F, N, H⟩ := R.ex
  obtain ⟨t, rfl⟩ := isV_int H.vals.head
  obtain ⟨u, rfl⟩ := isV_int H.vals.tail.head
  have A := (Rep.pop (f := f) (Rep.pop R)).alloc (o := { cls := .type "range", data := .fields #[.int a t, .int b u, .int 1 s.toks] }) (ob := .raw _) (t := s.toks + 1) rfl rfl rfl (fun m news H => List.Mem.head _)
  exact call_range_2 ⟨_, _, h _ _ A.2 ⟨_, _, _, rfl⟩, A.1.obj⟩
def RIter (a : Int) (k i : Nat) (o : Obj) : Prop := i ≤ k ∧ o = { cls := .type "range_iterator", dict := none, data := .fields #[rawInt (a + i), rawInt ((k : Int) - i), rawInt 1], slots := #[] }
theorem itb_range {r : Addr} {a b : Int} {o : Obj} {k : Nat} (ok : c.Ok n) (hr : Rng a b o) (ha : -1000000 ≤ a) (ha' : a ≤ 1000000) (hb : -1000000 ≤ b) (hb' : b ≤ 1000000) (hk : k = (b - a).toNat) :
    Itb c (.ref r) k (fun i => .int (a + i)) ((r, .raw o) :: σ) σ (fun _ => True) := fun f ρ s E v' R => by
  obtain ⟨t, u, v, rfl⟩ := hr
  obtain ⟨m, news, F, N, H⟩ := R.ex
  cases H.vals.head
  have o1 := H.obs _ (List.mem_append_right _ (.head _))
  have p62 : (2 : Int) ^ 62 = 4611686018427387904 := by decide
  have esz : Builtin.Range.rangeSize a b 1 = (k : Int) := by rw [rangeSize_one, hk]; split <;> omega
  refine wpAny_pyIter_range (N _ o1).1 (small_one (by rw [p62]; omega) (by rw [p62]; omega) (by rw [p62]; omega) (by rw [p62]; omega)) ⟨s.heap.objs.size, _, RIter a k, rfl, ⟨?_, ?_⟩, ⟨Nat.zero_le _, ?_⟩, (R.iter rfl).sub (List.sublist_cons_self _ _)⟩
  · intro i f ρ σ o s E hi _ ⟨_, ho⟩ R
    obtain ⟨m, news, F, N, H⟩ := R.ex
    have hI := H.obs _ (List.mem_append_left _ (.head _))
    subst ho
    refine wpAny_pyNext_range_item (N _ hI).1 (by omega) fun h' hit hs => ⟨_, _, rfl, ⟨by omega, rfl⟩, ?_⟩
    have R' : Rep c ⟨(f.push (.int (a + i) s.toks) (.int (a + i))).vs, (f.push (.int (a + i) s.toks) (.int (a + i))).xs, (_, .raw _) :: (f.push (.int (a + i) s.toks) (.int (a + i))).φ⟩ ρ σ s := ⟨⟨m, news, F, N, ⟨H.one, .cons (.int _ _) H.vals, H.obs, H.locs, H.nd, H.rn, H.rl⟩⟩, R.st⟩
    have e1 : a + (i : Int) + 1 = a + ((i + 1 : Nat) : Int) := by omega
    have e2 : (k : Int) - (i : Int) - 1 = (k : Int) - ((i + 1 : Nat) : Int) := by omega
    have hit' : h'.get? _ = some _ := hit
    rw [e1, e2] at hit'
    exact R'.turn (notTup_cls (by simp)) hs hit'
  · intro f ρ σ o s E _ ⟨_, ho⟩ R
    obtain ⟨m, news, F, N, H⟩ := R.ex
    have hI := H.obs _ (List.mem_append_left _ (.head _))
    subst ho
    exact wpAny_pyNext_range_end (hhA ok) (N _ hI).1 (by omega) fun h' hs => ⟨rfl, R.letGo (notTup_cls (by simp)) hs⟩
  · rw [esz]; simp
def Rev (a : Addr) (i : Int) (o : Obj) : Prop := o.cls = .type "list_reverseiterator" ∧ o.data = .fields #[.ref a, rawInt i]
theorem cl_reversed {a : Addr} {xs : List V} {Q : V → Sto → Prop} (hm : (a, Ob.list xs) ∈ σ) (h : ∀ r o, (∀ p ∈ σ, p.1 ≠ r) → Rev a ((xs.length : Int) - 1) o → Q (.ref r) ((r, .raw o) :: σ)) : Cl c X ρ (.type "reversed") [.ref a] σ Q := fun f as s R hl => by
  obtain ⟨v, rfl⟩ := one_arg hl
  obtain ⟨m, news, F, N, H⟩ := R.ex
  cases H.vals.head
  obtain ⟨vs, k, o1, o2⟩ := H.obs _ (List.mem_append_right _ hm)
  have el := o2.length
  refine call_reversed_list (ob_list N o1) ?_
  have es : ((vs.toArray.size : Nat) : Int) - 1 = (xs.length : Int) - 1 := by rw [List.size_toArray, el]
  rw [es]
  have A := (Rep.pop (f := f) R).alloc (o := revObj a ((xs.length : Int) - 1)) (ob := .raw _) (t := s.toks) rfl rfl rfl (fun m news H => List.Mem.head _)
  exact ⟨_, _, h _ _ A.2 ⟨rfl, rfl⟩, A.1.obj⟩
theorem itb_rev {r a : Addr} {xs : List V} {o : Obj} (ok : c.Ok n) (hr : Rev a ((xs.length : Int) - 1) o) (hm : (a, Ob.list xs) ∈ σ) :
    Itb c (.ref r) xs.length (fun i => xs.getD (xs.length - 1 - i) .none) ((r, .raw o) :: σ) σ (fun σ => (a, Ob.list xs) ∈ σ) := fun f ρ s E v' R => by
  obtain ⟨m, news, F, N, H⟩ := R.ex
  cases H.vals.head
  have o1 := H.obs _ (List.mem_append_right _ (.head _))
  refine wpAny_pyIter_revIter ⟨o, (N _ o1).1, hr.1, hr.2⟩ ⟨r, o, fun i o => i ≤ xs.length ∧ Rev a ((xs.length : Int) - 1 - i) o, rfl, ⟨?_, ?_⟩, ⟨Nat.zero_le _, by simpa using hr⟩, ?_⟩
  · intro i f ρ σ o s E hi hm ⟨_, hc, hd⟩ R
    obtain ⟨m, news, F, N, H⟩ := R.ex
    obtain ⟨vs, k, o1, o2⟩ := H.obs _ (List.mem_append_right _ hm)
    have hI := H.obs _ (List.mem_append_left _ (.head _))
    have hj : xs.length - 1 - i < xs.length := by omega
    have hx : xs[xs.length - 1 - i]? = some (xs.getD (xs.length - 1 - i) .none) := by rw [List.getD_eq_getElem?_getD, List.getElem?_eq_getElem hj]; rfl
    obtain ⟨v, g1, g2⟩ := o2.get hx
    have ei : (xs.length : Int) - 1 - (i : Int) = ((xs.length - 1 - i : Nat) : Int) := by omega
    rw [ei] at hd
    refine wpAny_pyNext_rev_item ⟨o, (N _ hI).1, hc, hd⟩ (ob_list N o1) (x := v) (by simpa using g1) fun h' ⟨o', ho', hc', hd'⟩ hs => ⟨v, o', rfl, ⟨by omega, hc', ?_⟩, ?_⟩
    · have e2 : ((xs.length - 1 - i : Nat) : Int) - 1 = (xs.length : Int) - 1 - ((i + 1 : Nat) : Int) := by omega
      rw [hd', e2]
    have R' : Rep c ⟨(f.push v (xs.getD (xs.length - 1 - i) .none)).vs, (f.push v (xs.getD (xs.length - 1 - i) .none)).xs, (_, .raw o) :: (f.push v (xs.getD (xs.length - 1 - i) .none)).φ⟩ ρ σ s := ⟨⟨m, news, F, N, ⟨H.one, .cons g2 H.vals, H.obs, H.locs, H.nd, H.rn, H.rl⟩⟩, R.st⟩
    exact R'.turn (notTup_cls (by rw [hc]; simp)) hs ho'
  · intro f ρ σ o s E hm ⟨_, hc, hd⟩ R
    obtain ⟨m, news, F, N, H⟩ := R.ex
    have hI := H.obs _ (List.mem_append_left _ (.head _))
    have ei : (xs.length : Int) - 1 - (xs.length : Int) = -1 := by omega
    rw [ei] at hd
    refine wpAny_pyNext_rev_end (l := a) (hhA ok) ⟨o, (N _ hI).1, hc, hd⟩ fun h' hs => ⟨rfl, ?_⟩
    exact R.letGo (notTup_cls (by rw [hc]; simp)) hs
  · have nd := H.nd
    refine ⟨⟨m, news, F, N, ⟨H.one, H.vals.tail, fun p hp => ?_, H.locs, ?_, H.rn, H.rl⟩⟩, R.st⟩
    · rcases List.mem_cons.mp hp with rfl | hp
      · exact o1
      · rcases List.mem_append.mp hp with hp | hp
        · exact H.obs p (List.mem_append_left _ hp)
        · exact H.obs p (List.mem_append_right _ (.tail _ hp))
    · have pm : (f.φ ++ (r, Ob.raw o) :: σ).Perm ((r, Ob.raw o) :: (f.φ ++ σ)) := List.perm_middle
      exact (pm.map _).nodup_iff.mp nd

/-! ### isinstance, and, or -/
def tyV : V → Option String
  | .none => some "NoneType"
  | .bool _ => some "bool"
  | .int _ => some "int"
  | .str _ => some "str"
  | .tup _ => some "tuple"
  | _ => none
theorem typ_of {news : Led} {v : Value} {x : V} {T : String} {s : Shared} {h₀ : Heap} {L : Addr} (N : News h₀ L s.heap news) (h : IsV news v x) (e : tyV x = some T) : s.TypeIs v T := by
  cases h <;> cases e <;> first | exact ⟨_, (N _ (by assumption)).1, rfl⟩ | exact rfl | trivial
theorem cl_isi {x : V} {Tx T : String} {Q : V → Sto → Prop} (hx : tyV x = some Tx) (hty : typeOf (.type T) = pure (.type "type")) (hsub : isSubtype (.type Tx) (.type T) = pure true) (h : Q (.bool true) σ) :
    Cl c X ρ (.builtin "isinstance") [x, .raw (.type T)] σ Q := fun f as s R hl => by
  obtain ⟨v, w, rfl⟩ := two_args hl
  obtain ⟨m, news, F, N, H⟩ := R.ex
  have hv := H.vals.head
  cases H.vals.tail.head
  exact call_isinstance_yes (typ_of N hv hx) hty hsub ⟨_, σ, h, (Rep.pop (f := f) (Rep.pop R)).pushV fun _ => .bool _⟩
theorem cl_isi_list {a : Addr} {xs : List V} {Q : V → Sto → Prop} (hm : (a, Ob.list xs) ∈ σ) (hty : typeOf (.type "list") = pure (.type "type")) (hsub : isSubtype (.type "list") (.type "list") = pure true) (h : Q (.bool true) σ) :
    Cl c X ρ (.builtin "isinstance") [.ref a, .raw (.type "list")] σ Q := fun f as s R hl => by
  obtain ⟨v, w, rfl⟩ := two_args hl
  obtain ⟨m, news, F, N, H⟩ := R.ex
  cases H.vals.head
  cases H.vals.tail.head
  obtain ⟨vs, k, o1, o2⟩ := H.obs _ (List.mem_append_right _ hm)
  exact call_isinstance_yes ⟨_, (N _ o1).1, rfl⟩ hty hsub ⟨_, σ, h, (Rep.pop (f := f) (Rep.pop R)).pushV fun _ => .bool _⟩
theorem cl_isi_no {i : Int} {T : String} {Q : V → Sto → Prop} (hne : (Value.type "int" == Value.type T) = false) (hty : typeOf (.type T) = pure (.type "type")) (hsub : isSubtype (.type "int") (.type T) = pure false) (h : Q (.bool false) σ) :
    Cl c X ρ (.builtin "isinstance") [.int i, .raw (.type T)] σ Q := fun f as s R hl => by
  obtain ⟨v, w, rfl⟩ := two_args hl
  obtain ⟨m, news, F, N, H⟩ := R.ex
  obtain ⟨t, rfl⟩ := isV_int H.vals.head
  cases H.vals.tail.head
  exact PySem.call_isinstance (isinstance_false_int hne hty hsub) (show ∃ x σ', _ from ⟨_, σ, h, (Rep.pop (f := f) (Rep.pop R)).toks.pushV fun _ => .bool _⟩)
theorem tru_of {f : Fm} {s : Shared} {v : Value} {x : V} {b : Bool} {A : Around} {E : Value → Shared → Prop} {Q : Bool → Shared → Prop} (R : Rep c (f.push v x) ρ σ s) (hb : truV x = some b) (h : Q b s) : wpAny c.M A (truthy v) Q E s := by
  obtain ⟨m, news, F, N, H⟩ := R.ex
  have hx := H.vals.head
  unfold truV at hb
  split at hb <;> cases hb <;> cases hx
  · exact truthy_none h
  · exact wpAny_truthy_bool h
  · exact PySem.P.truthy_int h
theorem ev_one {op : BoolOp} {e : Expr} {pos : Pos} {Q : V → Sto → Prop} (h : Ev c X e ρ σ Q) : Ev c X (.BoolOp op [e] pos) ρ σ Q := fun f s R => BoolOp_one (h f s R)
theorem ev_and {e₁ e₂ : Expr} {rest : List Expr} {pos : Pos} {Q : V → Sto → Prop} (h : Ev c X e₁ ρ σ (fun v σ₁ => ∃ b, truV v = some b ∧ (b = true → Ev c X (.BoolOp .And (e₂ :: rest) pos) ρ σ₁ Q) ∧ (b = false → Q v σ₁))) : Ev c X (.BoolOp .And (e₁ :: e₂ :: rest) pos) ρ σ Q := fun f s R => by
  refine BoolOp_and (wpAny_mono (h f s R) (fun v s₁ hv => ?_) fun _ _ e => e)
  obtain ⟨x, σ₁, ⟨b, hb, h1, h2⟩, R₁⟩ := hv
  refine tru_of R₁ hb ?_
  cases b with
  | true => exact h1 rfl f s₁ R₁.pop
  | false => exact ⟨x, σ₁, h2 rfl, R₁⟩
theorem ev_or {e₁ e₂ : Expr} {rest : List Expr} {pos : Pos} {Q : V → Sto → Prop} (h : Ev c X e₁ ρ σ (fun v σ₁ => ∃ b, truV v = some b ∧ (b = true → Q v σ₁) ∧ (b = false → Ev c X (.BoolOp .Or (e₂ :: rest) pos) ρ σ₁ Q))) : Ev c X (.BoolOp .Or (e₁ :: e₂ :: rest) pos) ρ σ Q := fun f s R => by
  refine BoolOp_or (wpAny_mono (h f s R) (fun v s₁ hv => ?_) fun _ _ e => e)
  obtain ⟨x, σ₁, ⟨b, hb, h1, h2⟩, R₁⟩ := hv
  refine tru_of R₁ hb ?_
  cases b with
  | true => exact ⟨x, σ₁, h1 rfl, R₁⟩
  | false => exact h2 rfl f s₁ R₁.pop
/-- not e, as a value -/
theorem ev_not {x : Expr} {pos : Pos} {Q : V → Sto → Prop} (h : Ev c X x ρ σ (fun v σ' => ∃ b, truV v = some b ∧ Q (.bool (!b)) σ')) : Ev c X (.UnaryOp .Not x pos) ρ σ Q := fun f s R => by
  refine wpAny_UnaryOp (wpAny_mono (h f s R) (fun v s₁ hv => ?_) fun _ _ e => e)
  obtain ⟨y, σ₁, ⟨b, hb, hq⟩, R₁⟩ := hv
  refine not_of (tru_of R₁ hb ?_)
  exact ⟨_, σ₁, hq, R₁.pop.pushV fun _ => .bool _⟩
theorem ev_neg {x : Expr} {pos : Pos} {Q : V → Sto → Prop} (h : Ev c X x ρ σ (fun v σ' => ∃ i, v = .int i ∧ Q (.int (-i)) σ')) : Ev c X (.UnaryOp .USub x pos) ρ σ Q := fun f s R => by
  refine wpAny_UnaryOp (wpAny_mono (h f s R) (fun v s₁ hv => ?_) fun _ _ e => e)
  obtain ⟨y, σ₁, ⟨i, rfl, hq⟩, R₁⟩ := hv
  obtain ⟨m, news, F, N, H⟩ := R₁.ex
  obtain ⟨t, rfl⟩ := isV_int H.vals.head
  exact PySem.P.neg_int ⟨_, σ₁, hq, (Rep.pop (f := f) R₁).toks.pushV fun _ => .int _ _⟩
end
-- part L13
section
variable {c : Cx} {X : XP} {ρ : Loc} {σ : Sto} {n : Nat}
abbrev bits (i : Int) : Nat := Builtin.Int.intBits i

/-! ### the script: a list of ints of the ground -/
structure Scr (c : Cx) (a : Addr) (ns : List Int) : Prop where
  ex : ∃ vs, c.base.IsList a (List.toArray vs) ∧ IntsAre vs ns
  len : ns.length ≤ 63
  bits : ∀ i ∈ ns, bits i ≤ 1048576
theorem Scr.sub {a : Addr} {ns : List Int} {m : Nat} {g : Heap} {L : Addr} {qual : Str} {scope : Scope} {fa : Addr} {cd : Value} {cl : List (Str × Addr)} (S : Scr c a ns) (_ : (c.sub g L qual scope fa cd cl).Ok m) : Scr (c.sub g L qual scope fa cd cl) a ns := ⟨S.ex, S.len, S.bits⟩
theorem Scr.here {a : Addr} {ns : List Int} {s : Shared} {m : Str → Option Value} (S : Scr c a ns) (ok : c.Ok n) (F : Fr c.g c.L s.heap m) : ∃ vs, s.heap.IsList a (List.toArray vs) ∧ IntsAre vs ns := by
  obtain ⟨vs, ⟨o, h1, h2⟩, h3⟩ := S.ex
  exact ⟨vs, ⟨o, F.keep _ _ (ok.B.stays _ _ h1), h2⟩, h3⟩
theorem Scr.bitsD {a : Addr} {ns : List Int} (S : Scr c a ns) (k : Nat) : Mine.bits (ns.getD k 0) ≤ 1048576 := by
  by_cases h : k < ns.length
  · rw [List.getD_eq_getElem?_getD, List.getElem?_eq_getElem h]; exact S.bits _ (List.getElem_mem h)
  · rw [List.getD_eq_getElem?_getD, List.getElem?_eq_none (by omega)]; decide
theorem ints_isVs {news : Led} : ∀ {vs : List Value} {ns : List Int}, IntsAre vs ns → IsVs news vs (ns.map V.int)
  | _, _, .nil => .nil
  | _, _, .cons n t h => .cons (.int n t) (ints_isVs h)
theorem cl_slen {a : Addr} {ns : List Int} {Q : V → Sto → Prop} (ok : c.Ok n) (S : Scr c a ns) (h : Q (.int ns.length) σ) : Cl c X ρ (.builtin "len") [.ref a] σ Q := fun f as s R hl => by
  obtain ⟨v, rfl⟩ := one_arg hl
  obtain ⟨m, news, F, N, H⟩ := R.ex
  cases H.vals.head
  obtain ⟨vs, hL, hI⟩ := S.here ok F
  have el := (ints_isVs (news := news) hI).length
  rw [List.length_map] at el
  have es : vs.toArray.size = ns.length := by rw [List.size_toArray, el]
  have hz := S.len
  refine len_list hL (by rw [es, two63]; omega) ⟨_, σ, h, ?_⟩
  rw [es]
  exact (Rep.pop (f := f) R).toks.pushV fun _ => .int _ _
theorem ev_sitem {value slice : Expr} {pos : Pos} {Q : V → Sto → Prop} (ok : c.Ok n)
    (h : Ev c X value ρ σ (fun o σ₁ => Ev c X slice ρ σ₁ (fun i σ₂ => ∃ a ns k, o = .ref a ∧ i = .int (k : Nat) ∧ Scr c a ns ∧ k < ns.length ∧ Q (.int (ns.getD k 0)) σ₂)))
    (hs : ∀ a (k : Int) u, subscripted slice false (.ref a) (.int k u) = operate [.ref a, .int k u] (getItem (.ref a) (.int k u)) := by intro _ _ _; with_unfolding_all rfl) :
    Ev c X (.Subscript value slice pos) ρ σ Q := fun f s R => by
  refine Subscript_ (wpAny_mono (h f s R) (fun o s₁ ho => ?_) fun _ _ e => e)
  obtain ⟨x, σ₁, h₁, R₁⟩ := ho
  refine wpAny_mono (h₁ _ _ R₁) (fun i s₂ hi => ?_) fun _ _ e => Exn.pop e
  obtain ⟨y, σ₂, ⟨a, ns, k, rfl, rfl, S, hk, hq⟩, R₂⟩ := hi
  obtain ⟨m, news, F, N, H, hx, hy⟩ := R₂.two
  cases hx; cases hy
  obtain ⟨vs, hL, hI⟩ := S.here ok F
  have hg : (ns.map V.int)[k]? = some (.int (ns.getD k 0)) := by rw [List.getElem?_map, List.getElem?_eq_getElem hk, List.getD_eq_getElem?_getD, List.getElem?_eq_getElem hk]; rfl
  obtain ⟨v, g1, g2⟩ := (ints_isVs (news := news) hI).get hg
  have hz := S.len
  exact tail_any hL.typeIs slot_list_getitem.lookup (wpAny_getItem_list hL (Int.natCast_nonneg k) (by rw [two63]; omega) (by simpa using g1) ⟨_, σ₂, hq, ⟨m, news, F, N, H.push g2⟩, R₂.st⟩) (hs _ _ _)

/-! ### more of ints, texts -/
theorem ev_str {x : Str} {k} {pos : Pos} {Q : V → Sto → Prop} (h : Q (.str x) σ) : Ev c X (.Constant (.str x) k pos) ρ σ Q :=
  fun _ _ R => wpAny_Constant_str ⟨_, _, h, R.toks.pushV fun _ => .str _ _⟩
theorem Rep.ints {f : Fm} {s : Shared} {v w : Value} {i j : Int} (R : Rep c ((f.push v (.int i)).push w (.int j)) ρ σ s) : (∃ t u, v = .int i t ∧ w = .int j u) ∧ Rep c f ρ σ s := by
  obtain ⟨m, news, F, N, H, hx, hy⟩ := R.two
  obtain ⟨t, rfl⟩ := isV_int hx
  obtain ⟨u, rfl⟩ := isV_int hy
  exact ⟨⟨t, u, rfl, rfl⟩, R.pop.pop⟩
theorem ev_mul {l r : Expr} {pos : Pos} {Q : V → Sto → Prop}
    (h : Ev c X l ρ σ (fun a σ₁ => Ev c X r ρ σ₁ (fun b σ₂ => ∃ i j p q, a = .int i ∧ b = .int j ∧ bits i ≤ p ∧ bits j ≤ q ∧ p + q ≤ 134217728 ∧ Q (.int (i * j)) σ₂))) : Ev c X (.BinOp l .Mult r pos) ρ σ Q := fun f s R => by
  refine wpAny_BinOp (wpAny_mono (h f s R) (fun a s₁ ha => ?_) fun _ _ e => e)
  obtain ⟨x, σ₁, h₁, R₁⟩ := ha
  refine wpAny_mono (h₁ _ _ R₁) (fun b s₂ hb => ?_) fun _ _ e => Exn.pop e
  obtain ⟨y, σ₂, ⟨i, j, p, q, rfl, rfl, hp, hq', hz, hq⟩, R₂⟩ := hb
  obtain ⟨⟨t, u, rfl, rfl⟩, R₀⟩ := R₂.ints
  exact PySem.P.mul_int ⟨_, _, hq, R₀.toks.pushV fun _ => .int _ _⟩ (mulOk_of_bits hp hq' hz)
theorem ev_div {l r : Expr} {pos : Pos} {Q : V → Sto → Prop}
    (h : Ev c X l ρ σ (fun a σ₁ => Ev c X r ρ σ₁ (fun b σ₂ => ∃ i j, a = .int i ∧ b = .int j ∧ 0 < j ∧ j < 1073741824 ∧ Q (.int (i.fdiv j)) σ₂))) : Ev c X (.BinOp l .FloorDiv r pos) ρ σ Q := fun f s R => by
  refine wpAny_BinOp (wpAny_mono (h f s R) (fun a s₁ ha => ?_) fun _ _ e => e)
  obtain ⟨x, σ₁, h₁, R₁⟩ := ha
  refine wpAny_mono (h₁ _ _ R₁) (fun b s₂ hb => ?_) fun _ _ e => Exn.pop e
  obtain ⟨y, σ₂, ⟨i, j, rfl, rfl, hj, hj', hq⟩, R₂⟩ := hb
  obtain ⟨⟨t, u, rfl, rfl⟩, R₀⟩ := R₂.ints
  exact floordiv_int (by omega) ⟨_, _, hq, R₀.toks.pushV fun _ => .int _ _⟩ (.inl (PyProof.noPylong_small (by omega)))
theorem ev_pow {l r : Expr} {pos : Pos} {Q : V → Sto → Prop}
    (h : Ev c X l ρ σ (fun a σ₁ => Ev c X r ρ σ₁ (fun b σ₂ => ∃ i k, a = .int i ∧ b = .int (k : Nat) ∧ k ≤ 1000000 ∧ i.natAbs < 2 ^ 64 ∧ Q (.int (i ^ k)) σ₂))) : Ev c X (.BinOp l .Pow r pos) ρ σ Q := fun f s R => by
  refine wpAny_BinOp (wpAny_mono (h f s R) (fun a s₁ ha => ?_) fun _ _ e => e)
  obtain ⟨x, σ₁, h₁, R₁⟩ := ha
  refine wpAny_mono (h₁ _ _ R₁) (fun b s₂ hb => ?_) fun _ _ e => Exn.pop e
  obtain ⟨y, σ₂, ⟨i, k, rfl, rfl, hk, hi, hq⟩, R₂⟩ := hb
  obtain ⟨⟨t, u, rfl, rfl⟩, R₀⟩ := R₂.ints
  refine pow_int_small (Int.natCast_nonneg k) (by omega) hi ⟨_, _, hq, ?_⟩
  rw [Int.toNat_natCast]
  exact R₀.toks.pushV fun _ => .int _ _

/-! ### the law's end -/
theorem law_end {cw : ClaimW} {cl : Str → Option Addr} {mean : ExcName → Option Value} {args : List WData} {ss : List Stmt} {s₁ s : Shared} {f : Fm} {E : Value → Shared → Prop} (hg : s₁.gens = #[]) (eg : c.g = s₁.heap) (es : c.s₀ = s₁)
    (hn : ∀ cls, cw.raises args cls = false) (hp : cw.post args (.bool true) args = true) (R : Rep c f ρ σ s) (h : Ex c noX ss ρ σ (fun fl _ _ => fl = .ret (.bool true))) :
    wpAny c.M c.A (execs ss c.env) (fun fl s' => GoodW cw cl mean args s₁ (.ok (.ret (match fl with | .ret v => v | _ => .none))) s') E s := by
  refine wpAny_mono (h f s R) (fun fl s' hp' => ?_) fun _ _ e => e.no.elim
  cases fl with
  | next => obtain ⟨_, _, e, _⟩ := hp'; cases e
  | brk => obtain ⟨_, _, e, _⟩ := hp'; cases e
  | cont => obtain ⟨_, _, e, _⟩ := hp'; cases e
  | ret v =>
    obtain ⟨x, ρ', σ', e, r⟩ := hp'
    cases e
    obtain ⟨m, news, F, N, H⟩ := r.ex
    cases H.vals.head
    obtain ⟨hh, t, e⟩ := r.st
    rw [eg] at F
    have e1 : s'.gens = s₁.gens := by rw [e, es]
    have e2 : s'.os = s₁.os := by rw [e, es]
    exact goodW_bool F (e1.trans hg) hn hp e2
/-- the law's frame -/
abbrev lawCx (prog : Program) (w : World) (K : Frag) (p : Program) (loose : List Str) (mean : ExcName → Option Value) (mg mb : Str → Option Value) (s₁ : Shared) (L : Addr) (qual : Str) (scope : Scope) (fa : Addr) (cd : Value) (cl : List (Str × Addr)) : Cx :=
  { prog := prog, w := w, K := K, p := p, loose := loose, mean := mean, mg := mg, mb := mb, A₀ := callerA, base := s₁.heap, outer := [], g := s₁.heap, L := L, qual := qual, scope := scope, fa := fa, cd := cd, cl := cl, s₀ := s₁ }
theorem law_ok {prog : Program} {w : World} {K : Frag} {p : Program} {loose : List Str} {mean : ExcName → Option Value} {mg mb : Str → Option Value} {s₁ : Shared} {L : Addr} {qual : Str} {scope : Scope} {fa : Addr} {cd : Value} {cl : List (Str × Addr)}
    (K0 : Below callerA s₁.heap [] s₁.heap) (KX : K.In s₁.heap) (T : Top p loose mean mg mb s₁.heap) (hk : scope.kind = .function := by rfl) : (lawCx prog w K p loose mean mg mb s₁ L qual scope fa cd cl).Ok 100 :=
  ⟨K0, KX, T, hk, rfl, by show 1 + claimMargin + 100 < 900; decide, by show 4 + 10 * 100 < 5000; decide⟩
theorem law_scr {c : Cx} {a : Addr} {vs : List Value} {ns : List Int} (hL : c.base.IsList a vs.toArray) (hI : IntsAre vs ns) (hlay : PyData.layable0 (.list (ns.map .int)) = true) (hlen : ¬ ((63 : Nat) : Int) < ((ns.length : Nat) : Int)) : Scr c a ns :=
  ⟨⟨vs, hL, hI⟩, by omega, fun i hi => intBits_le_of_item hi hlay⟩
theorem law_rep {c : Cx} {a : Addr} {m : Str → Option Value} {h₁ : Heap} {t : Nat} {x : Str} {ln : List Str} (F : Fr c.g c.L h₁ m) (hm : m x = some (.ref a)) (hl : ((x :: ln).all fun y => c.env.kindOf y == some .local) = true) (hnd : (x :: ln).Nodup) :
    Rep c ⟨[], [], []⟩ ((x, some (.ref a)) :: ln.map fun y => (y, none)) [] { c.s₀ with heap := h₁, toks := t } := by
  have hmap : ((((x, some (V.ref a)) :: ln.map fun y => (y, none)) : Loc).map (·.1)) = x :: ln := by simp [Function.comp_def]
  refine ⟨⟨m, [], F, News.nil, ⟨.nil, .nil, (fun _ hp => nomatch hp), fun p hp y hy => ?_, .nil, by rw [hmap]; exact hnd, fun p hp => ?_⟩⟩, ⟨h₁, t, rfl⟩⟩
  · rcases List.mem_cons.mp hp with rfl | hp
    · cases hy; exact ⟨_, hm, .ref a⟩
    · obtain ⟨z, _, rfl⟩ := List.mem_map.mp hp; cases hy
  · have : p.1 ∈ x :: ln := by rw [← hmap]; exact List.mem_map.mpr ⟨p, hp, rfl⟩
    simpa using List.all_eq_true.mp hl _ this
theorem law_all {prog : Program} {w : World} {K : Frag} {p : Program} {loose : List Str} {mean mean' : ExcName → Option Value} {mg mb : Str → Option Value} {s₁ : Shared} {h₁ : Heap} {t : Nat} {L : Addr} {qual : Str} {scope : Scope} {fa : Addr} {cd : Value} {ss : List Stmt}
    {cw : ClaimW} {cl : Str → Option Addr} {args : List WData} {E : Value → Shared → Prop} {a : Addr} {vs : List Value} {ns : List Int} {m : Str → Option Value} (x : Str) (ln : List Str)
    (T : Top p loose mean mg mb s₁.heap) (KX : K.In s₁.heap) (K0 : Below callerA s₁.heap [] s₁.heap) (F : Fr s₁.heap L h₁ m) (hg : s₁.gens = #[]) (hL : s₁.heap.IsList a vs.toArray) (hI : IntsAre vs ns)
    (hlay : PyData.layable0 (.list (ns.map .int)) = true) (hlen : ¬ ((63 : Nat) : Int) < ((ns.length : Nat) : Int)) (hn : ∀ cls, cw.raises args cls = false) (hp : cw.post args (.bool true) args = true)
    (hm : m x = some (.ref a)) (hl : ((x :: ln).all fun y => scope.names.lookup y == some .local) = true) (hnd : (x :: ln).Nodup) (hk : scope.kind = .function)
    (k : (lawCx prog w K p loose mean mg mb s₁ L qual scope fa cd []).Ok 100 → Scr (lawCx prog w K p loose mean mg mb s₁ L qual scope fa cd []) a ns →
      Ex (lawCx prog w K p loose mean mg mb s₁ L qual scope fa cd []) noX ss ((x, some (.ref a)) :: ln.map fun y => (y, none)) [] (fun fl _ _ => fl = .ret (.bool true))) :
    wpAny (model prog w) (callerA.deeper (envOf qual scope L fa cd)) (execs ss (envOf qual scope L fa cd)) (fun fl s' => GoodW cw cl mean' args s₁ (.ok (.ret (match fl with | .ret v => v | _ => .none))) s') E { s₁ with heap := h₁, toks := t } :=
  law_end (c := lawCx prog w K p loose mean mg mb s₁ L qual scope fa cd []) hg rfl rfl hn hp (law_rep (x := x) (ln := ln) F hm hl hnd) (k (law_ok K0 KX T hk) (law_scr hL hI hlay hlen))
end
-- part L14
theorem ts_is {c : Cx} {X : XP} {ρ : Loc} {σ : Sto} {e : Expr} {Q : Bool → Sto → Prop} (b : Bool) (h : Ts c X e ρ σ (fun b' σ' => b' = b ∧ σ' = σ)) (k : Q b σ) : Ts c X e ρ σ Q :=
  ts_mono h fun b' σ' h' => by obtain ⟨rfl, rfl⟩ := h'; exact k
theorem ev_is {c : Cx} {X : XP} {ρ : Loc} {σ : Sto} {e : Expr} {Q : V → Sto → Prop} (v : V) (h : Ev c X e ρ σ (fun v' σ' => v' = v ∧ σ' = σ)) (k : Q v σ) : Ev c X e ρ σ Q :=
  ev_mono h fun v' σ' h' => by obtain ⟨rfl, rfl⟩ := h'; exact k
/-- the ways meet in one state -/
def At (ρ' : Loc) (σ' : Sto) : Fl → Loc → Sto → Prop := fun fl ρ σ => fl = .next ∧ ρ = ρ' ∧ σ = σ'
theorem ex_if_join {c : Cx} {X : XP} {ρ : Loc} {σ : Sto} {test : Expr} {body orelse rest : List Stmt} {pos : Pos} {Q : Fl → Loc → Sto → Prop} (ρ' : Loc) (σ' : Sto)
    (h : Ts c X test ρ σ (fun b σ₁ => (b = true → Ex c X body ρ σ₁ (At ρ' σ')) ∧ (b = false → Ex c X orelse ρ σ₁ (At ρ' σ')))) (k : Ex c X rest ρ' σ' Q) : Ex c X (.If test body orelse pos :: rest) ρ σ Q :=
  ex_if (ts_mono h fun b σ₁ hb => ⟨fun e => ex_mono (hb.1 e) fun fl ρ σ q => by obtain ⟨rfl, rfl, rfl⟩ := q; exact k, fun e => ex_mono (hb.2 e) fun fl ρ σ q => by obtain ⟨rfl, rfl, rfl⟩ := q; exact k⟩)
theorem ex_if_same {c : Cx} {X : XP} {ρ : Loc} {σ : Sto} {test : Expr} {body orelse rest : List Stmt} {pos : Pos} {Q : Fl → Loc → Sto → Prop} (ρ' : Loc)
    (h : Ts c X test ρ σ (fun b σ₁ => (b = true → Ex c X body ρ σ₁ (At ρ' σ)) ∧ (b = false → Ex c X orelse ρ σ₁ (At ρ' σ)))) (k : Ex c X rest ρ' σ Q) : Ex c X (.If test body orelse pos :: rest) ρ σ Q := ex_if_join ρ' σ h k
theorem at_nil {c : Cx} {X : XP} {ρ : Loc} {σ : Sto} : Ex c X [] ρ σ (At ρ σ) := ex_nil ⟨rfl, rfl, rfl⟩
theorem bt {P R : Prop} (h : P) : (true = true → P) ∧ (true = false → R) := ⟨fun _ => h, (fun e => nomatch e)⟩
theorem bf {P R : Prop} (h : R) : (false = true → P) ∧ (false = false → R) := ⟨(fun e => nomatch e), fun _ => h⟩
section
variable {α : Type} {p a b d e f g h i j k l m : α} {r : List α}
theorem i0 : p ∈ p :: r := List.Mem.head _
theorem i1 : p ∈ a :: p :: r := List.Mem.tail _ (List.Mem.head _)
theorem i2 : p ∈ a :: b :: p :: r := List.Mem.tail _ (List.Mem.tail _ (List.Mem.head _))
theorem i3 : p ∈ a :: b :: d :: p :: r := List.Mem.tail _ (List.Mem.tail _ (List.Mem.tail _ (List.Mem.head _)))
theorem i4 : p ∈ a :: b :: d :: e :: p :: r := List.Mem.tail _ (List.Mem.tail _ (List.Mem.tail _ (List.Mem.tail _ (List.Mem.head _))))
theorem i5 : p ∈ a :: b :: d :: e :: f :: p :: r := List.Mem.tail _ (List.Mem.tail _ (List.Mem.tail _ (List.Mem.tail _ (List.Mem.tail _ (List.Mem.head _)))))
theorem i6 : p ∈ a :: b :: d :: e :: f :: g :: p :: r := List.Mem.tail _ (List.Mem.tail _ (List.Mem.tail _ (List.Mem.tail _ (List.Mem.tail _ (List.Mem.tail _ (List.Mem.head _))))))
theorem i7 : p ∈ a :: b :: d :: e :: f :: g :: h :: p :: r := List.Mem.tail _ (List.Mem.tail _ (List.Mem.tail _ (List.Mem.tail _ (List.Mem.tail _ (List.Mem.tail _ (List.Mem.tail _ (List.Mem.head _)))))))
theorem i8 : p ∈ a :: b :: d :: e :: f :: g :: h :: i :: p :: r := List.Mem.tail _ (List.Mem.tail _ (List.Mem.tail _ (List.Mem.tail _ (List.Mem.tail _ (List.Mem.tail _ (List.Mem.tail _ (List.Mem.tail _ (List.Mem.head _))))))))
theorem i9 : p ∈ a :: b :: d :: e :: f :: g :: h :: i :: j :: p :: r := List.Mem.tail _ (List.Mem.tail _ (List.Mem.tail _ (List.Mem.tail _ (List.Mem.tail _ (List.Mem.tail _ (List.Mem.tail _ (List.Mem.tail _ (List.Mem.tail _ (List.Mem.head _)))))))))
theorem i10 : p ∈ a :: b :: d :: e :: f :: g :: h :: i :: j :: k :: p :: r := List.Mem.tail _ (List.Mem.tail _ (List.Mem.tail _ (List.Mem.tail _ (List.Mem.tail _ (List.Mem.tail _ (List.Mem.tail _ (List.Mem.tail _ (List.Mem.tail _ (List.Mem.tail _ (List.Mem.head _))))))))))
theorem i11 : p ∈ a :: b :: d :: e :: f :: g :: h :: i :: j :: k :: l :: p :: r := List.Mem.tail _ (List.Mem.tail _ (List.Mem.tail _ (List.Mem.tail _ (List.Mem.tail _ (List.Mem.tail _ (List.Mem.tail _ (List.Mem.tail _ (List.Mem.tail _ (List.Mem.tail _ (List.Mem.tail _ (List.Mem.head _)))))))))))
theorem i12 : p ∈ a :: b :: d :: e :: f :: g :: h :: i :: j :: k :: l :: m :: p :: r := List.Mem.tail _ (List.Mem.tail _ (List.Mem.tail _ (List.Mem.tail _ (List.Mem.tail _ (List.Mem.tail _ (List.Mem.tail _ (List.Mem.tail _ (List.Mem.tail _ (List.Mem.tail _ (List.Mem.tail _ (List.Mem.tail _ (List.Mem.head _))))))))))))
end
section
variable {x : Str} {o : Option V} {a b d e f g h i j k l m : Str × Option V} {r : Loc}
theorem p0 : PutF x ((x, o) :: r) (fun v => (x, some v) :: r) := PutF.head
theorem p1 : PutF x (a :: (x, o) :: r) (fun v => a :: (x, some v) :: r) := PutF.tail (PutF.head)
theorem p2 : PutF x (a :: b :: (x, o) :: r) (fun v => a :: b :: (x, some v) :: r) := PutF.tail (PutF.tail (PutF.head))
theorem p3 : PutF x (a :: b :: d :: (x, o) :: r) (fun v => a :: b :: d :: (x, some v) :: r) := PutF.tail (PutF.tail (PutF.tail (PutF.head)))
theorem p4 : PutF x (a :: b :: d :: e :: (x, o) :: r) (fun v => a :: b :: d :: e :: (x, some v) :: r) := PutF.tail (PutF.tail (PutF.tail (PutF.tail (PutF.head))))
theorem p5 : PutF x (a :: b :: d :: e :: f :: (x, o) :: r) (fun v => a :: b :: d :: e :: f :: (x, some v) :: r) := PutF.tail (PutF.tail (PutF.tail (PutF.tail (PutF.tail (PutF.head)))))
theorem p6 : PutF x (a :: b :: d :: e :: f :: g :: (x, o) :: r) (fun v => a :: b :: d :: e :: f :: g :: (x, some v) :: r) := PutF.tail (PutF.tail (PutF.tail (PutF.tail (PutF.tail (PutF.tail (PutF.head))))))
theorem p7 : PutF x (a :: b :: d :: e :: f :: g :: h :: (x, o) :: r) (fun v => a :: b :: d :: e :: f :: g :: h :: (x, some v) :: r) := PutF.tail (PutF.tail (PutF.tail (PutF.tail (PutF.tail (PutF.tail (PutF.tail (PutF.head)))))))
theorem p8 : PutF x (a :: b :: d :: e :: f :: g :: h :: i :: (x, o) :: r) (fun v => a :: b :: d :: e :: f :: g :: h :: i :: (x, some v) :: r) := PutF.tail (PutF.tail (PutF.tail (PutF.tail (PutF.tail (PutF.tail (PutF.tail (PutF.tail (PutF.head))))))))
theorem p9 : PutF x (a :: b :: d :: e :: f :: g :: h :: i :: j :: (x, o) :: r) (fun v => a :: b :: d :: e :: f :: g :: h :: i :: j :: (x, some v) :: r) := PutF.tail (PutF.tail (PutF.tail (PutF.tail (PutF.tail (PutF.tail (PutF.tail (PutF.tail (PutF.tail (PutF.head)))))))))
theorem p10 : PutF x (a :: b :: d :: e :: f :: g :: h :: i :: j :: k :: (x, o) :: r) (fun v => a :: b :: d :: e :: f :: g :: h :: i :: j :: k :: (x, some v) :: r) := PutF.tail (PutF.tail (PutF.tail (PutF.tail (PutF.tail (PutF.tail (PutF.tail (PutF.tail (PutF.tail (PutF.tail (PutF.head))))))))))
theorem p11 : PutF x (a :: b :: d :: e :: f :: g :: h :: i :: j :: k :: l :: (x, o) :: r) (fun v => a :: b :: d :: e :: f :: g :: h :: i :: j :: k :: l :: (x, some v) :: r) := PutF.tail (PutF.tail (PutF.tail (PutF.tail (PutF.tail (PutF.tail (PutF.tail (PutF.tail (PutF.tail (PutF.tail (PutF.tail (PutF.head)))))))))))
theorem p12 : PutF x (a :: b :: d :: e :: f :: g :: h :: i :: j :: k :: l :: m :: (x, o) :: r) (fun v => a :: b :: d :: e :: f :: g :: h :: i :: j :: k :: l :: m :: (x, some v) :: r) := PutF.tail (PutF.tail (PutF.tail (PutF.tail (PutF.tail (PutF.tail (PutF.tail (PutF.tail (PutF.tail (PutF.tail (PutF.tail (PutF.tail (PutF.head))))))))))))
end
open_top hd for PySem.Challenge.rw_uf060006_02
-- part W02
/-- a frame of this text -/
structure FC (c : Cx) (n : Nat) : Prop where
  ok : c.Ok n
  hK : c.K = hd.heap_39 c.w.params
theorem FC.sub {c : Cx} {n m : Nat} {g : Heap} {L : Addr} {qual : Str} {scope : Scope} {fa : Addr} {cd : Value} {cl : List (Str × Addr)} (h : FC c n) (ok' : (c.sub g L qual scope fa cd cl).Ok m) : FC (c.sub g L qual scope fa cd cl) m := ⟨ok', h.hK⟩
theorem FC.less {c : Cx} {n k : Nat} (h : FC c n) (hk : k ≤ n) : FC c k := ⟨h.ok.less hk, h.hK⟩

/-- the levels of a number -/
def IsLev (n : Int) (k : Nat) : Prop := (k ≠ 0 → (2 : Int) ^ k ≤ n + 1) ∧ n + 1 < 2 ^ (k + 1)
theorem IsLev.one {n : Int} {j k : Nat} (h : IsLev n j) (h' : IsLev n k) : j = k := by
  have key : ∀ {j k : Nat}, IsLev n j → IsLev n k → ¬ j < k := by
    intro j k h h' hlt
    have h1 := h'.1 (by omega)
    have h2 := h.2
    have h3 : (2 : Nat) ^ (j + 1) ≤ 2 ^ k := Nat.pow_le_pow_right (by omega) hlt
    have h4 : (2 : Int) ^ (j + 1) ≤ 2 ^ k := by exact_mod_cast h3
    omega
  have a := key h h'
  have b := key h' h
  omega
section
variable {c : Cx} {X : XP} {ρ : Loc} {σ : Sto} {n : Nat} {Q : V → Sto → Prop}
theorem bits_pow {m : Nat} {x : Int} (h0 : 0 ≤ x) (h : x < 2 ^ m) : bits x ≤ m := by
  refine intBits_le_iff.mpr ?_
  have : ((x.natAbs : Nat) : Int) < ((2 ^ m : Nat) : Int) := by push_cast; omega
  omega
theorem pow_pos' (k : Nat) : (0 : Int) < 2 ^ k := Int.pow_pos (by decide)
theorem levels_spec {N : Int} (fc : FC c (n + 1)) (hN : N + 1 < 2 ^ 200) (h : ∀ k : Nat, IsLev N k → Q (.int k) σ) : Cl c X ρ (.ref 21) [.int N] σ Q := by
  refine cl_intro (ln := ["number", "found", "reached"]) fc.ok (by rw [fc.hK]; k_is) (by rw [fc.hK]; k_is) (by intro as h; match as, h with | [a], _ => rfl) (by decide) (by decide) ?_
  intro g L ok
  refine ex_assign ok p1 (ev_int (ex_assign ok p2 (ev_int ?_)))
  refine ex_while (fun m ρ σ' => ∃ k : Nat, ρ = ([("number", some (.int N)), ("found", some (.int k)), ("reached", some (.int (2 ^ (k + 1))))] : Loc) ∧ σ' = σ ∧ m = (N + 2 - 2 ^ (k + 1)).toNat ∧ (k ≠ 0 → (2 : Int) ^ k ≤ N + 1)) _ ⟨0, rfl, rfl, rfl, fun h => (h rfl).elim⟩ ?_
  rintro m _ _ ⟨k, rfl, rfl, rfl, hk⟩
  refine ts_cmp (ev_name ok i2 (ev_binop (ev_name ok i0 (ev_int ⟨_, _, _, rfl, rfl, rfl, _, rfl, fun hc => ?_, fun hc => ?_⟩))))
  · have hc' : (2 : Int) ^ (k + 1) ≤ N + 1 := by simpa using hc
    have hp := pow_pos' (k + 1)
    have e2 : (2 : Int) * 2 ^ (k + 1) = 2 ^ (k + 1 + 1) := by rw [Int.pow_succ _ (k + 1)]; omega
    refine ex_assign ok p2 (ev_mul (ev_int (ev_name ok i2 ⟨_, _, 64, 200, rfl, rfl, by decide, bits_pow (by omega) (by omega), by decide, ?_⟩)))
    refine ex_assign ok p1 (ev_binop (ev_name ok i1 (ev_int ⟨_, _, _, rfl, rfl, rfl, ex_nil ⟨(N + 2 - 2 ^ (k + 1 + 1)).toNat, by omega, k + 1, ?_, rfl, rfl, fun _ => hc'⟩⟩)))
    rw [e2]; rfl
  · have hc' : ¬ (2 : Int) ^ (k + 1) ≤ N + 1 := by simpa using hc
    exact ex_return (ev_name ok i1 (h k ⟨hk, by omega⟩))
theorem llevels_spec {N : Int} (fc : FC c (n + 1)) (h : ∀ k : Nat, IsLev N k → Q (.int k) σ) : Cl c X ρ (.ref 42) [.int N] σ Q := by
  refine cl_intro (ln := ["_law_number_here", "_law_count", "_law_power"]) fc.ok (by rw [fc.hK]; k_is) (by rw [fc.hK]; k_is) (by intro as h; match as, h with | [a], _ => rfl) (by decide) (by decide) ?_
  intro g L ok
  refine ex_assign ok p1 (ev_int (ex_assign ok p2 (ev_int ?_)))
  refine ex_while (fun m ρ σ' => ∃ k : Nat, ρ = ([("_law_number_here", some (.int N)), ("_law_count", some (.int k)), ("_law_power", some (.int (2 ^ (k + 1))))] : Loc) ∧ σ' = σ ∧ m = (N + 2 - 2 ^ (k + 1)).toNat ∧ (k ≠ 0 → (2 : Int) ^ k ≤ N + 1)) _ ⟨0, rfl, rfl, rfl, fun h => (h rfl).elim⟩ ?_
  rintro m _ _ ⟨k, rfl, rfl, rfl, hk⟩
  refine ts_cmp (ev_name ok i2 (ev_binop (ev_name ok i0 (ev_int ⟨_, _, _, rfl, rfl, rfl, _, rfl, fun hc => ?_, fun hc => ?_⟩))))
  · have hc' : (2 : Int) ^ (k + 1) ≤ N + 1 := by simpa using hc
    have hp := pow_pos' (k + 1)
    have e2 : (2 : Int) ^ (k + 1) + 2 ^ (k + 1) = 2 ^ (k + 1 + 1) := by rw [Int.pow_succ _ (k + 1)]; omega
    refine ex_assign ok p2 (ev_binop (ev_name ok i2 (ev_name ok i2 ⟨_, _, _, rfl, rfl, rfl, ?_⟩)))
    refine ex_assign ok p1 (ev_binop (ev_name ok i1 (ev_int ⟨_, _, _, rfl, rfl, rfl, ex_nil ⟨(N + 2 - 2 ^ (k + 1 + 1)).toNat, by omega, k + 1, ?_, rfl, rfl, fun _ => hc'⟩⟩)))
    rw [e2]; rfl
  · have hc' : ¬ (2 : Int) ^ (k + 1) ≤ N + 1 := by simpa using hc
    exact ex_return (ev_name ok i1 (h k ⟨hk, by omega⟩))
theorem b_len (fc : FC c n) (hk : c.env.kindOf "len" = some .globalImplicit) : IsB c "len" (.builtin "len") := by
  refine ⟨?_, by boot_by_name, by decide, hk, by decide⟩
  rw [fc.hK]; k_is
theorem b_isi (fc : FC c n) (hk : c.env.kindOf "isinstance" = some .globalImplicit) : IsB c "isinstance" (.builtin "isinstance") := by
  refine ⟨?_, by boot_by_name, by decide, hk, by decide⟩
  rw [fc.hK]; k_is
theorem b_int (fc : FC c n) (hk : c.env.kindOf "int" = some .globalImplicit) : IsB c "int" (.type "int") := by
  refine ⟨?_, by boot_by_name, by decide, hk, by decide⟩
  rw [fc.hK]; k_is
theorem b_bool (fc : FC c n) (hk : c.env.kindOf "bool" = some .globalImplicit) : IsB c "bool" (.type "bool") := by
  refine ⟨?_, by boot_by_name, by decide, hk, by decide⟩
  rw [fc.hK]; k_is
theorem g_levels (fc : FC c n) : nsIn c.K mainGlobals "levels" = some (some (.ref 21)) ∧ keepIn c.K (.ref 21) = true := by rw [fc.hK]; exact ⟨by k_is, by k_is⟩
theorem g_most (fc : FC c n) : nsIn c.K mainGlobals "most_work" = some (some (.ref 28)) ∧ keepIn c.K (.ref 28) = true := by rw [fc.hK]; exact ⟨by k_is, by k_is⟩
theorem g_cell (fc : FC c n) : nsIn c.K mainGlobals "_law_cell" = some (some (.ref 35)) ∧ keepIn c.K (.ref 35) = true := by rw [fc.hK]; exact ⟨by k_is, by k_is⟩
theorem g_llevels (fc : FC c n) : nsIn c.K mainGlobals "_law_levels" = some (some (.ref 42)) ∧ keepIn c.K (.ref 42) = true := by rw [fc.hK]; exact ⟨by k_is, by k_is⟩
theorem g_number (fc : FC c n) : nsIn c.K mainGlobals "_law_number" = some (some (.ref 49)) ∧ keepIn c.K (.ref 49) = true := by rw [fc.hK]; exact ⟨by k_is, by k_is⟩
def due (d : Str) (k j : Int) : Int := if d = "put" then k else if d = "pour" then k + j else if d = "take" then 2 * k else 3 * k
theorem most_spec {d : Str} {T O : Int} (fc : FC c (n + 2)) (hT : T + 1 < 2 ^ 200) (hO : O + 1 < 2 ^ 200) (hT0 : 0 ≤ T) (h : ∀ k j : Nat, IsLev T k → IsLev O j → Q (.int (due d k j)) σ) (hj : ∃ j, IsLev O j) : Cl c X ρ (.ref 28) [.str d, .int T, .int O] σ Q := by
  refine cl_intro (ln := ["deed", "things", "others"]) fc.ok (by rw [fc.hK]; k_is) (by rw [fc.hK]; k_is) (by intro as h; match as, h with | [a, b, d], _ => rfl) (by decide) (by decide) ?_
  intro g L ok
  have fc' := fc.sub ok
  have G := g_levels fc'
  obtain ⟨j, hj⟩ := hj
  have lev : ∀ {X : XP} {x : Str} {np pos p3 : Pos} {N : Int} {Q : V → Sto → Prop} {ρ : Loc}, (x, some (V.int N)) ∈ ρ → (x == ("__debug__" : Str)) = false → N + 1 < 2 ^ 200 → (∀ k : Nat, IsLev N k → Q (.int k) σ) →
      Ev (c.sub g L _ _ 28 _ []) X (.Call (.Name "levels" np) [.Name x p3] [] pos) ρ σ Q := fun h1 hd h2 h3 => ev_call ok G.1 G.2 (evs_cons (ev_name ok h1 (evs_nil (levels_spec fc' h2 h3)) hd))
  refine ex_if (ts_cmp (ev_name ok i0 (ev_str ⟨_, rfl, fun hc => ?_, fun hc => ?_⟩)))
  · have hc' : d = "put" := by simpa using hc
    refine ex_return (lev i1 rfl hT fun k hk => ?_)
    have := h k j hk hj
    unfold due at this
    rw [if_pos hc'] at this
    exact this
  have c1 : d ≠ "put" := by simpa using hc
  refine ex_then (ex_if (ts_cmp (ev_name ok i0 (ev_str ⟨_, rfl, fun hc => ?_, fun hc => ?_⟩))))
  · have hc' : d = "pour" := by simpa using hc
    refine ex_return (ev_binop (lev i1 rfl hT fun k hk => lev i2 rfl hO fun j' hj' => ⟨_, _, _, rfl, rfl, rfl, ?_⟩))
    have := h k j' hk hj'
    unfold due at this
    rw [if_neg c1, if_pos hc'] at this
    exact this
  have c2 : d ≠ "pour" := by simpa using hc
  have sm : ∀ k : Nat, IsLev T k → bits (k : Int) ≤ 64 := by
    intro k hk
    have : k ≤ 200 := by
      by_cases h0 : k ≤ 200
      · exact h0
      · have h1 := hk.1 (by omega)
        have h3 : (2 : Nat) ^ 200 ≤ 2 ^ k := Nat.pow_le_pow_right (by omega) (by omega)
        have h4 : (2 : Int) ^ 200 ≤ 2 ^ k := by exact_mod_cast h3
        omega
    exact bits_pow (by omega) (by have : (2 : Int) ^ 64 = 18446744073709551616 := by decide
                                  omega)
  refine ex_then (ex_if (ts_cmp (ev_name ok i0 (ev_str ⟨_, rfl, fun hc => ?_, fun hc => ?_⟩))))
  · have hc' : d = "take" := by simpa using hc
    refine ex_return (ev_mul (ev_int (lev i1 rfl hT fun k hk => ⟨_, _, 64, 64, rfl, rfl, by decide, sm k hk, by decide, ?_⟩)))
    have := h k j hk hj
    unfold due at this
    rw [if_neg c1, if_neg c2, if_pos hc'] at this
    exact this
  have c3 : d ≠ "take" := by simpa using hc
  refine ex_then (ex_return (ev_mul (ev_int (lev i1 rfl hT fun k hk => ⟨_, _, 64, 64, rfl, rfl, by decide, sm k hk, by decide, ?_⟩))))
  have := h k j hk hj
  unfold due at this
  rw [if_neg c1, if_neg c2, if_neg c3] at this
  exact this
theorem cell_spec {a : Addr} {ns : List Int} {k : Nat} (fc : FC c (n + 1)) (S : Scr c a ns) (h : Q (.int (ns.getD k 0)) σ) : Cl c X ρ (.ref 35) [.ref a, .int k] σ Q := by
  refine cl_intro (ln := ["_law_script", "_law_k"]) fc.ok (by rw [fc.hK]; k_is) (by rw [fc.hK]; k_is) (by intro as h; match as, h with | [a, b], _ => rfl) (by decide) (by decide) ?_
  intro g L ok
  have fc' := fc.sub ok
  have S' := S.sub ok
  refine ex_if (ts_cmp (ev_name ok i1 (ev_bcall ok (b_len fc' rfl) (evs_cons (ev_name ok i0 (evs_nil (cl_slen ok S' ⟨_, rfl, fun hc => ?_, fun hc => ?_⟩)))))))
  · have hc' : k < ns.length := by simpa using hc
    exact ex_return (ev_sitem ok (ev_name ok i0 (ev_name ok i1 ⟨a, ns, k, rfl, rfl, S', hc', h⟩)))
  · have hc' : ¬ k < ns.length := by simpa using hc
    refine ex_then (ex_return (ev_int ?_))
    have e : ns.getD k 0 = 0 := by rw [List.getD_eq_getElem?_getD, List.getElem?_eq_none (by omega)]; rfl
    rw [e] at h; exact h
theorem fmod_range {a b : Int} (hb : 0 < b) : 0 ≤ a.fmod b ∧ a.fmod b < b := by
  rw [Int.fmod_eq_emod_of_nonneg a (by omega)]
  exact ⟨Int.emod_nonneg _ (by omega), Int.emod_lt_of_pos _ hb⟩
theorem number_spec {v : Int} (fc : FC c (n + 1)) (hv : bits v ≤ 1048576) (h : ∀ r : Int, 0 ≤ r → r < 10 ^ 40 → Q (.int r) σ) : Cl c X ρ (.ref 49) [.int v] σ Q := by
  refine cl_intro (ln := ["_law_cell_here"]) fc.ok (by rw [fc.hK]; k_is) (by rw [fc.hK]; k_is) (by intro as h; match as, h with | [a], _ => rfl) (by decide) (by decide) ?_
  intro g L ok
  have b1 : bits (v.fdiv 3) ≤ 1048576 := intBits_fdiv_le hv
  refine ex_if (ts_cmp (ev_binop (ev_name ok i0 (ev_int ⟨_, _, _, rfl, rfl, rfl, ev_int ⟨_, rfl, fun hc => ?_, fun hc => ?_⟩⟩))))
  · refine ex_return (ev_binop (ev_mul (ev_div (ev_name ok i0 (ev_int ⟨_, _, rfl, rfl, by decide, by decide, ev_pow (ev_int (ev_int ⟨_, 4, rfl, rfl, by decide, by decide, ⟨_, _, 1048576, 200, rfl, rfl, b1, by decide, by decide, ev_pow (ev_int (ev_int ⟨_, 40, rfl, rfl, by decide, by decide, ⟨_, _, _, rfl, rfl, rfl, ?_⟩⟩))⟩⟩))⟩)))))
    have := fmod_range (a := v.fdiv 3 * 999999999989 ^ 4) (b := 10 ^ 40) (by decide)
    exact h _ this.1 this.2
  · refine ex_then (ex_return (ev_binop (ev_div (ev_name ok i0 (ev_int ⟨_, _, rfl, rfl, by decide, by decide, ev_int ⟨_, _, _, rfl, rfl, rfl, ?_⟩⟩)))))
    have := fmod_range (a := v.fdiv 3) (b := 70) (by decide)
    exact h _ this.1 (by have e : (10 : Int) ^ 40 = 10000000000000000000000000000000000000000 := by decide
                         omega)
end
-- part C02
theorem lev_ex {N : Int} (h : 0 ≤ N) : ∃ k, IsLev N k := by
  refine ⟨((N + 1).toNat).log2, fun _ => ?_, ?_⟩
  · have := Nat.log2_self_le (n := (N + 1).toNat) (by omega)
    have h2 : ((2 ^ ((N + 1).toNat).log2 : Nat) : Int) ≤ (((N + 1).toNat : Nat) : Int) := by exact_mod_cast this
    push_cast at h2; omega
  · have := Nat.lt_log2_self (n := (N + 1).toNat)
    have h2 : (((N + 1).toNat : Nat) : Int) < ((2 ^ (((N + 1).toNat).log2 + 1) : Nat) : Int) := by exact_mod_cast this
    push_cast at h2; omega
end Mine
open Mine in
set_option maxRecDepth 100000 in
set_option maxHeartbeats 8000000 in
theorem PySem.Challenge.cw_uf060006_02_holds : PySem.Challenge.rw_uf060006_02.Holds := by
  exact hd (by
  k_go0
  refine law_all "_law_script" ["_law_things", "_law_others", "_law_pick", "_law_found", "_law_one", "_law_due"] (by assumption) (by assumption) (by assumption) (by assumption) (by assumption) (by assumption) (by assumption) (by assumption) (by assumption)
    (raisesW_false (by wrow_none_raised)) ?hp rfl rfl (by decide) rfl ?_
  case hp => wrow_post
  intro ok S
  have fc : FC _ 100 := ⟨ok, rfl⟩
  have Gc := g_cell fc
  have Gn := g_number fc
  have Gm := g_most fc
  have Gl := g_llevels fc
  have p40 : (10 : Int) ^ 40 = 10000000000000000000000000000000000000000 := by decide
  have p200 : (2 : Int) ^ 200 = 1606938044258990275541962092341162602522202993782792835301376 := by decide
  refine ex_assign ok p1 (ev_call ok Gn.1 Gn.2 (evs_cons (ev_call ok Gc.1 Gc.2 (evs_cons (ev_name ok i0 (evs_cons (ev_int (evs_nil (cell_spec (k := 0) fc S (evs_nil (number_spec fc (S.bitsD 0) fun T hT0 hT => ?_)))))))))))
  refine ex_assign ok p2 (ev_call ok Gn.1 Gn.2 (evs_cons (ev_call ok Gc.1 Gc.2 (evs_cons (ev_name ok i0 (evs_cons (ev_int (evs_nil (cell_spec (k := 1) fc S (evs_nil (number_spec fc (S.bitsD 1) fun O hO0 hO => ?_)))))))))))
  refine ex_assign ok p3 (ev_binop (ev_call ok Gc.1 Gc.2 (evs_cons (ev_name ok i0 (evs_cons (ev_int (evs_nil (cell_spec (k := 2) fc S (ev_int ⟨_, _, _, rfl, rfl, rfl, ?_⟩)))))))))
  obtain ⟨q0, q1⟩ := fmod_range (a := List.getD _ 2 0) (b := 4) (by decide)
  generalize Int.fmod _ 4 = q at q0 q1
  obtain ⟨k, hk, rfl⟩ : ∃ k : Nat, k < 4 ∧ q = k := ⟨q.toNat, by omega, by omega⟩
  obtain ⟨j, hj⟩ := lev_ex hO0
  refine ex_assign ok p4 (ev_call ok Gm.1 Gm.2 (evs_cons (ev_item (ev_list (evs_cons (ev_str (evs_cons (ev_str (evs_cons (ev_str (evs_cons (ev_str (evs_nil ⟨by decide, fun a ha => ?_⟩)))))))))))))
  have hD : ∃ d : Str, ([V.str "put", V.str "pour", V.str "take", V.str "sink"] : List V)[k]? = some (V.str d) ∧ (∀ x y : Int, [V.int x, V.int (x + y), V.int (x + x), V.int (x + x + x)][k]? = some (V.int (due d x y))) := by
    match k, hk with
    | 0, _ => exact ⟨"put", rfl, fun x y => rfl⟩
    | 1, _ => exact ⟨"pour", rfl, fun x y => rfl⟩
    | 2, _ => exact ⟨"take", rfl, fun x y => by show some (V.int (x + x)) = some (V.int (2 * x)); congr 2; omega⟩
    | 3, _ => exact ⟨"sink", rfl, fun x y => by show some (V.int (x + x + x)) = some (V.int (3 * x)); congr 2; omega⟩
  obtain ⟨d, hd1, hd2⟩ := hD
  refine ev_name ok i3 ⟨a, _, k, _, rfl, rfl, i0, by decide, hd1, ?_⟩
  refine evs_cons (ev_name ok i1 (evs_cons (ev_name ok i2 (evs_nil (most_spec fc (by omega) (by omega) hT0 (fun k1 j1 hk1 hj1 => ?_) ⟨j, hj⟩)))))
  refine ex_sub (List.nil_sublist _) ?_
  refine ex_assign ok p5 (ev_call ok Gl.1 Gl.2 (evs_cons (ev_name ok i1 (evs_nil (llevels_spec fc fun k2 hk2 => ?_)))))
  obtain rfl := hk1.one hk2
  refine ex_assign ok p6 (ev_item (ev_list (evs_cons (ev_name ok i5 (evs_cons (ev_binop (ev_name ok i5 (ev_call ok Gl.1 Gl.2 (evs_cons (ev_name ok i2 (evs_nil (llevels_spec fc fun j2 hj2 => ?_))))))))))))
  obtain rfl := hj1.one hj2
  refine ⟨_, _, _, rfl, rfl, rfl, evs_cons (ev_binop (ev_name ok i5 (ev_name ok i5 ⟨_, _, _, rfl, rfl, rfl, ?_⟩)))⟩
  refine evs_cons (ev_binop (ev_binop (ev_name ok i5 (ev_name ok i5 ⟨_, _, _, rfl, rfl, rfl, ev_name ok i5 ⟨_, _, _, rfl, rfl, rfl, ?_⟩⟩))))
  refine evs_nil ⟨by show 4 ≤ _; decide, fun a ha => ?_⟩
  refine ev_name ok i3 ⟨a, _, k, _, rfl, rfl, i0, by show 4 ≤ _; decide, hd2 _ _, ?_⟩
  refine ex_return (ev_and (ev_bcall ok (b_isi fc rfl) (evs_cons (ev_name ok i4 (evs_cons (ev_bname ok (b_int fc rfl) (evs_nil (cl_isi rfl PyProof.Rows.meta_int PyProof.Rows.sub_int_int ⟨true, rfl, bt ?_⟩))))))))
  refine ev_and (ev_not (ev_bcall ok (b_isi fc rfl) (evs_cons (ev_name ok i4 (evs_cons (ev_bname ok (b_bool fc rfl) (evs_nil (cl_isi_no rfl PyProof.Rows.meta_bool PyProof.Rows.sub_int_bool ⟨false, rfl, true, rfl, bt ?_⟩))))))))
  refine ev_one (ev_cmp (ev_name ok i4 (ev_name ok i6 ⟨true, ?_, rfl⟩)))
  show some (_ == _) = some true
  simp)
