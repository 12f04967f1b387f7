import PyProof.Rows.All
import Wide.All
import OpenK.AllK
import Wide.FinOn
import KE.KSortTup
import PySem.Challenge.RW_nz0136_01
set_option Elab.async false
local macro_rules | `(tactic| omega) => `(tactic| first | lia | omega +splitDisjunctions)
section
open PySem PySem.W PyProof.Rows
set_option Elab.async false
set_option maxRecDepth 100000
namespace Mine
section
local macro_rules | `(tactic| o_head (kHook $K $a $p)) => `(tactic| (refine (?_ : (Params → Frag) → List PySem.Addr → _) $K $a; assumption))
theorem hd (h : (Params → Frag) → List PySem.Addr → PySem.Challenge.rw_nz0136_01.row.Holds) : PySem.Challenge.rw_nz0136_01.row.Holds := by
  k_head
end
end Mine
end
section
open PySem PySem.W PyProof.Rows
set_option Elab.async false
set_option maxRecDepth 100000
set_option maxHeartbeats 0
namespace Mine
noncomputable def sel {s0 s1 s2 s3 s4 s5 s6 s7 s8 s9 s10 s11 s12 s13 s14 s15 s16 s17 s18 s19 s20 s21 s22 : Stmt} (_ : PySem.Challenge.pw_nz0136_01.main.body = [s0, s1, s2, s3, s4, s5, s6, s7, s8, s9, s10, s11, s12, s13, s14, s15, s16, s17, s18, s19, s20, s21, s22]) : List Stmt :=
  [s1, s2, s4, s5, s6, s7, s8, s9, s11, s12, s13, s14, s15, s16, s17, s18, s19, s20, s21, s22]
noncomputable def view : Program := { PySem.Challenge.pw_nz0136_01 with main := { PySem.Challenge.pw_nz0136_01.main with body := sel (by rfl) } }
noncomputable def P0 : Params := { strHash := fun _ => 0, shareClass := id, mergeTok := id, idOf := fun _ => 0, idOfShared := fun _ _ => 0, followText := fun _ => false, idOfImm := fun _ => 0 }
noncomputable def as_ : List Addr := (hd.heap_1 P0).map (·.1)
theorem as_ok (P : Params) : as_ = (hd.heap_1 P).map (·.1) := by kernel_rfl
end Mine
end
section
open PySem PySem.W PyProof.Rows
set_option Elab.async false
set_option maxRecDepth 100000
set_option maxHeartbeats 0
namespace Mine
noncomputable abbrev HH : Hook := kHook hd.heap_1 as_ as_ok
theorem left : LeftO PySem.Challenge.rw_nz0136_01.row.prog view [] (fun s => xlAt view [] s && recOk (RowW.records PySem.Challenge.rw_nz0136_01.row.toRowW) s) HH.obs HH.val 3258 := by
  intro w
  delta openEnds fencedOpening topFrom topStub laidKept staticsOk namesBound openGood expectedOf plainGoodE plainGoodD wideGood clsGoodW pinGoodD
  rw [PySem.W.Fast.te14364793385576792824, PySem.W.Fast.te4187177175401517315, PySem.W.Fast.te10274390034422433532, PySem.W.Fast.te1435165496053646825, PySem.W.Fast.te14289696077712309145, PySem.W.Fast.te14082659384304107361, PySem.W.Fast.te8920871248978507458, PySem.W.Fast.te5923862056798008813, PySem.W.Fast.te17154629097778926822, PySem.W.Fast.te12822647523644345616, PySem.W.Fast.te18344453789297297638, PySem.W.Fast.te3247288618530077131, PySem.W.Fast.te821141287760084731, PySem.W.Fast.te3399658132070893891, PySem.W.Fast.te210736558901404530, PySem.W.Fast.te4354255287344443571, PySem.W.Fast.te694669760492028198, PySem.W.Fast.te1571739515156823405]
  kernel_rfl
end Mine
end
section
open PySem PySem.W PyProof.Rows PySem.Spec PySem.Calls
set_option Elab.async false
set_option maxRecDepth 100000
namespace Mine

noncomputable abbrev PG : Program := PySem.Challenge.rw_nz0136_01.row.prog
noncomputable abbrev At (env : Env) (outer : List Env) (n : Nat) : Around := { handled := none, depth := n, frames := some (env :: outer), guards := none, units := 10 * n }

theorem in_up {A A' : Around} {Γ : PySem.Ctx} (h : Γ.In A) (h1 : A.handled = A'.handled) (hd : A.depth ≤ A'.depth) (hf : A.frames = A'.frames) (hg : A'.guards = none) (hu : A.units ≤ A'.units) : Γ.In A' :=
  ⟨h.1.trans h1, Nat.le_trans h.2.1 hd, fun l q => h.2.2.1 l (hf.trans q), fun g q => (by rw [hg] at q; cases q), Nat.le_trans h.2.2.2.2 hu⟩
theorem wp_up {α : Type} {M : Model} {A A' : Around} {t : Sem α} {Q : α → Shared → Prop} {E : Value → Shared → Prop} {s : Shared} (h : wpAny M A' t Q E s) (h1 : A.handled = A'.handled) (hd : A.depth ≤ A'.depth) (hf : A.frames = A'.frames) (hg : A'.guards = none) (hu : A.units ≤ A'.units) :
    wpAny M A t Q E s := fun Γ p hΓ => h Γ p (in_up hΓ h1 hd hf hg hu)

theorem gs_refl (h : Heap) (W : List Addr) : GSub h h W := fun _ _ e _ => e
theorem gs_trans {h₁ h₂ h₃ : Heap} {W : List Addr} (a : GSub h₁ h₂ W) (b : GSub h₂ h₃ W) : GSub h₁ h₃ W := fun x o e n => b x o (a x o e n) n
theorem gs_mono {h₁ h₂ : Heap} {W W' : List Addr} (a : GSub h₁ h₂ W) (s : ∀ x ∈ W, x ∈ W') : GSub h₁ h₂ W' := fun x o e n => a x o e fun q => n (s x q)
theorem gs_keep {h g h' : Heap} {W : List Addr} (a : GSub h g W) (b : ∀ x o, g.get? x = some o → h'.get? x = some o) : GSub h h' W := fun x o e n => b x o (a x o e n)

theorem fmod_lo' (a : Int) {n : Int} (h : 0 < n) : 0 ≤ Int.fmod a n := Int.fmod_nonneg_of_pos a h
theorem fmod_hi' (a : Int) {n : Int} (h : 0 < n) : Int.fmod a n < n := Int.fmod_lt_of_pos a h

end Mine
end
section
open PySem PySem.W PyProof.Rows PySem.Spec PySem.Calls
set_option Elab.async false
set_option maxRecDepth 100000
namespace Mine

/-- texts compared by their numbers -/
noncomputable def nEq : List Nat → List Nat → Bool
  | [], [] => true
  | a :: x, b :: y => Nat.beq a b && nEq x y
  | _, _ => false
theorem nEq_iff : ∀ {x y : List Nat}, nEq x y = true ↔ x = y
  | [], [] => by simp [nEq]
  | [], _ :: _ => by simp [nEq]
  | _ :: _, [] => by simp [nEq]
  | a :: x, b :: y => by simp only [nEq, Bool.and_eq_true, nEq_iff (x := x) (y := y), List.cons.injEq, Nat.beq_eq]
noncomputable def sq (a b : Str) : Bool := nEq a.cps.toList b.cps.toList
theorem sq_iff {a b : Str} : sq a b = true ↔ a = b := by
  unfold sq
  rw [nEq_iff]
  constructor
  · intro h; cases a; cases b; simp only [Str.mk.injEq]; exact Array.toList_inj.mp h
  · rintro rfl; rfl
noncomputable def lk {α : Type} : List (Str × α) → Str → Option α
  | [], _ => none
  | (y, v) :: r, x => match sq y x with | true => some v | false => lk r x
theorem lk_cons {α : Type} {y x : Str} {v : α} {r : List (Str × α)} : lk ((y, v) :: r) x = if x = y then some v else lk r x := by
  by_cases h : x = y
  · rw [if_pos h, lk, show sq y x = true from sq_iff.mpr h.symm]
  · rw [if_neg h, lk]
    cases q : sq y x with
    | false => rfl
    | true => exact absurd (sq_iff.mp q).symm h
theorem lk_mem {α : Type} : ∀ {m : List (Str × α)} {x : Str} {v : α}, lk m x = some v → (x, v) ∈ m
  | [], _, _, h => by cases h
  | (y, u) :: r, x, v, h => by
    rw [lk_cons] at h
    by_cases e : x = y
    · rw [if_pos e] at h; cases h; rw [e]; exact .head _
    · rw [if_neg e] at h; exact .tail _ (lk_mem h)

/-- the tuples of a heap, all else hidden -/
noncomputable def isT (o : Obj) : Bool := o.cls == .type "tuple" && (match o.data with | .seq .. => true | _ => false)
noncomputable def hideO (o : Obj) : Obj := match isT o with
  | true => o
  | false => { cls := .none, data := .freed }
noncomputable def tups (h : Heap) : Heap := ⟨h.objs.map hideO, h.life⟩
theorem tups_get {h : Heap} {b : Addr} {o : Obj} : (tups h).get? b = some o ↔ h.get? b = some o ∧ isT o = true := by
  unfold tups Heap.get?
  rw [Array.getElem?_map]
  cases hb : h.objs[b]? with
  | none => simp
  | some x =>
    obtain ⟨c, d, da, sl⟩ := x
    simp only [Option.map_some, hideO]
    cases q : isT ⟨c, d, da, sl⟩ with
    | true =>
      cases da <;> first | (simp [isT] at q; done) | (constructor; (intro e; cases e; exact ⟨rfl, q⟩); (rintro ⟨e, _⟩; exact e))
    | false =>
      constructor
      · intro e; cases e
      · rintro ⟨e, e2⟩
        exfalso
        cases da <;> first | (cases e; done) | (cases e; rw [q] at e2; cases e2)
theorem isT_seq {o : Obj} (h : isT o = true) : o.cls = .type "tuple" ∧ ∃ vs n, o.data = .seq vs n := by
  unfold isT at h
  obtain ⟨h1, h2⟩ := Bool.and_eq_true_iff.mp h
  refine ⟨beq_iff_eq.mp h1, ?_⟩
  cases hd : o.data <;> rw [hd] at h2 <;> first | exact ⟨_, _, rfl⟩ | cases h2

/-- heap below heap -/
noncomputable def Le (a b : Heap) : Prop := ∀ x o, a.get? x = some o → b.get? x = some o
theorem Le.refl (a : Heap) : Le a a := fun _ _ e => e
theorem Le.trans {a b c : Heap} (h : Le a b) (k : Le b c) : Le a c := fun x o e => k x o (h x o e)

/-- the call's own state: the frame's names, the ledger, the cells by their names, the tuples -/
structure St where
  m : List (Str × Value)
  n : List (Addr × Obj)
  k : List (Str × Addr × Option Value)
  t : Heap

noncomputable def St.setM (σ : St) (x : Str) (v : Value) : St := ⟨(x, v) :: σ.m, σ.n, σ.k, σ.t⟩
noncomputable def St.setN (σ : St) (i : Nat) (a : Addr) (o : Obj) : St := ⟨σ.m, σ.n.set i (a, o), σ.k, σ.t⟩
noncomputable def St.addN (σ : St) (a : Addr) (o : Obj) : St := ⟨σ.m, (a, o) :: σ.n, σ.k, σ.t⟩
noncomputable def St.setT (σ : St) (t : Heap) : St := ⟨σ.m, σ.n, σ.k, t⟩
noncomputable def setC (x : Str) (v : Value) : List (Str × Addr × Option Value) → List (Str × Addr × Option Value)
  | [] => []
  | (y, a, o) :: r => match sq y x with
    | true => (y, a, some v) :: setC x v r
    | false => (y, a, o) :: setC x v r
noncomputable def St.setK (σ : St) (x : Str) (v : Value) : St := ⟨σ.m, σ.n, setC x v σ.k, σ.t⟩
noncomputable def adrs (σ : St) : List Addr := σ.n.map (·.1) ++ σ.k.map (·.2.1)

/-- an activation: what stands around it, its ground (all that stays as it is, no frame), its names' namespace, where its
exceptions go, the frames, the heap at its start, the rest of the state -/
structure Fx where
  w : World
  A : Around
  env : Env
  h : Heap
  L : Addr
  E : Value → Shared → Prop
  S : List Env
  H : Heap
  z : Shared
noncomputable def frs (S : List Env) : List Addr := S.filterMap (·.frame)
noncomputable def Lift (s s' : Shared) : Prop := ∃ h tk, s' = { s with heap := h, toks := tk }
noncomputable def Own (h₀ : Heap) (L a : Addr) : Prop := a ≠ L ∧ h₀.get? a = none
/-- a frame of which some names are known -/
structure FrP (h₀ : Heap) (L : Addr) (h : Heap) (m : List (Str × Value)) : Prop where
  ns : ∃ M, h.Ns L M ∧ ∀ x v, lk m x = some v → M x = some v
  keep : ∀ b o, h₀.get? b = some o → h.get? b = some o
  above : h₀.objs.size ≤ L
noncomputable def plainO (o : Obj) : Prop := isT o = false ∧ ∀ vs, o.data ≠ .fields vs

section
variable (c : Fx)

structure R (σ : St) (s : Shared) : Prop where
  F : FrP c.h c.L s.heap σ.m
  N : News c.h c.L s.heap σ.n
  K : ∀ y ∈ σ.k, c.env.cells.lookup y.1 = some y.2.1 ∧ s.heap.IsCell y.2.1 y.2.2 ∧ Own c.h c.L y.2.1
  D : (adrs σ).Nodup
  O : ∀ a ∈ adrs σ, a ∉ frs c.S
  V : Le σ.t (tups s.heap)
  T : ∀ b ∈ frs c.S, b ≠ c.L → ∃ o sl, c.H.get? b = some o ∧ plainO o ∧ s.heap.get? b = some { o with slots := sl }
  G : ∀ b ∈ frs c.S, c.h.get? b = none
  Z : Lift c.z s

/-- a state that knows less -/
noncomputable def Less (σ' σ : St) : Prop := (∀ x v, lk σ'.m x = some v → lk σ.m x = some v) ∧ σ'.n.Sublist σ.n ∧ σ'.k = σ.k ∧ Le σ'.t σ.t
noncomputable def Post {α : Type} (Q : α → St → Prop) (v : α) (s : Shared) : Prop := ∃ σ, R c σ s ∧ Q v σ
end

noncomputable def Gl : List (Str × Value) := [
  (Str.ofString "_law_next", .ref 180), (Str.ofString "len", .builtin "len"), (Str.ofString "abs", .builtin "abs"), (Str.ofString "range", .type "range"),
  (Str.ofString "tuple", .type "tuple"), (Str.ofString "list", .type "list"), (Str.ofString "sorted", .builtin "sorted"), (Str.ofString "int", .type "int"),
  (Str.ofString "set", .type "set"), (Str.ofString "isinstance", .builtin "isinstance"), (Str.ofString "str", .type "str"),
  (Str.ofString "RULES", .ref 72), (Str.ofString "order_of", .ref 79), (Str.ofString "tidy", .ref 86), (Str.ofString "is_tidy", .ref 93), (Str.ofString "resolve_on", .ref 98), (Str.ofString "Steps", .ref 169),
  (Str.ofString "ProofFault", .ref 69), (Str.ofString "_law_table", .ref 187), (Str.ofString "_law_clause", .ref 192), (Str.ofString "_law_left", .ref 199), (Str.ofString "_law_literals", .ref 206),
  (Str.ofString "_law_is_in_order", .ref 211), (Str.ofString "_law_resolves_right", .ref 218), (Str.ofString "_law_refused", .ref 225), (Str.ofString "_law_links", .ref 230), (Str.ofString "_law_chained", .ref 235),
  (Str.ofString "_law_are_refused", .ref 240)]

noncomputable def GOk (w : World) (p : Str × Value) : Prop :=
  nsIn (hd.heap_1 w.params) mainGlobals p.1 = some (some p.2) ∨ (nsIn (hd.heap_1 w.params) mainGlobals p.1 = some none ∧ bootBuiltins p.1 = some p.2 ∧ p.1 ≠ "__name__")
theorem fill_ : ∀ w : World, Mine.hd.heap_1 w.params = Mine.hd.heap_1 w.params ∧ PySem.Challenge.rw_nz0136_01 = PySem.Challenge.rw_nz0136_01 := by
  k_fill
  exact fun _ => ⟨rfl, rfl⟩
theorem Gl_ok (w : World) : ∀ p ∈ Gl, GOk w p := by
  unfold Gl
  repeat' (refine List.forall_mem_cons.mpr ⟨?_, ?_⟩)
  all_goals first
    | exact List.forall_mem_nil _
    | (refine Or.inl ?_; dsimp only; k_is)
    | (refine Or.inr ⟨?_, ?_, ?_⟩ <;> dsimp only; k_is; (first | boot_by_name | boot_fast); decide)

/-- what a call of the text's own may stand on -/
inductive Callee (w : World) : Value → Prop
  | bi (id : String) : Callee w (.builtin id)
  | ty (T : String) : Callee w (.type T)
  | own {v : Value} : keepIn (hd.heap_1 w.params) v = true → Callee w v

section
variable (c : Fx) (sc : List (Str × NameKind))

noncomputable def raw {α : Type} (t : Sem α) (Q : α → St → Prop) (σ : St) : Prop := ∀ s, R c σ s → wpAny (model PG c.w) c.A t (Post c Q) c.E s

noncomputable def nm (σ : St) (x : Str) : Option Value := match lk sc x with
  | some .local => lk σ.m x
  | some .globalImplicit => lk Gl x
  | some .cell => (lk σ.k x).bind (·.2)
  | some .free => match sq x (Str.ofString "__classdict__") with | true => none | false => (lk σ.k x).bind (·.2)
  | _ => none

noncomputable def vName (x : Str) (p : Pos) (Q : Value → St → Prop) (σ : St) : Prop := match sq x (Str.ofString "__debug__"), nm sc σ x with
  | false, some v => Q v σ
  | _, _ => raw c (eval (.Name x p) c.env) Q σ

noncomputable def vBinI (op : Operator) (x y : Int) (t u : Tok) (Q : Value → St → Prop) (σ : St) : Prop := match op with
  | .Add => ∀ t, Q (.int (x + y) t) σ
  | .Sub => ∀ t, Q (.int (x - y) t) σ
  | .Mult => IntMulOk x y ∧ ∀ t, Q (.int (x * y) t) σ
  | .Mod => y ≠ 0 ∧ ∀ t, Q (.int (x.fmod y) t) σ
  | .BitOr => ∀ t, Q (.int (Builtin.bitOr x y) t) σ
  | op => raw c (binaryOp op (.int x t) (.int y u)) Q σ
noncomputable def vCmpI (op : CmpOp) (x y : Int) (t u : Tok) (Q : Value → St → Prop) (σ : St) : Prop := match op with
  | .Lt => Q (.bool (decide (x < y))) σ
  | .LtE => Q (.bool (decide (x ≤ y))) σ
  | .Gt => Q (.bool (decide (y < x))) σ
  | .GtE => Q (.bool (decide (y ≤ x))) σ
  | .Eq => Q (.bool (x == y)) σ
  | .NotEq => Q (.bool (x != y)) σ
  | op => raw c (compareOp op (.int x t) (.int y u)) Q σ
noncomputable def twoI (a b : Value) (f : Int → Int → Tok → Tok → Prop) (g : Prop) : Prop := match a with
  | .int x t => (match b with
    | .int y u => f x y t u
    | _ => g)
  | _ => g
noncomputable def vBin (op : Operator) (a b : Value) (Q : Value → St → Prop) (σ : St) : Prop := twoI a b (fun x y t u => vBinI c op x y t u Q σ) (raw c (binaryOp op a b) Q σ)
noncomputable def vCmp (op : CmpOp) (a b : Value) (Q : Value → St → Prop) (σ : St) : Prop := twoI a b (fun x y t u => vCmpI c op x y t u Q σ) (raw c (compareOp op a b) Q σ)
noncomputable def vNeg (a : Value) (Q : Value → St → Prop) (σ : St) : Prop := match a with
  | .int x _ => ∀ t, Q (.int (-x) t) σ
  | a => raw c (unaryOp .USub a) Q σ

noncomputable def vTr (a : Value) (Q : Bool → St → Prop) (σ : St) : Prop := match a with
  | .bool b => Q b σ
  | .none => Q false σ
  | .int x _ => Q (x != 0) σ
  | a => raw c (truthy a) Q σ

noncomputable def br (b : Bool) (P₁ P₂ : Prop) : Prop := (b = true → P₁) ∧ (b = false → P₂)

noncomputable def vEs (ve : Expr → (Value → St → Prop) → St → Prop) : List Expr → (List Value → St → Prop) → St → Prop
  | [], Q, σ => Q [] σ
  | e :: r, Q, σ => ve e (fun v σ₁ => vEs ve r (fun vs σ₂ => Q (v :: vs) σ₂) σ₁) σ

/-- what a method of an object is: the function and what stands ahead of its arguments -/
noncomputable def Meth (ov : Value) (name : Str) (f : Value) (first : List Value) (σ : St) : Prop :=
  Callee c.w f ∧ ∀ s, R c σ s → ∀ (pl : Sem Bool) (Q' : Value × List Value → Shared → Prop) (E' : Value → Shared → Prop), (∀ tk, Q' (f, first) { s with toks := tk }) → wpAny (model PG c.w) c.A (getMethod ov name pl) Q' E' s

/-- the kind of a node, by a number -/
noncomputable def tag (e : Expr) : Nat := match e with
  | .Starred .. => 1
  | .Call .. => 2
  | .ListComp .. => 3
  | .SetComp .. => 3
  | .DictComp .. => 3
  | .Slice .. => 4
  | _ => 0
noncomputable def noStar (es : List Expr) : Bool := es.all fun e => !(Nat.beq (tag e) 1)
noncomputable def notSuper (e : Expr) : Bool := !(Nat.beq (tag e) 2)
noncomputable def plainVal (e : Expr) : Bool := !(Nat.beq (tag e) 3)
noncomputable def plainSlice (e : Expr) : Bool := !(Nat.beq (tag e) 4)
noncomputable def cmpPlain (op : CmpOp) (r : Expr) : Bool := !behindInMarks op r

noncomputable def tupObj (vs : List Value) : Obj := { cls := .type "tuple", data := .seq vs.toArray }
noncomputable def lstObj (vs : List Value) : Obj := { cls := .type "list", data := .seq vs.toArray }
/-- a new object's address is none of the ledger's -/
noncomputable def NewAt (a : Addr) (σ : St) : Prop := a ∉ adrs σ

noncomputable abbrev VE := Expr → (Value → St → Prop) → St → Prop
noncomputable abbrev VT := Expr → (Bool → St → Prop) → St → Prop
noncomputable def vConst (cn : Const) (k : Nat) (p : Pos) (Q : Value → St → Prop) (σ : St) : Prop := match cn with
  | .int i => ∀ t, Q (.int i t) σ
  | .str x => ∀ t, Q (.str x t) σ
  | .bool b => Q (.bool b) σ
  | .none => Q .none σ
  | cn => raw c (eval (.Constant cn k p) c.env) Q σ
noncomputable def vUnE (ve : VE) (op : UnaryOp) (x : Expr) (p : Pos) (Q : Value → St → Prop) (σ : St) : Prop := match op with
  | .USub => ve x (fun a σ₁ => vNeg c a Q σ₁) σ
  | .Not => ve x (fun a σ₁ => vTr c a (fun b σ₂ => Q (.bool (!b)) σ₂) σ₁) σ
  | op => raw c (eval (.UnaryOp op x p) c.env) Q σ
noncomputable def vCmpE (ve : VE) (l : Expr) (ops : List CmpOp) (rs : List Expr) (p : Pos) (Q : Value → St → Prop) (σ : St) : Prop := match ops, rs with
  | [op], [r] => (match cmpPlain op r with
    | true => ve l (fun a σ₁ => ve r (fun b σ₂ => vCmp c op a b Q σ₂) σ₁) σ
    | false => raw c (eval (.Compare l [op] [r] p) c.env) Q σ)
  | ops, rs => raw c (eval (.Compare l ops rs p) c.env) Q σ
noncomputable def vBoolE (ve : VE) (op : BoolOp) (es : List Expr) (p : Pos) (Q : Value → St → Prop) (σ : St) : Prop := match es with
  | [x, y] => (match op with
    | .And => ve x (fun a σ₁ => vTr c a (fun b σ₂ => br b (ve y Q σ₂) (Q a σ₂)) σ₁) σ
    | .Or => ve x (fun a σ₁ => vTr c a (fun b σ₂ => br b (Q a σ₂) (ve y Q σ₂)) σ₁) σ)
  | es => raw c (eval (.BoolOp op es p) c.env) Q σ
noncomputable def vNewT (Q : Value → St → Prop) (vs : List Value) (σ : St) : Prop := vs.length ≤ sizeLine ∧ ∀ a t', Le σ.t t' → t'.get? a = some (tupObj vs) → Q (.ref a) (σ.setT t')
noncomputable def vNewL (Q : Value → St → Prop) (vs : List Value) (σ : St) : Prop := vs.length ≤ sizeLine ∧ ∀ a, NewAt a σ → Q (.ref a) (σ.addN a (lstObj vs))
noncomputable def vTupE (ve : VE) (es : List Expr) (k : Nat) (p : Pos) (Q : Value → St → Prop) (σ : St) : Prop := match noStar es with
  | true => vEs ve es (vNewT Q) σ
  | false => raw c (eval (.Tuple es k p) c.env) Q σ
noncomputable def vLstE (ve : VE) (es : List Expr) (p : Pos) (Q : Value → St → Prop) (σ : St) : Prop := match noStar es with
  | true => vEs ve es (vNewL Q) σ
  | false => raw c (eval (.List es p) c.env) Q σ
noncomputable def vArgs (ve : VE) (f : Value) (first : List Value) (args : List Expr) (Q : Value → St → Prop) (σ : St) : Prop := vEs ve args (fun vs σ₂ => raw c (call f (first ++ vs)) Q σ₂) σ
noncomputable def vMethE (ve : VE) (o : Expr) (name : Str) (ap : Pos) (args : List Expr) (p : Pos) (Q : Value → St → Prop) (σ : St) : Prop := match notSuper o && noStar args && (ap.endLine == p.line) && decide (args.length < 28) with
  | true => ve o (fun ov σ₁ => ∃ f first, Meth c ov name f first σ₁ ∧ vArgs c ve f first args Q σ₁) σ
  | false => raw c (eval (.Call (.Attribute o name ap) args [] p) c.env) Q σ
noncomputable def vCallE (ve : VE) (f : Expr) (args : List Expr) (kws : List Keyword) (p : Pos) (Q : Value → St → Prop) (σ : St) : Prop := match kws with
  | [] => (match f with
    | .Attribute o name ap => vMethE c ve o name ap args p Q σ
    | .Name x fp => (match noStar args with
      | true => ve (.Name x fp) (fun fv σ₁ => Callee c.w fv ∧ vArgs c ve fv [] args Q σ₁) σ
      | false => raw c (eval (.Call (.Name x fp) args [] p) c.env) Q σ)
    | f => raw c (eval (.Call f args [] p) c.env) Q σ)
  | kws => raw c (eval (.Call f args kws p) c.env) Q σ
noncomputable def vSubE (ve : VE) (v i : Expr) (p : Pos) (Q : Value → St → Prop) (σ : St) : Prop := match plainSlice i with
  | true => ve v (fun o σ₁ => ve i (fun j σ₂ => raw c (subscriptTail v i o j) Q σ₂) σ₁) σ
  | false => raw c (eval (.Subscript v i p) c.env) Q σ
noncomputable def vAttE (ve : VE) (v : Expr) (a : Str) (p : Pos) (Q : Value → St → Prop) (σ : St) : Prop := match notSuper v with
  | true => ve v (fun o σ₁ => raw c (getAttr o a true) Q σ₁) σ
  | false => raw c (eval (.Attribute v a p) c.env) Q σ
noncomputable def vBoolT (vt : VT) (op : BoolOp) (es : List Expr) (p : Pos) (Q : Bool → St → Prop) (σ : St) : Prop := match es with
  | [x, y] => (match op with
    | .And => vt x (fun b σ₁ => br b (vt y Q σ₁) (Q false σ₁)) σ
    | .Or => vt x (fun b σ₁ => br b (Q true σ₁) (vt y Q σ₁)) σ)
  | es => raw c (isTrue (.BoolOp op es p) c.env (eval (.BoolOp op es p) c.env)) Q σ
noncomputable def vNotT (vt : VT) (op : UnaryOp) (x : Expr) (p : Pos) (Q : Bool → St → Prop) (σ : St) : Prop := match op with
  | .Not => vt x (fun b σ₁ => Q (!b) σ₁) σ
  | op => raw c (isTrue (.UnaryOp op x p) c.env (eval (.UnaryOp op x p) c.env)) Q σ
noncomputable def vCmpB (op : CmpOp) (a b : Value) (Q : Bool → St → Prop) (σ : St) : Prop := vCmp c op a b (fun b σ₃ => vTr c b Q σ₃) σ
noncomputable def vCmpT (ve : VE) (l : Expr) (ops : List CmpOp) (rs : List Expr) (p : Pos) (Q : Bool → St → Prop) (σ : St) : Prop := match ops, rs with
  | [op], [r] => (match cmpPlain op r with
    | true => ve l (fun a σ₁ => ve r (fun b σ₂ => vCmpB c op a b Q σ₂) σ₁) σ
    | false => raw c (isTrue (.Compare l [op] [r] p) c.env (eval (.Compare l [op] [r] p) c.env)) Q σ)
  | [o₁, o₂], [r₁, r₂] => (match cmpPlain o₁ r₁ && cmpPlain o₂ r₂ with
    | true => ve l (fun a σ₁ => ve r₁ (fun b σ₂ => vCmpB c o₁ a b (fun t σ₄ => br t (ve r₂ (fun d σ₅ => vCmpB c o₂ b d Q σ₅) σ₄) (Q false σ₄)) σ₂) σ₁) σ
    | false => raw c (isTrue (.Compare l [o₁, o₂] [r₁, r₂] p) c.env (eval (.Compare l [o₁, o₂] [r₁, r₂] p) c.env)) Q σ)
  | ops, rs => raw c (isTrue (.Compare l ops rs p) c.env (eval (.Compare l ops rs p) c.env)) Q σ

mutual
noncomputable def vE : Nat → Expr → (Value → St → Prop) → St → Prop
  | 0, e, Q, σ => raw c (eval e c.env) Q σ
  | n + 1, e, Q, σ => match e with
    | .Constant cn k p => vConst c cn k p Q σ
    | .Name x p => vName c sc x p Q σ
    | .BinOp l op r _ => vE n l (fun a σ₁ => vE n r (fun b σ₂ => vBin c op a b Q σ₂) σ₁) σ
    | .UnaryOp op x p => vUnE c (vE n) op x p Q σ
    | .Compare l ops rs p => vCmpE c (vE n) l ops rs p Q σ
    | .IfExp t b o _ => vT n t (fun d σ₁ => br d (vE n b Q σ₁) (vE n o Q σ₁)) σ
    | .BoolOp op es p => vBoolE c (vE n) op es p Q σ
    | .Tuple es k p => vTupE c (vE n) es k p Q σ
    | .List es p => vLstE c (vE n) es p Q σ
    | .Call f args kws p => vCallE c (vE n) f args kws p Q σ
    | .Subscript v i p => vSubE c (vE n) v i p Q σ
    | .Attribute v a p => vAttE c (vE n) v a p Q σ
    | e => raw c (eval e c.env) Q σ
noncomputable def vT : Nat → Expr → (Bool → St → Prop) → St → Prop
  | 0, e, Q, σ => raw c (isTrue e c.env (eval e c.env)) Q σ
  | n + 1, e, Q, σ => match e with
    | .UnaryOp op x p => vNotT c (vT n) op x p Q σ
    | .BoolOp op es p => vBoolT c (vT n) op es p Q σ
    | .Compare l ops rs p => vCmpT c (vE n) l ops rs p Q σ
    | .Name x p => vE n (.Name x p) (fun v σ₁ => vTr c v Q σ₁) σ
    | .Call f args kw p => vE n (.Call f args kw p) (fun v σ₁ => vTr c v Q σ₁) σ
    | e => raw c (isTrue e c.env (eval e c.env)) Q σ
end

noncomputable def vSto (x : Str) (v : Value) (Q : Unit → St → Prop) (σ : St) : Prop := match lk sc x with
  | some .local => Q () (σ.setM x v)
  | some .cell => (match lk σ.k x with
    | some _ => Q () (σ.setK x v)
    | none => raw c (storeName c.env x v) Q σ)
  | _ => raw c (storeName c.env x v) Q σ
noncomputable def vAsg (ve : VE) (ts : List Expr) (e : Expr) (p : Pos) (Q : Flow → St → Prop) (σ : St) : Prop := match ts with
  | [t] => (match t with
    | .Name x p' => (match plainVal e with
      | true => ve e (fun v σ₁ => vSto c sc x v (fun _ => Q .next) σ₁) σ
      | false => raw c (exec (.Assign [.Name x p'] e p) c.env) Q σ)
    | .Subscript o i p₁ => (match plainVal e with
      | true => ve e (fun v σ₁ => ve o (fun ov σ₂ => ve i (fun iv σ₃ => raw c (setItem ov iv v) (fun _ σ₄ => Q .next σ₄) σ₃) σ₂) σ₁) σ
      | false => raw c (exec (.Assign [.Subscript o i p₁] e p) c.env) Q σ)
    | t => raw c (exec (.Assign [t] e p) c.env) Q σ)
  | ts => raw c (exec (.Assign ts e p) c.env) Q σ
noncomputable def vExprS (ve : VE) (e : Expr) (p : Pos) (Q : Flow → St → Prop) (σ : St) : Prop := match plainVal e with
  | true => ve e (fun _ σ₁ => Q .next σ₁) σ
  | false => raw c (exec (.Expr e p) c.env) Q σ
noncomputable def vRet (ve : VE) (e : Option Expr) (Q : Flow → St → Prop) (σ : St) : Prop := match e with
  | some e => ve e (fun v σ₁ => Q (.ret v) σ₁) σ
  | none => Q (.ret .none) σ
noncomputable def vThen (K : St → Prop) (Q : Flow → St → Prop) (f : Flow) (σ : St) : Prop := match f with
  | .next => K σ
  | f => Q f σ

mutual
noncomputable def vS : Nat → Stmt → (Flow → St → Prop) → St → Prop
  | 0, st, Q, σ => raw c (exec st c.env) Q σ
  | n + 1, st, Q, σ => match st with
    | .Assign ts e p => vAsg c sc (vE c sc 40) ts e p Q σ
    | .Expr e p => vExprS c (vE c sc 40) e p Q σ
    | .If t b o _ => vT c sc 40 t (fun d σ₁ => br d (vSs n b Q σ₁) (vSs n o Q σ₁)) σ
    | .Return e _ => vRet (vE c sc 40) e Q σ
    | .Break _ => Q .brk σ
    | .Continue _ => Q .cont σ
    | .Pass _ => Q .next σ
    | st => raw c (exec st c.env) Q σ
noncomputable def vSs : Nat → List Stmt → (Flow → St → Prop) → St → Prop
  | 0, sts, Q, σ => raw c (execs sts c.env) Q σ
  | n + 1, sts, Q, σ => match sts with
    | [] => Q .next σ
    | st :: r => vS n st (vThen (vSs n r Q) Q) σ
end
end
end Mine
end
section
open PySem PySem.W PyProof.Rows PySem.Spec PySem.Calls
set_option Elab.async false
set_option maxRecDepth 100000
set_option linter.unusedVariables false
namespace Mine

structure Act (sc : List (Str × NameKind)) (c : Fx) : Prop where
  fk : c.env.scope.kind = .function
  gl : c.env.globals = mainGlobals
  bi : c.env.builtins = builtinsNs
  lo : c.env.locals = c.L
  sc : c.env.scope.names = sc
  X : (hd.heap_1 c.w.params).In c.h
  T : ∃ mean mg mb, Top view (looseW view []) mean mg mb c.h
theorem lk_eq {α : Type} {x : Str} : ∀ {m : List (Str × α)}, lk m x = m.lookup x
  | [] => rfl
  | (y, v) :: r => by
    rw [lk_cons, List.lookup_cons]
    by_cases hx : x = y
    · subst hx; simp
    · rw [if_neg hx, show (x == y) = false from beq_eq_false_iff_ne.mpr hx]; exact lk_eq
theorem Act.kind {sc : List (Str × NameKind)} {c : Fx} (a : Act sc c) {x : Str} {k : NameKind} (h : lk sc x = some k) : c.env.kindOf x = some k := by
  show c.env.scope.names.lookup x = some k
  rw [a.sc, ← lk_eq]; exact h

theorem Lift.refl (s : Shared) : Lift s s := ⟨s.heap, s.toks, rfl⟩
theorem Lift.trans {a b c : Shared} : Lift a b → Lift b c → Lift a c := by
  rintro ⟨h, t, rfl⟩ ⟨h', t', rfl⟩; exact ⟨h', t', rfl⟩
theorem Lift.tk (s : Shared) (t : Nat) : Lift s { s with toks := t } := ⟨s.heap, t, rfl⟩

section
variable {c : Fx} {sc : List (Str × NameKind)} {s : Shared} {σ : St}

theorem R.tk (h : R c σ s) (t : Nat) : R c σ { s with toks := t } := ⟨h.F, h.N, h.K, h.D, h.O, h.V, h.T, h.G, h.Z.trans (Lift.tk s t)⟩
theorem pst {α : Type} {Q : α → St → Prop} {v : α} (r : R c σ s) (q : Q v σ) : Post c Q v s := ⟨σ, r, q⟩
theorem seq_ {α : Type} {t : Sem α} {Q₁ : α → St → Prop} {K : α → Shared → Prop} (h : wpAny (model PG c.w) c.A t (Post c Q₁) c.E s) (hk : ∀ v σ' s', R c σ' s' → Q₁ v σ' → K v s') : wpAny (model PG c.w) c.A t K c.E s :=
  wpAny_mono h (fun v x p => let ⟨σ', r, q⟩ := p; hk v σ' x r q) fun _ _ e => e
theorem done {α : Type} {Q : α → St → Prop} {v : α} (r : R c σ s) (q : Q v σ) (t : Nat) : Post c Q v { s with toks := t } := pst (r.tk t) q
theorem getL {h : Heap} {b : Addr} {o : Obj} (e : h.get? b = some o) : ({o with slots := o.slots} : Obj) = o := rfl
/-- all else stands as it is, the frames up to their slots -/
noncomputable def GF (h h' : Heap) (X S : List Addr) : Prop := (∀ b o, h.get? b = some o → b ∉ X → b ∉ S → h'.get? b = some o) ∧ ∀ b ∈ S, ∀ o, h.get? b = some o → plainO o → ∃ sl, h'.get? b = some { o with slots := sl }
theorem GF.of {h h' : Heap} {X S : List Addr} (k : ∀ b o, h.get? b = some o → b ∉ X → h'.get? b = some o) (d : ∀ x ∈ X, x ∉ S) : GF h h' X S :=
  ⟨fun b o e n _ => k b o e n, fun b hb o e _ => ⟨o.slots, k b o e fun q => d b q hb⟩⟩
/-- a step that alters nothing but X, which is the ledger's -/
structure R.Mid (c : Fx) (σ : St) (X : List Addr) (h' : Heap) : Prop where
  F : FrP c.h c.L h' σ.m
  N : ∀ p ∈ σ.n, p.1 ∉ X → h'.get? p.1 = some p.2
  K : ∀ y ∈ σ.k, c.env.cells.lookup y.1 = some y.2.1 ∧ (y.2.1 ∉ X → h'.IsCell y.2.1 y.2.2) ∧ Own c.h c.L y.2.1
  V : Le σ.t (tups h')
  T : ∀ b ∈ frs c.S, b ≠ c.L → ∃ o sl, c.H.get? b = some o ∧ plainO o ∧ h'.get? b = some { o with slots := sl }
theorem R.mid (r : R c σ s) {X : List Addr} {h' : Heap} (g : GF s.heap h' X (frs c.S)) (hX : ∀ x ∈ X, Own c.h c.L x ∧ x ∉ frs c.S ∧ ∀ o, s.heap.get? x = some o → isT o = false) : R.Mid c σ X h' := by
  obtain ⟨NM, ⟨oL, es, ep, hL, hd, hr⟩, hM⟩ := r.F.ns
  have pL : plainO oL := ⟨by unfold isT; rw [hd, Bool.and_false], fun vs => by rw [hd]; intro q; cases q⟩
  have nL : c.L ∉ X := fun q => (hX _ q).1.1 rfl
  refine ⟨⟨?_, fun b o e => ?_, r.F.above⟩, fun p hp n => g.1 _ _ (r.N p hp).1 n (r.O _ (List.mem_append_left _ (List.mem_map_of_mem hp))), fun y hy => ?_, fun b o e => ?_, fun b hb n => ?_⟩
  · by_cases q : c.L ∈ frs c.S
    · obtain ⟨sl, z⟩ := g.2 _ q _ hL pL
      exact ⟨NM, ⟨_, es, ep, z, hd, hr⟩, hM⟩
    · exact ⟨NM, ⟨oL, es, ep, g.1 _ _ hL nL q, hd, hr⟩, hM⟩
  · refine g.1 b o (r.F.keep b o e) (fun q => ?_) fun q => ?_
    · have := (hX _ q).1.2; rw [e] at this; cases this
    · have := r.G _ q; rw [e] at this; cases this
  · obtain ⟨k1, ⟨o, ho, hd'⟩, k3⟩ := r.K y hy
    exact ⟨k1, fun n => ⟨o, g.1 _ _ ho n (r.O _ (List.mem_append_right _ (List.mem_map_of_mem hy))), hd'⟩, k3⟩
  · obtain ⟨e1, e2⟩ := tups_get.mp (r.V b o e)
    refine tups_get.mpr ⟨g.1 b o e1 (fun q => ?_) fun q => ?_, e2⟩
    · have := (hX _ q).2.2 o e1; rw [e2] at this; cases this
    · by_cases l : b = c.L
      · rw [l, hL] at e1; cases e1; rw [pL.1] at e2; cases e2
      · obtain ⟨o', sl, _, p', h2⟩ := r.T b q l
        rw [h2] at e1; cases e1
        have : isT o' = true := e2
        rw [p'.1] at this; cases this
  · obtain ⟨o, sl, h1, p, h2⟩ := r.T b hb n
    obtain ⟨sl', h3⟩ := g.2 b hb _ h2 p
    exact ⟨o, sl', h1, p, h3⟩
/-- nothing of the ledger is another -/
theorem R.grow (r : R c σ s) {h' : Heap} {tk : Nat} (g : GF s.heap h' [] (frs c.S)) : R c σ { s with heap := h', toks := tk } :=
  let M := r.mid g fun x hx => (nomatch hx)
  ⟨M.F, fun p hp => ⟨M.N p hp List.not_mem_nil, (r.N p hp).2⟩, fun y hy => ⟨(M.K y hy).1, (M.K y hy).2.1 List.not_mem_nil, (M.K y hy).2.2⟩, r.D, r.O, M.V, M.T, r.G, r.Z.trans ⟨_, _, rfl⟩⟩
theorem R.top (r : R c σ s) : R c (σ.setT (tups s.heap)) s := ⟨r.F, r.N, r.K, r.D, r.O, Le.refl _, r.T, r.G, r.Z⟩
theorem adr_there (r : R c σ s) {a : Addr} (h : a ∈ adrs σ) : ∃ o, s.heap.get? a = some o := by
  rcases List.mem_append.mp h with h | h
  · obtain ⟨p, hp, rfl⟩ := List.mem_map.mp h; exact ⟨_, (r.N p hp).1⟩
  · obtain ⟨y, hy, rfl⟩ := List.mem_map.mp h
    obtain ⟨_, ⟨o, ho, _⟩, _⟩ := r.K y hy; exact ⟨o, ho⟩
theorem frs_there (r : R c σ s) {b : Addr} (h : b ∈ frs c.S) : ∃ o, s.heap.get? b = some o ∧ plainO o := by
  by_cases l : b = c.L
  · obtain ⟨NM, ⟨oL, es, ep, hL, hd, hr⟩, hM⟩ := r.F.ns
    exact ⟨oL, l ▸ hL, by unfold isT; rw [hd, Bool.and_false], fun vs => by rw [hd]; intro q; cases q⟩
  · obtain ⟨o, sl, _, p, h2⟩ := r.T b h l
    exact ⟨_, h2, p⟩
theorem R.less {σ' : St} (r : R c σ s) (l : Less σ' σ) : R c σ' s := by
  obtain ⟨l1, l2, l3, l4⟩ := l
  obtain ⟨NM, hn, hM⟩ := r.F.ns
  have sub : (adrs σ').Sublist (adrs σ) := by unfold adrs; rw [l3]; exact (l2.map _).append (List.Sublist.refl _)
  exact ⟨⟨⟨NM, hn, fun x v h => hM x v (l1 x v h)⟩, r.F.keep, r.F.above⟩, fun p hp => r.N p (l2.subset hp), by rw [l3]; exact r.K, r.D.sublist sub, fun a ha => r.O a (sub.subset ha), l4.trans r.V, r.T, r.G, r.Z⟩
/-- an object that was not of the ledger is of it now -/
theorem R.more {b : Addr} {ob : Obj} (r : R c σ s) (ho : s.heap.get? b = some ob) (hO : Own c.h c.L b) (hn : NewAt b σ) (hf : b ∉ frs c.S) : R c (σ.addN b ob) s :=
  ⟨r.F, fun p hp => by
    rcases List.mem_cons.mp hp with rfl | hp
    · exact ⟨ho, hO⟩
    · exact r.N p hp, r.K, List.nodup_cons.mpr ⟨hn, r.D⟩, fun a ha => by
    rcases List.mem_cons.mp ha with rfl | ha
    · exact hf
    · exact r.O a ha, r.V, r.T, r.G, r.Z⟩
theorem fresh_own (r : R c σ s) {b : Addr} (h : s.heap.get? b = none) : Own c.h c.L b ∧ NewAt b σ ∧ b ∉ frs c.S := by
  obtain ⟨NM, ⟨oL, _, _, hL, _⟩, _⟩ := r.F.ns
  refine ⟨⟨fun e => (by rw [e, hL] at h; cases h), ?_⟩, fun q => (by obtain ⟨o, ho⟩ := adr_there r q; rw [ho] at h; cases h), fun q => (by obtain ⟨o, ho, _⟩ := frs_there r q; rw [ho] at h; cases h)⟩
  cases q : c.h.get? b with
  | none => rfl
  | some x => rw [r.F.keep b x q] at h; cases h

theorem vName_sound (a : Act sc c) {x : Str} {p : Pos} {Q : Value → St → Prop} (h : vName c sc x p Q σ) (r : R c σ s) : wpAny (model PG c.w) c.A (eval (.Name x p) c.env) (Post c Q) c.E s := by
  unfold vName at h
  split at h
  · rename_i v hdb hv
    have hdb' : (x == ("__debug__" : Str)) = false := by
      rw [beq_eq_false_iff_ne]
      intro e
      rw [sq_iff.mpr e] at hdb; cases hdb
    unfold nm at hv
    obtain ⟨mean, mg, mb, T⟩ := a.T
    split at hv
    · rename_i hk
      replace hk := a.kind hk
      obtain ⟨M, hn, hM⟩ := r.F.ns
      exact wpAny_Name (wpAny_loadName_local a.fk hk (by rw [a.lo]; exact hn) (hM _ _ hv) (pst r h)) hdb'
    · rename_i hk
      replace hk := a.kind hk
      have hg := Gl_ok c.w _ (lk_mem hv)
      rcases hg with hg | ⟨hg, hb, hn⟩
      · exact Name_function_global a.fk hk (loadGlobal_global (env := c.env) (by rw [a.gl]; exact T.g.keeps r.F.keep) (mg_of a.X T.g hg) (pst r h)) hdb'
      · exact Name_function_global a.fk hk (loadGlobal_builtin (env := c.env) (by rw [a.gl]; exact T.g.keeps r.F.keep) (mg_none_of a.X T.g hg) (by rw [a.bi]; exact T.b.keeps r.F.keep) ((T.builtins x hn).trans hb) (pst r h)) hdb'
    · rename_i hk
      replace hk := a.kind hk
      obtain ⟨cc, hc, hw⟩ := Option.bind_eq_some_iff.mp hv
      obtain ⟨c1, c2, _⟩ := r.K _ (lk_mem hc)
      rw [hw] at c2
      exact wpAny_Name (wpAny_loadName_cell a.fk hk c1 c2 (pst r h)) hdb'
    · rename_i hk
      replace hk := a.kind hk
      split at hv
      · cases hv
      · rename_i hq
        obtain ⟨cc, hc, hw⟩ := Option.bind_eq_some_iff.mp hv
        obtain ⟨c1, c2, _⟩ := r.K _ (lk_mem hc)
        rw [hw] at c2
        have hcd : (x == ("__classdict__" : Str)) = false := by
          rw [beq_eq_false_iff_ne]
          intro e
          rw [sq_iff.mpr e] at hq; cases hq
        exact wpAny_Name (wpAny_loadName_free a.fk hk c1 c2 (pst r h) hcd) hdb'
    · cases hv
  · exact h s r

theorem two_I {a b : Value} {f : Int → Int → Tok → Tok → Prop} {g : Prop} {P : Value → Value → Prop} (h : twoI a b f g) (hf : ∀ x y t u, f x y t u → P (.int x t) (.int y u)) (hg : g → P a b) : P a b := by
  cases a with
  | int x t =>
    cases b with
    | int y u => exact hf _ _ _ _ h
    | _ => exact hg h
  | _ => exact hg h
theorem vBin_sound {op : Operator} {a b : Value} {Q : Value → St → Prop} (h : vBin c op a b Q σ) (r : R c σ s) : wpAny (model PG c.w) c.A (binaryOp op a b) (Post c Q) c.E s :=
  two_I (P := fun a b => wpAny (model PG c.w) c.A (binaryOp op a b) (Post c Q) c.E s) h (fun x y t u q => by
    cases op with
    | Add => exact PyProof.Rows.add_int (done r (q _) _)
    | Sub => exact PyProof.Rows.sub_int (done r (q _) _)
    | Mult => exact PyProof.Rows.mul_int (done r (q.2 _) _) q.1
    | Mod => exact PyProof.Rows.mod_int' q.1 (done r (q.2 _) _)
    | BitOr => exact PyProof.Rows.or_int (done r (q _) _)
    | _ => exact q s r) fun q => q s r
theorem vNeg_sound {a : Value} {Q : Value → St → Prop} (h : vNeg c a Q σ) (r : R c σ s) : wpAny (model PG c.w) c.A (unaryOp .USub a) (Post c Q) c.E s := by
  cases a with
  | int x t => exact PyProof.Rows.neg_int (done r (h _) _)
  | _ => exact h s r
theorem vCmp_sound {op : CmpOp} {a b : Value} {Q : Value → St → Prop} (h : vCmp c op a b Q σ) (r : R c σ s) : wpAny (model PG c.w) c.A (compareOp op a b) (Post c Q) c.E s :=
  two_I (P := fun a b => wpAny (model PG c.w) c.A (compareOp op a b) (Post c Q) c.E s) h (fun x y t u q => by
    cases op with
    | Lt => exact PyProof.Rows.lt_int (pst r q)
    | LtE => exact PyProof.Rows.le_int (pst r q)
    | Gt => exact PyProof.Rows.gt_int (pst r q)
    | GtE => exact PyProof.Rows.ge_int (pst r q)
    | Eq => exact PyProof.Rows.eq_int (pst r q)
    | NotEq => exact PyProof.Rows.ne_int (pst r q)
    | _ => exact q s r) fun q => q s r
theorem vTr_sound {a : Value} {Q : Bool → St → Prop} (h : vTr c a Q σ) (r : R c σ s) : wpAny (model PG c.w) c.A (truthy a) (Post c Q) c.E s := by
  cases a with
  | bool b => exact wpAny_truthy_bool (pst r h)
  | none => exact PyProof.Rows.truthy_none (pst r h)
  | int x t => exact PyProof.Rows.truthy_int (pst r h)
  | _ => exact h s r

theorem R.push (r : R c σ s) (o : Obj) : R c σ { s with heap := s.heap.push o } := r.grow (tk := s.toks) (.of (fun b x e _ => Heap.get?_push_of_some _ e) fun x hx => (nomatch hx))
theorem none_size (h : Heap) : h.get? h.objs.size = none := Heap.get?_none_of_le (Nat.le_refl _)
theorem newT_ {vs : List Value} {Q : Value → St → Prop} (r : R c σ s) (h : vNewT Q vs σ) : wpAny (model PG c.w) c.A (newTuple vs) (Post c Q) c.E s := by
  refine wpAny_newObj_type (pst (r.push (tupObj vs)).top (h.2 _ _ (r.push (tupObj vs)).V (tups_get.mpr ⟨Heap.get?_push_size _ rfl, rfl⟩))) (by show vs.toArray.size ≤ sizeLine; rw [List.size_toArray]; exact h.1)
theorem newL_ {vs : List Value} {Q : Value → St → Prop} (r : R c σ s) (h : vNewL Q vs σ) : wpAny (model PG c.w) c.A (newList vs) (Post c Q) c.E s := by
  obtain ⟨f1, f2, f3⟩ := fresh_own r (none_size s.heap)
  exact wpAny_newObj_type (pst ((r.push (lstObj vs)).more (Heap.get?_push_size _ rfl) f1 f2 f3) (h.2 _ f2)) (by show vs.toArray.size ≤ sizeLine; rw [List.size_toArray]; exact h.1)
theorem star_cons {e : Expr} {rest : List Expr} (h : noStar (e :: rest) = true) : starEach (e :: rest) c.env = (false, eval e c.env) :: starEach rest c.env ∧ noStar rest = true := by
  have h' : (!(Nat.beq (tag e) 1) && noStar rest) = true := h
  cases e <;> first | (exact ⟨rfl, h'⟩) | (exact absurd h' Bool.false_ne_true)
theorem star_any : ∀ {es : List Expr} (pos : Pos), noStar es = true → (backTo pos (starEach es c.env)).any (·.1) = false
  | [], _, _ => rfl
  | e :: rest, pos, h => by
    obtain ⟨h1, h2⟩ := star_cons (c := c) h
    rw [h1]
    show (false || (backTo pos (starEach rest c.env)).any (·.1)) = false
    rw [star_any pos h2]; rfl
theorem vEs_sound {ve : Expr → (Value → St → Prop) → St → Prop} (ih : ∀ e (Q : Value → St → Prop) σ s, ve e Q σ → R c σ s → wpAny (model PG c.w) c.A (eval e c.env) (Post c Q) c.E s) :
    ∀ {es : List Expr} {pos : Pos} {Q : List Value → St → Prop} {σ : St} {s : Shared}, noStar es = true → vEs ve es Q σ → R c σ s → wpAny (model PG c.w) c.A (spliced (backTo pos (starEach es c.env))) (Post c Q) c.E s
  | [], pos, Q, σ, s, _, h, r => args_nil (pst r h)
  | e :: rest, pos, Q, σ, s, hn, h, r => by
    obtain ⟨h1, h2⟩ := star_cons (c := c) hn
    refine args_cons (seq_ (ih e _ σ s h r) fun v σ₁ s₁ r₁ q₁ => ?_) h1
    refine seq_ (vEs_sound ih h2 q₁ r₁) fun vs σ₂ s₂ r₂ q₂ => pst r₂ q₂

theorem callee_keeps {f : Value} (hf : Callee c.w f) (h : Heap) (X : (hd.heap_1 c.w.params).In h) : ∃ k, (k = Keeper.frame ∨ k = Keeper.machine ∨ k = Keeper.boundFrame) ∧ Looks (model PG c.w) h (keeperOf f) k := by
  cases hf with
  | bi id => exact ⟨.machine, .inr (.inl rfl), Looks.of_pure rfl⟩
  | ty T => exact ⟨.machine, .inr (.inl rfl), Looks.of_pure rfl⟩
  | own hk => exact keeps_K hk h X
theorem callWith_sound (a : Act sc c) {ve : Expr → (Value → St → Prop) → St → Prop} (ih : ∀ e (Q : Value → St → Prop) σ s, ve e Q σ → R c σ s → wpAny (model PG c.w) c.A (eval e c.env) (Post c Q) c.E s)
    {f : Value} {first : List Value} {args : List Expr} {pos : Pos} {K : Value → Shared → Prop} {Q₁ : List Value → St → Prop} (hf : Callee c.w f) (hn : noStar args = true)
    (h : vEs ve args Q₁ σ) (r : R c σ s) (hk : ∀ vs σ₂ s, Q₁ vs σ₂ → R c σ₂ s → wpAny (model PG c.w) c.A (call f (first ++ vs)) K c.E s) :
    wpAny (model PG c.w) c.A (callWith pos f first (backTo pos (starEach args c.env)) []) K c.E s := by
  refine callWith_of (P := fun h => (hd.heap_1 c.w.params).In h) (by rw [star_any pos hn]; rfl) (fun h X => callee_keeps hf h X) ?_
  have fin : ∀ {vs : List Value} {σ₂ : St} {s₂ : Shared}, R c σ₂ s₂ → Q₁ vs σ₂ → (hd.heap_1 c.w.params).In s₂.heap ∧ wpAny (model PG c.w) c.A (call f (first ++ vs)) K c.E s₂ :=
    fun r₂ q => ⟨a.X.keeps r₂.F.keep, hk _ _ _ q r₂⟩
  cases args with
  | nil => exact PyProof.Rows.evalArgs_none (fin r h)
  | cons e rest =>
    obtain ⟨h1, h2⟩ := star_cons (c := c) hn
    have q := vEs_sound (pos := pos) ih hn h r
    rw [h1] at q ⊢
    refine evalArgs_plain (f := f) (x := eval e c.env) (rest := backTo pos (starEach rest c.env)) ?_
    exact seq_ q fun vs σ₂ s₂ r₂ q₂ => fin r₂ q₂

theorem notSuper_base {o : Expr} {attr : Str} (h : notSuper o = true) : attributeBase o attr c.env (eval o c.env) = eval o c.env := by
  cases o <;> first | rfl | exact absurd (show false = true from h) Bool.false_ne_true
theorem Call_meth_ {o : Expr} {name : Str} {apos pos : Pos} {args : List Expr} {Q : Value → Shared → Prop} (hbase : attributeBase o name c.env (eval o c.env) = eval o c.env)
    (hform : methodCallForm (args.length + ([] : List Keyword).length) (backTo pos (starEach args c.env)) (backToKw pos (keywordEach [] c.env)) = true) (hline : (apos.endLine == pos.line) = true)
    (h : wpAny (model PG c.w) c.A (eval o c.env) (fun ov s₁ => wpAny (model PG c.w) c.A (getMethod ov name (do return (← importBound o c.env).getD true)) (fun fx s₂ => wpAny (model PG c.w) c.A (callWith pos fx.1 fx.2 (backTo pos (starEach args c.env)) []) Q c.E s₂) c.E s₁) c.E s) :
    wpAny (model PG c.w) c.A (eval (.Call (.Attribute o name apos) args [] pos) c.env) Q c.E s := by
  rw [arm_eval_Call, hbase]
  refine wpAny_bind (wpAny_mono h (fun ov s₁ h₁ => ?_) fun _ _ e => e)
  refine wpAny_bind (wpAny_standAt ?_)
  have hpos : methodCallPos true o c.env apos pos = pure pos := by unfold methodCallPos; simp [hline]
  unfold methodCall
  rw [hform]
  refine wpAny_bind (wpAny_holding (wpAny_mono h₁ (fun fx s₂ h₂ => ?_) fun _ _ e => e))
  exact wpAny_bind (wpAny_of_eq hpos h₂)
theorem form_ok {args : List Expr} {pos : Pos} (hn : noStar args = true) (hl : args.length < 28) :
    methodCallForm (args.length + ([] : List Keyword).length) (backTo pos (starEach args c.env)) (backToKw pos (keywordEach [] c.env)) = true := by
  unfold methodCallForm
  have h1 : (backTo pos (starEach args c.env)).all (fun x => !x.1) = true := by
    have := star_any (c := c) pos hn
    rw [List.all_eq_not_any_not]
    simpa using this
  have h2 : (backToKw pos (keywordEach [] c.env)) = [] := rfl
  rw [h2]
  simp only [List.length_nil, Nat.add_zero, List.all_nil, Bool.and_true, List.isEmpty_nil, if_true, Bool.and_eq_true, decide_eq_true_eq]
  refine ⟨?_, by omega +splitDisjunctions⟩
  simpa using h1
theorem marks_of {op : CmpOp} {r : Expr} (h : cmpPlain op r = true) : behindInMarks op r = false := by
  unfold cmpPlain at h
  cases q : behindInMarks op r with
  | false => rfl
  | true => rw [q] at h; cases h
noncomputable abbrev IhE (c : Fx) (ve : VE) : Prop := ∀ e (Q : Value → St → Prop) σ s, ve e Q σ → R c σ s → wpAny (model PG c.w) c.A (eval e c.env) (Post c Q) c.E s
noncomputable abbrev IhT (c : Fx) (vt : VT) : Prop := ∀ e (Q : Bool → St → Prop) σ s, vt e Q σ → R c σ s → wpAny (model PG c.w) c.A (isTrue e c.env (eval e c.env)) (Post c Q) c.E s
section
variable {ve : VE} {vt : VT} {Q : Value → St → Prop} {P : Bool → St → Prop} {p : Pos}
theorem vConst_sound {cn : Const} {k : Nat} (h : vConst c cn k p Q σ) (r : R c σ s) : wpAny (model PG c.w) c.A (eval (.Constant cn k p) c.env) (Post c Q) c.E s := by
  cases cn <;> first | exact wpAny_Constant_int (done r (h _) _) | exact Constant_str (done r (h _) _) | exact wpAny_pure (pst r h) | exact h s r
theorem vUnE_sound (ih : IhE c ve) {op : UnaryOp} {x : Expr} (h : vUnE c ve op x p Q σ) (r : R c σ s) : wpAny (model PG c.w) c.A (eval (.UnaryOp op x p) c.env) (Post c Q) c.E s := by
  cases op <;> first
    | exact wpAny_UnaryOp (seq_ (ih _ _ _ _ h r) fun v₁ σ₁ s₁ r₁ q₁ => (vNeg_sound q₁ r₁))
    | exact wpAny_UnaryOp (seq_ (ih _ _ _ _ h r) fun v₁ σ₁ s₁ r₁ q₁ => not_of (seq_ (vTr_sound q₁ r₁) fun b σ₂ s₂ r₂ q₂ => pst r₂ q₂))
    | exact h s r
theorem vCmpE_sound (ih : IhE c ve) {l : Expr} {ops : List CmpOp} {rs : List Expr} (h : vCmpE c ve l ops rs p Q σ) (r : R c σ s) : wpAny (model PG c.w) c.A (eval (.Compare l ops rs p) c.env) (Post c Q) c.E s := by
  unfold vCmpE at h
  split at h
  · split at h
    · rename_i hm
      exact wpAny_Compare1 (seq_ (ih _ _ _ _ h r) fun v₁ σ₁ s₁ r₁ q₁ => seq_ (ih _ _ _ _ q₁ r₁) fun v₂ σ₂ s₂ r₂ q₂ => (vCmp_sound q₂ r₂)) (marks_of hm)
    · exact h s r
  · exact h s r
theorem vBoolE_sound (ih : IhE c ve) {op : BoolOp} {es : List Expr} (h : vBoolE c ve op es p Q σ) (r : R c σ s) : wpAny (model PG c.w) c.A (eval (.BoolOp op es p) c.env) (Post c Q) c.E s := by
  unfold vBoolE at h
  split at h
  · cases op with
    | And =>
      refine BoolOp_and (seq_ (ih _ _ _ _ h r) fun v₁ σ₁ s₁ r₁ q₁ => seq_ (vTr_sound q₁ r₁) fun c σ₂ s₂ r₂ q₂ => ?_)
      cases c with
      | true => exact BoolOp_one ((ih _ _ _ _ (q₂.1 rfl) r₂))
      | false => exact pst r₂ (q₂.2 rfl)
    | Or =>
      refine BoolOp_or (seq_ (ih _ _ _ _ h r) fun v₁ σ₁ s₁ r₁ q₁ => seq_ (vTr_sound q₁ r₁) fun c σ₂ s₂ r₂ q₂ => ?_)
      cases c with
      | true => exact pst r₂ (q₂.1 rfl)
      | false => exact BoolOp_one ((ih _ _ _ _ (q₂.2 rfl) r₂))
  · exact h s r
theorem vTupE_sound (ih : IhE c ve) {es : List Expr} {k : Nat} (h : vTupE c ve es k p Q σ) (r : R c σ s) : wpAny (model PG c.w) c.A (eval (.Tuple es k p) c.env) (Post c Q) c.E s := by
  unfold vTupE at h
  split at h
  · rename_i hn
    exact Tuple_ (seq_ (vEs_sound ih hn h r) fun vs σ₁ s₁ r₁ q₁ => (newT_ r₁ q₁))
  · exact h s r
theorem vLstE_sound (ih : IhE c ve) {es : List Expr} (h : vLstE c ve es p Q σ) (r : R c σ s) : wpAny (model PG c.w) c.A (eval (.List es p) c.env) (Post c Q) c.E s := by
  unfold vLstE at h
  split at h
  · rename_i hn
    exact List_ (seq_ (vEs_sound ih hn h r) fun vs σ₁ s₁ r₁ q₁ => (newL_ r₁ q₁))
  · exact h s r
theorem vMethE_sound (a : Act sc c) (ih : IhE c ve) {o : Expr} {name : Str} {ap : Pos} {args : List Expr} (h : vMethE c ve o name ap args p Q σ) (r : R c σ s) : wpAny (model PG c.w) c.A (eval (.Call (.Attribute o name ap) args [] p) c.env) (Post c Q) c.E s := by
  unfold vMethE at h
  split at h
  · rename_i hc
    simp only [Bool.and_eq_true, decide_eq_true_eq] at hc
    obtain ⟨⟨⟨h1, h2⟩, h3⟩, h4⟩ := hc
    refine Call_meth_ (notSuper_base h1) (form_ok h2 h4) h3 (seq_ (ih _ _ _ _ h r) fun ov σ₁ s₁ r₁ q₁ => ?_)
    obtain ⟨f, first, hM, hA⟩ := q₁
    exact hM.2 _ r₁ _ _ _ fun tk => callWith_sound a ih hM.1 h2 hA (r₁.tk _) fun _ _ _ q r => q _ r
  · exact h s r
theorem vCallE_sound (a : Act sc c) (ih : IhE c ve) {f : Expr} {args : List Expr} {kws : List Keyword} (h : vCallE c ve f args kws p Q σ) (r : R c σ s) : wpAny (model PG c.w) c.A (eval (.Call f args kws p) c.env) (Post c Q) c.E s := by
  cases kws with
  | nil =>
    cases f with
    | Attribute o name ap => exact vMethE_sound a ih h r
    | Name x fp =>
      unfold vCallE at h
      dsimp only at h
      split at h
      · rename_i hn
        exact Call_ (seq_ (ih _ _ _ _ h r) fun fv σ₁ s₁ r₁ q₁ => (callWith_sound a ih q₁.1 hn q₁.2 r₁ fun _ _ _ q r => q _ r))
      · exact h s r
    | _ => exact h s r
  | cons _ _ => exact h s r
theorem vSubE_sound (ih : IhE c ve) {v i : Expr} (h : vSubE c ve v i p Q σ) (r : R c σ s) : wpAny (model PG c.w) c.A (eval (.Subscript v i p) c.env) (Post c Q) c.E s := by
  unfold vSubE at h
  split at h
  · exact Subscript_ (seq_ (ih _ _ _ _ h r) fun v₁ σ₁ s₁ r₁ q₁ => seq_ (ih _ _ _ _ q₁ r₁) fun v₂ σ₂ s₂ r₂ q₂ => (q₂ _ r₂))
  · exact h s r
theorem att_eq {v : Expr} {at_ : Str} (hs : notSuper v = true) : eval (.Attribute v at_ p) c.env = (do
      let o ← eval v c.env
      standAt p.atName
      let r ← holding [o] (getAttr o at_ true)
      letTemporaryGo v o r
      pure r) := by cases v <;> first | (with_unfolding_all rfl) | exact absurd (show false = true from hs) Bool.false_ne_true
theorem vAttE_sound (ih : IhE c ve) {v : Expr} {at_ : Str} (h : vAttE c ve v at_ p Q σ) (r : R c σ s) : wpAny (model PG c.w) c.A (eval (.Attribute v at_ p) c.env) (Post c Q) c.E s := by
  unfold vAttE at h
  split at h
  · rename_i hs
    exact Attribute_any_ (seq_ (ih _ _ _ _ h r) fun v₁ σ₁ s₁ r₁ q₁ => (q₁ _ r₁)) (att_eq hs)
  · exact h s r
theorem vCmpB_sound {op : CmpOp} {a b : Value} (h : vCmpB c op a b P σ) (r : R c σ s) : wpAny (model PG c.w) c.A (compareOp op a b) (fun d s₃ => wpAny (model PG c.w) c.A (truthy d) (Post c P) c.E s₃) c.E s :=
  seq_ (vCmp_sound h r) fun d σ₃ s₃ r₃ q₃ => (vTr_sound q₃ r₃)
theorem vNotT_sound (ih : IhT c vt) {op : UnaryOp} {x : Expr} (h : vNotT c vt op x p P σ) (r : R c σ s) : wpAny (model PG c.w) c.A (isTrue (.UnaryOp op x p) c.env (eval (.UnaryOp op x p) c.env)) (Post c P) c.E s := by
  cases op <;> first
    | exact isTrue_not (seq_ (ih _ _ _ _ h r) fun b σ₁ s₁ r₁ q₁ => pst r₁ q₁)
    | exact h s r
theorem vBoolT_sound (ih : IhT c vt) {op : BoolOp} {es : List Expr} (h : vBoolT c vt op es p P σ) (r : R c σ s) : wpAny (model PG c.w) c.A (isTrue (.BoolOp op es p) c.env (eval (.BoolOp op es p) c.env)) (Post c P) c.E s := by
  unfold vBoolT at h
  split at h
  · cases op with
    | And =>
      refine isTrue_and (seq_ (ih _ _ _ _ h r) fun c σ₁ s₁ r₁ q₁ => ?_)
      cases c with
      | true => exact isTrue_and (seq_ (ih _ _ _ _ (q₁.1 rfl) r₁) fun c σ₂ s₂ r₂ q₂ => by
          cases c with
          | true => exact isTrue_and_nil (pst r₂ q₂)
          | false => exact pst r₂ q₂)
      | false => exact pst r₁ (q₁.2 rfl)
    | Or =>
      refine isTrue_or (seq_ (ih _ _ _ _ h r) fun c σ₁ s₁ r₁ q₁ => ?_)
      cases c with
      | true => exact pst r₁ (q₁.1 rfl)
      | false => exact isTrue_or (seq_ (ih _ _ _ _ (q₁.2 rfl) r₁) fun c σ₂ s₂ r₂ q₂ => by
          cases c with
          | true => exact pst r₂ q₂
          | false => exact isTrue_or_nil (pst r₂ q₂))
  · exact h s r
theorem vCmpT_sound (ih : IhE c ve) {l : Expr} {ops : List CmpOp} {rs : List Expr} (h : vCmpT c ve l ops rs p P σ) (r : R c σ s) : wpAny (model PG c.w) c.A (isTrue (.Compare l ops rs p) c.env (eval (.Compare l ops rs p) c.env)) (Post c P) c.E s := by
  unfold vCmpT at h
  split at h
  · split at h
    · rename_i hm
      exact wpAny_isTrue_Compare1 (seq_ (ih _ _ _ _ h r) fun v₁ σ₁ s₁ r₁ q₁ => seq_ (ih _ _ _ _ q₁ r₁) fun v₂ σ₂ s₂ r₂ q₂ => vCmpB_sound q₂ r₂) (marks_of hm)
    · exact h s r
  · split at h
    · rename_i hm
      simp only [Bool.and_eq_true] at hm
      refine isTrue_chain (seq_ (ih _ _ _ _ h r) fun v₁ σ₁ s₁ r₁ q₁ => ?_) (by simp [lastMarks, marks_of hm.2])
      refine test_link (seq_ (ih _ _ _ _ q₁ r₁) fun v₂ σ₂ s₂ r₂ q₂ => wpAny_mono (vCmpB_sound q₂ r₂) (fun _ s₃ h₃ => seq_ h₃ fun t σ₄ s₄ r₄ q₄ => ?_) fun _ _ e => e)
      cases t with
      | false => exact pst r₄ (q₄.2 rfl)
      | true =>
        refine test_last (seq_ (ih _ _ _ _ (q₄.1 rfl) r₄) fun v₅ σ₅ s₅ r₅ q₅ => vCmpB_sound q₅ r₅)
    · exact h s r
  · exact h s r
end

theorem vET_sound (a : Act sc c) : ∀ n, IhE c (vE c sc n) ∧ IhT c (vT c sc n) := by
  intro n
  induction n with
  | zero => exact ⟨fun e Q σ s h r => h s r, fun e Q σ s h r => h s r⟩
  | succ n ih =>
    obtain ⟨ihE, ihT⟩ := ih
    refine ⟨fun e Q σ s h r => ?_, fun e Q σ s h r => ?_⟩
    · cases e with
      | Constant c k p => exact vConst_sound h r
      | Name x p => exact vName_sound a h r
      | BinOp l op r' p => exact wpAny_BinOp (seq_ (ihE _ _ _ _ h r) fun v₁ σ₁ s₁ r₁ q₁ => seq_ (ihE _ _ _ _ q₁ r₁) fun v₂ σ₂ s₂ r₂ q₂ => (vBin_sound q₂ r₂))
      | UnaryOp op x p => exact vUnE_sound ihE h r
      | Compare l ops rs p => exact vCmpE_sound ihE h r
      | IfExp t b o p =>
        refine IfExp_ (seq_ (ihT _ _ _ _ h r) fun c σ₁ s₁ r₁ q₁ => ?_)
        cases c with
        | true => exact (ihE _ _ _ _ (q₁.1 rfl) r₁)
        | false => exact (ihE _ _ _ _ (q₁.2 rfl) r₁)
      | BoolOp op es p => exact vBoolE_sound ihE h r
      | Tuple es k p => exact vTupE_sound ihE h r
      | List es p => exact vLstE_sound ihE h r
      | Call f args kws p => exact vCallE_sound a ihE h r
      | Subscript v i p => exact vSubE_sound ihE h r
      | Attribute v at_ p => exact vAttE_sound ihE h r
      | _ => exact h s r
    · cases e with
      | UnaryOp op x p => exact vNotT_sound ihT h r
      | BoolOp op es p => exact vBoolT_sound ihT h r
      | Compare l ops rs p => exact vCmpT_sound ihE h r
      | Name x p => exact isTrue_plain (seq_ (ihE _ _ _ _ h r) fun v σ₁ s₁ r₁ q₁ => (vTr_sound q₁ r₁)) rfl
      | Call f args kw p => exact isTrue_plain (seq_ (ihE _ _ _ _ h r) fun v σ₁ s₁ r₁ q₁ => (vTr_sound q₁ r₁)) rfl
      | _ => exact h s r

theorem swaps_plain {e : Expr} {t : Option Expr} {n : Nat} (h : plainVal e = true) : swapsWith e t n c.env = pure false := by
  cases e <;> first | rfl | exact absurd (show false = true from h) Bool.false_ne_true
theorem nd_inj {α β : Type} {f : α → β} : ∀ {l : List α}, (l.map f).Nodup → ∀ {x y : α}, x ∈ l → y ∈ l → f x = f y → x = y
  | a :: r, h, x, y, hx, hy, e => by
    obtain ⟨h1, h2⟩ := List.nodup_cons.mp h
    rcases List.mem_cons.mp hx with e1 | hx' <;> rcases List.mem_cons.mp hy with e2 | hy'
    · rw [e1, e2]
    · rw [← e1, e] at h1; exact absurd (List.mem_map_of_mem hy') h1
    · rw [← e2, ← e] at h1; exact absurd (List.mem_map_of_mem hx') h1
    · exact nd_inj h2 hx' hy' e
theorem setC_mem {x : Str} {v : Value} : ∀ {k : List (Str × Addr × Option Value)} {y : Str × Addr × Option Value}, y ∈ setC x v k → ∃ z ∈ k, z.1 = y.1 ∧ z.2.1 = y.2.1 ∧ (y.1 = x → y.2.2 = some v) ∧ (y.1 ≠ x → z = y)
  | (n, a, o) :: r, y, h => by
    have go : y ∈ setC x v r → ∃ z ∈ (n, a, o) :: r, z.1 = y.1 ∧ z.2.1 = y.2.1 ∧ (y.1 = x → y.2.2 = some v) ∧ (y.1 ≠ x → z = y) := fun hy => let ⟨z, hz, q⟩ := setC_mem hy; ⟨z, .tail _ hz, q⟩
    unfold setC at h
    cases q : sq n x with
    | true =>
      rw [q] at h
      rcases List.mem_cons.mp h with rfl | h
      · exact ⟨_, .head _, rfl, rfl, fun _ => rfl, fun n' => absurd (sq_iff.mp q) n'⟩
      · exact go h
    | false =>
      rw [q] at h
      rcases List.mem_cons.mp h with rfl | h
      · exact ⟨_, .head _, rfl, rfl, fun e => (by rw [sq_iff.mpr e] at q; cases q), fun _ => rfl⟩
      · exact go h
theorem setC_adr {x : Str} {v : Value} : ∀ (k : List (Str × Addr × Option Value)), (setC x v k).map (·.2.1) = k.map (·.2.1)
  | [] => rfl
  | (n, a, o) :: r => by
    unfold setC
    cases sq n x <;> exact congrArg (a :: ·) (setC_adr r)
theorem vSto_sound (a : Act sc c) {x : Str} {v : Value} {Q : Unit → St → Prop} (h : vSto c sc x v Q σ) (r : R c σ s) :
    wpAny (model PG c.w) c.A (storeName c.env x v) (Post c Q) c.E s := by
  unfold vSto at h
  split at h
  · rename_i hx
    obtain ⟨NM, hn₀, hM⟩ := r.F.ns
    have hn : s.heap.Ns c.env.locals NM := by rw [a.lo]; exact hn₀
    refine wpAny_storeName_local (a.kind hx) hn (fun h' hns hs => ?_) (by rw [a.fk]; rfl)
    rw [a.lo] at hns hs
    have kp : ∀ b o, s.heap.get? b = some o → b ≠ c.L → h'.get? b = some o := fun b o e n => (hs.2 b n).trans e
    obtain ⟨oL, es, ep, hL, hd, _⟩ := hn₀
    refine pst (σ := σ.setM x v) ⟨?_, r.N.set hs, fun y hy => ⟨(r.K y hy).1, (r.K y hy).2.1.sameBut hs (r.K y hy).2.2.1, (r.K y hy).2.2⟩, r.D, r.O, fun b o e => ?_, fun b hb n => ?_, r.G, r.Z.trans ⟨h', _, rfl⟩⟩ h
    · refine ⟨⟨_, hns, fun y u hu => ?_⟩, fun b o e => kp b o (r.F.keep b o e) (Nat.ne_of_lt (Nat.lt_of_lt_of_le (Heap.lt_size e) r.F.above)), r.F.above⟩
      have hu' : lk ((x, v) :: σ.m) y = some u := hu
      rw [lk_cons] at hu'
      by_cases q : y = x
      · rw [if_pos q] at hu'; rw [if_pos q]; exact hu'
      · rw [if_neg q] at hu'; rw [if_neg q]; exact hM _ _ hu'
    · obtain ⟨e1, e2⟩ := tups_get.mp (r.V b o e)
      refine tups_get.mpr ⟨kp b o e1 ?_, e2⟩
      rintro rfl
      rw [hL] at e1; cases e1
      obtain ⟨_, _, _, hd'⟩ := isT_seq e2
      rw [hd] at hd'; cases hd'
    · obtain ⟨o, sl, h1, p, h2⟩ := r.T b hb n
      exact ⟨o, sl, h1, p, kp _ _ h2 n⟩
  · rename_i hx
    split at h
    · rename_i cc hc
      have hm := lk_mem hc
      obtain ⟨k1, k2, k3⟩ := r.K _ hm
      obtain ⟨o, ho, hd⟩ := k2
      refine wpAny_storeName_cell a.fk (a.kind hx) k1 ⟨o, ho, hd⟩ fun h' hc' hs => ?_
      have M := r.mid (X := [cc.1]) (h' := h') (.of (fun b x e n => (hs.2 b fun q => n (q ▸ .head _)).trans e) fun z hz => (List.mem_singleton.mp hz) ▸ r.O _ (List.mem_append_right _ (List.mem_map_of_mem hm))) fun z hz => by
        rw [List.mem_singleton.mp hz]
        refine ⟨k3, r.O _ (List.mem_append_right _ (List.mem_map_of_mem hm)), fun o' h' => ?_⟩
        rw [ho] at h'; cases h'
        unfold isT; rw [hd, Bool.and_false]
      have D : ((σ.setK x v).n.map (·.1) ++ (σ.setK x v).k.map (·.2.1)) = adrs σ := congrArg (_ ++ ·) (setC_adr σ.k)
      refine pst (σ := σ.setK x v) ⟨M.F, fun p hp => ⟨M.N p hp fun q => ?_, (r.N p hp).2⟩, fun y hy => ?_, by show (_ ++ _ : List Addr).Nodup; rw [D]; exact r.D, fun b hb => r.O b (by rw [← D]; exact hb), M.V, M.T, r.G, r.Z.trans ⟨h', s.toks, rfl⟩⟩ h
      · exact (List.nodup_append.mp r.D).2.2 _ (List.mem_map_of_mem hp) _ (List.mem_map_of_mem hm) (List.mem_singleton.mp q)
      · obtain ⟨z, hz, e1, e2, e3, e4⟩ := setC_mem hy
        obtain ⟨m1, m2, m3⟩ := M.K z hz
        by_cases q : y.1 = x
        · rw [e1, q, k1] at m1
          have e5 := Option.some.inj m1
          refine ⟨?_, ?_, e2 ▸ m3⟩
          · rw [q, k1, ← e2]; exact m1
          · rw [← e2, e3 q, ← e5]; exact hc'
        · rw [← e4 q]
          refine ⟨m1, m2 fun w => ?_, m3⟩
          have w' := List.mem_singleton.mp w
          exact q (by rw [← e1, nd_inj (List.nodup_append.mp r.D).2.1 hz hm w'])
    · exact h s r
  · exact h s r

section
variable {ve : VE} {Q : Flow → St → Prop} {p : Pos}
theorem vAsg_sound (a : Act sc c) (ih : IhE c ve) {ts : List Expr} {e : Expr} (h : vAsg c sc ve ts e p Q σ) (r : R c σ s) : wpAny (model PG c.w) c.A (exec (.Assign ts e p) c.env) (Post c Q) c.E s := by
  unfold vAsg at h
  split at h
  · split at h
    · split at h
      · rename_i hp
        exact wpAny_Assign_Name (seq_ (ih _ _ _ _ h r) fun v σ₁ s₁ r₁ q₁ => vSto_sound a q₁ r₁) (swaps_plain hp)
      · exact h s r
    · split at h
      · rename_i hp
        refine wpAny_Assign_Subscript (seq_ (ih _ _ _ _ h r) fun v σ₁ s₁ r₁ q₁ => seq_ (ih _ _ _ _ q₁ r₁) fun ov σ₂ s₂ r₂ q₂ => seq_ (ih _ _ _ _ q₂ r₂) fun iv σ₃ s₃ r₃ q₃ => ?_) (swaps_plain hp)
        exact (q₃ _ r₃)
      · exact h s r
    · exact h s r
  · exact h s r
theorem vExprS_sound (ih : IhE c ve) (hint : interactive c.env = false) {e : Expr} (h : vExprS c ve e p Q σ) (r : R c σ s) : wpAny (model PG c.w) c.A (exec (.Expr e p) c.env) (Post c Q) c.E s := by
  unfold vExprS at h
  split at h
  · rename_i hp
    exact wpAny_Expr_any (seq_ (ih _ _ _ _ h r) fun v σ₁ s₁ r₁ q₁ => pst r₁ q₁) hint (swaps_plain hp)
  · exact h s r
end

theorem vS_sound (a : Act sc c) (hint : interactive c.env = false) : ∀ n, (∀ st (Q : Flow → St → Prop) σ s, vS c sc n st Q σ → R c σ s → wpAny (model PG c.w) c.A (exec st c.env) (Post c Q) c.E s) ∧
    (∀ sts (Q : Flow → St → Prop) σ s, vSs c sc n sts Q σ → R c σ s → wpAny (model PG c.w) c.A (execs sts c.env) (Post c Q) c.E s) := by
  have hE := (vET_sound a 40).1
  have hT := (vET_sound a 40).2
  intro n
  induction n with
  | zero => exact ⟨fun e Q σ s h r => h s r, fun e Q σ s h r => h s r⟩
  | succ n ih =>
    obtain ⟨ihS, ihB⟩ := ih
    refine ⟨fun st Q σ s h r => ?_, fun sts Q σ s h r => ?_⟩
    · cases st with
      | Assign ts e p => exact vAsg_sound a hE h r
      | Expr e p => exact vExprS_sound hE hint h r
      | If t b o p =>
        refine wpAny_If (seq_ (hT _ _ _ _ h r) fun c σ₁ s₁ r₁ q₁ => ?_)
        cases c with
        | true => exact (ihB _ _ _ _ (q₁.1 rfl) r₁)
        | false => exact (ihB _ _ _ _ (q₁.2 rfl) r₁)
      | Return e p =>
        cases e with
        | some e => exact wpAny_Return_some (seq_ (hE _ _ _ _ h r) fun v σ₁ s₁ r₁ q₁ => pst r₁ q₁)
        | none => exact wpAny_Return_none (pst r h)
      | Break p => exact wpAny_Break (pst r h)
      | Continue p => exact wpAny_Continue (pst r h)
      | Pass p => exact wpAny_Pass (pst r h)
      | _ => exact h s r
    · cases sts with
      | nil => exact wpAny_execs_nil (pst r h)
      | cons st rest =>
        refine wpAny_execs_cons (seq_ (ihS _ _ _ _ h r) fun f σ₁ s₁ r₁ q₁ => ?_)
        cases f with
        | next => exact (ihB _ _ _ _ q₁ r₁)
        | ret v => exact pst r₁ q₁
        | brk => exact pst r₁ q₁
        | cont => exact pst r₁ q₁
end
end Mine
end
section
open PySem PySem.W PyProof.Rows PySem.Spec PySem.Calls
set_option Elab.async false
set_option maxRecDepth 100000
set_option maxHeartbeats 4000000
set_option linter.unusedVariables false
namespace Mine

noncomputable def retv : Flow → Value
  | .ret v => v
  | _ => .none

/-- where a call may be made from -/
structure Up (c : Fx) (n : Nat) : Prop where
  hA : c.A.frames = some c.S
  hh : c.A.handled = none
  hd : c.A.depth ≤ n
  hu : c.A.units ≤ 10 * n
  fS : ∀ e ∈ c.S, e.scope.kind ≠ .module ∧ ∃ b, e.frame = some b

/-- the bound names that are local, newest first, and the others -/
noncomputable def ml (sc : List (Str × NameKind)) : List (Str × Value) → List (Str × Value) → List (Str × Value)
  | [], m => m
  | (x, v) :: r, m => match lk sc x with
    | some .local => ml sc r ((x, v) :: m)
    | _ => ml sc r m
noncomputable def mc (sc : List (Str × NameKind)) : List (Str × Value) → List (Str × Value) → List (Str × Value)
  | [], m => m
  | (x, v) :: r, m => match lk sc x with
    | some .local => mc sc r m
    | _ => mc sc r ((x, v) :: m)
theorem bindL_eq {k : Str → Option NameKind} {sc : List (Str × NameKind)} (hk : ∀ x, k x = lk sc x) : ∀ (b m : List (Str × Value)), bindL k b (fun x => lk m x) = fun x => lk (ml sc b m) x
  | [], m => rfl
  | (n, v) :: r, m => by
    unfold bindL ml
    rw [hk n]
    split
    · rename_i h
      rw [h, ← bindL_eq hk r]
      congr 1; funext y; exact lk_cons.symm
    · rename_i h
      split
      · rename_i h'; exact absurd h' h
      · exact bindL_eq hk r m
theorem bindC_eq {k : Str → Option NameKind} {sc : List (Str × NameKind)} (hk : ∀ x, k x = lk sc x) : ∀ (b m : List (Str × Value)), bindC k b (fun x => lk m x) = fun x => lk (mc sc b m) x
  | [], m => rfl
  | (n, v) :: r, m => by
    unfold bindC mc
    rw [hk n]
    split
    · rename_i h
      rw [h]; exact bindC_eq hk r m
    · rename_i h
      split
      · rename_i h'; exact absurd h' h
      · rw [← bindC_eq hk r]
        congr 1; funext y; exact lk_cons.symm
noncomputable def kc (L : Addr) (sc : List (Str × NameKind)) (b : List (Str × Value)) : List (Str × Addr × Option Value) := (cellsFrom (L + 1) sc []).map fun p => (p.1, p.2, lk (mc sc b []) p.1)

section
variable {c : Fx} {sc : List (Str × NameKind)} {s : Shared} {σ : St} {P : Value → St → Prop}

noncomputable def adr (W : List (Addr × Obj)) : List Addr := W.map (·.1)
/-- the end of a function's body, seen from the caller's state -/
noncomputable def Fin (c : Fx) (s : Shared) (W : List Addr) (c' : Fx) (P : Value → St → Prop) (fl : Flow) (σ : St) : Prop :=
  ∀ s', Lift s s' → GF s.heap s'.heap W (frs c.S) → News c'.h c'.L s'.heap σ.n → (∀ p ∈ σ.n, p.1 ∉ frs c.S) → Le σ.t (tups s'.heap) → Post c P (retv fl) s'
/-- what the body's start knows -/
structure In (c : Fx) (sc : List (Str × NameKind)) (s : Shared) (W : List Addr) (c' : Fx) (n : Nat) (t : Heap) : Prop where
  a : Act sc c'
  u : Up c' n
  p : PassesOwn (model PG c'.w) c'.A c'.env c'.E
  w : c'.w = c.w
  g : ∀ b o, s.heap.get? b = some o → b ∉ W → b ∉ frs c.S → c'.h.get? b = some o
  v : Le (tups s.heap) t
  S : c'.S = c'.env :: c.S
  L : c'.env.frame = some c'.L
  H : c'.H = s.heap
  f : s.heap.get? c'.L = none
  z : c'.z = c.z
  E : c'.E = fun e s' => wpAny (model PG c.w) c'.A (leaving c'.env e) (fun _ s'' => c.E e s'') (fun e' s'' => c.E e' s'') s'

theorem enterB {n : Nat} {f : Addr} {args : List Value} (W : List (Addr × Obj)) {name qual : Str} {params : Arguments} {body : List Stmt} {scope : Scope} {dV kV doc pm cdv ct oc : Value} {an od : Option Addr} {osl : Array (Option Value)} {binds : List (Str × Value)}
    (r : R c σ s) (a : Act sc c) (u : Up c n) (hW : ∀ p ∈ W, p ∈ σ.n) (hnd : (adr W).Nodup) (hnt : ∀ p ∈ W, isT p.2 = false)
    (ho : (hd.heap_1 c.w.params).lookup f = some ⟨oc, od, .func (fnOf name qual params body scope dV kV doc pm an cdv ct), osl⟩) (hcd : codeIn (hd.heap_1 c.w.params) cdv qual = true) (hroom : n < recursionLimit)
    (hbind : ∀ s, BindsTo s (fnOf name qual params body scope dV kV doc pm an cdv ct) ⟨args, []⟩ binds)
    (hkind : (binds.all fun y => scope.names.lookup y.1 == some .local || scope.names.lookup y.1 == some .cell) = true) (hcn : ((cellsFrom 0 scope.names []).map (·.1)).Nodup)
    (hco : scope.isCoroutine = false) (hgen : scope.isGenerator = false) (hk : scope.kind = .function)
    (h : ∀ s (c' : Fx) t, R c σ s → In c scope.names s (adr W) c' (n + 1) t → ∀ QF, (∀ fl σ, Fin c s (adr W) c' P fl σ → QF fl σ) → raw c' (execs body c'.env) QF ⟨ml scope.names binds [], W, kc c'.L scope.names binds, t⟩) :
    codeAny (model PG c.w) c.A (.call (.ref f) ⟨args, []⟩) (fun r s' => match r with | .ok (.ret v) => Post c P v s' | .ok _ => False | .error e => c.E e s') s := by
  obtain ⟨mean, mg, mb, T⟩ := a.T
  have N : News c.h c.L s.heap W := fun p hp => r.N p (hW p hp)
  have Wa : ∀ x ∈ adr W, x ∈ adrs σ := fun x hx => by obtain ⟨p, hp, rfl⟩ := List.mem_map.mp hx; exact List.mem_append_left _ (List.mem_map_of_mem (hW p hp))
  refine codeAny_call_function (Nat.lt_of_le_of_lt u.hd hroom) ((a.X.keeps r.F.keep) _ _ ho) rfl hco hgen rfl (codeRec_of (a.X.keeps r.F.keep) hcd) (hbind s _ _ _ _ ?_)
  refine wpAny_newFunctionEnv_cells hk (kindsX hkind _) fun env' he s₁ x => ?_
  refine ⟨(T.nolimit.keeps r.F.keep).keeps x.toInCall.keep, codeAny_func ?_⟩
  obtain ⟨h₁, tk, rfl, _⟩ := x.done
  have hk₁ : ∀ b o, s.heap.get? b = some o → h₁.get? b = some o := x.toInCall.keep
  have hl : env'.locals = s.heap.objs.size := by rw [he]; rfl
  have hcl : env'.cells = cellsFrom (s.heap.objs.size + 1) scope.names [] := by rw [he]; rfl
  have hkf : ∀ y, env'.kindOf y = lk scope.names y := fun y => by rw [he]; exact lk_eq.symm
  have cnd : ((cellsFrom (s.heap.objs.size + 1) scope.names []).map (·.1)).Nodup := cellsFrom_names scope.names 0 (s.heap.objs.size + 1) [] [] rfl ▸ hcn
  let g := hideAll s.heap (adr W ++ frs c.S)
  let A' := At env' c.S (n + 1)
  let c' : Fx := ⟨c.w, A', env', g, s.heap.objs.size, fun e s' => wpAny (model PG c.w) A' (leaving env' e) (fun _ s'' => c.E e s'') (fun e' s'' => c.E e' s'') s', env' :: c.S, s.heap, c.z⟩
  have gk : ∀ b o, c.h.get? b = some o → g.get? b = some o := fun b o e => hideAll_get _ (r.F.keep b o e) fun q => by
    rcases List.mem_append.mp q with q | q
    · obtain ⟨p, hp, rfl⟩ := List.mem_map.mp q
      have := (N p hp).2.2; rw [e] at this; cases this
    · have := r.G _ q; rw [e] at this; cases this
  have hkd : env'.scope.kind = .function := by rw [he]; exact hk
  have a' : Act scope.names c' := ⟨hkd, (by rw [he]; rfl : env'.globals = mainGlobals), (by rw [he]; rfl : env'.builtins = builtinsNs), hl, (by rw [he]; rfl : env'.scope.names = scope.names), a.X.keeps gk, _, _, _, T.keeps gk⟩
  have fr' : env'.frame = some s.heap.objs.size := by rw [he]; rfl
  have u' : Up c' (n + 1) := ⟨rfl, rfl, Nat.le_refl _, Nat.le_refl _, fun e he' => by
    rcases List.mem_cons.mp he' with rfl | he'
    · exact ⟨by rw [hkd]; exact fun q => (nomatch q), _, fr'⟩
    · exact u.fS e he'⟩
  have lt : ∀ b o, s.heap.get? b = some o → b < s.heap.objs.size := fun b o e => Heap.lt_size e
  have fs : frs c'.S = s.heap.objs.size :: frs c.S := by show (env' :: c.S).filterMap _ = _; rw [List.filterMap_cons, fr']; rfl
  have kmem : ∀ y ∈ kc s.heap.objs.size scope.names binds, env'.cells.lookup y.1 = some y.2.1 ∧ h₁.IsCell y.2.1 y.2.2 ∧ s.heap.objs.size < y.2.1 := fun y hy => by
    obtain ⟨p, hp, rfl⟩ := List.mem_map.mp hy
    have e1 := lookup_of_mem_nodup cnd hp
    rw [← hcl] at e1
    have e2 := x.cell _ _ e1
    rw [show bindC env'.kindOf binds (fun _ => none) = _ from bindC_eq hkf binds []] at e2
    exact ⟨e1, e2, (hl ▸ x.above p.1 p.2 (hcl ▸ hp) : s.heap.objs.size < p.2)⟩
  have r' : R c' ⟨ml scope.names binds [], W, kc s.heap.objs.size scope.names binds, tups h₁⟩ { s with heap := h₁, toks := tk } := by
    refine ⟨⟨⟨_, ?_, fun _ _ q => q⟩, fun b o e => hk₁ b o (of_hideAll _ e), Nat.le_of_eq (hideAll_size _ _)⟩, fun p hp => ⟨hk₁ _ _ (N p hp).1, Nat.ne_of_lt (lt _ _ (N p hp).1), hideAll_none _ (List.mem_append_left _ (List.mem_map_of_mem hp))⟩,
      fun y hy => ?_, ?_, fun b hb => ?_, Le.refl _, fun b hb n => ?_, fun b hb => ?_, r.Z.trans ⟨h₁, tk, rfl⟩⟩
    · have e := x.toInCall.ns
      rw [hl, show bindL env'.kindOf binds (fun _ => none) = _ from bindL_eq hkf binds []] at e
      exact e
    · obtain ⟨k1, k2, k3⟩ := kmem y hy
      exact ⟨k1, k2, Nat.ne_of_gt k3, Heap.get?_none_of_le (by rw [hideAll_size]; exact Nat.le_of_lt k3)⟩
    · refine List.nodup_append.mpr ⟨hnd, ?_, fun x1 h1 x2 h2 e => ?_⟩
      · have : (kc s.heap.objs.size scope.names binds).map (·.2.1) = (cellsFrom (s.heap.objs.size + 1) scope.names []).map (·.2) := by
          unfold kc; rw [List.map_map]; rfl
        rw [this]
        exact List.pairwise_map.mpr (hcl ▸ x.apart)
      · obtain ⟨o, ho'⟩ := adr_there r (Wa x1 h1)
        obtain ⟨y, hy, rfl⟩ := List.mem_map.mp h2
        have := (kmem y hy).2.2
        have := lt _ _ ho'
        rw [e] at this
        exact absurd this (Nat.not_lt.mpr (Nat.le_of_lt (kmem y hy).2.2))
    · rw [fs]
      intro q
      rcases List.mem_append.mp hb with hb | hb
      · obtain ⟨o, ho'⟩ := adr_there r (Wa b hb)
        rcases List.mem_cons.mp q with q | q
        · exact absurd (lt _ _ ho') (q ▸ Nat.lt_irrefl _)
        · exact r.O b (Wa b hb) q
      · obtain ⟨y, hy, rfl⟩ := List.mem_map.mp hb
        have k3 := (kmem y hy).2.2
        rcases List.mem_cons.mp q with q | q
        · exact absurd k3 (q ▸ Nat.lt_irrefl _)
        · obtain ⟨o, ho', _⟩ := frs_there r q
          exact absurd (lt _ _ ho') (Nat.not_lt.mpr (Nat.le_of_lt k3))
    · rw [fs] at hb
      rcases List.mem_cons.mp hb with q | q
      · exact absurd q n
      · obtain ⟨o, ho', p⟩ := frs_there r q
        exact ⟨o, o.slots, ho', p, hk₁ b o ho'⟩
    · rw [fs] at hb
      rcases List.mem_cons.mp hb with q | q
      · rw [q]; exact Heap.get?_none_of_le (by rw [hideAll_size]; exact Nat.le_refl _)
      · exact hideAll_none _ (List.mem_append_right _ q)
  have hV : Le (tups s.heap) (tups h₁) := fun b o e => by
    obtain ⟨e1, e2⟩ := tups_get.mp e
    exact tups_get.mpr ⟨hk₁ b o e1, e2⟩
  have I : In c scope.names s (adr W) c' (n + 1) (tups h₁) := ⟨a', u', PassesOwn.leaving, rfl, fun b o e n1 n2 => hideAll_get _ e fun q => (List.mem_append.mp q).elim n1 n2, hV, rfl, fr', rfl, none_size _, rfl, rfl⟩
  have sd := h s c' (tups h₁) r I _ (fun _ _ x => x) _ r'
  have up : ∀ {α : Type} {t : Sem α} {Q : α → Shared → Prop} {E : Value → Shared → Prop} {s : Shared}, wpAny (model PG c.w) A' t Q E s → wpAny (model PG c.w) (c.A.deeper env') t Q E s := fun {α t Q E s} z =>
    wp_up z u.hh (by show c.A.depth + 1 ≤ n + 1; have := u.hd; omega) (by show c.A.frames.map _ = _; rw [u.hA]; rfl) rfl (by show c.A.units + 3 ≤ 10 * (n + 1); have := u.hu; omega)
  refine wpAny_mono (up sd) (fun fl x p => ?_) fun _ _ e => up e
  obtain ⟨σ', r'', q⟩ := p
  obtain ⟨h₂, tk₂, hz₂⟩ := r''.Z
  obtain ⟨h₀, tk₀, hz₀⟩ := r.Z
  show Post c P (retv fl) x
  refine q x ⟨h₂, tk₂, by rw [hz₂, hz₀]⟩ ⟨fun b o e n1 n2 => r''.F.keep b o (hideAll_get _ e fun q => (List.mem_append.mp q).elim n1 n2), fun b hb o e p => ?_⟩ r''.N (fun p hp q => r''.O p.1 (List.mem_append_left _ (List.mem_map_of_mem hp)) (by show p.1 ∈ frs c'.S; rw [fs]; exact .tail _ q)) r''.V
  obtain ⟨o', ho', _⟩ := frs_there r hb
  have nb : b ≠ s.heap.objs.size := Nat.ne_of_lt (lt _ _ ho')
  obtain ⟨o₂, sl, h1, _, h2⟩ := r''.T b (by show b ∈ frs c'.S; rw [fs]; exact .tail _ hb) nb
  rw [show c'.H.get? b = some o from e] at h1
  cases h1
  exact ⟨sl, h2⟩
theorem enterC {n : Nat} {f : Addr} {args : List Value} (W : List (Addr × Obj)) {name qual : Str} {params : Arguments} {body : List Stmt} {scope : Scope} {dV kV doc pm cdv ct oc : Value} {an od : Option Addr} {osl : Array (Option Value)} {binds : List (Str × Value)}
    (r : R c σ s) (a : Act sc c) (u : Up c n) (hW : ∀ p ∈ W, p ∈ σ.n) (hnd : (adr W).Nodup) (hnt : ∀ p ∈ W, isT p.2 = false)
    (ho : (hd.heap_1 c.w.params).lookup f = some ⟨oc, od, .func (fnOf name qual params body scope dV kV doc pm an cdv ct), osl⟩) (hcd : codeIn (hd.heap_1 c.w.params) cdv qual = true) (hroom : n < recursionLimit)
    (hbind : ∀ s, BindsTo s (fnOf name qual params body scope dV kV doc pm an cdv ct) ⟨args, []⟩ binds)
    (hkind : (binds.all fun y => scope.names.lookup y.1 == some .local || scope.names.lookup y.1 == some .cell) = true) (hcn : ((cellsFrom 0 scope.names []).map (·.1)).Nodup)
    (hco : scope.isCoroutine = false) (hgen : scope.isGenerator = false) (hk : scope.kind = .function)
    (h : ∀ s (c' : Fx) t, R c σ s → In c scope.names s (adr W) c' (n + 1) t → ∀ QF, (∀ fl σ, Fin c s (adr W) c' P fl σ → QF fl σ) → vSs c' scope.names 60 body QF ⟨ml scope.names binds [], W, kc c'.L scope.names binds, t⟩) :
    codeAny (model PG c.w) c.A (.call (.ref f) ⟨args, []⟩) (fun r s' => match r with | .ok (.ret v) => Post c P v s' | .ok _ => False | .error e => c.E e s') s :=
  enterB W r a u hW hnd hnt ho hcd hroom hbind hkind hcn hco hgen hk fun s c' t r I QF hQ s₁ r₁ => (vS_sound I.a (by show (c'.env.scope.kind == .module && _) = false; rw [I.a.fk]; rfl) 60).2 body _ _ _ (h s c' t r I QF hQ) r₁
/-- a call, seen as the code that runs -/
noncomputable def rawC (c : Fx) (f : Value) (args : List Value) (P : Value → St → Prop) (σ : St) : Prop := ∀ s, R c σ s → codeAny (model PG c.w) c.A (.call f ⟨args, []⟩) (fun r s' => match r with | .ok (.ret v) => Post c P v s' | .ok _ => False | .error e => c.E e s') s
theorem rawC.raw {f : Value} {args : List Value} (h : rawC c f args P σ) : Mine.raw c (call f args) P σ := fun s r => wpAny_call (h s r)
theorem enterR {n : Nat} {f : Addr} {args : List Value} (W : List (Addr × Obj)) {name qual : Str} {params : Arguments} {body : List Stmt} {scope : Scope} {dV kV doc pm cdv ct oc : Value} {an od : Option Addr} {osl : Array (Option Value)} {binds : List (Str × Value)}
    (a : Act sc c) (u : Up c n) (hW : ∀ p ∈ W, p ∈ σ.n) (hnd : (adr W).Nodup) (hnt : ∀ p ∈ W, isT p.2 = false)
    (ho : (hd.heap_1 c.w.params).lookup f = some ⟨oc, od, .func (fnOf name qual params body scope dV kV doc pm an cdv ct), osl⟩) (hcd : codeIn (hd.heap_1 c.w.params) cdv qual = true) (hroom : n < recursionLimit)
    (hbind : ∀ s, BindsTo s (fnOf name qual params body scope dV kV doc pm an cdv ct) ⟨args, []⟩ binds)
    (hkind : (binds.all fun y => scope.names.lookup y.1 == some .local || scope.names.lookup y.1 == some .cell) = true) (hcn : ((cellsFrom 0 scope.names []).map (·.1)).Nodup)
    (hco : scope.isCoroutine = false) (hgen : scope.isGenerator = false) (hk : scope.kind = .function)
    (h : ∀ s (c' : Fx) t, R c σ s → In c scope.names s (adr W) c' (n + 1) t → ∀ QF, (∀ fl σ, Fin c s (adr W) c' P fl σ → QF fl σ) → vSs c' scope.names 60 body QF ⟨ml scope.names binds [], W, kc c'.L scope.names binds, t⟩) :
    rawC c (.ref f) args P σ := fun s r => enterC W r a u hW hnd hnt ho hcd hroom hbind hkind hcn hco hgen hk h
theorem enter {n : Nat} {f : Addr} {args : List Value} (W : List (Addr × Obj)) {name qual : Str} {params : Arguments} {body : List Stmt} {scope : Scope} {dV kV doc pm cdv ct oc : Value} {an od : Option Addr} {osl : Array (Option Value)} {binds : List (Str × Value)}
    (a : Act sc c) (u : Up c n) (hW : ∀ p ∈ W, p ∈ σ.n) (hnd : (adr W).Nodup) (hnt : ∀ p ∈ W, isT p.2 = false)
    (ho : (hd.heap_1 c.w.params).lookup f = some ⟨oc, od, .func (fnOf name qual params body scope dV kV doc pm an cdv ct), osl⟩) (hcd : codeIn (hd.heap_1 c.w.params) cdv qual = true) (hroom : n < recursionLimit)
    (hbind : ∀ s, BindsTo s (fnOf name qual params body scope dV kV doc pm an cdv ct) ⟨args, []⟩ binds)
    (hkind : (binds.all fun y => scope.names.lookup y.1 == some .local || scope.names.lookup y.1 == some .cell) = true) (hcn : ((cellsFrom 0 scope.names []).map (·.1)).Nodup)
    (hco : scope.isCoroutine = false) (hgen : scope.isGenerator = false) (hk : scope.kind = .function)
    (h : ∀ s (c' : Fx) t, R c σ s → In c scope.names s (adr W) c' (n + 1) t → ∀ QF, (∀ fl σ, Fin c s (adr W) c' P fl σ → QF fl σ) → vSs c' scope.names 60 body QF ⟨ml scope.names binds [], W, kc c'.L scope.names binds, t⟩) :
    raw c (call (.ref f) args) P σ := (enterR W a u hW hnd hnt ho hcd hroom hbind hkind hcn hco hgen hk h).raw

theorem In.fresh {n : Nat} {W : List Addr} {c' : Fx} {t : Heap} {sc' : List (Str × NameKind)} {d : Addr} (I : In c sc' s W c' n t) (hd : c'.h.get? d = none) (hW : d ∉ W) (hf : d ∉ frs c.S) : s.heap.get? d = none := by
  cases q : s.heap.get? d with
  | none => rfl
  | some o => rw [I.g d o q hW hf] at hd; cases hd
/-- an object that the call may read -/
noncomputable def Has (c : Fx) (σ : St) (a : Addr) (o : Obj) : Prop := c.h.get? a = some o ∨ (a, o) ∈ σ.n
variable {a : Addr} {o : Obj} {U : Unit → St → Prop} {V : Bool → St → Prop}
theorem R.has (r : R c σ s) (h : Has c σ a o) : s.heap.get? a = some o := h.elim (r.F.keep a o) fun hm => (r.N _ hm).1
theorem R.off (r : R c σ s) (h : Has c σ a o) : a ∉ frs c.S := h.elim (fun e q => (by rw [r.G _ q] at e; cases e)) fun hm => r.O _ (List.mem_append_left _ (List.mem_map_of_mem hm))
/-- after a step that altered objects of the ledger: the ledger's new rows -/
theorem R.back (r : R c σ s) (X : List Addr) (n' : List (Addr × Obj)) {s' : Shared} (hz : Lift s s') (g : GF s.heap s'.heap X (frs c.S)) (hX : ∀ x ∈ X, ∃ o, (x, o) ∈ σ.n ∧ isT o = false) (hn : n'.map (·.1) = σ.n.map (·.1))
    (hp : ∀ p ∈ n', p ∈ σ.n ∧ p.1 ∉ X ∨ s'.heap.get? p.1 = some p.2) : R c ⟨σ.m, n', σ.k, tups s'.heap⟩ s' ∧ Le σ.t (tups s'.heap) := by
  have M := r.mid g fun x hx => by
    obtain ⟨o, hm, ht⟩ := hX x hx
    exact ⟨(r.N _ hm).2, r.O _ (List.mem_append_left _ (List.mem_map_of_mem hm)), fun o' e => by rw [(r.N _ hm).1] at e; cases e; exact ht⟩
  have D : adrs ⟨σ.m, n', σ.k, tups s'.heap⟩ = adrs σ := congrArg (· ++ _) hn
  refine ⟨⟨M.F, fun p hp' => ?_, fun y hy => ⟨(M.K y hy).1, (M.K y hy).2.1 fun q => ?_, (M.K y hy).2.2⟩, D ▸ r.D, fun b hb => r.O b (D ▸ hb), Le.refl _, M.T, r.G, r.Z.trans hz⟩, M.V⟩
  · have hm : p.1 ∈ n'.map (·.1) := List.mem_map_of_mem hp'
    rw [hn] at hm
    obtain ⟨q, hq, e⟩ := List.mem_map.mp hm
    refine ⟨?_, e ▸ (r.N q hq).2⟩
    rcases hp p hp' with ⟨h1, h2⟩ | h1
    · exact M.N p h1 h2
    · exact h1
  · obtain ⟨o, hm, _⟩ := hX _ q
    exact (List.nodup_append.mp r.D).2.2 _ (List.mem_map_of_mem hm) _ (List.mem_map_of_mem hy) rfl
theorem nd_at {a : Addr} {o o' : Obj} (l : List (Addr × Obj)) (h : (l.map (·.1)).Nodup) : ∀ (i j : Nat), l[i]? = some (a, o) → l[j]? = some (a, o') → i = j := by
  induction l with
  | nil => intro i j hi; cases hi
  | cons p r ih =>
    obtain ⟨h1, h2⟩ := List.nodup_cons.mp h
    intro i j hi hj
    cases i with
    | zero =>
      cases j with
      | zero => rfl
      | succ j => cases hi; exact absurd (List.mem_map.mpr ⟨_, List.mem_of_getElem? (l := r) (i := j) hj, rfl⟩) h1
    | succ i =>
      cases j with
      | zero => cases hj; exact absurd (List.mem_map.mpr ⟨_, List.mem_of_getElem? (l := r) (i := i) hi, rfl⟩) h1
      | succ j => exact congrArg _ (ih h2 i j hi hj)
theorem R.back1 {i : Nat} {o' : Obj} {s' : Shared} (r : R c σ s) (hi : σ.n[i]? = some (a, o)) (hz : Lift s s') (g : GF s.heap s'.heap [a] (frs c.S)) (ho : s'.heap.get? a = some o') (ht : isT o = false) :
    R c ((σ.setN i a o').setT (tups s'.heap)) s' ∧ Le σ.t (tups s'.heap) := by
  refine r.back [a] (σ.n.set i (a, o')) hz g (List.forall_mem_singleton.mpr ⟨o, List.mem_of_getElem? hi, ht⟩) ?_ fun p hp => ?_
  · rw [List.map_set]
    obtain ⟨h1, e1⟩ := List.getElem?_eq_some_iff.mp hi
    refine List.ext_getElem? fun j => ?_
    rw [List.getElem?_set]
    split
    · rename_i q; subst q; rw [List.getElem?_map, hi, List.length_map, if_pos h1]; rfl
    · rfl
  · obtain ⟨j, hj⟩ := List.mem_iff_getElem?.mp hp
    rw [List.getElem?_set] at hj
    split at hj
    · split at hj
      · cases hj; exact .inr ho
      · cases hj
    · rename_i q
      refine .inl ⟨List.mem_of_getElem? hj, fun w => q ?_⟩
      obtain ⟨b, ob⟩ := p
      have e : b = a := List.mem_singleton.mp w
      subst e
      exact nd_at _ (List.nodup_append.mp r.D).1 _ _ hi hj
theorem gf_same {h h' : Heap} {S : List Addr} (hs : Heap.SameBut a h h') (hf : a ∉ S) : GF h h' [a] S := .of (fun b _ e n => (hs.2 b fun q => n (q ▸ .head _)).trans e) fun x hx => (List.mem_singleton.mp hx) ▸ hf
theorem R.upd {i : Nat} {o' : Obj} {h' : Heap} {tk : Nat} (r : R c σ s) (hi : σ.n[i]? = some (a, o)) (hs : Heap.SameBut a s.heap h') (ho : h'.get? a = some o') (ht : isT o = false) :
    R c (σ.setN i a o') { s with heap := h', toks := tk } := by
  obtain ⟨x, y⟩ := r.back1 (s' := { s with heap := h', toks := tk }) hi ⟨_, _, rfl⟩ (gf_same hs (r.off (.inr (List.mem_of_getElem? hi)))) ho ht
  exact ⟨x.F, x.N, x.K, x.D, x.O, y, x.T, x.G, x.Z⟩
/-- nothing of the ledger is another -/
theorem R.back0 {s' : Shared} (r : R c σ s) (hz : Lift s s') (g : GF s.heap s'.heap [] (frs c.S)) : R c (σ.setT (tups s'.heap)) s' ∧ Le σ.t (tups s'.heap) := by
  obtain ⟨h', tk, rfl⟩ := hz
  exact ⟨(r.grow (tk := tk) g).top, (r.grow (tk := tk) g).V⟩

section dict
variable {K : Type} [DecidableEq K] {knd : KeyKind PG c.w K} {kvs : List (K × Value)} {k : K} {key x : Value} {v i : Expr}
theorem dict_notT {w : World} {knd : KeyKind PG w K} (h : o.IsDictOf knd kvs) : isT o = false := by
  obtain ⟨es, ep, hx, hd, _⟩ := h
  unfold isT; rw [hd, Bool.and_false]
theorem R.dict (r : R c σ s) (h : Has c σ a o) (hd : o.IsDictOf knd kvs) : s.heap.DictOf knd a kvs := Heap.dictOf_iff.mpr ⟨o, r.has h, hd⟩
/-- a subscript upon an object of a plain type is its getItem -/
theorem raw_tail {j : Value} {T id : String} (hT : ∀ s, R c σ s → s.TypeIs (.ref a) T) (hl : typeLookup (.type T) "__getitem__" = pure (some (.builtin id))) (h : raw c (getItem (.ref a) j) P σ)
    (hs : plainSlice i = true) : raw c (subscriptTail v i (.ref a) j) P σ := fun s r => by
  refine tail_any (ops := [.ref a, j]) (hT s r) hl (h s r) ?_
  cases i <;> first | rfl | exact absurd (show false = true from hs) Bool.false_ne_true
theorem raw_getdict (hh : Has c σ a o) (hd : o.IsDictOf knd kvs) (hk : knd.is k key = true) (hv : valueAt kvs k = some x) (h : P x σ) (hs : plainSlice i = true) :
    raw c (subscriptTail v i (.ref a) key) P σ :=
  raw_tail (fun _ r => (r.dict hh hd).typeIs) slot_dict_getitem.lookup (fun _ r => wpAny_getItem_of hk (r.dict hh hd).mapOf hv (done r h _)) hs
theorem raw_setdict (i : Nat) (hi : σ.n[i]? = some (a, o)) (hd : o.IsDictOf knd kvs) (hk : knd.is k key = true) (hz : kvs.length ≤ sizeLine)
    (h : ∀ o', o'.IsDictOf knd (stored kvs k x) → U () (σ.setN i a o')) : raw c (setItem (.ref a) key x) U σ := fun s r => by
  refine wpAny_setItem_pairs hk (r.dict (.inr (List.mem_of_getElem? hi)) hd) (fun h' hd' hs => ?_) hz
  obtain ⟨o', ho', hd'⟩ := Heap.dictOf_iff.mp hd'
  exact pst (r.upd hi hs ho' (dict_notT hd)) (h o' hd')
end dict
/-- a list that the call may read -/
noncomputable def HasL (c : Fx) (σ : St) (a : Addr) (vs : List Value) : Prop := ∃ o n, Has c σ a o ∧ o.cls = .type "list" ∧ o.data = .seq vs.toArray n
theorem R.hasL {vs : List Value} (r : R c σ s) (h : HasL c σ a vs) : s.heap.IsList a vs.toArray := let ⟨_, n, hh, hc, hd⟩ := h; ⟨_, r.has hh, hc, n, hd⟩
section list
variable {vs : List Value} {k n : Int} {t : Tok} {x : Value} {v i : Expr}
theorem raw_len_list (hh : HasL c σ a vs) (hf : vs.length ≤ sizeLine) (h : ∀ t, P (.int vs.length t) σ) : raw c (call (.builtin "len") [.ref a]) P σ := fun _ r =>
  len_list (r.hasL hh) (by rw [List.size_toArray]; have := hf; rw [sizeLine_eq] at this; omega) (by rw [List.size_toArray]; exact done r (h _) _)
theorem raw_getlist (hh : HasL c σ a vs) (h0 : 0 ≤ k) (hf : k < 2 ^ 63) (hx : vs[k.toNat]? = some x) (h : P x σ) (hs : plainSlice i = true) : raw c (subscriptTail v i (.ref a) (.int k t)) P σ :=
  raw_tail (fun _ r => (r.hasL hh).typeIs) slot_list_getitem.lookup (fun _ r => wpAny_getItem_list (r.hasL hh) h0 hf (by simpa using hx) (pst r h)) hs
theorem raw_int (h : P (.int n t) σ) : raw c (call (.type "int") [.int n t]) P σ := fun s r => PySem.call_int_int (pst r h)
theorem raw_abs (h : ∀ t, P (.int (if n < 0 then -n else n) t) σ) : raw c (call (.builtin "abs") [.int n t]) P σ := fun _ r => call_abs_int fun _ _ => done r (h _) _
end list
end
end Mine
end
section
open PySem PySem.W PyProof.Rows PySem.Spec PySem.Calls
set_option Elab.async false
set_option maxRecDepth 100000
namespace Mine
section
variable {c : Fx} {sc : List (Str × NameKind)} {s : Shared} {σ : St} {P : Value → St → Prop}
/-- the drawing dict: its cells' list and its place -/
noncomputable def FeedO (w : World) (o : Obj) (lc : Addr) (k : Int) : Prop := ∃ t, o.IsDictOf (PySem.strKind PG w) [(Str.ofString "cells", .ref lc), (Str.ofString "spot", .int k t)]
theorem Has.enter {c' : Fx} {W : List Addr} {n : Nat} {t : Heap} {sc' : List (Str × NameKind)} {σ' : St} {l : Addr} {o : Obj} (h : Has c σ l o) (r : R c σ s) (I : In c sc' s W c' n t) (hn : l ∉ W) : Has c' σ' l o :=
  .inl (I.g _ _ (r.has h) hn (r.off h))
theorem HasL.enter {c' : Fx} {W : List Addr} {n : Nat} {t : Heap} {sc' : List (Str × NameKind)} {σ' : St} {l : Addr} {vs : List Value} (h : HasL c σ l vs) (r : R c σ s) (I : In c sc' s W c' n t) (hn : l ∉ W) : HasL c' σ' l vs :=
  let ⟨o, n, hh, hc, hd⟩ := h; ⟨o, n, hh.enter r I hn, hc, hd⟩
theorem HasL.ne {K : Type} [DecidableEq K] {w : World} {knd : KeyKind PG w K} {kvs : List (K × Value)} {l d : Addr} {o : Obj} {vs : List Value} (h : HasL c σ l vs) (r : R c σ s) (hh : Has c σ d o) (hd : o.IsDictOf knd kvs) : l ∉ [d] := fun q => by
  obtain ⟨x, n, hx, hc, hl⟩ := h
  have e := r.has hx
  rw [List.mem_singleton.mp q, r.has hh] at e
  cases e
  obtain ⟨_, _, _, h2, _⟩ := hd
  rw [hl] at h2; cases h2
theorem next_ok {fd lc : Addr} {o : Obj} {k wide : Int} {t0 : Tok} {vs : List Value} {ns : List Int} (i : Nat) (a : Act sc c) (u : Up c 800) (hi : σ.n[i]? = some (fd, o)) (hF : FeedO c.w o lc k) (hL : HasL c σ lc vs) (hI : IntsAre vs ns) (hn : ns.length ≤ 48)
    (h0 : 0 ≤ k) (hk : k ≤ 1000) (hw : 0 < wide) (h : ∀ r t o' t', 0 ≤ r → r < wide → FeedO c.w o' lc (k + 1) → Le σ.t t' → P (.int r t) ((σ.setN i fd o').setT t')) :
    raw c (call (.ref 180) [.ref fd, .int wide t0]) P σ := by
  obtain ⟨t, hd⟩ := hF
  refine enter [(fd, o)] a u (List.forall_mem_singleton.mpr (List.mem_of_getElem? hi)) (List.nodup_cons.mpr ⟨List.not_mem_nil, .nil⟩) (List.forall_mem_singleton.mpr (dict_notT hd)) (by k_is) (by k_is) (Nat.le_of_ble_eq_true rfl) (fun _ => BindsTo.of_eq rfl) (by rfl) (by exact .nil) (by rfl) (by rfl) (by rfl) ?_
  intro s c' tv r I QF hQ t1
  rw [← I.w] at hd
  refine raw_getdict (.inr (.head _)) hd (strKind_is _ _ _ _) rfl ?_ rfl
  intro t2 t3 t4
  refine raw_setdict 0 rfl hd (strKind_is _ _ _ _) (Nat.le_of_ble_eq_true rfl) ?_
  intro o' hd'
  have hL' : ∀ σ', HasL c' σ' lc vs := fun σ' => hL.enter r I (hL.ne r (.inr (List.mem_of_getElem? hi)) hd)
  have fin : ∀ (x : Int) t' m k, QF (.ret (.int (x.fmod wide) t')) ⟨m, [(fd, o')], k, tv⟩ := fun x t' m k => hQ _ _ fun s' Z S N O V => by
    obtain ⟨r', l'⟩ := r.back1 hi Z S (N _ (.head _)).1 (dict_notT hd)
    exact pst r' (h _ _ _ _ (fmod_lo' _ hw) (fmod_hi' _ hw) (I.w ▸ ⟨_, hd'⟩) l')
  refine ⟨.bi _, fun t5 => ?_⟩
  refine raw_getdict (.inr (.head _)) hd' (strKind_is _ _ _ _) rfl ?_ rfl
  refine raw_len_list (hL' _) (by rw [hI.length, sizeLine_eq]; omega +splitDisjunctions) fun t6 => ⟨fun hb => ?_, fun hb => ?_⟩
  · refine ⟨.ty _, fun t7 => ?_⟩
    refine raw_getdict (.inr (.head _)) hd' (strKind_is _ _ _ _) rfl ?_ rfl
    have hb' := of_decide_eq_true hb
    rw [hI.length] at hb'
    obtain ⟨tx, hx⟩ := hI.get k.toNat (ns.getD k.toNat 0) (by rw [List.getD_eq_getElem?_getD, List.getElem?_eq_getElem (by omega +splitDisjunctions)]; rfl)
    refine raw_getlist (hL' _) h0 (by omega +splitDisjunctions) hx ?_ rfl
    refine raw_int ?_
    exact ⟨Int.ne_of_gt hw, fun t8 => fin _ _ _ _⟩
  · have hm : ∀ a b : Int, -7000000 < a → a < 7000000 → IntMulOk a b := fun a b h1 h2 => IntMulOk.of_left (intBits_le_64 (by omega +splitDisjunctions) (by omega +splitDisjunctions))
    intro t7
    refine ⟨hm _ _ (by decide) (by decide), fun t8 => ⟨hm _ _ (by omega +splitDisjunctions) (by omega +splitDisjunctions), fun t9 t10 => ⟨hm _ _ (by decide) (by decide), fun t11 t12 t13 => ⟨.bi _, fun t14 => ?_⟩⟩⟩⟩
    refine raw_getdict (.inr (.head _)) hd' (strKind_is _ _ _ _) rfl ?_ rfl
    refine raw_len_list (hL' _) (by rw [hI.length, sizeLine_eq]; omega +splitDisjunctions) fun t15 => ⟨hm _ _ (by decide) (by decide), fun t16 t17 t18 t19 t20 => ⟨by decide, fun t21 => ⟨Int.ne_of_gt hw, fun t22 => fin _ _ _ _⟩⟩⟩
end
end Mine
end
section
open PySem PySem.W PyProof.Rows PySem.Spec PySem.Calls
set_option Elab.async false
set_option maxRecDepth 100000
set_option maxHeartbeats 4000000
set_option linter.unusedVariables false
namespace Mine
noncomputable def owns (nm : String) : Bool := ["enumerate", "zip", "dict_itemiterator", "dict_reverseitemiterator", "odict_iterator", "itertools.zip_longest", "itertools.pairwise"].contains nm
section
variable {c : Fx} {sc : List (Str × NameKind)} {s : Shared} {σ : St}
noncomputable abbrev Stays (I : Addr) (h h' : Heap) : Prop := ∀ b ob, b ≠ I → h.get? b = some ob → h'.get? b = some ob
/-- what a walk over a value needs: X is what it reads, P its items -/
noncomputable def Iter (c : Fx) (v : Value) (n : Nat) (P : Nat → Value → Prop) (X : Heap → Prop) : Prop := ∃ S : Nat → Obj → Prop,
  (∀ i o, S i o → isT o = false ∧ ∃ nm fs, o.cls = .type nm ∧ o.data = .fields fs ∧ owns nm = false) ∧ ∀ A : Around, A.handled = none →
  (∀ s (Q : Value → Shared → Prop) (E : Value → Shared → Prop), X s.heap → (∀ o, S 0 o → o.isFreed = false → Q (.ref s.heap.objs.size) { s with heap := s.heap.push o }) → wpAny (model PG c.w) A (pyIter v) Q E s) ∧
  (∀ I i s (Q : Option Value → Shared → Prop) (E : Value → Shared → Prop), i < n → X s.heap → (∃ o, s.heap.get? I = some o ∧ S i o) →
    (∀ x o' h' tk, P i x → h'.get? I = some o' → S (i + 1) o' → Stays I s.heap h' → Q (some x) { s with heap := h', toks := tk }) → wpAny (model PG c.w) A (pyNext (.ref I)) Q E s) ∧
  (∀ I s (Q : Option Value → Shared → Prop) (E : Value → Shared → Prop), X s.heap → (∃ o, s.heap.get? I = some o ∧ S n o) →
    (∀ h' tk, Stays I s.heap h' → Q none { s with heap := h', toks := tk }) → wpAny (model PG c.w) A (pyNext (.ref I)) Q E s) ∧
  ∀ I i s (Q : Value → Shared → Prop) (E : Value → Shared → Prop), (∃ o, s.heap.get? I = some o ∧ S i o) → Q (.ref I) s → wpAny (model PG c.w) A (pyIter (.ref I)) Q E s
theorem isT_fields {o : Obj} {fs : Array Value} (h : o.data = .fields fs) : isT o = false := by unfold isT; rw [h, Bool.and_false]
theorem stays_same {I : Addr} {h h' : Heap} (hs : Heap.SameBut I h h') : Stays I h h' := fun b ob n e => (hs.2 b n).trans e
theorem iter_list (hh : c.A.handled = none) (l : Addr) (vs : List Value) : Iter c (.ref l) vs.length (fun i x => vs[i]? = some x) (fun h => h.IsList l vs.toArray) := by
  refine ⟨fun i o => o.cls = .type "list_iterator" ∧ o.data = .fields #[.ref l, .int i 0], fun i o h => ⟨isT_fields h.2, _, _, h.1, h.2, by decide⟩, fun A hh => ⟨
    fun s Q E hX hQ => wpAny_pyIter_list hX (hQ _ ⟨rfl, rfl⟩ rfl), fun I i s Q E hi hX hS hQ => ?_, fun I s Q E hX hS hQ => wpAny_pyNext_list_end hh hS hX (by simp) fun h' he => hQ h' s.toks fun b ob n e => he b ob n e, fun I i s Q E hS hQ => wpAny_pyIter_listiter hS hQ⟩⟩
  exact wpAny_pyNext_list_item (x := vs[i]) hS hX (by simp [hi]) fun h' ⟨o', ho', hs'⟩ hs => hQ _ o' h' s.toks (by simp [hi]) ho' hs' (stays_same hs)
theorem iter_tuple (hh : c.A.handled = none) (l : Addr) (vs : List Value) : Iter c (.ref l) vs.length (fun i x => vs[i]? = some x) (fun h => h.IsTuple l vs.toArray) := by
  refine ⟨fun i o => o.cls = .type "tuple_iterator" ∧ o.data = .fields #[.ref l, .int i 0], fun i o h => ⟨isT_fields h.2, _, _, h.1, h.2, by decide⟩, fun A hh => ⟨
    fun s Q E hX hQ => wpAny_pyIter_tuple hX (hQ _ ⟨rfl, rfl⟩ rfl), fun I i s Q E hi hX hS hQ => ?_, fun I s Q E hX hS hQ => wpAny_pyNext_tuple_end hh hS hX (by simp) fun h' he => hQ h' s.toks fun b ob n e => he b ob n e, fun I i s Q E hS hQ => wpAny_pyIter_tupleiter hS hQ⟩⟩
  exact wpAny_pyNext_tuple_item (x := vs[i]) hS hX (by simp [hi]) fun h' ⟨o', ho', hs'⟩ hs => hQ _ o' h' s.toks (by simp [hi]) ho' hs' (stays_same hs)
theorem iter_range (hh : c.A.handled = none) (r : Addr) (a b : Int) (t u v : Tok) (n : Nat) (hs : Builtin.Range.small a b 1 = true) (hn : Builtin.Range.rangeSize a b 1 = n) :
    Iter c (.ref r) n (fun i x => ∃ t, x = .int (a + i) t) (fun h => IsRange h r a b 1 t u v) := by
  refine ⟨fun i o => o = { cls := .type "range_iterator", dict := none, data := .fields #[rawInt (a + (i : Nat)), rawInt ((n : Int) - (i : Nat)), rawInt 1], slots := #[] }, fun i o h => by subst h; exact ⟨rfl, _, _, rfl, rfl, by decide⟩, fun A hh => ⟨
    fun s Q E hX hQ => wpAny_pyIter_range hX hs (hQ _ (by rw [hn]; simp) rfl), fun I i s Q E hi hX hS hQ => ?_, fun I s Q E hX hS hQ => ?_, fun I i s Q E hS hQ => by obtain ⟨o, ho, rfl⟩ := hS; exact wpAny_pyIter_rangeiter ho hQ⟩⟩
  · obtain ⟨o, ho, rfl⟩ := hS
    refine wpAny_pyNext_range_item ho (by omega) fun h' hit' hs' => hQ _ _ h' _ ⟨_, rfl⟩ hit' ?_ (stays_same hs')
    rw [show (a + (i : Int) + 1) = a + ((i + 1 : Nat) : Int) by omega, show ((n : Int) - i - 1) = (n : Int) - ((i + 1 : Nat) : Int) by omega]
  · obtain ⟨o, ho, rfl⟩ := hS
    exact wpAny_pyNext_range_end hh ho (by omega) fun h' he => hQ h' s.toks fun b ob n e => he b ob n e
theorem iter_dict {K : Type} [DecidableEq K] {knd : KeyKind PG c.w K} {kvs : List (K × Value)} (hh : c.A.handled = none) (d : Addr) (o : Obj) (hd : o.IsDictOf knd kvs) (hne : (d == sysModules) = false) :
    Iter c (.ref d) kvs.length (fun i x => ∃ k v, kvs[i]? = some (k, v) ∧ knd.is k x = true) (fun h => h.get? d = some o) := by
  obtain ⟨es, ep, hD⟩ := hd
  have at_ : ∀ {h : Heap}, h.get? d = some o → h.DictAt knd d kvs ep := fun e => ⟨o, es, e, hD⟩
  refine ⟨fun i o => o.cls = .type "dict_keyiterator" ∧ o.data = .fields #[.ref d, .int i 0, .int kvs.length 0, .int ep 0], fun i o h => ⟨isT_fields h.2, _, _, h.1, h.2, by decide⟩, fun A hh => ⟨
    fun s Q E hX hQ => wpAny_pyIter_dict hne (at_ hX) (hQ _ ⟨rfl, rfl⟩ rfl), fun I i s Q E hi hX hS hQ => ?_, fun I s Q E hX hS hQ => wpAny_pyNext_dict_end hh hS (at_ hX) (by simp) fun h' he => hQ h' s.toks fun b ob n e => he b ob n e, fun I i s Q E hS hQ => wpAny_pyIter_keyiter hS hQ⟩⟩
  obtain ⟨⟨k, x⟩, hx⟩ : ∃ p, kvs[i]? = some p := ⟨kvs[i], by simp [hi]⟩
  exact wpAny_pyNext_dict_item hS (at_ hX) hx fun key h' hkey ⟨o', ho', hs'⟩ hs => hQ _ o' h' s.toks ⟨k, x, hx, hkey⟩ ho' hs' (stays_same hs)

/-- the loop's own object stands last in the ledger -/
noncomputable def St.endN (σ : St) (I : Addr) (o : Obj) : St := ⟨σ.m, σ.n ++ [(I, o)], σ.k, σ.t⟩
noncomputable def St.pop (σ : St) : St := ⟨σ.m, σ.n.dropLast, σ.k, σ.t⟩
noncomputable def LoopGo (J : St → Prop) (Q : Flow → St → Prop) (fl : Flow) (σ : St) : Prop := match fl with
  | .next => ∃ σ', Less σ' σ ∧ J σ'
  | .cont => ∃ σ', Less σ' σ ∧ J σ'
  | .brk => Q .next σ
  | .ret v => Q (.ret v) σ
structure LoopEnd (I : Addr) (o : Obj) (J : St → Prop) (Q : Flow → St → Prop) (fl : Flow) (σ : St) : Prop where
  last : σ.n.getLast? = some (I, o)
  go : LoopGo J Q fl σ.pop
theorem less_end {σ' : St} {I : Addr} {o : Obj} (l : Less σ' σ) : Less (σ'.endN I o) (σ.endN I o) := ⟨l.1, l.2.1.append (List.Sublist.refl _), l.2.2.1, l.2.2.2⟩
theorem adrs_end {I : Addr} {o : Obj} : (adrs (σ.endN I o)).Perm (I :: adrs σ) := by
  show ((σ.n ++ [(I, o)]).map (·.1) ++ _).Perm _
  rw [List.map_append, List.append_assoc]
  exact List.perm_middle
theorem R.endN {I : Addr} {o : Obj} (r : R c σ s) (ho : s.heap.get? I = some o) (hO : Own c.h c.L I) (hn : NewAt I σ) (hf : I ∉ frs c.S) : R c (σ.endN I o) s :=
  ⟨r.F, fun p hp => by
    rcases List.mem_append.mp hp with hp | hp
    · exact r.N p hp
    · rw [List.mem_singleton.mp hp]; exact ⟨ho, hO⟩, r.K, adrs_end.nodup_iff.mpr (List.nodup_cons.mpr ⟨hn, r.D⟩), fun a ha => by
    rcases List.mem_cons.mp (adrs_end.mem_iff.mp ha) with rfl | ha
    · exact hf
    · exact r.O a ha, r.V, r.T, r.G, r.Z⟩
/-- the loop's object goes, whatever it is now -/
theorem R.unEnd {I : Addr} {o : Obj} {h' : Heap} {tk : Nat} (r : R c (σ.endN I o) s) (ht : isT o = false) (hs : Stays I s.heap h') : R c σ { s with heap := h', toks := tk } ∧ Own c.h c.L I ∧ NewAt I σ ∧ I ∉ frs c.S := by
  have hI := r.N (I, o) (List.mem_append_right _ (.head _))
  have hf : I ∉ frs c.S := r.O I (adrs_end.mem_iff.mpr (.head _))
  have D := List.nodup_cons.mp (adrs_end.nodup_iff.mp r.D)
  have M := r.mid (X := [I]) (h' := h') (.of (fun b ob e n => hs b ob (fun q => n (q ▸ .head _)) e) fun x hx => (List.mem_singleton.mp hx) ▸ hf) fun x hx => by
    rw [List.mem_singleton.mp hx]
    exact ⟨hI.2, hf, fun o' e => by rw [hI.1] at e; cases e; exact ht⟩
  have nI : ∀ a ∈ adrs σ, a ∉ [I] := fun a ha q => D.1 (List.mem_singleton.mp q ▸ ha)
  exact ⟨⟨M.F, fun p hp => ⟨M.N p (List.mem_append_left _ hp) (nI _ (List.mem_append_left _ (List.mem_map_of_mem hp))), (r.N p (List.mem_append_left _ hp)).2⟩, fun y hy => ⟨(M.K y hy).1, (M.K y hy).2.1 (nI _ (List.mem_append_right _ (List.mem_map_of_mem hy))), (M.K y hy).2.2⟩,
    D.2, fun a ha => r.O a (adrs_end.mem_iff.mpr (.tail _ ha)), M.V, M.T, r.G, r.Z.trans ⟨_, _, rfl⟩⟩, hI.2, D.1, hf⟩
theorem go_ok {target : Expr} {I : Addr} {v : Value} {o : Obj} {nm : String} {fs : Array Value} {Q : Unit → Shared → Prop} {E : Value → Shared → Prop} (ho : s.heap.get? I = some o) (hc : o.cls = .type nm) (hd : o.data = .fields fs) (hn : owns nm = false) (hQ : Q () s) :
    wpAny (model PG c.w) c.A (letOwnedTupleGo target (.ref I) v) Q E s := by
  have key : ∀ a : Addr, wpAny (model PG c.w) c.A (do
      let o ← load I
      match o.cls, o.data with
      | .type n, .fields vs =>
        if ["enumerate", "zip", "dict_itemiterator", "dict_reverseitemiterator", "odict_iterator", "itertools.zip_longest", "itertools.pairwise"].contains n && vs[0]? == some (rawInt a) then
          rule "for.unpacks-the-owned-tuple"
          updateField I 0 .none
      | _, _ => pure ()) Q E s := fun a => by
    refine wpAny_bind (wpAny_load ho ?_)
    rw [hc, hd]
    show wpAny _ _ (if (owns nm && fs[0]? == some (rawInt a)) = true then _ else _) _ _ _
    rw [hn, Bool.false_and, if_neg Bool.false_ne_true]
    exact wpAny_pure hQ
  cases target <;> first
    | exact wpAny_pure hQ
    | (cases v <;> first | exact key _ | exact wpAny_pure hQ)
theorem raw_ForB {target iter : Expr} {body : List Stmt} {pos : Pos} {Q : Flow → St → Prop} (a : Act sc c) (hp : PassesOwn (model PG c.w) c.A c.env c.E) (hh : c.A.handled = none) (hfs : ∀ x, foldedSetIterable iter c.env x = pure x) {B : (Flow → St → Prop) → St → Prop} (hB : ∀ Q σ, B Q σ → raw c (execs body c.env) Q σ)
    (h : vE c sc 40 iter (fun v σ₁ => ∃ n P X, Iter c v n P X ∧ ∃ J : Nat → St → Prop, J 0 σ₁ ∧ (∀ i σ s, J i σ → R c σ s → X s.heap) ∧
      (∀ i x I o σ, i < n → P i x → J i σ → NewAt I σ → raw c (assign target c.env x) (fun _ σ₂ => B (LoopEnd I o (J (i + 1)) Q) σ₂) (σ.endN I o)) ∧ ∀ σ, J n σ → Q .next σ) σ) :
    raw c (exec (.For target iter body [] pos) c.env) Q σ := fun s r => by
  refine wpAny_For (seq_ ((vET_sound a 40).1 _ _ _ _ h r) fun v σ₁ s₁ r₁ q₁ => ?_) hfs
  obtain ⟨n, P, X, ⟨S, hS, hall⟩, J, j0, hX, step, fin⟩ := q₁
  obtain ⟨hmk, hit, hend, _⟩ := hall c.A hh
  refine hmk _ _ _ (hX _ _ _ j0 r₁) fun o₀ hS₀ hf₀ => ?_
  obtain ⟨f1, f2, f3⟩ := fresh_own r₁ (none_size s₁.heap)
  have R₀ := (r₁.push o₀).endN (Heap.get?_push_size _ hf₀) f1 f2 f3
  refine codeAny_forLoop_any (fun k s' => ∃ i σ o, R c (σ.endN s₁.heap.objs.size o) s' ∧ S i o ∧ J i σ ∧ i ≤ n ∧ k = n - i) ?_ n ⟨0, σ₁, o₀, R₀, hS₀, j0, Nat.zero_le _, rfl⟩
  rintro k s' ⟨i, σ', o, r', hs', hj, hi, rfl⟩
  obtain ⟨hT, nm, fs, hcls, hdat, how⟩ := hS i o hs'
  have hI := r'.N (_, o) (List.mem_append_right _ (.head _))
  obtain ⟨ru, u1, u2, u3⟩ := r'.unEnd (h' := s'.heap) (tk := s'.toks) hT fun b ob _ e => e
  by_cases hlt : i < n
  · refine hit _ i _ _ _ hlt (hX _ _ _ hj ru) ⟨o, hI.1, hs'⟩ fun x o' h' tk hP ho' hso' hst => ?_
    obtain ⟨hT', nm', fs', hcls', hdat', how'⟩ := hS _ _ hso'
    refine go_ok (s := { s' with heap := h', toks := tk }) ho' hcls' hdat' how' ?_
    have r₂ := ((r'.unEnd (h' := h') (tk := tk) hT hst).1).endN ho' u1 u2 u3
    refine wpAny_mono (step i x _ o' σ' hlt hP hj u2 _ r₂) (fun _ s₃ p₃ => ?_) fun e s'' he => hp e s'' he
    obtain ⟨σ₃, r₃, q₃⟩ := p₃
    refine wpAny_mono (hB _ _ q₃ _ r₃) (fun fl s₄ p₄ => ?_) fun e s'' he => hp e s'' he
    obtain ⟨σ₄, r₄, hl, q₄⟩ := p₄
    have e4 : σ₄ = σ₄.pop.endN s₁.heap.objs.size o' := by
      show σ₄ = ⟨σ₄.m, σ₄.n.dropLast ++ [(s₁.heap.objs.size, o')], σ₄.k, σ₄.t⟩
      obtain ⟨hne, hle⟩ := List.getLast?_eq_some_iff.mp hl
      rw [hle]; cases σ₄; simp_all
    rw [e4] at r₄
    have r₅ := (r₄.unEnd (h' := s₄.heap) (tk := s₄.toks) hT' fun b ob _ e => e).1
    cases fl with
    | next => obtain ⟨σ₅, l₅, q₅⟩ := q₄; exact ⟨n - (i + 1), by omega, i + 1, _, o', r₄.less (less_end l₅), hso', q₅, hlt, rfl⟩
    | cont => obtain ⟨σ₅, l₅, q₅⟩ := q₄; exact ⟨n - (i + 1), by omega, i + 1, _, o', r₄.less (less_end l₅), hso', q₅, hlt, rfl⟩
    | brk => exact pst r₅ q₄
    | ret v => exact pst r₅ q₄
  · have : i = n := by omega
    subst this
    refine hend _ _ _ _ (hX _ _ _ hj ru) ⟨o, hI.1, hs'⟩ fun h' tk hst => ?_
    exact wpAny_execs_nil (pst (r'.unEnd hT hst).1 (fin _ hj))
theorem raw_For {target iter : Expr} {body : List Stmt} {pos : Pos} {Q : Flow → St → Prop} (a : Act sc c) (hint : interactive c.env = false) (hp : PassesOwn (model PG c.w) c.A c.env c.E) (hh : c.A.handled = none) (hfs : ∀ x, foldedSetIterable iter c.env x = pure x)
    (h : vE c sc 40 iter (fun v σ₁ => ∃ n P X, Iter c v n P X ∧ ∃ J : Nat → St → Prop, J 0 σ₁ ∧ (∀ i σ s, J i σ → R c σ s → X s.heap) ∧
      (∀ i x I o σ, i < n → P i x → J i σ → NewAt I σ → raw c (assign target c.env x) (fun _ σ₂ => vSs c sc 60 body (LoopEnd I o (J (i + 1)) Q) σ₂) (σ.endN I o)) ∧ ∀ σ, J n σ → Q .next σ) σ) :
    raw c (exec (.For target iter body [] pos) c.env) Q σ :=
  raw_ForB a hp hh hfs (B := vSs c sc 60 body) (fun Q σ h s r => (vS_sound a hint 60).2 _ _ _ _ h r) h
theorem raw_ForR {target iter : Expr} {body : List Stmt} {pos : Pos} {Q : Flow → St → Prop} (a : Act sc c) (hp : PassesOwn (model PG c.w) c.A c.env c.E) (hh : c.A.handled = none) (hfs : ∀ x, foldedSetIterable iter c.env x = pure x)
    (h : vE c sc 40 iter (fun v σ₁ => ∃ n P X, Iter c v n P X ∧ ∃ J : Nat → St → Prop, J 0 σ₁ ∧ (∀ i σ s, J i σ → R c σ s → X s.heap) ∧
      (∀ i x I o σ, i < n → P i x → J i σ → NewAt I σ → raw c (assign target c.env x) (fun _ σ₂ => raw c (execs body c.env) (LoopEnd I o (J (i + 1)) Q) σ₂) (σ.endN I o)) ∧ ∀ σ, J n σ → Q .next σ) σ) :
    raw c (exec (.For target iter body [] pos) c.env) Q σ :=
  raw_ForB a hp hh hfs (B := raw c (execs body c.env)) (fun Q σ h => h) h
theorem raw_go {sts : List Stmt} {Q : Flow → St → Prop} (a : Act sc c) (hint : interactive c.env = false) (h : vSs c sc 60 sts Q σ) : raw c (execs sts c.env) Q σ := fun s r => (vS_sound a hint 60).2 _ _ _ _ h r
theorem raw_go1 {st : Stmt} {Q : Flow → St → Prop} (a : Act sc c) (hint : interactive c.env = false) (h : vS c sc 60 st Q σ) : raw c (exec st c.env) Q σ := fun s r => (vS_sound a hint 60).1 _ _ _ _ h r
/-- a cut behind the first statement -/
theorem raw_cut {st : Stmt} {r : List Stmt} {Q : Flow → St → Prop} (M : St → Prop) (h1 : raw c (exec st c.env) (fun fl σ' => fl = .next ∧ M σ') σ) (h2 : ∀ σ', M σ' → raw c (execs r c.env) Q σ') : raw c (execs (st :: r) c.env) Q σ := fun s rr =>
  wpAny_execs_cons (seq_ (h1 s rr) fun f σ₁ s₁ r₁ q₁ => by obtain ⟨rfl, hm⟩ := q₁; exact h2 _ hm _ r₁)
theorem raw_step {st : Stmt} {r : List Stmt} {Q : Flow → St → Prop} (h : raw c (exec st c.env) (vThen (raw c (execs r c.env) Q) Q) σ) : raw c (execs (st :: r) c.env) Q σ := fun s rr =>
  wpAny_execs_cons (seq_ (h s rr) fun f σ₁ s₁ r₁ q₁ => by
    cases f with
    | next => exact q₁ _ r₁
    | ret v => exact pst r₁ q₁
    | brk => exact pst r₁ q₁
    | cont => exact pst r₁ q₁)
end
end Mine
end
section
open PySem PySem.W PyProof.Rows PySem.Spec PySem.Calls
set_option Elab.async false
set_option maxRecDepth 100000
set_option maxHeartbeats 600000
set_option linter.unusedVariables false
namespace Mine
noncomputable def nmPF : Str := Str.ofString "ProofFault"
noncomputable def tlPF : List Value := [.ref 40, .type "Exception", .type "BaseException", .type "object"]
noncomputable def tk0 : Tok := 0
theorem K69 (w : World) : (hd.heap_1 w.params).lookup 69 = some (excClassObj (Str.ofString "ProofFault") (Str.ofString "ProofFault") 69 68 [.ref 40] tlPF true [] [] false none none (some (.ref 44)) none (some (.str (Str.ofString "ProofFault") 227)) (some (.str (Str.ofString "ProofFault") 235)) (some (.bool true)) "Exception.__new__") := by k_is
theorem K59f (w : World) : findIn (hd.heap_1 w.params) (.ref 69) "__init__" = some (some (.ref 59)) := by k_is
theorem K69c (w : World) : specialIn (hd.heap_1 w.params) (.ref 69) "__call__" = some (some (.builtin "type.__call__")) := by k_is
theorem K69i (w : World) : instIn (hd.heap_1 w.params) (.ref 69) (.type "type") = some true := by k_is
theorem K59t (w : World) : typeIn (hd.heap_1 w.params) (.ref 59) = some (.type "function") := by k_is
theorem K40s (w : World) : mroIn (hd.heap_1 w.params) 69 (.ref 69) = some true := by k_is

section
variable {w : World} {A : Around} {R : Result → Shared → Prop} {h : Heap} {g : Array GenState} {d : Drawn} {t : Nat} {os : OsState}
noncomputable abbrev excO (C a : Addr) (dx : Option Addr) : Obj := { cls := .ref C, dict := dx, data := .fields #[.ref a, .none, .none, .none, .bool false, .none] }
noncomputable abbrev tupO (vs : List Value) : Obj := { cls := .type "tuple", data := .seq vs.toArray }
noncomputable abbrev clsPF : Obj := excClassObj (Str.ofString "ProofFault") (Str.ofString "ProofFault") 69 68 [.ref 40] tlPF true [] [] false none none (some (.ref 44)) none (some (.str (Str.ofString "ProofFault") 227)) (some (.str (Str.ofString "ProofFault") 235)) (some (.bool true)) "Exception.__new__"
theorem exc_check {M : Model} {E : Value → Shared → Prop} {rest : List Value} {Q : Unit → Shared → Prop} (hC : h.get? 69 = some clsPF) (hq : Q () ⟨h, g, d, t, os⟩) :
    wpAny M A (checkBuiltinCall "Exception.__new__" ⟨.ref 69 :: rest, []⟩) Q E ⟨h, g, d, t, os⟩ := by
  have F := PySem.F.excBase_Exception
  have hcont : (Value.ref 69 :: tlPF).contains (.type "Exception") = true := by decide
  have hstar := F.noStar
  simp only [checkBuiltinCall, F.newKind, F.newSplit, F.newRow]
  repeat (first | refine wpAny_loadPart_at hC ?_ | (refine wpAny_isSubtype_exc hC ?_; rw [hcont]) | refine wpAny_staticBase_exc hC ?_ | refine wpAny_madeBy_exc hC ?_ | simp only [bne_self_eq_false, Bool.false_eq_true, if_false] | wp_step)
  exact hq
theorem exc_new {rest : List Value} (hC : h.get? 69 = some clsPF) (hr : rest.length ≤ sizeLine)
    (hq : R (.ok (.ret (.ref (h.objs.size + 1)))) ⟨(h.push (tupO rest)).push (excO 69 h.objs.size none), g, d, t, os⟩) :
    codeAny (model PG w) A (.builtin "Exception.__new__" ⟨.ref 69 :: rest, []⟩) R ⟨h, g, d, t, os⟩ := by
  have F := PySem.F.excBase_Exception
  have hends := F.ends
  have hcB : (Value.ref 69 :: tlPF).contains (.type "Exception") = true := by decide
  have hcA : (Value.ref 69 :: tlPF).contains (.type "AttributeError") = false := by decide
  have hcN : (Value.ref 69 :: tlPF).contains (.type "NameError") = false := by decide
  refine codeAny_builtinAt F.entry ?_
  unfold Builtin.«BaseException.__new__»
  refine PySem.wpAt_bind ?_
  show PySem.wpAt _ _ _ (stack >>= _) _ _ _
  refine PySem.wpAt_bind (PySem.wpAt_stack fun p below => PySem.wpAt_of_wpAny ?_)
  wp_walk
  refine PySem.wpAt_of_wpAny ?_
  rw [F.owner]
  repeat (first | with_reducible refine wpAny_madeHere_exc F.canon hC ?_ | with_reducible refine wpAny_loadPart_at hC ?_ | (with_reducible refine wpAny_isSubtype_exc hC ?_; first | rw [hcB] | rw [hcA] | rw [hcN]) | wp_step)
  show R _ _
  rw [Heap.size_push]
  exact hq
theorem exc_core {rest : List Value} (X : (hd.heap_1 w.params).In h) (hr : rest.length ≤ sizeLine)
    (hq : codeAny (model PG w) (A.under (.builtin "type.__call__" ⟨.ref 69 :: rest, []⟩)) (.call (.ref 59) ⟨.ref (h.objs.size + 1) :: rest, []⟩) (InitBack (h.objs.size + 1) R) ⟨(h.push (tupO rest)).push (excO 69 h.objs.size none), g, d, t, os⟩) :
    codeAny (model PG w) A (.call (.ref 69) ⟨rest, []⟩) R ⟨h, g, d, t, os⟩ := by
  have hC := X _ _ (K69 w)
  have F := PySem.F.excBase_Exception
  have call := looks_specialIn (M := model PG w) X (K69c w)
  have typ := looks_instIn (M := model PG w) X (K69i w)
  refine codeAny_of_tree ?_
  show wpAny _ _ (callAny (.ref 69) _) _ _ _
  refine nd_load hC ?_
  show wpAny _ _ (callAny.viaDunder (.ref 69) _) _ _ _
  unfold callAny.viaDunder
  refine wpAny_bind (call.at ?_)
  dsimp only
  rw [PySem.tc_bind]
  refine wpAny_bind (wpAny_pure (wpAny_bind (wpAny_pure ?_)))
  refine wpAny_pure (a := Fin.again (.call (.builtin "type.__call__") ⟨.ref 69 :: rest, []⟩)) (And.intro rfl ?_)
  refine codeAny_call_builtin_at (Code.quiet_builtin _ (by decide +kernel)) entry_typeCall (check_slot PySem.tc_kind PySem.tc_split typ (tc_args _ _ _) ?_)
  have hrest := hr
  repeat (first | with_reducible refine wpAny_loadPart_at hC ?_ | with_reducible refine wpAny_madeBy_exc hC ?_ | wp_step)
  refine codeAny_call_builtin_code (Code.quiet_builtin _ F.quiet) (exc_check hC ?_)
  refine exc_new hC hr ?_
  show wpAny _ _ _ _ _ _
  have k : ∀ b o, h.get? b = some o → ((h.push (tupO rest)).push (excO 69 h.objs.size none)).get? b = some o := fun b o e => Heap.get?_push_of_some _ (Heap.get?_push_of_some _ e)
  have hC₁ := k _ _ hC
  have hget : ((h.push (tupO rest)).push (excO 69 h.objs.size none)).get? (h.objs.size + 1) = some (excO 69 h.objs.size none) := by heap_get
  have hcC : (Value.ref 69 :: tlPF).contains (.ref 69) = true := by decide
  unfold isInstance
  repeat (first | with_reducible refine wpAny_loadPart_at hget ?_ | (with_reducible refine wpAny_isSubtype_exc hC₁ ?_; rw [hcC]) | wp_step)
  have i1 := (looks_findIn (M := model PG w) X (K59f w)).keeps k
  have b1 := (bind_fn (M := model PG w) X (.ref (h.objs.size + 1)) (K59t w)).keeps k
  refine (show Looks (model PG w) _ (typeLookup (excO 69 h.objs.size none).cls "__init__") _ from i1).at ?_
  dsimp only
  repeat (first | with_reducible refine wpAny_call ?_ | lk)
  refine codeAny_mono hq fun r s' z => ?_
  rcases r with e | (v | _ | _ | _) <;> first | exact z | exact z.elim | skip
  obtain ⟨rfl, z⟩ := z
  exact wpAny_pure (wpAny_pure z)
theorem super_enter {s : Shared} {mean : ExcName → Option Value} {mg mb : Str → Option Value} {name qual : Str} {params : Arguments} {body : List Stmt} {scope : Scope} {dV kV doc pm cdv ct oc : Value} {an od : Option Addr} {osl : Array (Option Value)} {f cc : Addr} {args : Args} {binds : List (Str × Value)}
    (X : (hd.heap_1 w.params).In s.heap) (T : Top view (looseW view []) mean mg mb s.heap) (hroom : A.depth < recursionLimit)
    (ho : (hd.heap_1 w.params).lookup f = some ⟨oc, od, .func (ksFn name qual params body scope dV kV doc pm an cdv ct cc), osl⟩) (hcd : codeIn (hd.heap_1 w.params) cdv qual = true)
    (hbind : BindsTo s (ksFn name qual params body scope dV kV doc pm an cdv ct cc) args binds) (hcell : ∀ x ∈ scope.names, x.2 ≠ .cell) (hloc : ∀ x ∈ binds, scope.names.lookup x.1 = some .local)
    (hco : scope.isCoroutine = false) (hgen : scope.isGenerator = false) (hk : scope.kind = .function)
    (h : ∀ L h₁, L = s.heap.objs.size → h₁.Ns L (fun x => binds.reverse.lookup x) → (∀ b o, s.heap.get? b = some o → h₁.get? b = some o) →
      PySem.wpAt (model PG w) (A.deeper (ksEnv qual scope L f cdv cc)) (.func body (ksEnv qual scope L f cdv cc)) (execs body (ksEnv qual scope L f cdv cc)) (fun fl s' => R (.ok (.ret (retv fl))) s') (fun _ _ => False) { s with heap := h₁, toks := s.toks + binds.length }) :
    codeAny (model PG w) A (.call (.ref f) args) R s :=
  ks_codeAny_call_defAt hroom (X _ _ ho) rfl T.nolimit (codeRec_of X hcd) rfl hbind hcell hloc (fun h₁ hns hk₁ => ks_wpAt_mono (h _ h₁ rfl hns hk₁) (fun fl s' hl => by cases fl <;> exact hl) fun _ _ e => e.elim) hco hgen hk
theorem wd_slot : Slot "wrapper_descriptor" "__get__" "wrapper_descriptor.__get__" := .of (owner := "wrapper_descriptor") (n := "__get__") (by rw [typeLookup_type, builtinLookup_eq_fast]; kernel_rfl) (by decide +kernel) (by decide +kernel) (by decide +kernel)
  (by first | exact .inl (by decide +kernel) | exact .inr (by decide +kernel)) (by rw [isSubtype_type]; kernel_rfl)
theorem wd_entry : entryFor table "wrapper_descriptor.__get__" = some Builtin.«wrapper_descriptor.__get__» := entryFor_of_tree (by kernel_rfl)
theorem wd_args (a b c : Value) : argsOk "wrapper_descriptor.__get__" ⟨[a, b, c], []⟩ := by unfold argsOk; kernel_rfl
theorem wd_type : typeOf (.builtin "Exception.__init__") = pure (.type "wrapper_descriptor") := by kernel_rfl
noncomputable abbrev mwO (x : Addr) : Obj := { cls := .type "method-wrapper", data := .fields #[.builtin "Exception.__init__", .ref x] }
theorem wd_get {E : Value → Shared → Prop} {x a : Addr} {dx : Option Addr} {C : Addr} {Q : Value → Shared → Prop} (hC : h.get? 69 = some clsPF) (hx : h.get? x = some (excO 69 a dx)) (hq : Q (.ref h.objs.size) ⟨h.push (mwO x), g, d, t, os⟩) :
    wpAny (model PG w) A (call (.builtin "wrapper_descriptor.__get__") [.builtin "Exception.__init__", .ref x, .ref C]) Q E ⟨h, g, d, t, os⟩ := by
  refine wpAny_call_entry wd_slot wd_type wd_entry ?_ (wd_args _ _ _)
  unfold Builtin.«wrapper_descriptor.__get__»
  refine wpAny_bind (wpAny_of_eq (a := (.builtin "Exception.__init__", some (.ref x), some (.ref C))) (by kernel_rfl) ?_)
  refine wpAny_bind (wpAny_bind (wpAny_of_eq (a := (Str.ofString "__init__", .type "Exception")) (by kernel_rfl) ?_))
  unfold isInstance
  repeat (first | with_reducible refine wpAny_loadPart_at hx ?_ | (with_reducible refine wpAny_isSubtype_exc hC ?_) | wp_step)
  exact ⟨_, rfl, hq⟩
theorem wd_ne : (Value.builtin "Exception.__init__" == Value.none) = false := rfl
end
end Mine
end
section
open PySem PySem.W PyProof.Rows PySem.Spec PySem.Calls
set_option Elab.async false
set_option maxRecDepth 100000
set_option maxHeartbeats 1000000
set_option linter.unusedVariables false
namespace Mine
section
variable {w : World} {A : Around} {R : Result → Shared → Prop} {h : Heap} {g : Array GenState} {d : Drawn} {t : Nat} {os : OsState}
theorem own_init : classOwn (.type "Exception") "__init__" = pure (some (.builtin "Exception.__init__")) := by kernel_rfl
theorem super_ga {so x a : Addr} {dx : Option Addr} {tk : Tok} {Q : PySem.Fin → Shared → Prop} {E : Value → Shared → Prop} (X : (hd.heap_1 w.params).In h)
    (hso : h.get? so = some (ks_superObj 40 x 69)) (hx : h.get? x = some (excO 69 a dx)) (hno : Looks (model PG w) h (opaqueClassAbove (.ref 69)) none) (hxC : x ≠ 69)
    (hq : Q (.done (.ret (.ref h.objs.size))) ⟨h.push (mwO x), g, d, t, os⟩) :
    wpAny (model PG w) A (Builtin.«super.__getattribute__» ⟨[.ref so, .str "__init__" tk], []⟩) Q E ⟨h, g, d, t, os⟩ := by
  have hlk := wd_slot.lookup
  have hne : (Value.ref x == Value.ref 69) = false := by simp [hxC]
  have hn : ((Str.ofString "__init__") == (Str.ofString "__class__")) = false := by decide
  have hdt : (ks_superObj 40 x 69 : Obj).data = .fields #[.ref 40, .ref x, .ref 69] := rfl
  have f0 : (#[.ref 40, .ref x, .ref 69] : Array Value)[0]? = some (.ref 40) := rfl
  have f1 : (#[.ref 40, .ref x, .ref 69] : Array Value)[1]? = some (.ref x) := rfl
  have f2 : (#[.ref 40, .ref x, .ref 69] : Array Value)[2]? = some (.ref 69) := rfl
  have ht := wd_type
  have hl : ((Value.ref 69 :: tlPF).dropWhile (· != .ref 40)).drop 1 = [.type "Exception", .type "BaseException", .type "object"] := by decide
  unfold Builtin.«super.__getattribute__»
  repeat (first
    | (with_reducible refine wpAny_field hso hdt f0 ?_) | (with_reducible refine wpAny_field hso hdt f1 ?_) | (with_reducible refine wpAny_field hso hdt f2 ?_)
    | (with_reducible refine ks_wpAny_notOpaque hno ?_)
    | (with_reducible refine wpAny_of_eq ht ?_)
    | (with_reducible refine wpAny_of_eq hlk ?_)
    | (with_reducible refine wd_get (X _ _ (K69 w)) hx ?_)
    | (simp only [hn, hne, Bool.or_false, Bool.false_eq_true, if_false])
    | wp_step
    | dsimp only)
  refine wpAny_load (X _ _ (K69 w)) (wpAny_pure (wpAny_pure ?_))
  refine wpAny_bind ?_
  dsimp only
  rw [hl]
  rw [List.forIn_cons]
  refine wpAny_bind (wpAny_bind (wpAny_of_eq own_init ?_))
  refine wpAny_bind (wpAny_of_eq ht ?_)
  refine wpAny_bind (wpAny_of_eq hlk ?_)
  refine wpAny_bind (wpAny_holding ?_)
  refine wd_get (X _ _ (K69 w)) hx ?_
  exact wpAny_bind (wpAny_pure (wpAny_pure (wpAny_pure (wpAny_pure hq))))
theorem super_method {so x a : Addr} {dx : Option Addr} {pl : Sem Bool} {Q : Value × List Value → Shared → Prop} {E : Value → Shared → Prop} (X : (hd.heap_1 w.params).In h)
    (hso : h.get? so = some (ks_superObj 40 x 69)) (hx : h.get? x = some (excO 69 a dx)) (hno : Looks (model PG w) h (opaqueClassAbove (.ref 69)) none) (hxC : x ≠ 69)
    (hq : Q (.ref h.objs.size, []) ⟨h.push (mwO x), g, d, t + 1, os⟩) :
    wpAny (model PG w) A (getMethod (.ref so) "__init__" pl) Q E ⟨h, g, d, t, os⟩ := by
  have hlk := PySem.F.ks_slot_super_ga.lookup
  have hcan := PySem.F.ks_canon_super_ga
  have hT : ∀ t', (⟨h, g, d, t', os⟩ : Shared).TypeIs (.ref so) "super" := fun _ => ⟨_, hso, rfl⟩
  unfold getMethod
  refine wpAny_bind (wpAny_specialOf (hT _) hlk ?_)
  show wpAny _ _ (if (Manifest.canonical "super.__getattribute__" != "object.__getattribute__") = true then _ else _) _ _ _
  rw [if_pos hcan]
  unfold getAttr getAttrBy
  refine wpAny_bind (wpAny_bind (wpAny_mkText (wpAny_holding (wpAny_bind (wpAny_typeOf (hT _) (wpAny_bind (wpAny_of_eq hlk ?_)))))))
  show wpAny _ _ (getAttrByItsOwn (.ref so) (.str "__init__" t) (.type "super") (.builtin "super.__getattribute__") true false) _ _ _
  unfold getAttrByItsOwn hookBefore callGetattribute boundAndCalled
  refine wpAny_bind (wpAny_of_eq (show (if onTheHeap (.type "super") then typeLookup (.type "super") "__getattr__" else pure none) = pure none from rfl) ?_)
  refine wpAny_bind (wpAny_attempt (wpAny_holding ?_))
  show wpAny _ _ (bindSpecial (.builtin "super.__getattribute__") (.ref so) >>= _) _ _ _
  refine wpAny_bind (wpAny_of_eq (PySem.F.ks_slot_super_ga.bind _) ?_)
  refine wpAny_mono (Q := fun v s' => v = .ref h.objs.size ∧ s' = ⟨h.push (mwO x), g, d, t + 1, os⟩) (E := fun _ _ => False)
    (wpAny_call_entry PySem.F.ks_slot_super_ga (hT _) PySem.F.ks_entry_super_ga (super_ga X hso hx hno hxC ⟨_, rfl, rfl, rfl⟩) (PySem.F.ks_gaArgs_super _ _)) (fun v s' hv => ?_) fun _ _ z => z.elim
  obtain ⟨rfl, rfl⟩ := hv
  exact wpAny_pure (wpAny_pure hq)
/-- BaseException.__init__ upon an own exception: its args anew -/
theorem exc_init {x a : Addr} {dx : Option Addr} {v : Value} {Q : Value → Shared → Prop} {E : Value → Shared → Prop} {q : Addr} (hC : h.get? 69 = some clsPF) (hx : h.get? x = some (excO 69 a dx)) (hm : h.get? q = some (mwO x))
    (hq : ∀ h' a', Stays x h h' → h'.get? x = some (excO 69 a' dx) → Q .none ⟨h', g, d, t, os⟩) : wpAny (model PG w) A (call (.ref q) [v]) Q E ⟨h, g, d, t, os⟩ := by
  refine wpAny_call (codeAny_of_tree ?_)
  show wpAny _ _ (callAny (.ref q) _) _ _ _
  refine nd_load hm (nd_bind (nd_pure ?_))
  show wpAny _ _ (do checkBoundCall "Exception.__init__" ⟨[.ref x, v], []⟩; again (.builtin "Exception.__init__" ⟨[.ref x, v], []⟩)) _ _ _
  have F := PySem.F.excBase_Exception
  unfold checkBoundCall
  repeat (first | (with_reducible refine wpAny_loadPart_at hx ?_) | (with_reducible refine wpAny_isSubtype_exc hC ?_) | wp_step)
  refine ⟨plainId_quiet F.init.plain _, codeAny_builtin F.initEntry ?_⟩
  unfold Builtin.«BaseException.__init__»
  have hget : (h.push (tupO [v])).get? x = some (excO 69 a dx) := Heap.get?_push_of_some _ hx
  repeat (first | (with_reducible refine wpAny_setField hget rfl (by decide) ?_) | wp_step)
  exact hq _ h.objs.size (fun b ob n e => (Heap.get?_update_other _ _ (Ne.symm n)).trans (Heap.get?_push_of_some _ e)) ((Heap.get?_update_self _ hget rfl).trans rfl)
end
end Mine
end
section
open PySem PySem.W PyProof.Rows PySem.Spec PySem.Calls Builtin Builtin.ObjectAttr
set_option Elab.async false
set_option maxRecDepth 100000
set_option maxHeartbeats 1000000
set_option linter.unusedVariables false
namespace Mine
section
variable {w : World} {A : Around} {R : Result → Shared → Prop} {s : Shared}
theorem K69s (w : World) : findIn (hd.heap_1 w.params) (.ref 69) "__setattr__" = some (some (.builtin "object.__setattr__")) := by k_is
theorem K69o (w : World) : mroIn (hd.heap_1 w.params) 69 (.type "object") = some true := by k_is
theorem K69d (w : World) : clsIn (hd.heap_1 w.params) 69 = some { name := (Str.ofString "ProofFault"), bases := [.ref 40], mro := .ref 69 :: tlPF, ns := 68, qualname := (Str.ofString "ProofFault") } := by k_is
theorem ref_loop (self : Value) : refuseLoop self "__setattr__" (.ref 69 :: tlPF) = pure () := by
  unfold tlPF
  rw [refuseLoop_ref, refuseLoop_ref]
  kernel_rfl
theorem exc_set {E : Value → Shared → Prop} {x a : Addr} {dx : Option Addr} {name : Str} {v : Value} {Q : Unit → Shared → Prop} (X : (hd.heap_1 w.params).In s.heap) (hx : s.heap.get? x = some (excO 69 a dx)) (hn : findIn (hd.heap_1 w.params) (.ref 69) name = some none)
    (h : ∀ A b, wpAny (model PG w) A (storeInOwnDict (.ref x) (.ref 69) (.str name s.toks) name v b) (fun fin s' => fin = .done (.ret .none) ∧ Q () s') (fun e s' => E e s') { s with toks := s.toks + 1 }) :
    wpAny (model PG w) A (setAttr (.ref x) name v) Q E s := by
  have SF := PySem.F.store_object
  have ty : Looks (model PG w) s.heap (typeOf (.ref x)) (.ref 69) := (Looks.ld hx).andThen .now
  have sub : Looks (model PG w) s.heap (isInstance (.ref x) (.type "object")) true := ty.andThen (looks_mroIn X (K69o w))
  have hm : Looks (model PG w) s.heap (mroOf (.ref 69)) (.ref 69 :: tlPF) := (looks_clsIn X (K69d w)).andThen .now
  refine wpAny_bind (wpAny_mkText (wpAny_bind (wpAny_bind (wpAny_bind (ty _ _ _ _ (fun _ _ e => e) (looks_findIn X (K69s w) _ _ _ _ (fun _ _ e => e) (wpAny_holding ?_)))))))
  rw [SF.slot.bind]
  refine wpAny_bind (wpAny_pure (wpAny_bind (wpAny_call ?_)))
  refine codeAny_call_builtin SF.slot.plain SF.entry (@check_slot (model PG w) _ _ { s with toks := s.toks + 1 } "object.__setattr__" "object" "__setattr__" (.ref x) [.str name s.toks, v] [] _ SF.kind SF.split sub (SF.args (.ref x) (.str name s.toks) v) ?_)
  rw [show ([Value.ref x] ++ [Value.str name s.toks, v] : List Value) = [.ref x, .str name s.toks, v] from rfl, osa_eq, refuse_eq]
  refine wpAny_bind (wpAny_bind (ty.here (s := { s with toks := s.toks + 1 }) (wpAny_bind (hm.here (s := { s with toks := s.toks + 1 }) ?_))))
  rw [ref_loop]
  refine wpAny_pure (wpAny_bind (ty.here (s := { s with toks := s.toks + 1 }) (wpAny_bind ((looks_findIn X hn).here (s := { s with toks := s.toks + 1 }) (wpAny_bind (wpAny_pure ?_))))))
  refine wpAny_mono (h _ _) (fun fin s' hf => ?_) fun _ _ e => e
  obtain ⟨rfl, hq⟩ := hf
  exact wpAny_pure (wpAny_pure hq)
theorem store_in {E : Value → Shared → Prop} {dd : Addr} {es : List DictEntry} {n : Nat} {name : Str} {tk : Tok} {v : Value} {Q : PySem.Fin → Shared → Prop} (hd : s.heap.get? dd = some (dictOf es n)) (hr : es.any (·.refKey) = false) (hz : (putL name (PyData.keyHash w.params name) (.str name s.toks) v es).length ≤ 1000)
    (hq : ∀ h', Stays dd s.heap h' → h'.get? dd = some (dictOf (putL name (PyData.keyHash w.params name) (.str name s.toks) v es) (putN name es n)) → Q (.done (.ret .none)) { s with heap := h', toks := s.toks + 1 }) :
    wpAny (model PG w) A (storeInDict dd (.str name tk) name v) Q E s := by
  unfold storeInDict nsSet
  refine wpAny_bind (wpAny_pure (wpAny_bind (wpAny_bind (wpAny_bind (wpAny_askSetting (wpAny_pure (wpAny_bind (wpAny_mkText (wpAny_bind (wpAny_loadPart hd ?_))))))))))
  have c : (!es.toArray.any (·.key.isStr name) && es.toArray.any (·.refKey)) = false := by
    rw [← Array.any_toList, ← Array.any_toList]
    show (_ && es.any (·.refKey)) = false
    rw [hr, Bool.and_false]
  dsimp only
  rw [aRefKeyMayBeTheName_at, c]
  refine wpAny_updatePart hd ?_
  have hd' : ((s.heap.update dd (Obj.putName name (PyData.keyHash w.params name) (.str name s.toks) v))).get? dd = some (dictOf (putL name (PyData.keyHash w.params name) (.str name s.toks) v es) (putN name es n)) := by
    refine (Heap.get?_update_self _ hd (by rw [putName_dict]; rfl)).trans ?_
    rw [putName_dict]
  refine wpAny_bind (wpAny_lookBehind hd' (pastItsLine_dict (by rw [List.size_toArray, sizeLine_eq]; omega +splitDisjunctions)) ?_)
  exact wpAny_pure (hq _ (fun b ob n e => (Heap.get?_update_other _ _ (Ne.symm n)).trans e) hd')
/-- the first attribute of an own exception: its dict is made -/
theorem exc_set1 {E : Value → Shared → Prop} {x a : Addr} {name : Str} {v : Value} {Q : Unit → Shared → Prop} (X : (hd.heap_1 w.params).In s.heap) (hx : s.heap.get? x = some (excO 69 a none)) (hn : findIn (hd.heap_1 w.params) (.ref 69) name = some none)
    (h : ∀ h' tk d n, s.heap.get? d = none → Stays x s.heap h' → h'.get? x = some (excO 69 a (some d)) → h'.get? d = some (dictOf [⟨PyData.keyHash w.params name, .str name (s.toks + 1), v⟩] n) → Q () { s with heap := h', toks := tk }) :
    wpAny (model PG w) A (setAttr (.ref x) name v) Q E s := by
  refine exc_set X hx hn fun A b => ?_
  unfold storeInOwnDict ownStreamTells ownDictForStores instanceDict
  refine wpAny_bind (wpAny_pure (wpAny_bind (wpAny_bind (wpAny_loadPart hx (wpAny_bind ((looks_clsIn X (K69d w)).here (s := { s with toks := s.toks + 1 }) ?_))))))
  show wpAny _ _ (do let d ← alloc { cls := .type "dict", data := .dict #[] }; update x fun o => { o with dict := some d }; pure (some d)) _ _ _
  refine wpAny_bind (wpAny_alloc ?_)
  have hx1 : (s.heap.push emptyDict).get? x = some (excO 69 a none) := Heap.get?_push_of_some _ hx
  refine wpAny_bind (wpAny_update hx1 (wpAny_pure ?_))
  have hne : s.heap.objs.size ≠ x := Nat.ne_of_gt (Heap.lt_size hx)
  have hx2 := Heap.get?_update_self (fun o : Obj => { o with dict := some s.heap.objs.size }) hx1 rfl
  have hd2 := (Heap.get?_update_other (s.heap.push emptyDict) (fun o : Obj => { o with dict := some s.heap.objs.size }) hne.symm).trans (Heap.get?_push_size s.heap rfl)
  refine wpAny_bind (wpAny_pure ?_)
  refine store_in (es := []) (n := 0) (tk := s.toks) hd2 rfl (by simp [putL]) fun h' hs hg => ⟨rfl, h h' _ _ _ (none_size s.heap) (fun b ob n e => ?_) (hs _ _ hne.symm hx2) hg⟩
  by_cases q : b = s.heap.objs.size
  · rw [q, none_size] at e; cases e
  · exact hs b ob q ((Heap.get?_update_other _ _ (Ne.symm n)).trans (Heap.get?_push_of_some _ e))
theorem exc_set2 {E : Value → Shared → Prop} {x a dd : Addr} {es : List DictEntry} {n : Nat} {name : Str} {v : Value} {Q : Unit → Shared → Prop} (X : (hd.heap_1 w.params).In s.heap) (hx : s.heap.get? x = some (excO 69 a (some dd))) (hdd : s.heap.get? dd = some (dictOf es n)) (hn : findIn (hd.heap_1 w.params) (.ref 69) name = some none)
    (hr : es.any (·.refKey) = false) (hz : (putL name (PyData.keyHash w.params name) (.str name (s.toks + 1)) v es).length ≤ 1000)
    (h : ∀ h' tk, Stays dd s.heap h' → h'.get? dd = some (dictOf (putL name (PyData.keyHash w.params name) (.str name (s.toks + 1)) v es) (putN name es n)) → Q () { s with heap := h', toks := tk }) :
    wpAny (model PG w) A (setAttr (.ref x) name v) Q E s := by
  refine exc_set X hx hn fun A b => ?_
  unfold storeInOwnDict ownStreamTells ownDictForStores instanceDict
  refine wpAny_bind (wpAny_pure (wpAny_bind (wpAny_bind (wpAny_loadPart hx (wpAny_bind ((looks_clsIn X (K69d w)).here (s := { s with toks := s.toks + 1 }) ?_))))))
  refine wpAny_pure (a := some dd) ?_
  exact store_in (s := { s with toks := s.toks + 1 }) hdd hr hz fun h' hs hg => ⟨rfl, h h' _ hs hg⟩
end
end Mine
end
section
open PySem PySem.W PyProof.Rows PySem.Spec PySem.Calls
set_option Elab.async false
set_option maxRecDepth 100000
set_option maxHeartbeats 1000000
set_option linter.unusedVariables false
namespace Mine
section
variable {w : World} {A : Around} {R : Result → Shared → Prop} {s : Shared}
theorem K69q (w : World) : nsIn (hd.heap_1 w.params) cStatics "thirdparty.any" = some none := by k_is
theorem exc_ne {h : Heap} {x a : Addr} {dx : Option Addr} (X : (hd.heap_1 w.params).In h) (hx : h.get? x = some (excO 69 a dx)) : x ≠ 69 := by
  rintro rfl
  rw [X _ _ (K69 w)] at hx; cases hx
theorem K_noexc {x a : Addr} {dx : Option Addr} {h : Heap} (X : (hd.heap_1 w.params).In h) (hx : h.get? x = some (excO 69 a dx)) (hl : (hd.heap_1 w.params).lookup x = none) {h' : Heap} (hs : Stays x h h') : (hd.heap_1 w.params).In h' := fun b o e => hs b o (fun q => by rw [q, hl] at e; cases e) (X b o e)
/-- a call of a method-wrapper with one name -/
theorem mw_call {env : Env} {x q a : Addr} {dx : Option Addr} {nm : Str} {np pos : Pos} {v : Value} {Q : Value → Shared → Prop} {E : Value → Shared → Prop} (X : (hd.heap_1 w.params).In s.heap) (hx : s.heap.get? x = some (excO 69 a dx)) (hm : s.heap.get? q = some (mwO x))
    (hv : ∀ Q' : Value → Shared → Prop, Q' v s → wpAny (model PG w) A (eval (.Name nm np) env) Q' E s) (hq : ∀ h' a', Stays x s.heap h' → h'.get? x = some (excO 69 a' dx) → Q .none { s with heap := h' }) :
    wpAny (model PG w) A (callWith pos (.ref q) [] (backTo pos (starEach [.Name nm np] env)) []) Q E s := by
  refine callWith_of (P := fun h => h.get? q = some (mwO x)) rfl (fun h hm => ⟨.machine, .inr (.inl rfl), ?_⟩) ?_
  · intro A Q E s k hQ
    unfold keeperOf
    refine wpAny_bind (wpAny_load (k _ _ hm) ?_)
    exact wpAny_pure hQ
  · refine evalArgs_plain (f := .ref q) (x := eval (.Name nm np) env) (rest := []) ?_
    exact args_cons (pos := pos) (hv _ (args_nil (pos := pos) ⟨hm, exc_init (X _ _ (K69 w)) hx hm hq⟩)) rfl
theorem smt_init {x a : Addr} {what : Value} {mean : ExcName → Option Value} {mg mb : Str → Option Value} (X : (hd.heap_1 w.params).In s.heap) (T : Top view (looseW view []) mean mg mb s.heap) (hroom : A.depth < recursionLimit)
    (hx : s.heap.get? x = some (excO 69 a none)) (hl : (hd.heap_1 w.params).lookup x = none)
    (h : ∀ h' tk a' d t n, Stays x s.heap h' → h'.get? x = some (excO 69 a' (some d)) → s.heap.get? d = none → h'.get? d = some (dictOf [⟨PyData.keyHash w.params (Str.ofString "what"), .str (Str.ofString "what") t, what⟩] n) → R (.ok (.ret .none)) { s with heap := h', toks := tk }) :
    codeAny (model PG w) A (.call (.ref 30) ⟨[.ref x, what], []⟩) R s := by
  refine super_enter X T hroom (by k_is) (by k_is) (BindsTo.of_eq rfl) (by decide) (locs rfl) rfl rfl rfl fun L h₁ hL hns hk => ?_
  have X₁ := X.keeps hk
  have T₁ := T.keeps hk
  refine ks_wpAt_execs_cons (ks_wpAt_Expr_any (ks_wpAt_MethodCall ?_))
  have hx₁ := hk _ _ hx
  refine ks_wpAt_super_base rfl rfl rfl rfl (X₁ 30 _ (by k_is)) rfl rfl rfl (X₁ 29 _ (by k_is)) rfl rfl (by decide) (by decide) ?_
  refine ks_loadName_global rfl rfl (loadGlobal_builtin T₁.g (mg_none_of X₁ T₁.g (by k_is)) T₁.b ((T₁.builtins _ (by decide +kernel)).trans (by boot_by_name)) ⟨rfl, ?_⟩)
  refine wpAny_loadName_free rfl rfl rfl ⟨_, X₁ 18 _ (by k_is), rfl⟩ ?_
  refine wpAny_loadName_local rfl rfl hns rfl ?_
  refine ks_wpAny_isType_cls (X₁ 40 _ (by k_is)) rfl ⟨rfl, ?_⟩
  refine ks_wpAny_call_super (C := 69) (X₁ 40 _ (by k_is)) rfl hx₁ rfl (fun c e => by cases e) (looks_mroIn X₁ (by k_is)) (fun h₂ e₂ k₂ => ?_)
  have X₂ := X₁.keeps k₂
  refine super_method X₂ e₂ (k₂ _ _ hx₁) (looks_opaque X₂ (K69q w)) (exc_ne X₂ (k₂ _ _ hx₁)) ?_
  have k₃ : ∀ b o, h₂.get? b = some o → (h₂.push (mwO x)).get? b = some o := fun b o e => Heap.get?_push_of_some _ e
  have kL : ∀ o, h₁.get? L = some o → (h₂.push (mwO x)).get? L = some o := fun o e => k₃ _ _ (k₂ _ _ e)
  refine mw_call (X₂.keeps k₃) (k₃ _ _ (k₂ _ _ hx₁)) (Heap.get?_push_size _ rfl) (fun Q' hq => wpAny_Name (wpAny_loadName_local rfl rfl (hns.at' kL) rfl hq) rfl) fun h₄ a' hs₄ hx₄ => ?_
  have nL : L ≠ x := fun e => by have := Heap.lt_size hx; rw [← e, hL] at this; exact Nat.lt_irrefl _ this
  have hns₄ : h₄.Ns L (fun y => List.lookup y [(Str.ofString "what", what), (Str.ofString "self", .ref x)]) := (hns.at' kL).at' fun o e => hs₄ _ _ nL e
  have X₄ := K_noexc (X₂.keeps k₃) (k₃ _ _ (k₂ _ _ hx₁)) hl hs₄
  refine ks_wpAt_execs_cons (ks_wpAt_Assign_Attr (PySem.wpAt_of_wpAny (wpAny_Name (wpAny_loadName_local rfl rfl hns₄ rfl ?_) rfl)))
  refine wpAny_Name (wpAny_loadName_local rfl rfl hns₄ rfl ?_) rfl
  refine exc_set1 X₄ hx₄ (by k_is) fun h₅ tk d n hd₅ hs₅ hx₅ hg₅ => ?_
  refine PySem.wpAt_of_wpAny (wpAny_execs_nil (h h₅ tk a' d _ n (fun b ob nb e => hs₅ _ _ nb (hs₄ _ _ nb (k₃ _ _ (k₂ _ _ (hk _ _ e))))) hx₅ ?_ hg₅))
  cases q : s.heap.get? d with
  | none => rfl
  | some o =>
    by_cases e : d = x
    · rw [e, hx₄] at hd₅; cases hd₅
    · rw [hs₄ _ _ e (k₃ _ _ (k₂ _ _ (hk _ _ q)))] at hd₅; cases hd₅
theorem K30s (w : World) : ks_superIn (hd.heap_1 w.params) 69 69 "__init__" = some (some (.ref 30)) := by ks_is
theorem K30a (w : World) : alongIn (hd.heap_1 w.params) "__init__" tlPF = some (some (.ref 30)) := by
  have h := K30s w
  unfold ks_superIn at h
  rw [K69d, Option.bind_some] at h
  exact h
theorem meth_keeper {h : Heap} {q f x : Addr} {oc : Value} {od : Option Addr} {fd : FuncData} {osl : Array (Option Value)} (X : (hd.heap_1 w.params).In h) (ho : (hd.heap_1 w.params).lookup f = some ⟨oc, od, .func fd, osl⟩) (hm : h.get? q = some (methodObj (.ref f) (.ref x))) :
    Looks (model PG w) h (keeperOf (.ref q)) .boundFrame := by
  intro A Q E s k hQ
  unfold keeperOf
  refine wpAny_bind (wpAny_load (k _ _ hm) ?_)
  exact wpAny_bind (wpAny_load (k _ _ (X _ _ ho)) (wpAny_pure hQ))
noncomputable abbrev exDict (w : World) (what step : Value) (t t' : Tok) : List DictEntry := [⟨PyData.keyHash w.params (Str.ofString "what"), .str (Str.ofString "what") t, what⟩, ⟨PyData.keyHash w.params (Str.ofString "step"), .str (Str.ofString "step") t', step⟩]
theorem pf_init {x a : Addr} {what step : Value} {mean : ExcName → Option Value} {mg mb : Str → Option Value} (X : (hd.heap_1 w.params).In s.heap) (T : Top view (looseW view []) mean mg mb s.heap) (hroom : A.depth + 1 < recursionLimit)
    (hx : s.heap.get? x = some (excO 69 a none)) (hl : (hd.heap_1 w.params).lookup x = none)
    (h : ∀ h' tk a' d t t' n, Stays x s.heap h' → h'.get? x = some (excO 69 a' (some d)) → s.heap.get? d = none → h'.get? d = some (dictOf (exDict w what step t t') n) → R (.ok (.ret .none)) { s with heap := h', toks := tk }) :
    codeAny (model PG w) A (.call (.ref 59) ⟨[.ref x, what, step], []⟩) R s := by
  refine super_enter X T (Nat.lt_of_succ_lt hroom) (by k_is) (by k_is) (BindsTo.of_eq rfl) (by decide) (locs rfl) rfl rfl rfl fun L h₁ hL hns hk => ?_
  have X₁ := X.keeps hk
  have T₁ := T.keeps hk
  refine ks_wpAt_execs_cons (ks_wpAt_Expr_any (ks_wpAt_MethodCall ?_))
  have hx₁ := hk _ _ hx
  refine ks_wpAt_super_base rfl rfl rfl rfl (X₁ 59 _ (by k_is)) rfl rfl rfl (X₁ 58 _ (by k_is)) rfl rfl (by decide) (by decide) ?_
  refine ks_loadName_global rfl rfl (loadGlobal_builtin T₁.g (mg_none_of X₁ T₁.g (by k_is)) T₁.b ((T₁.builtins _ (by decide +kernel)).trans (by boot_by_name)) ⟨rfl, ?_⟩)
  refine wpAny_loadName_free rfl rfl rfl ⟨_, X₁ 47 _ (by k_is), rfl⟩ ?_
  refine wpAny_loadName_local rfl rfl hns rfl ?_
  refine ks_wpAny_isType_cls (X₁ 69 _ (by k_is)) rfl ⟨rfl, ?_⟩
  refine ks_wpAny_call_super (C := 69) (X₁ 69 _ (by k_is)) rfl hx₁ rfl (fun c e => by cases e) (looks_mroIn X₁ (by k_is)) (fun h₂ e₂ k₂ => ?_)
  have X₂ := X₁.keeps k₂
  refine ks_wpAny_getMethod_super (l₀ := .ref 69 :: tlPF) (l := tlPF) (f := 30) e₂ (looks_opaque X₂ (K69q w)) ((looks_clsIn X₂ (K69d w)).andThen .now) (by decide) X₂ (K30a w) (X₂ 30 _ (by k_is)) rfl (exc_ne X₂ (k₂ _ _ hx₁)) (by decide) ?_
  have k₃ : ∀ b o, h₂.get? b = some o → (h₂.push (methodObj (.ref 30) (.ref x))).get? b = some o := fun b o e => Heap.get?_push_of_some _ e
  have hm : (h₂.push (methodObj (.ref 30) (.ref x))).get? h₂.objs.size = some (methodObj (.ref 30) (.ref x)) := Heap.get?_push_size _ rfl
  have X₃ := X₂.keeps k₃
  have T₃ := (T₁.keeps k₂).keeps k₃
  have hx₃ := k₃ _ _ (k₂ _ _ hx₁)
  have kL : ∀ o, h₁.get? L = some o → (h₂.push (methodObj (.ref 30) (.ref x))).get? L = some o := fun o e => k₃ _ _ (k₂ _ _ e)
  refine callWith_of (P := fun h => (hd.heap_1 w.params).In h ∧ h.get? h₂.objs.size = some (methodObj (.ref 30) (.ref x))) rfl (fun h hm => ⟨.boundFrame, .inr (.inr rfl), meth_keeper hm.1 (f := 30) (by k_is) hm.2⟩) ?_
  refine evalArgs_plain (f := .ref h₂.objs.size) (rest := []) (args_cons (wpAny_Name (wpAny_loadName_local rfl rfl (hns.at' kL) rfl (args_nil ⟨⟨X₃, hm⟩, ?_⟩)) rfl) rfl)
  refine wpAny_call (method_call hm ?_)
  refine smt_init X₃ T₃ hroom hx₃ hl fun h₄ tk₄ a' d t n hs₄ hx₄ hd₄ hg₄ => ?_
  have nL : L ≠ x := fun e => by have := Heap.lt_size hx; rw [← e, hL] at this; exact Nat.lt_irrefl _ this
  have hns₄ : h₄.Ns L (fun y => List.lookup y [(Str.ofString "step", step), (Str.ofString "what", what), (Str.ofString "self", .ref x)]) := (hns.at' kL).at' fun o e => hs₄ _ _ nL e
  have X₄ := K_noexc X₃ hx₃ hl hs₄
  refine ks_wpAt_execs_cons (ks_wpAt_Assign_Attr (PySem.wpAt_of_wpAny (wpAny_Name (wpAny_loadName_local rfl rfl hns₄ rfl ?_) rfl)))
  refine wpAny_Name (wpAny_loadName_local rfl rfl hns₄ rfl ?_) rfl
  have ndx : x ≠ d := fun e => by rw [← e, hx₃] at hd₄; cases hd₄
  refine exc_set2 X₄ hx₄ hg₄ (by k_is) rfl (Nat.le_of_ble_eq_true rfl) fun h₅ tk hs₅ hg₅ => ?_
  have dn : s.heap.get? d = none := by
    cases q : s.heap.get? d with
    | none => rfl
    | some o => rw [k₃ _ _ (k₂ _ _ (hk _ _ q))] at hd₄; cases hd₄
  refine PySem.wpAt_of_wpAny (wpAny_execs_nil (h h₅ tk a' d t _ _ (fun b ob nb e => hs₅ _ _ (fun q => ?_) (hs₄ _ _ nb (k₃ _ _ (k₂ _ _ (hk _ _ e))))) (hs₅ _ _ ndx hx₄) dn hg₅))
  rw [q, dn] at e; cases e
end
end Mine
end
section
open PySem PySem.W PyProof.Rows PySem.Spec PySem.Calls
set_option Elab.async false
set_option maxRecDepth 100000
set_option maxHeartbeats 1000000
set_option linter.unusedVariables false
namespace Mine
/-- an own exception with its step; f: no traceback yet, or what its traceback's mark says -/
structure Exn (w : World) (B : Heap) (S : List Addr) (e : Addr) (k : Int) (f : Option Value) (h : Heap) : Prop where
  G : GF B h [] S
  n : B.get? e = none
  x : ∃ d what t t' u n oe vs, h.get? e = some oe ∧ oe.cls = .ref 69 ∧ oe.dict = some d ∧ oe.data = .fields vs ∧ 1 < vs.size ∧ d ≠ e ∧ d ∉ S ∧ B.get? d = none ∧ h.get? d = some (dictOf (exDict w what (.int k u) t t') n) ∧
    match f with
    | none => vs[1]? = some .none
    | some m => ∃ T oT ts, vs[1]? = some (.ref T) ∧ B.get? T = none ∧ T ≠ e ∧ T ≠ d ∧ h.get? T = some oT ∧ oT.data = .fields ts ∧ ts[3]? = some m
theorem gf_trans {a b c : Heap} {X Y S : List Addr} (h : GF a b X S) (k : GF b c Y S) (hY : ∀ y ∈ Y, y ∈ X ∨ a.get? y = none) (p : ∀ x ∈ S, ∀ o, a.get? x = some o → plainO o) : GF a c X S := by
  have ny : ∀ x o, a.get? x = some o → x ∉ X → x ∉ Y := fun x o e n q => (hY x q).elim n fun z => by rw [z] at e; cases e
  refine ⟨fun x o e n1 n2 => k.1 x o (h.1 x o e n1 n2) (ny x o e n1) n2, fun x hx o e pl => ?_⟩
  obtain ⟨sl, e1⟩ := h.2 x hx o e pl
  obtain ⟨sl', e2⟩ := k.2 x hx _ e1 pl
  exact ⟨sl', e2⟩
noncomputable abbrev PlainS (B : Heap) (S : List Addr) : Prop := ∀ x ∈ S, ∀ o, B.get? x = some o → plainO o
theorem funFr {h : Heap} : ∀ {l : List Env}, (∀ e ∈ l, e.scope.kind ≠ .module ∧ ∃ b o, e.frame = some b ∧ h.get? b = some o ∧ ∀ vs, o.data ≠ .fields vs) → h.FunFrames ({} : Heap) l
  | [], _ => trivial
  | e :: r, H => by
    obtain ⟨h1, b, o, h2, h3, h4⟩ := H e (.head _)
    exact ⟨h1, ⟨b, o, h2, by simp [Heap.get?], h3, h4⟩, funFr fun e' he' => H e' (.tail _ he')⟩
section
variable {w : World} {M : Model} {A : Around} {E : Value → Shared → Prop} {s : Shared} {B : Heap} {S : List Addr} {e : Addr} {k : Int} {f : Option Value}
/-- a step that alters nothing but the exception's own records -/
theorem Exn.fl {m : Option Addr} {Q : Unit → Shared → Prop} {v : Value} (h : Exn w B S e k (some v) s.heap) (hS : PlainS B S) (hq : ∀ h', Exn w B S e k (some (m.elim .none fun f => rawInt f)) h' → Q () { s with heap := h' }) : wpAny M A (setFlight (.ref e) m) Q E s := by
  obtain ⟨G, n, d, what, t, t', u, nn, oe, vs, he, hc, hdi, hd, hz, hde, hds, hdB, hdd, T, oT, ts, h1, hTB, hTe, hTd, hT, hTt, h3⟩ := h
  unfold setFlight
  refine wpAny_bind (wpAny_field he hd h1 ?_)
  rw [if_pos (show (Value.ref T != Value.none) = true from by simp)]
  have z3 := (Array.getElem?_eq_some_iff.mp h3).1
  refine wpAny_setField hT hTt z3 (hq _ ?_)
  have oth : ∀ b, b ≠ T → (s.heap.update T (Obj.mapFields (·.setIfInBounds 3 (m.elim .none fun f => rawInt f)))).get? b = s.heap.get? b := fun b hb => Heap.get?_update_other _ _ (Ne.symm hb)
  have noT : ∀ b o, B.get? b = some o → b ≠ T := fun b o hb q => by rw [q, hTB] at hb; cases hb
  refine ⟨⟨fun b o hb n1 n2 => (oth b (noT b o hb)).trans (G.1 b o hb n1 n2), fun b hb o ho p => ?_⟩, n, d, what, t, t', u, nn, oe, vs, (oth e hTe.symm).trans he, hc, hdi, hd, hz, hde, hds, hdB, (oth d hTd.symm).trans hdd, T, _, _, h1, hTB, hTe, hTd, Heap.get?_update_self _ hT (Obj.isFreed_of_fields (Obj.data_mapFields hTt _)), Obj.data_mapFields hTt _, by simp [z3]⟩
  obtain ⟨sl, z⟩ := G.2 b hb o ho p
  exact ⟨sl, (oth b (noT b o ho)).trans z⟩
theorem Exn.note {env : Env} {outer : List Env} {L : Addr} {Q : Unit → Shared → Prop} (h : Exn w B S e k f s.heap) (hfr : A.frames = some (env :: outer)) (hf : env.frame = some L) (hS : PlainS B S) (hsub : ∀ b ∈ frs (env :: outer), b ∈ S)
    (hfun : s.heap.FunFrames ({} : Heap) (env :: outer)) (hq : ∀ h', Exn w B S e k (some (rawInt L)) h' → Q () { s with heap := h' }) : wpAny M A (noteFrame (.ref e) env) Q E s := by
  -- the entry's making
  have mk : ∀ (f : Option Value) (s : Shared) (head : Value) (hn : Bool), Exn w B S e k f s.heap → s.heap.FunFrames ({} : Heap) (env :: outer) → (∀ h', Exn w B S e k (some (rawInt L)) h' → Q () { s with heap := h' }) →
      wpAny M A (do let a ← frameOf env; let pl ← entryPlaceOf L hn; let b ← EntryCells.newEntry head a .none (rawInt L) .none pl; setField (.ref e) 1 b) Q E s := by
    intro f s head hn h hfun hq
    obtain ⟨G, n, d, what, t, t', u, nn, oe, vs, he, hc, hdi, hd, hz, hde, hds, hdB, hdd, hm⟩ := h
    refine wpAny_bind (wpAny_frameOf_fun hfr hfun hf fun h₁ hs₁ => ?_)
    refine wpAny_bind (wpAny_entryPlaceOf fun pl hpl => ?_)
    unfold EntryCells.newEntry newFields
    have eS : e ∉ (env :: outer).filterMap (·.frame) := fun q => by
      obtain ⟨_, o, ho, hnf⟩ := hfun.mem q
      rw [he] at ho; cases ho; exact hnf _ hd
    have dS : d ∉ (env :: outer).filterMap (·.frame) := fun q => hds (hsub d q)
    have he₁ : h₁.get? e = some oe := (hs₁.2.1 e eS).trans he
    have hdd₁ := (hs₁.2.1 d dS).trans hdd
    refine wpAny_bind (wpAny_newObj_type ?_ (hpl.sizeOk5 _ _ _ _ _))
    generalize hrec : ({ cls := .type "traceback", dict := none, data := .fields ([head, .ref L, .none, rawInt L, .none] ++ (if pl.isEmpty then List.replicate 6 Value.none else pl)).toArray } : Obj) = rec
    have he₂ := Heap.get?_push_of_some (h := h₁) rec he₁
    refine wpAny_setField he₂ hd hz (hq _ ?_)
    have hTe : h₁.objs.size ≠ e := Nat.ne_of_gt (Heap.lt_size he₁)
    have hTd : h₁.objs.size ≠ d := Nat.ne_of_gt (Heap.lt_size hdd₁)
    have sz : h₁.objs.size = s.heap.objs.size := hs₁.1
    have gB : ∀ b o, B.get? b = some o → ∃ o', s.heap.get? b = some o' := fun b o hb => by
      by_cases q : b ∈ S
      · obtain ⟨sl, z⟩ := G.2 b q o hb (hS b q o hb); exact ⟨_, z⟩
      · exact ⟨_, G.1 b o hb List.not_mem_nil q⟩
    have hTB : B.get? h₁.objs.size = none := by
      cases q : B.get? h₁.objs.size with
      | none => rfl
      | some o => obtain ⟨o', z⟩ := gB _ _ q; exact absurd (Heap.lt_size z) (by rw [sz]; exact Nat.lt_irrefl _)
    have keep : ∀ b o, b ≠ e → h₁.get? b = some o → ((h₁.push rec).update e (Obj.mapFields (·.setIfInBounds 1 (Value.ref h₁.objs.size)))).get? b = some o := fun b o hbe hb =>
      (Heap.get?_update_other _ _ (Ne.symm hbe)).trans (Heap.get?_push_of_some _ hb)
    have ne : ∀ b o, B.get? b = some o → b ≠ e := fun b o hb q => by rw [q, n] at hb; cases hb
    refine ⟨⟨fun b o hb n1 n2 => keep b o (ne b o hb) ((hs₁.2.1 b fun q => n2 (hsub b q)).trans (G.1 b o hb n1 n2)), fun b hb o ho p => ?_⟩, n, d, what, t, t', u, nn, _, _, Heap.get?_update_self _ he₂ (Obj.isFreed_of_fields (Obj.data_mapFields hd _)), (Obj.cls_mapFields ..).trans hc, ?_, Obj.data_mapFields hd _, by simpa using hz, hde, hds, hdB, keep d _ hde hdd₁,
      h₁.objs.size, rec, ([head, .ref L, .none, rawInt L, .none] ++ (if pl.isEmpty then List.replicate 6 Value.none else pl)).toArray, by simp [hz], hTB, hTe, hTd, ?_, by rw [← hrec], by simp⟩
    · obtain ⟨sl, z⟩ := G.2 b hb o ho p
      obtain ⟨sl', z'⟩ := hs₁.2.2 b _ z
      exact ⟨sl', keep b _ (ne b o ho) z'⟩
    · obtain ⟨c, dd, da, sl⟩ := oe
      cases hd; exact hdi
    · refine (Heap.get?_update_other _ _ hTe.symm).trans (Heap.get?_push_size _ ?_)
      rw [← hrec]; rfl
  have h' := h
  obtain ⟨G, n, d, what, t, t', u, nn, oe, vs, he, hc, hdi, hd, hz, hde, hds, hdB, hdd, hm⟩ := h'
  unfold noteFrame
  simp only [hf]
  cases f with
  | none =>
    refine wpAny_bind (wpAny_field he hd hm ?_)
    rw [if_neg (by decide)]
    exact mk _ _ _ _ h hfun hq
  | some m =>
    obtain ⟨T, oT, ts, h1, hTB, hTe, hTd, hT, hTt, h3⟩ := hm
    refine wpAny_bind (wpAny_field he hd h1 ?_)
    rw [if_pos (show (Value.ref T != Value.none) = true from by simp)]
    refine wpAny_bind (wpAny_field hT hTt h3 ?_)
    split
    · rename_i q
      have : m = rawInt L := by simpa using q
      subst this
      exact wpAny_pure (hq _ h)
    · have z3 := (Array.getElem?_eq_some_iff.mp h3).1
      have oth : ∀ b, b ≠ T → (s.heap.update T (Obj.mapFields (·.setIfInBounds 3 Value.none))).get? b = s.heap.get? b := fun b hb => Heap.get?_update_other _ _ (Ne.symm hb)
      have noT : ∀ b o, B.get? b = some o → b ≠ T := fun b o hb q => by rw [q, hTB] at hb; cases hb
      refine wpAny_bind (wpAny_setField hT hTt z3 ?_)
      refine mk (some .none) { s with heap := _ } _ _ ?_ (hfun.of_keeps fun b o hb hnf => ⟨o, (oth b fun q => ?_).trans hb, rfl⟩) hq
      · refine ⟨⟨fun b o hb n1 n2 => (oth b (noT b o hb)).trans (G.1 b o hb n1 n2), fun b hb o ho p => ?_⟩, n, d, what, t, t', u, nn, oe, vs, (oth e hTe.symm).trans he, hc, hdi, hd, hz, hde, hds, hdB, (oth d hTd.symm).trans hdd, T, _, _, h1, hTB, hTe, hTd, Heap.get?_update_self _ hT (Obj.isFreed_of_fields (Obj.data_mapFields hTt _)), Obj.data_mapFields hTt _, ?_⟩
        · obtain ⟨sl, z⟩ := G.2 b hb o ho p
          exact ⟨sl, (oth b (noT b o ho)).trans z⟩
        · simp [z3]
      · rw [q, hT] at hb; cases hb; exact hnf _ hTt
theorem Exn.leave {env : Env} {outer : List Env} {L : Addr} {Q : Unit → Shared → Prop} (h : Exn w B S e k f s.heap) (hfr : A.frames = some (env :: outer)) (hf : env.frame = some L) (hS : PlainS B S) (hsub : ∀ b ∈ frs (env :: outer), b ∈ S)
    (hfun : s.heap.FunFrames ({} : Heap) (env :: outer)) (hq : ∀ h', Exn w B S e k (some .none) h' → Q () { s with heap := h' }) : wpAny M A (leaving env (.ref e)) Q E s := by
  unfold leaving
  exact wpAny_bind (h.note hfr hf hS hsub hfun fun h₁ x₁ => Exn.fl (s := { s with heap := h₁ }) (m := none) x₁ hS fun h₂ x₂ => hq h₂ x₂)
end
section
variable {c c' : Fx} {sc : List (Str × NameKind)} {s s₁ s₂ : Shared} {σ σ' : St} {W : List Addr} {n : Nat} {t : Heap} {e : Addr} {k : Int} {f : Option Value}
theorem plainS_of (r : R c σ s) : PlainS s.heap (frs c.S) := fun x hx o ho => by
  obtain ⟨o', ho', p⟩ := frs_there r hx
  rw [ho] at ho'; cases ho'; exact p
theorem funFr_of (r : R c σ s) (u : Up c n) {h : Heap} (g : GF s.heap h [] (frs c.S)) : h.FunFrames ({} : Heap) c.S := funFr fun e he => by
  obtain ⟨h1, b, hb⟩ := u.fS e he
  have hm : b ∈ frs c.S := List.mem_filterMap.mpr ⟨e, he, hb⟩
  obtain ⟨o, ho, p⟩ := frs_there r hm
  obtain ⟨sl, z⟩ := g.2 b hm o ho p
  exact ⟨h1, b, _, hb, z, p.2⟩
/-- an exception leaves the function: seen from its caller -/
theorem In.leave (I : In c sc s W c' n t) (r : R c σ s) (r' : R c' σ' s₁) (hw : ∀ b ∈ W, ∃ o, s.heap.get? b = some o ∧ s₁.heap.get? b = some o) (hE : Exn c.w s₁.heap (frs c'.S) e k f s₂.heap) (hz : Lift s₁ s₂)
    (hx : ∀ s'', Lift s s'' → Exn c.w s.heap (frs c.S) e k (some .none) s''.heap → c.E (.ref e) s'') : c'.E (.ref e) s₂ := by
  rw [I.E]
  have ss : frs c'.S = c'.L :: frs c.S := by rw [I.S]; show (c'.env :: c.S).filterMap _ = _; rw [List.filterMap_cons, I.L]; rfl
  refine hE.leave (by rw [I.u.hA, I.S]) I.L (plainS_of r') (fun b hb => by rw [I.S]; exact hb) (by rw [← I.S]; exact funFr_of r' I.u hE.G) fun h' x' => ?_
  have g0 : GF s.heap s₁.heap [] (frs c.S) := by
    refine ⟨fun b o hb _ n2 => ?_, fun b hb o ho p => ?_⟩
    · by_cases q : b ∈ W
      · obtain ⟨o', h1, h2⟩ := hw b q
        rw [hb] at h1; cases h1; exact h2
      · exact r'.F.keep b o (I.g b o hb q n2)
    · have nb : b ≠ c'.L := fun q => by rw [q, I.f] at ho; cases ho
      obtain ⟨o₂, sl, h1, _, h2⟩ := r'.T b (by rw [ss]; exact .tail _ hb) nb
      rw [I.H, ho] at h1; cases h1
      exact ⟨sl, h2⟩
  have up : ∀ b, s₁.heap.get? b = none → s.heap.get? b = none := fun b hb => by
    cases q : s.heap.get? b with
    | none => rfl
    | some o =>
      by_cases m : b ∈ frs c.S
      · obtain ⟨o', ho', p⟩ := frs_there r m
        rw [q] at ho'; cases ho'
        obtain ⟨sl, z⟩ := g0.2 b m o q p
        rw [hb] at z; cases z
      · rw [g0.1 b o q List.not_mem_nil m] at hb; cases hb
  obtain ⟨G, nn, d, what, t1, t2, u, n1, oe, vs, he, hc, hdi, hd, hz1, hde, hds, hdB, hdd, T, oT, ts, h1, hTB, hrest⟩ := x'
  have z₀ : Lift s s₁ := by
    obtain ⟨a1, b1, e1⟩ := r'.Z
    obtain ⟨a2, b2, e2⟩ := r.Z
    rw [I.z, e2] at *
    exact ⟨s₁.heap, s₁.toks, by rw [e1, e2]⟩
  refine hx _ (z₀.trans (hz.trans ⟨h', _, rfl⟩)) ⟨?_, up _ nn, d, what, t1, t2, u, n1, oe, vs, he, hc, hdi, hd, hz1, hde, fun q => hds (by rw [ss]; exact .tail _ q), up _ hdB, hdd, T, oT, ts, h1, up _ hTB, hrest⟩
  refine ⟨fun b o hb _ n2 => ?_, fun b hb o ho p => ?_⟩
  · refine G.1 b o (g0.1 b o hb List.not_mem_nil n2) List.not_mem_nil fun q => ?_
    rw [ss] at q
    rcases List.mem_cons.mp q with q | q
    · rw [q, I.f] at hb; cases hb
    · exact n2 q
  · obtain ⟨sl, z⟩ := g0.2 b hb o ho p
    obtain ⟨sl', z'⟩ := G.2 b (by rw [ss]; exact .tail _ hb) _ z p
    exact ⟨sl', z'⟩
end
end Mine
end
section
open PySem PySem.W PyProof.Rows PySem.Spec PySem.Calls
set_option Elab.async false
set_option maxRecDepth 100000
set_option maxHeartbeats 1000000
set_option linter.unusedVariables false
namespace Mine
theorem K69k (w : World) : keepIn (hd.heap_1 w.params) (.ref 69) = true := by k_is
section
variable {c : Fx} {sc : List (Str × NameKind)} {s : Shared} {σ : St}
theorem exn_make {n : Nat} {x : Value} {k : Int} {u : Tok} {Q : Value → Shared → Prop} {E : Value → Shared → Prop} (a : Act sc c) (up : Up c n) (hn : n + 2 < recursionLimit) (r : R c σ s)
    (hq : ∀ e s₂, Lift s s₂ → Exn c.w s.heap (frs c.S) e k none s₂.heap → (hd.heap_1 c.w.params).In s₂.heap → Q (.ref e) s₂) : wpAny (model PG c.w) c.A (call (.ref 69) [x, .int k u]) Q E s := by
  obtain ⟨mean, mg, mb, T⟩ := a.T
  have X := a.X.keeps r.F.keep
  have T' := T.keeps r.F.keep
  obtain ⟨h, g, d, tk, os⟩ := s
  refine wpAny_call (exc_core X (by show 2 ≤ sizeLine; rw [sizeLine_eq]; decide) ?_)
  have k₁ : ∀ b o, h.get? b = some o → ((h.push (tupO [x, .int k u])).push (excO 69 h.objs.size none)).get? b = some o := fun b o e => Heap.get?_push_of_some _ (Heap.get?_push_of_some _ e)
  have hx : ((h.push (tupO [x, .int k u])).push (excO 69 h.objs.size none)).get? (h.objs.size + 1) = some (excO 69 h.objs.size none) := by heap_get
  have nn : h.get? (h.objs.size + 1) = none := Heap.get?_none_of_le (Nat.le_succ _)
  have hl : (hd.heap_1 c.w.params).lookup (h.objs.size + 1) = none := by
    cases q : (hd.heap_1 c.w.params).lookup (h.objs.size + 1) with
    | none => rfl
    | some o => rw [X _ _ q] at nn; cases nn
  refine pf_init (X.keeps k₁) (T'.keeps k₁) ?_ hx hl fun h' tk' a' dd t t' nd hs hx' hd' hg' => ⟨rfl, ?_⟩
  · show c.A.depth + 1 + 1 < recursionLimit
    have := up.hd; omega +splitDisjunctions
  · have keep : ∀ b o, h.get? b = some o → h'.get? b = some o := fun b o e => hs b o (fun q => by rw [q, nn] at e; cases e) (k₁ b o e)
    have dn : h.get? dd = none := by
      cases q : h.get? dd with
      | none => rfl
      | some o => rw [k₁ _ _ q] at hd'; cases hd'
    refine hq (h.objs.size + 1) _ ⟨h', tk', rfl⟩ ⟨.of (fun b o e _ => keep b o e) (fun x hx => (nomatch hx)), nn, dd, x, t, t', u, nd, _, _, hx', rfl, rfl, rfl, (by show 1 < 6; decide), fun q => ?_, fun q => ?_, dn, hg', rfl⟩ (X.keeps keep)
    · rw [q, hx] at hd'; cases hd'
    · obtain ⟨o, ho, _⟩ := frs_there r q
      rw [show h.get? dd = _ from ho] at dn; cases dn
/-- the class is ready: raise ProofFault(text, number) -/
theorem raw_Raise {x : Str} {fp p pos : Pos} {args : List Expr} {n : Nat} {Q : Flow → St → Prop} (a : Act sc c) (up : Up c n) (hn : n + 2 < recursionLimit) (hs : noStar args = true)
    (h : vE c sc 40 (.Name x fp) (fun fv σ₁ => fv = .ref 69 ∧ vEs (vE c sc 40) args (fun vs σ₂ => ∃ t k u, vs = [t, .int k u] ∧ ∀ s e s₂, R c σ₂ s → Lift s s₂ → Exn c.w s.heap (frs c.S) e k none s₂.heap → c.E (.ref e) s₂) σ₁) σ) :
    raw c (exec (.Raise (some (.Call (.Name x fp) args [] p)) none pos) c.env) Q σ := fun s r => by
  rw [arm_exec_Raise]
  refine wpAny_bind (wpAny_standAt ?_)
  show wpAny _ _ (raiseStmt c.env (some (do let v ← eval (.Call (.Name x fp) args [] p) c.env; standAt pos; pure v)) none) _ _ _
  unfold raiseStmt
  refine wpAny_bind (wpAny_bind ?_)
  refine Call_ (seq_ ((vET_sound a 40).1 _ _ _ _ h r) fun fv σ₁ s₁ r₁ q₁ => ?_)
  obtain ⟨rfl, q₁⟩ := q₁
  refine callWith_sound a (vET_sound a 40).1 (.own (K69k _)) hs q₁ r₁ fun vs σ₂ s₂ q₂ r₂ => ?_
  obtain ⟨t, k, u, rfl, q₂⟩ := q₂
  refine exn_make a up hn r₂ fun e s₃ hz hE X₃ => ?_
  refine wpAny_bind (wpAny_standAt (wpAny_pure ?_))
  have hC := X₃ _ _ (K69 c.w)
  have fin := q₂ _ e s₃ r₂ hz hE
  obtain ⟨_, _, dd, what, t1, t2, uu, n1, oe, vs, he, hc, hdi, hd, hz1, hde, hds, hdB, hdd, hm⟩ := hE
  obtain ⟨ocl, od, oda, osl⟩ := oe
  cases hc; cases hdi; cases hd
  have hcB : (Value.ref 69 :: tlPF).contains (.type "BaseException") = true := by decide
  have hh := up.hh
  obtain ⟨h₃, g, d, tk, os⟩ := s₃
  have hf : ∀ Q : Unit → Shared → Prop, Q () ⟨h₃, g, d, tk, os⟩ → wpAny (model PG c.w) c.A (setFlight (.ref e) none) Q c.E ⟨h₃, g, d, tk, os⟩ := fun Q hQ => by
    unfold setFlight
    refine wpAny_bind (wpAny_field he rfl hm ?_)
    exact wpAny_pure hQ
  unfold excFromValue isExcClass raisedInstance isInstance
  repeat (first | with_reducible refine wpAny_loadPart_at he ?_ | with_reducible refine wpAny_loadPart_at hC ?_ | (with_reducible refine wpAny_isSubtype_exc hC ?_; rw [hcB]) | with_reducible refine hf _ ?_ | wp_step)
  exact wpAny_raiseNew_none hh fin
end
end Mine
end
section
open PySem PySem.W PyProof.Rows PySem.Spec PySem.Calls
set_option Elab.async false
set_option maxRecDepth 100000
set_option maxHeartbeats 1000000
set_option linter.unusedVariables false
namespace Mine
noncomputable abbrev NoE : Value → Shared → Prop := fun _ _ => False
/-- the same activation, under another handler -/
noncomputable abbrev Fx.at (c : Fx) (A : Around) (E : Value → Shared → Prop) : Fx := ⟨c.w, A, c.env, c.h, c.L, E, c.S, c.H, c.z⟩
noncomputable def dropM (n : Str) : List (Str × Value) → List (Str × Value)
  | [] => []
  | (y, v) :: r => match sq y n with
    | true => dropM n r
    | false => (y, v) :: dropM n r
theorem lk_drop {n x : Str} {v : Value} : ∀ {m : List (Str × Value)}, lk (dropM n m) x = some v → x ≠ n ∧ lk m x = some v
  | [], h => by cases h
  | (y, u) :: r, h => by
    unfold dropM at h
    cases q : sq y n with
    | true =>
      rw [q] at h
      obtain ⟨h1, h2⟩ := lk_drop h
      refine ⟨h1, ?_⟩
      rw [lk_cons, if_neg]
      · exact h2
      · rw [sq_iff.mp q]; exact h1
    | false =>
      rw [q] at h
      dsimp only at h
      rw [lk_cons] at h ⊢
      by_cases e : x = y
      · rw [if_pos e] at h ⊢
        refine ⟨fun z => ?_, h⟩
        rw [← e, z, sq_iff.mpr rfl] at q; cases q
      · rw [if_neg e] at h ⊢
        exact lk_drop h
noncomputable def St.delM (n : Str) (σ : St) : St := ⟨dropM n σ.m, σ.n, σ.k, σ.t⟩
section
variable {c : Fx} {sc : List (Str × NameKind)} {s : Shared} {σ : St}
theorem R.as (A : Around) (E : Value → Shared → Prop) (r : R c σ s) : R (c.at A E) σ s := ⟨r.F, r.N, r.K, r.D, r.O, r.V, r.T, r.G, r.Z⟩
theorem R.un {A : Around} {E : Value → Shared → Prop} (r : R (c.at A E) σ s) : R c σ s := ⟨r.F, r.N, r.K, r.D, r.O, r.V, r.T, r.G, r.Z⟩
theorem Act.as (A : Around) (E : Value → Shared → Prop) (a : Act sc c) : Act sc (c.at A E) := ⟨a.fk, a.gl, a.bi, a.lo, a.sc, a.X, a.T⟩
theorem R.locals {m' : List (Str × Value)} {M' : Str → Option Value} {h' : Heap} {tk : Nat} (r : R c σ s) (hs : Heap.SameBut c.L s.heap h') (hns : h'.Ns c.L M') (hM : ∀ x v, lk m' x = some v → M' x = some v) : R c ⟨m', σ.n, σ.k, σ.t⟩ { s with heap := h', toks := tk } := by
  have kp : ∀ b o, s.heap.get? b = some o → b ≠ c.L → h'.get? b = some o := fun b o e n => (hs.2 b n).trans e
  obtain ⟨NM, hn₀, _⟩ := r.F.ns
  obtain ⟨oL, es, ep, hL, hd, _⟩ := hn₀
  refine ⟨⟨⟨_, hns, hM⟩, fun b o e => kp b o (r.F.keep b o e) (Nat.ne_of_lt (Nat.lt_of_lt_of_le (Heap.lt_size e) r.F.above)), r.F.above⟩, r.N.set hs, fun y hy => ⟨(r.K y hy).1, (r.K y hy).2.1.sameBut hs (r.K y hy).2.2.1, (r.K y hy).2.2⟩, r.D, r.O, fun b o e => ?_, fun b hb n => ?_, r.G, r.Z.trans ⟨h', _, rfl⟩⟩
  · obtain ⟨e1, e2⟩ := tups_get.mp (r.V b o e)
    refine tups_get.mpr ⟨kp b o e1 ?_, e2⟩
    rintro rfl
    rw [hL] at e1; cases e1
    obtain ⟨_, _, _, hd'⟩ := isT_seq e2
    rw [hd] at hd'; cases hd'
  · obtain ⟨o, sl, h1, p, h2⟩ := r.T b hb n
    exact ⟨o, sl, h1, p, kp _ _ h2 n⟩
theorem name_glob {A : Around} {x : Str} {p : Pos} {v : Value} {Q : Value → Shared → Prop} {E : Value → Shared → Prop} (a : Act sc c) (r : R c σ s) (hk : lk sc x = some .globalImplicit) (hv : lk Gl x = some v) (hd : sq x (Str.ofString "__debug__") = false) (h : Q v s) : wpAny (model PG c.w) A (eval (.Name x p) c.env) Q E s := by
  have hdb' : (x == ("__debug__" : Str)) = false := by
    rw [beq_eq_false_iff_ne]
    intro e
    rw [sq_iff.mpr e] at hd; cases hd
  obtain ⟨mean, mg, mb, T⟩ := a.T
  rcases Gl_ok c.w _ (lk_mem hv) with hg | ⟨hg, hb, hn⟩
  · exact Name_function_global a.fk (a.kind hk) (loadGlobal_global (env := c.env) (by rw [a.gl]; exact T.g.keeps r.F.keep) (mg_of a.X T.g hg) h) hdb'
  · exact Name_function_global a.fk (a.kind hk) (loadGlobal_builtin (env := c.env) (by rw [a.gl]; exact T.g.keeps r.F.keep) (mg_none_of a.X T.g hg) (by rw [a.bi]; exact T.b.keeps r.F.keep) ((T.builtins x hn).trans hb) h) hdb'
/-- an exception that this frame may catch -/
noncomputable def Caught (c : Fx) (QE : Int → St → Prop) : Value → Shared → Prop := fun v s₁ => ∃ e k f σ₁ s₀, v = .ref e ∧ R c σ₁ s₀ ∧ Lift s₀ s₁ ∧ Exn c.w s₀.heap (frs c.S) e k f s₁.heap ∧ QE k σ₁
/-- the caught exception's two objects -/
noncomputable def ExO (w : World) (k : Int) (d : Addr) (oe od : Obj) : Prop := oe.cls = .ref 69 ∧ oe.dict = some d ∧ (∃ vs, oe.data = .fields vs) ∧ ∃ what t t' u n, od = dictOf (exDict w what (.int k u) t t') n
theorem raw_Try {n : Nat} {body suite : List Stmt} {b₀ : Stmt} {x nm : Str} {np hpos pos : Pos} {Q : Flow → St → Prop} (a : Act sc c) (up : Up c n) (fr : c.env.frame = some c.L) (hS : ∃ r, c.S = c.env :: r) (hint : interactive c.env = false)
    (hk : lk sc x = some .globalImplicit) (hg : lk Gl x = some (.ref 69)) (hxd : sq x (Str.ofString "__debug__") = false) (hlo : lk sc nm = some .local) (QE : Int → St → Prop)
    (hb : vSs (c.at c.A (Caught c QE)) sc 60 body Q σ)
    (hh : ∀ (k : Int) (σ₁ : St) (e d : Addr) (oe od : Obj) (A : Around) (E : Value → Shared → Prop), QE k σ₁ → ExO c.w k d oe od → A.handled = some (.ref e) → A.units = c.A.units →
      vSs (c.at A E) sc 60 (b₀ :: suite) (fun fl σ₃ => Q fl (σ₃.delM nm)) ⟨(nm, .ref e) :: σ₁.m, (e, oe) :: (d, od) :: σ₁.n, σ₁.k, σ₁.t⟩) :
    raw c (exec (.Try body [.ExceptHandler (some (.Name x np)) (some nm) (b₀ :: suite) hpos] [] [] pos) c.env) Q σ := fun s r => by
  have aL := a.kind hlo
  have hb' := (vS_sound (a.as c.A (Caught c QE)) hint 60).2 body Q σ s hb (r.as _ _)
  refine wpAny_Try_except (wpAny_mono hb' (fun fl s₁ p => ?_) fun v s₁ hc => ?_)
  · obtain ⟨σ₁, r₁, q₁⟩ := p
    cases fl with
    | next => exact wpAny_execs_nil (pst r₁.un q₁)
    | ret v => exact pst r₁.un q₁
    | brk => exact pst r₁.un q₁
    | cont => exact pst r₁.un q₁
  · obtain ⟨e, k, f, σ₁, s₀, rfl, r₀, hz, hE, hq⟩ := hc
    obtain ⟨rS, hS⟩ := hS
    refine hE.note (by rw [up.hA, hS]) fr (plainS_of r₀) (fun b hb => by rw [hS]; exact hb) (by rw [← hS]; exact funFr_of r₀ up hE.G) fun h₁ x₁ => ?_
    refine Exn.fl (s := { s₁ with heap := h₁ }) (m := none) x₁ (plainS_of r₀) fun h₂ x₂ => ?_
    have mkR : ∀ {h : Heap} {f : Option Value}, Exn c.w s₀.heap (frs c.S) e k f h → R c σ₁ { s₁ with heap := h } := fun {h f} x => by
      obtain ⟨h₀, t₀, rfl⟩ := hz
      exact r₀.grow x.G
    have nmE : ∀ (A : Around) (E : Value → Shared → Prop), wpAny (model PG c.w) A (eval (.Name x np) c.env) (fun v s => v = .ref 69 ∧ s = { s₁ with heap := h₂ }) E { s₁ with heap := h₂ } := fun A E => name_glob a (mkR x₂) hk hg hxd ⟨rfl, rfl⟩
    refine wpAny_handleBy_cons (codeAny_handlers_test (wpAny_mono (nmE _ _) (fun v s₃ p => ?_) fun _ _ z => z)) (by intro q; cases q)
    obtain ⟨rfl, rfl⟩ := p
    have r₂ := mkR x₂
    have X₂ : (hd.heap_1 c.w.params).In h₂ := a.X.keeps r₂.F.keep
    obtain ⟨hh₁, g, dr, tk, os⟩ := s₁
    have x₂' := x₂
    obtain ⟨_, _, d, what, t1, t2, u, n1, oe, vs, he, hc, hdi, hd, hz1, hde, hds, hdB, hdd, hm⟩ := x₂'
    refine wpAny_excMatches_sub_self (X₂ _ _ (K69 c.w)) he hc (by decide) ?_
    refine codeAny_handlers_suite_as ?_
    refine Exn.fl (s := ⟨h₂, g, dr, tk, os⟩) (m := none) x₂ (plainS_of r₀) fun h₃ x₃ => ?_
    have r₃ := mkR x₃
    obtain ⟨_, xn, d, what, t1, t2, u, n1, oe, vs, he, hc, hdi, hd, hz1, hde, hds, hdB, hdd, hm⟩ := x₃
    obtain ⟨f1, f2, f3⟩ := fresh_own r₀ hdB
    obtain ⟨g1, g2, g3⟩ := fresh_own r₀ xn
    have r₄ := (r₃.more hdd f1 f2 f3).more he g1 (fun q => by
      rcases List.mem_cons.mp q with q | q
      · exact hde q.symm
      · exact g2 q) g3
    generalize hod : dictOf (exDict c.w what (.int k u) t1 t2) n1 = od at r₄
    have hv := vSto_sound (c := c.at (c.A.mark (some (.ref e))) (notedBy (model PG c.w) (c.A.mark (some (.ref e))) c.env fun x s₂ => cameBackBy (model PG c.w) c.A c.env c.E x s₂)) (a.as _ _) (x := nm) (v := .ref e) (Q := fun _ σ => σ = ⟨(nm, .ref e) :: σ₁.m, (e, oe) :: (d, od) :: σ₁.n, σ₁.k, σ₁.t⟩) (by unfold vSto; rw [hlo]; rfl) (r₄.as _ _)
    refine wpAny_mono hv (fun _ s₅ p => ?_) fun _ _ z => z
    obtain ⟨σ₅, r₅, rfl⟩ := p
    have hs' := (vS_sound (a.as (c.A.mark (some (.ref e))) NoE) hint 60).2 (b₀ :: suite) _ _ s₅ (hh k σ₁ e d oe od _ NoE hq ⟨hc, hdi, ⟨vs, hd⟩, what, t1, t2, u, n1, hod.symm⟩ rfl rfl) (r₅.un.as _ _)
    refine wpAny_mono hs' (fun fl s₆ p => ?_) fun _ _ z => z.elim
    obtain ⟨σ₆, r₆, q₆⟩ := p
    obtain ⟨NM, hn, hM⟩ := r₆.F.ns
    refine wpAny_nameGoes_keeps aL (by rw [a.lo]; exact hn) (by rw [a.fk]; rfl) fun h' v hns hss => ?_
    rw [a.lo] at hns hss
    refine pst (r₆.un.locals (m' := dropM nm σ₆.m) hss hns fun y w hw => ?_) q₆
    obtain ⟨h1, h2⟩ := lk_drop hw
    rw [if_neg h1]; exact hM _ _ h2
end
end Mine
end
section
open PySem PySem.W PyProof.Rows PySem.Spec PySem.Calls Builtin Builtin.ObjectAttr
set_option Elab.async false
set_option maxRecDepth 100000
set_option maxHeartbeats 1000000
set_option linter.unusedVariables false
namespace Mine
theorem K69g (w : World) : findIn (hd.heap_1 w.params) (.ref 69) "__getattribute__" = some (some (.builtin "BaseException.__getattribute__")) := by k_is
theorem K69h (w : World) : findIn (hd.heap_1 w.params) (.ref 69) "__getattr__" = some none := by k_is
theorem K69st (w : World) : findIn (hd.heap_1 w.params) (.ref 69) "step" = some none := by k_is
theorem K69be (w : World) : mroIn (hd.heap_1 w.params) 69 (.type "BaseException") = some true := by k_is
theorem K69hd (w : World) : hasDictIn (hd.heap_1 w.params) 69 = true := by k_is
theorem bexc_kind : builtinKind "BaseException.__getattribute__" = some .slot := by decide +kernel
theorem bexc_split : splitId "BaseException.__getattribute__" = some ("BaseException", "__getattribute__") := by decide +kernel
section
variable {w : World} {A : Around} {E : Value → Shared → Prop} {h : Heap} {g : Array GenState} {d : Drawn} {t : Nat} {os : OsState}
theorem exc_step {e dd : Addr} {oe : Obj} {what : Value} {k : Int} {u t1 t2 : Tok} {n : Nat} {expr : Bool} {Q : Value → Shared → Prop} (X : (hd.heap_1 w.params).In h) (he : h.get? e = some oe) (hc : oe.cls = .ref 69) (hd' : oe.dict = some dd) {vs : Array Value} (hf : oe.data = .fields vs)
    (hdd : h.get? dd = some (dictOf (exDict w what (.int k u) t1 t2) n)) (hq : Q (.int k u) ⟨h, g, d, t + 1, os⟩) : wpAny (model PG w) A (getAttr (.ref e) "step" expr) Q E ⟨h, g, d, t, os⟩ := by
  obtain ⟨oc, od, oda, osl⟩ := oe
  cases hc; cases hd'; cases hf
  have I : W.InstAt h e ⟨.ref 69, some dd, .fields vs, osl⟩ 69 (some (dictOf (exDict w what (.int k u) t1 t2) n)) := ⟨he, rfl, rfl, hdd⟩
  have L0 := I.type (M := model PG w)
  have L1 := looks_findIn (M := model PG w) X (K69g w)
  have LF := looks_find (M := model PG w) X I (findObj_own (v := .int k u) (K69hd w) (K69st w) rfl rfl)
  have sub : Looks (model PG w) h (isInstance (.ref e) (.type "BaseException")) true := L0.andThen (looks_mroIn X (K69be w))
  have fb := (PySem.F.attr_Exception.ga).bind (.ref e)
  unfold getAttr getAttrBy
  refine wpAny_bind (wpAny_mkText (wpAny_holding (wpAny_bind (L0.at (wpAny_bind (L1.at ?_))))))
  show wpAny _ _ (getAttrByItsOwn (.ref e) (.str "step" t) (.ref 69) (.builtin "BaseException.__getattribute__") _ _) _ _ _
  have L2 := looks_findIn (M := model PG w) X (K69h w)
  unfold getAttrByItsOwn hookBefore callGetattribute boundAndCalled
  refine wpAny_bind (L2.at ?_)
  refine wpAny_bind (wpAny_attempt (wpAny_holding ?_))
  rw [show (expr && onTheHeap (Value.builtin "BaseException.__getattribute__")) = false by cases expr <;> rfl]
  refine wpAny_bind (wpAny_of_eq fb ?_)
  refine wpAny_call (codeAny_call_builtin PySem.F.attr_Exception.ga.plain PySem.F.entry_bexc_ga (@check_slot (model PG w) _ _ ⟨h, g, d, t + 1, os⟩ "BaseException.__getattribute__" "BaseException" "__getattribute__" (.ref e) [.str (Str.ofString "step") t] [] _ bexc_kind bexc_split sub (PySem.F.args_bexc_ga (.ref e) (.str (Str.ofString "step") t)) ?_))
  unfold Builtin.«object.__getattribute__»
  refine wpAny_bind (wpAny_of_eq (a := (.ref e, [.str (Str.ofString "step") t])) (by kernel_rfl) ?_)
  refine wpAny_bind (wpAny_pure (wpAny_bind (L0.at (wpAny_bind (LF.at ?_)))))
  exact wpAny_pure (wpAny_pure hq)
end
end Mine
end
section
open PySem PySem.W PyProof.Rows PySem.Spec PySem.Calls
set_option Elab.async false
set_option maxRecDepth 100000
set_option linter.unusedVariables false
namespace Mine
noncomputable def TupAt (t : Heap) (a : Addr) (vs : List Value) : Prop := ∃ o n, t.get? a = some o ∧ o.cls = .type "tuple" ∧ o.data = .seq vs.toArray n
theorem TupAt.le {t t' : Heap} {a : Addr} {vs : List Value} (h : TupAt t a vs) (l : Le t t') : TupAt t' a vs := let ⟨o, n, e, r⟩ := h; ⟨o, n, l _ _ e, r⟩
theorem TupAt.of {t : Heap} {a : Addr} {vs : List Value} (h : t.get? a = some (tupObj vs)) : TupAt t a vs := ⟨_, _, h, rfl, rfl⟩
noncomputable def LstAt (h : Heap) (a : Addr) (vs : List Value) : Prop := ∃ o n, h.get? a = some o ∧ o.cls = .type "list" ∧ o.data = .seq vs.toArray n
/-- a list of the ground or a tuple -/
noncomputable def Sqh (c : Fx) (t : Heap) (a : Addr) (vs : List Value) : Prop := LstAt c.h a vs ∨ TupAt t a vs
theorem seqIdx {k : Int} {n : Nat} (h0 : 0 ≤ k) (h : k.toNat < n) : seqIndex? k n = some k.toNat := by
  unfold seqIndex?
  rw [if_neg (show ¬ k < 0 by omega +splitDisjunctions)]
  dsimp only
  rw [if_pos (by simp only [Bool.and_eq_true, decide_eq_true_eq]; omega +splitDisjunctions)]
section
variable {c : Fx} {sc : List (Str × NameKind)} {s : Shared} {σ : St} {P : Value → St → Prop} {a : Addr} {vs : List Value}
theorem Sqh.le {t t' : Heap} (h : Sqh c t a vs) (l : Le t t') : Sqh c t' a vs := h.imp id fun z => z.le l
theorem R.tup (r : R c σ s) (h : TupAt σ.t a vs) : IsTup s.heap a vs.toArray := let ⟨o, n, e, hc, hd⟩ := h; ⟨o, (tups_get.mp (r.V _ _ e)).1, hc, n, hd⟩
theorem R.lst (r : R c σ s) (h : LstAt c.h a vs) : s.heap.IsList a vs.toArray := let ⟨o, n, e, hc, hd⟩ := h; ⟨o, r.F.keep _ _ e, hc, n, hd⟩
theorem raw_len {t₀ : Heap} (hs : Sqh c t₀ a vs) (hl : Le t₀ σ.t) (hf : vs.length ≤ sizeLine) (h : ∀ t, P (.int vs.length t) σ) : raw c (call (.builtin "len") [.ref a]) P σ := fun _ r => by
  have hz : (vs.toArray.size : Int) < 2 ^ 63 := by rw [List.size_toArray]; have := hf; rw [sizeLine_eq] at this; omega +splitDisjunctions
  rcases hs.le hl with hs | hs
  · exact PyProof.Rows.len_list (r.lst hs) hz (by rw [List.size_toArray]; exact done r (h _) _)
  · exact PyProof.Rows.len_tuple (r.tup hs) hz (by rw [List.size_toArray]; exact done r (h _) _)
theorem raw_get {t₀ : Heap} {v i : Expr} {k : Int} {t : Tok} {x : Value} (hs : Sqh c t₀ a vs) (hl : Le t₀ σ.t) (h0 : 0 ≤ k) (hf : k < 2 ^ 63) (hx : vs[k.toNat]? = some x) (h : P x σ) (hp : plainSlice i = true) : raw c (subscriptTail v i (.ref a) (.int k t)) P σ := by
  rcases hs with hs | hs
  · exact raw_tail (fun _ r => (r.lst hs).typeIs) slot_list_getitem.lookup (fun _ r => wpAny_getItem_list (r.lst hs) h0 hf (by simpa using hx) (pst r h)) hp
  · refine raw_tail (fun _ r => (r.tup (hs.le hl)).typeIs) PyProof.Rows.slot_tuple_getitem.lookup (fun _ r => PyProof.Rows.getItem_tuple (j := k.toNat) (r.tup (hs.le hl)) (by omega +splitDisjunctions) hf ?_ (by simpa using hx) (pst r h)) hp
    obtain ⟨hlt, _⟩ := List.getElem?_eq_some_iff.mp hx
    exact seqIdx h0 (by rw [List.size_toArray]; omega +splitDisjunctions)
noncomputable abbrev rgO (a b : Int) (t u v : Tok) : Obj := { cls := .type "range", dict := none, data := .fields #[.int a t, .int b u, .int 1 v], slots := #[] }
theorem raw_range {n : Int} {t : Tok} (h : ∀ r t u v, NewAt r σ → P (.ref r) (σ.addN r (rgO 0 n t u v))) : raw c (call (.type "range") [.int n t]) P σ := fun s r => by
  obtain ⟨f1, f2, f3⟩ := fresh_own r (none_size s.heap)
  exact call_range_1 (pst (((r.push (rgO 0 n s.toks t (s.toks + 1))).more (Heap.get?_push_size _ rfl) f1 f2 f3).tk _) (h _ _ _ _ f2))
theorem raw_range2 {a n : Int} {t t' : Tok} (h : ∀ r t u v, NewAt r σ → P (.ref r) (σ.addN r (rgO a n t u v))) : raw c (call (.type "range") [.int a t, .int n t']) P σ := fun s r => by
  obtain ⟨f1, f2, f3⟩ := fresh_own r (none_size s.heap)
  exact call_range_2 (pst (((r.push (rgO a n t t' s.toks)).more (Heap.get?_push_size _ rfl) f1 f2 f3).tk _) (h _ _ _ _ f2))
/-- a walk over a range that the ledger holds -/
theorem iter_rg {n : Nat} {a b : Int} {t u v : Tok} (hh : c.A.handled = none) (r : Addr) (ha : -(2 ^ 62) ≤ a) (hb : b < 2 ^ 62) (hn : (n : Int) = if a < b then b - a else 0) (ha' : a < 2 ^ 62) (hb' : -(2 ^ 62) ≤ b) :
    Iter c (.ref r) n (fun i x => ∃ t, x = .int (a + i) t) (fun h => IsRange h r a b 1 t u v) :=
  iter_range hh r a b t u v n (small_one ha ha' hb' hb) (by rw [rangeSize_one]; exact hn.symm)
theorem raw_sto {x : Str} {p : Pos} {v : Value} {Q : Unit → St → Prop} (a : Act sc c) (h : vSto c sc x v Q σ) : raw c (assign (.Name x p) c.env v) Q σ := fun s r => wpAny_assign_Name (vSto_sound a h r)
end
theorem Act.int {sc : List (Str × NameKind)} {c : Fx} (a : Act sc c) : interactive c.env = false := by show (c.env.scope.kind == .module && _) = false; rw [a.fk]; rfl
theorem LoopEnd.ret {I : Addr} {o : Obj} {J : St → Prop} {Q : Flow → St → Prop} {v : Value} {m : List (Str × Value)} {n : List (Addr × Obj)} {k : List (Str × Addr × Option Value)} {t : Heap} (h : Q (.ret v) ⟨m, n, k, t⟩) : LoopEnd I o J Q (.ret v) ⟨m, n ++ [(I, o)], k, t⟩ :=
  ⟨List.getLast?_concat, by show Q _ ⟨m, (n ++ [(I, o)]).dropLast, k, t⟩; rw [List.dropLast_concat]; exact h⟩
theorem LoopEnd.next {I : Addr} {o : Obj} {J : St → Prop} {Q : Flow → St → Prop} {m : List (Str × Value)} {n : List (Addr × Obj)} {k : List (Str × Addr × Option Value)} {t : Heap} (σ' : St) (l : Less σ' ⟨m, n, k, t⟩) (h : J σ') : LoopEnd I o J Q .next ⟨m, n ++ [(I, o)], k, t⟩ :=
  ⟨List.getLast?_concat, σ', by show Less σ' ⟨m, (n ++ [(I, o)]).dropLast, k, t⟩; rw [List.dropLast_concat]; exact l, h⟩
/-- in order: no zero, the heights rise -/
noncomputable def okAt (ns : List Int) (i : Nat) : Prop := ns.getD i 0 ≠ 0 ∧ (0 < i → (ns.getD (i - 1) 0).natAbs < (ns.getD i 0).natAbs)
noncomputable def tidyP (ns : List Int) : Prop := ∀ i, i < ns.length → okAt ns i
theorem ints_at {vs : List Value} {ns : List Int} (h : IntsAre vs ns) {i : Nat} (hi : i < ns.length) : ∃ t, vs[i]? = some (.int (ns.getD i 0) t) := h.get i _ (by rw [List.getD_eq_getElem?_getD, List.getElem?_eq_getElem hi]; rfl)
section
variable {c : Fx} {sc : List (Str × NameKind)} {s : Shared} {σ : St} {P : Value → St → Prop}
theorem TupAt.up {c' : Fx} {W : List Addr} {n : Nat} {t : Heap} {sc' : List (Str × NameKind)} {l : Addr} {vs : List Value} (h : TupAt σ.t l vs) (r : R c σ s) (I : In c sc' s W c' n t) : TupAt t l vs := (h.le r.V).le I.v
theorem HasL.up {c' : Fx} {W : List Addr} {n : Nat} {t : Heap} {sc' : List (Str × NameKind)} {l : Addr} {vs : List Value} (h : HasL c σ l vs) (r : R c σ s) (I : In c sc' s W c' n t) (hn : l ∉ W) : LstAt c'.h l vs :=
  let ⟨o, n, hh, hc, hd⟩ := h; ⟨o, n, I.g _ _ (r.has hh) hn (r.off hh), hc, hd⟩
theorem tidyq_ok {l : Addr} {vs : List Value} {ns : List Int} (a : Act sc c) (u : Up c 800) (hS : HasL c σ l vs ∨ TupAt σ.t l vs) (hI : IntsAre vs ns) (hn : ns.length ≤ 1000) (h : ∀ b t', (b = true ↔ tidyP ns) → Le σ.t t' → P (.bool b) (σ.setT t')) :
    raw c (call (.ref 93) [.ref l]) P σ := by
  refine enter [] a u (by simp) .nil (by simp) (by k_is) (by k_is) (Nat.le_of_ble_eq_true rfl) (fun _ => BindsTo.of_eq rfl) (by rfl) (by exact .nil) (by rfl) (by rfl) (by rfl) ?_
  intro s c' tv r I QF hQ
  have hq : Sqh c' tv l vs := hS.elim (fun h => .inl (h.up r I List.not_mem_nil)) fun h => .inr (h.up r I)
  have fin : ∀ b m n k t, (b = true ↔ tidyP ns) → QF (.ret (.bool b)) ⟨m, n, k, t⟩ := fun b m n k t hb => hQ _ _ fun s' Z S N O V => by
    obtain ⟨r', l'⟩ := r.back0 Z S
    exact pst r' (h _ _ hb l')
  have hlen := hI.length
  refine raw_For I.a I.a.int I.p I.u.hh (fun x => rfl) ?_
  refine ⟨.ty _, .bi _, raw_len hq (Le.refl _) (by rw [hlen, sizeLine_eq]; omega +splitDisjunctions) fun t1 => raw_range fun rg t2 t3 t4 hN => ?_⟩
  refine ⟨vs.length, _, _, iter_rg I.u.hh rg (by decide) (by omega +splitDisjunctions) (by split <;> omega +splitDisjunctions) (by decide) (by omega +splitDisjunctions), fun i σ => σ.m = [(Str.ofString "clause", .ref l)] ∧ (rg, rgO 0 vs.length t2 t3 t4) ∈ σ.n ∧ Le tv σ.t ∧ ∀ j, j < i → okAt ns j, ⟨rfl, .head _, Le.refl _, fun j hj => absurd hj (Nat.not_lt_zero _)⟩, fun i σ s hJ r => (r.N _ hJ.2.1).1, fun i x J o σ hi hx hJ hnew => ?_, fun σ hJ => ?_⟩
  · obtain ⟨t5, rfl⟩ := hx
    obtain ⟨m, n, k, t⟩ := σ
    obtain ⟨hm, hr, ht, hp⟩ := hJ
    cases hm
    have hi' : i < ns.length := by omega +splitDisjunctions
    have e0 : ((0 : Int) + i).toNat = i := by omega +splitDisjunctions
    obtain ⟨t6, hx⟩ := ints_at hI hi'
    refine raw_sto I.a ?_
    refine raw_get hq ht (by omega +splitDisjunctions) (by omega +splitDisjunctions) (by rw [e0]; exact hx) ?_ rfl
    intro t7
    refine ⟨fun hb => LoopEnd.ret (fin false _ _ _ _ ⟨(fun q => nomatch q), fun q => absurd (beq_iff_eq.mp hb) (q i hi').1⟩), fun hb => ?_⟩
    have nz : ns.getD i 0 ≠ 0 := fun q => by rw [q] at hb; cases hb
    have nxt : ∀ Q' : Flow → St → Prop, (0 < i → (ns.getD (i - 1) 0).natAbs < (ns.getD i 0).natAbs) → LoopEnd J o (fun σ => σ.m = [(Str.ofString "clause", .ref l)] ∧ (rg, rgO 0 vs.length t2 t3 t4) ∈ σ.n ∧ Le tv σ.t ∧ ∀ j, j < i + 1 → okAt ns j) Q' .next ⟨(Str.ofString "place", .int (0 + ↑i) t5) :: [(Str.ofString "clause", .ref l)], n ++ [(J, o)], k, t⟩ := fun Q' hlt => by
      refine LoopEnd.next ⟨[(Str.ofString "clause", .ref l)], n, k, t⟩ ⟨fun x v hv => ?_, List.Sublist.refl _, rfl, Le.refl _⟩ ⟨rfl, hr, ht, fun j hj => ?_⟩
      · obtain ⟨e1, e2⟩ := Prod.mk.inj (List.mem_singleton.mp (lk_mem hv))
        subst e1 e2; rfl
      · rcases Nat.lt_succ_iff_lt_or_eq.mp hj with q | q
        · exact hp j q
        · rw [q]; exact ⟨nz, hlt⟩
    intro t8
    refine ⟨fun hc => ?_, fun hc => ⟨(fun q => nomatch q), fun _ => nxt _ fun q => absurd (show (0 : Int) < 0 + i by omega +splitDisjunctions) (of_decide_eq_false hc)⟩⟩
    have ip : 0 < i := by have := of_decide_eq_true hc; omega +splitDisjunctions
    have e1 : ((0 : Int) + i - 1).toNat = i - 1 := by omega +splitDisjunctions
    obtain ⟨t9, hx1⟩ := ints_at hI (show i - 1 < ns.length by omega +splitDisjunctions)
    refine ⟨.bi _, fun t10 t11 => ?_⟩
    refine raw_get hq ht (by omega +splitDisjunctions) (by omega +splitDisjunctions) (by rw [e1]; exact hx1) ?_ rfl
    refine raw_abs fun t12 => ?_
    refine ⟨.bi _, ?_⟩
    refine raw_get hq ht (by omega +splitDisjunctions) (by omega +splitDisjunctions) (by rw [e0]; exact hx) ?_ rfl
    refine raw_abs fun t13 => ?_
    refine ⟨fun hd => LoopEnd.ret (fin false _ _ _ _ ⟨(fun q => nomatch q), fun q => ?_⟩), fun hd => nxt _ fun _ => ?_⟩
    · have h1 := of_decide_eq_true hd
      have h2 := (q i hi').2 ip
      split at h1 <;> split at h1 <;> omega +splitDisjunctions
    · have h1 := of_decide_eq_false hd
      split at h1 <;> split at h1 <;> omega +splitDisjunctions
  · obtain ⟨m, n, k, t⟩ := σ
    have hp := hJ.2.2.2
    exact fin true _ _ _ _ ⟨fun _ j hj => hp j (by omega +splitDisjunctions), fun _ => rfl⟩
end
end Mine
end
section
open PySem PySem.W PyProof.Rows PySem.Spec PySem.Calls
set_option Elab.async false
set_option maxRecDepth 100000
set_option maxHeartbeats 4000000
set_option linter.unusedVariables false
namespace Mine
section
variable {prog : Program} {w : World} {A : Around} {E : Value → Shared → Prop} {s : Shared}
theorem codeAny_comp {elt target iter : Expr} {ifs : List Expr} {scope : Scope} {pos : Pos} {it acc : Value} {env : Env} {R : Result → Shared → Prop} (I : Nat → Shared → Prop)
    (turn : ∀ n s, I n s → wpAny (model prog w) A (pyNext it) (fun r s₁ => match r with
      | none => R (.ok .next) s₁
      | some v => wpAny (model prog w) A (letOwnedTupleGo target it v) (fun _ s₁' => wpAny (model prog w) A (assign target env v) (fun _ s₂ =>
          wpAny (model prog w) A (forIn ifs true fun c r => if r = true then do let ok ← isTrue c env (eval c env); pure (ForInStep.yield ok) else pure (ForInStep.yield r)) (fun ok s₃ =>
            if ok = true then wpAny (model prog w) A (eval elt env) (fun x s₄ =>
              wpAny (model prog w) A (call (.builtin "list.append") [acc, x]) (fun _ s₅ => ∃ m, m < n ∧ I m s₅) NoE s₄) NoE s₃
            else ∃ m, m < n ∧ I m s₃) NoE s₂) NoE s₁') NoE s₁) NoE s)
    (n : Nat) (h : I n s) : codeAny (model prog w) A (.compLoop (.ListComp elt [⟨target, iter, ifs, 0⟩] scope pos) 0 it acc env) R s := by
  have no : ∀ {α : Type} {t : Sem α} {Q : α → Shared → Prop} {E : Value → Shared → Prop} {s : Shared}, wpAny (model prog w) A t Q NoE s → wpAny (model prog w) A t Q E s := fun h => wpAny_mono h (fun _ _ x => x) fun _ _ e => e.elim
  refine codeAny_loop rfl I (fun n s hI => ?_) n h
  show wpAny _ A ((compTurn (.ListComp elt [⟨target, iter, ifs, 0⟩] scope pos) 0 it acc env).onRaise (fun x => do noteFrame x env; theTreesLotGoes x)) _ _ s
  refine wpAny_noted ?_
  rw [compTurn_list]
  refine wpAny_bind (wpAny_standAt (wpAny_bind (wpAny_mono (turn n s hI) (fun r s₁ h₁ => ?_) fun _ _ e => e.elim)))
  cases r with
  | none => exact wpAny_pure h₁
  | some v =>
    refine wpAny_bind (wpAny_mono h₁ (fun _ s₁' h₁' => ?_) fun _ _ e => e.elim)
    refine wpAny_bind (wpAny_mono h₁' (fun _ s₂ h₂ => wpAny_bind (wpAny_mono h₂ (fun ok s₃ h₃ => ?_) fun _ _ e => e.elim)) fun _ _ e => e.elim)
    cases ok with
    | false => exact wpAny_pure ⟨rfl, h₃⟩
    | true =>
      exact wpAny_bind (wpAny_bind (wpAny_mono h₃ (fun x s₄ h₄ => wpAny_bind (wpAny_mono h₄ (fun _ s₅ h₅ => wpAny_pure (wpAny_pure ⟨rfl, h₅⟩)) fun _ _ e => e.elim)) fun _ _ e => e.elim))
end
section
variable {c : Fx} {sc : List (Str × NameKind)} {s : Shared} {σ : St} {P : Value → St → Prop}
noncomputable def vIfs (c : Fx) (sc : List (Str × NameKind)) : List Expr → (Bool → St → Prop) → St → Prop
  | [], Q, σ => Q true σ
  | [e], Q, σ => vT c sc 40 e Q σ
  | _, _, _ => False
theorem vIfs_sound (a : Act sc c) {ifs : List Expr} {Q : Bool → St → Prop} (h : vIfs c sc ifs Q σ) (r : R c σ s) :
    wpAny (model PG c.w) c.A (forIn ifs true fun e r => if r = true then do let ok ← isTrue e c.env (eval e c.env); pure (ForInStep.yield ok) else pure (ForInStep.yield r)) (Post c Q) c.E s := by
  match ifs, h with
  | [], h => exact wpAny_tests_nil (pst r h)
  | [e], h => exact wpAny_tests_one ((vET_sound a 40).2 _ _ _ _ h r)
/-- what a comprehension's own activation knows -/
structure Gr (c : Fx) (s : Shared) (W : List Addr) (c' : Fx) (t : Heap) : Prop where
  g : ∀ b o, s.heap.get? b = some o → b ∉ W → b ∉ frs c.S → c'.h.get? b = some o
  v : Le (tups s.heap) t
  w : c'.w = c.w
  S : c'.S = c.S
  A : c'.A = c.A
theorem Has.gr {c' : Fx} {W : List Addr} {t : Heap} {σ' : St} {l : Addr} {o : Obj} (h : Has c σ l o) (r : R c σ s) (I : Gr c s W c' t) (hn : l ∉ W) : Has c' σ' l o := .inl (I.g _ _ (r.has h) hn (r.off h))
theorem TupAt.gr {c' : Fx} {W : List Addr} {t : Heap} {l : Addr} {vs : List Value} (h : TupAt σ.t l vs) (r : R c σ s) (I : Gr c s W c' t) : TupAt t l vs := (h.le r.V).le I.v
theorem HasL.gr {c' : Fx} {W : List Addr} {t : Heap} {l : Addr} {vs : List Value} (h : HasL c σ l vs) (r : R c σ s) (I : Gr c s W c' t) (hn : l ∉ W) : LstAt c'.h l vs :=
  let ⟨o, n, hh, hc, hd⟩ := h; ⟨o, n, I.g _ _ (r.has hh) hn (r.off hh), hc, hd⟩
noncomputable def clL (f : Str → Addr) : List (Str × NameKind) → List (Str × Addr) → List (Str × Addr)
  | [], cs => cs
  | (x, k) :: r, cs => match k with
    | .free => clL f r ((x, f x) :: cs)
    | _ => clL f r cs
theorem closure_eq {env : Env} (f : Str → Addr) {scope : Scope} (h : ∀ x ∈ scope.names, x.2 = .free → env.cells.lookup x.1 = some (f x.1)) : closureFor scope env = pure (clL f scope.names []) := by
  have key : ∀ (l : List (Str × NameKind)) (cs : List (Str × Addr)), (∀ x ∈ l, x.2 = .free → env.cells.lookup x.1 = some (f x.1)) →
      (forIn l cs fun (x : Str × NameKind) cs => do
        if (x.2 == .free) = true then do let c ← cellOf env x.1; pure (ForInStep.yield ((x.1, c) :: cs)) else pure (ForInStep.yield cs)) = (pure (clL f l cs) : Sem _) := by
    intro l
    induction l with
    | nil => intro cs _; rfl
    | cons y r ih =>
      obtain ⟨y, k⟩ := y
      intro cs hl
      rw [List.forIn_cons]
      by_cases q : k = .free
      · subst q
        have hc : cellOf env y = pure (f y) := by unfold cellOf; rw [hl _ (.head _) rfl]
        show ((if (NameKind.free == NameKind.free) = true then (do let c ← cellOf env y; pure (ForInStep.yield ((y, c) :: cs))) else pure (ForInStep.yield cs)) >>= _) = _
        rw [if_pos (by rfl), hc]
        exact ih _ fun x hx => hl x (.tail _ hx)
      · have qf : (k == NameKind.free) = false := by cases k <;> first | rfl | exact absurd rfl q
        show ((if (k == NameKind.free) = true then _ else _) >>= _) = _
        rw [qf, if_neg Bool.false_ne_true]
        have e : clL f ((y, k) :: r) cs = clL f r cs := by cases k <;> first | rfl | exact absurd rfl q
        rw [e]
        exact ih _ fun x hx => hl x (.tail _ hx)
  have e := key scope.names [] h
  show ((forIn scope.names [] _) >>= fun cs => pure cs) = _
  rw [bind_pure]
  exact e
theorem closure_cells {scope : Scope} (r : R c σ s) (h : (scope.names.all fun y => !(y.2 == .free) || (lk σ.k y.1).isSome) = true) : closureFor scope c.env = pure (clL (fun x => ((lk σ.k x).map (·.1)).getD 0) scope.names []) :=
  closure_eq _ fun x hx e => by
    have := List.all_eq_true.mp h x hx
    rw [e] at this
    obtain ⟨v, hv⟩ := Option.isSome_iff_exists.mp (show (lk σ.k x.1).isSome = true from this)
    rw [hv]
    exact (r.K _ (lk_mem hv)).1
noncomputable def rl (sc : List (Str × NameKind)) : List (Str × NameKind) → List (Str × NameKind)
  | [] => []
  | (n, k) :: r => (match k with
    | .free => (match lk sc n with
      | some .cell => (n, .cell)
      | _ => (n, .free))
    | k => (n, k)) :: rl sc r
theorem rl_eq (a : Act sc c) (scope : Scope) : (relabel scope c.env).names = rl sc scope.names := by
  show scope.names.map _ = _
  induction scope.names with
  | nil => rfl
  | cons p r ih =>
    obtain ⟨n, k⟩ := p
    rw [List.map_cons, ih]
    have e : c.env.kindOf n = lk sc n := by
      show c.env.scope.names.lookup n = _
      rw [a.sc, ← lk_eq]
    have q : (if (k == NameKind.free && c.env.scope.kind == ScopeKind.function && c.env.kindOf n == some NameKind.cell) = true then (n, NameKind.cell) else (n, k)) = (match k with
      | .free => (match lk sc n with
        | some .cell => (n, .cell)
        | _ => (n, .free))
      | k => (n, k)) := by
      rw [a.fk, e]
      cases k <;> try rfl
      cases lk sc n with
      | none => rfl
      | some k' => cases k' <;> rfl
    exact congrArg (· :: rl sc r) q
noncomputable def LstO (o : Obj) (vs : List Value) : Prop := o.cls = .type "list" ∧ (∃ n, o.data = .seq vs.toArray n) ∧ o.dict = none
theorem mapSeq_dict (o : Obj) (f : Array Value → Array Value) : (o.mapSeq f).dict = o.dict := by unfold Obj.mapSeq; split <;> rfl
theorem app_ {A : Around} {E : Value → Shared → Prop} {w : World} {l : Addr} {o : Obj} {vs : List Value} {x : Value} {Q : Value → Shared → Prop} (ho : s.heap.get? l = some o) (hl : LstO o vs) (hz : vs.length ≤ sizeLine)
    (hQ : ∀ h' o', h'.get? l = some o' → LstO o' (vs ++ [x]) → Heap.SameBut l s.heap h' → Q .none { s with heap := h' }) : wpAny (model PG w) A (call (.builtin "list.append") [.ref l, x]) Q E s := by
  obtain ⟨hc, ⟨n, hd⟩, hdi⟩ := hl
  obtain ⟨n', hd'⟩ := Obj.data_mapSeq hd (·.push x)
  refine wpAny_call_entry slot_list_append ⟨_, ho, hc⟩ entry_list_append ?_ (args_list_append _ _)
  show wpAny _ _ (updateSeq l (·.push x) >>= fun _ => ret .none) _ _ s
  refine wpAny_bind ?_
  refine wpAny_updateSeq ho hd (hz := by rw [List.size_toArray]; exact hz) (_hz' := by rw [Array.size_push, List.size_toArray]; exact Nat.succ_le_succ hz) (wpAny_pure ⟨.none, rfl, hQ _ (o.mapSeq (·.push x)) (Heap.get?_update_self _ ho (Obj.isFreed_of_seq hd')) ⟨(Obj.cls_mapSeq ..).trans hc, ⟨n', hd'.trans (by simp)⟩, (mapSeq_dict ..).trans hdi⟩ (Heap.SameBut.update ..)⟩)
theorem R.swap {I : Addr} {o : Obj} (r : R c (σ.addN I o) s) : R c (σ.endN I o) s :=
  ⟨r.F, fun p hp => r.N p (by
    rcases List.mem_append.mp hp with hp | hp
    · exact .tail _ hp
    · rw [List.mem_singleton.mp hp]; exact .head _), r.K, adrs_end.nodup_iff.mpr r.D, fun a ha => r.O a (adrs_end.mem_iff.mp ha), r.V, r.T, r.G, r.Z⟩
theorem R.unAdd {I : Addr} {o : Obj} {h' : Heap} {tk : Nat} (r : R c (σ.addN I o) s) (ht : isT o = false) (hs : Stays I s.heap h') : R c σ { s with heap := h', toks := tk } := (r.swap.unEnd ht hs).1
theorem comp_gen {elt target iter : Expr} {ifs : List Expr} {scope : Scope} {pos : Pos} {n : Nat} {cl : List (Str × Addr)} {use : Option (Value → Sem Unit)} {Qx : Value → Shared → Prop} {p' : Pos} (kk : List (Str × Addr × Option Value)) (a : Act sc c) (u : Up c n)
    (hfs : ∀ x, foldedSetIterable iter c.env x = pure x) (hcl : ∀ s, R c σ s → closureFor scope c.env = pure cl) (hkk : ∀ y ∈ kk, cl.lookup y.1 = some y.2.1)
    (hkind : scope.kind = .function) (hnames : ∀ x ∈ scope.names, x.2 = .local → scope.names.lookup x.1 = some .local) (hnc : ∀ x ∈ scope.names, x.2 ≠ .cell)
    (h : vE c sc 40 iter (fun v σ₁ => kk.Sublist σ₁.k ∧ ∃ n Pi X, n ≤ sizeLine ∧ Iter c v n Pi X ∧ (∀ s, R c σ₁ s → X s.heap ∧ ∀ h', (∀ b o, s.heap.get? b = some o → b ∉ kk.map (·.2.1) → b ∉ frs c.S → h'.get? b = some o) → X h') ∧
      ∃ J : Nat → Heap → List Value → Prop, (∀ i t t' acc, Le t t' → J i t acc → J i t' acc) ∧ (∀ t, Le σ₁.t t → J 0 t []) ∧
      (∀ s c' t i x acc I oI D oD, R c σ₁ s → Gr c s (kk.map (·.2.1)) c' t → Act (rl sc scope.names) c' → (∀ n, Up c n → Up c' n) → i < n → Pi i x → J i t acc →
        raw c' (assign target c'.env x) (fun _ σ₂ => vIfs c' (rl sc scope.names) ifs (fun b σ₃ => br b
            (vE c' (rl sc scope.names) 40 elt (fun y σ₄ => (List.Sublist [(I, oI), (D, oD)] σ₄.n ∧ σ₄.k = kk) ∧ J (i + 1) σ₄.t (acc ++ [y])) σ₃)
            ((List.Sublist [(I, oI), (D, oD)] σ₃.n ∧ σ₃.k = kk) ∧ J (i + 1) σ₃.t acc)) σ₂) ⟨[], [(I, oI), (D, oD)], kk, t⟩) ∧
      ∀ t acc D o, Le σ₁.t t → J n t acc → acc.length ≤ n → LstO o acc → NewAt D σ₁ → P (.ref D) ((σ₁.addN D o).setT t)) σ)
    (hU : ∀ r s' σ' D C oC NM, R c (σ'.addN C oC) s' → isT oC = false → s'.heap.Ns C NM → P (.ref D) σ' → compPost (model PG c.w) c.A c.E use Qx (.ref D) C (.ok r) s') (s : Shared) (r : R c σ s) :
    wpAny (model PG c.w) c.A (comprehension (.ListComp elt [⟨target, iter, ifs, 0⟩] scope pos) scope c.env p' (newList []) false (eval iter c.env) use) Qx c.E s := by
  refine wpAny_comprehension_free (cl := cl) rfl (fun x => hfs x) ?_ hkind hnames ?_
  · exact hcl s r
  · refine seq_ (Q₁ := _) ((vET_sound a 40).1 iter _ σ s h r) fun v σ₁ s₁ r₁ q₁ => ?_
    obtain ⟨hk, n, Pi, X, hz, ⟨S, hS, hall⟩, hX, J, Jm, j0, step, fin⟩ := q₁
    obtain ⟨hmk, hit, hend, hsf⟩ := hall c.A u.hh
    refine hmk _ _ _ (hX _ r₁).1 fun o₀ hS₀ hf₀ => ?_
    obtain ⟨H, g, d, tk0, os⟩ := s₁
    refine wpAny_newObj_type ?_ (by show 0 ≤ sizeLine; exact Nat.zero_le _)
    refine wpAny_newFunctionEnv hnc (by intro y hy; cases hy) (fun h₂ hns hsb => ?_) hkind
    have hsb' : ∀ b o, b ≠ H.objs.size + 1 + 1 → ((H.push o₀).push (lstObj [])).get? b = some o → h₂.get? b = some o := fun b o n e => hsb.extBut b o (by simpa [Heap.size_push] using n) (Heap.get?_push_of_some _ e)
    have hI₂ : h₂.get? H.objs.size = some o₀ := hsb' _ _ (by omega) (Heap.get?_push_of_some _ (Heap.get?_push_size _ hf₀))
    have hD₂ : h₂.get? (H.objs.size + 1) = some (lstObj []) := hsb' _ _ (by omega) (Heap.get?_push_at (by simp [Heap.size_push]) rfl)
    have keep : ∀ b o, H.get? b = some o → h₂.get? b = some o := fun b o e => hsb' _ _ (Nat.ne_of_lt (Nat.lt_succ_of_lt (Nat.lt_succ_of_lt (Heap.lt_size e)))) (Heap.get?_push_of_some _ (Heap.get?_push_of_some _ e))
    have hns₂ : h₂.Ns (H.objs.size + 1 + 1) (fun _ => none) := by
      have e := hns
      simp only [Heap.size_push] at e
      exact e
    have core : ∀ cenv : Env, cenv.scope = relabel scope c.env → cenv.locals = H.objs.size + 1 + 1 → cenv.globals = c.env.globals → cenv.cells = cl → cenv.builtins = builtinsNs → ∀ tk, codeAny (model PG c.w) c.A
        (.compStart (.ListComp elt [⟨target, iter, ifs, 0⟩] scope pos) 0 (.ref H.objs.size) (.ref (H.objs.size + 1)) cenv) (compPost (model PG c.w) c.A c.E use Qx (.ref (H.objs.size + 1)) (H.objs.size + 1 + 1)) ⟨h₂, g, d, tk, os⟩ := by
      intro cenv e1 e2 e3 e4 e5 tk
      have nk : ∀ b o, c.h.get? b = some o → (hideAll H (kk.map (·.2.1) ++ frs c.S)).get? b = some o := fun b o e => hideAll_get _ (r₁.F.keep b o e) fun q => by
        rcases List.mem_append.mp q with q | q
        · obtain ⟨y, hy, rfl⟩ := List.mem_map.mp q
          have := (r₁.K y (hk.subset hy)).2.2.2; rw [e] at this; cases this
        · have := r₁.G _ q; rw [e] at this; cases this
      let c' : Fx := ⟨c.w, c.A, cenv, hideAll H (kk.map (·.2.1) ++ frs c.S), H.objs.size + 1 + 1, NoE, c.S, H, c.z⟩
      obtain ⟨mean, mg, mb, T⟩ := a.T
      have a' : Act (rl sc scope.names) c' := ⟨by show cenv.scope.kind = _; rw [e1]; exact hkind, e3.trans a.gl, e5, e2, by show cenv.scope.names = _; rw [e1]; exact rl_eq a scope, a.X.keeps nk, _, _, _, T.keeps nk⟩
      have kaddr : ∀ y ∈ kk, ∃ o, H.get? y.2.1 = some o ∧ o.data = .cell y.2.2 := fun y hy => (r₁.K y (hk.subset hy)).2.1
      have klt : ∀ b ∈ kk.map (·.2.1), b < H.objs.size := fun b hb => by
        obtain ⟨y, hy, rfl⟩ := List.mem_map.mp hb
        obtain ⟨o, ho, _⟩ := kaddr y hy
        exact Heap.lt_size ho
      have kfr : ∀ b ∈ kk.map (·.2.1), b ∉ frs c.S := fun b hb => r₁.O b (List.mem_append_right _ ((hk.map _).subset hb))
      have knd : (kk.map (·.2.1)).Nodup := (List.nodup_append.mp r₁.D).2.1.sublist (hk.map _)
      have fl : ∀ b ∈ frs c.S, b < H.objs.size := fun b hb => by obtain ⟨o, ho, _⟩ := frs_there r₁ hb; exact Heap.lt_size ho
      have none_ge : ∀ b, H.objs.size ≤ b → (hideAll H (kk.map (·.2.1) ++ frs c.S)).get? b = none := fun b hb => Heap.get?_none_of_le (by rw [hideAll_size]; exact hb)
      have R₂ : R c' ⟨[], [(H.objs.size, o₀), (H.objs.size + 1, lstObj [])], kk, tups h₂⟩ ⟨h₂, g, d, tk, os⟩ := by
        refine ⟨⟨⟨_, hns₂, fun x v q => by cases q⟩, fun b o e => keep b o (of_hideAll _ e), by rw [hideAll_size]; exact Nat.le_succ_of_le (Nat.le_succ _)⟩, fun p hp => ?_, fun y hy => ⟨?_, ?_, ?_⟩, ?_, fun b hb q => ?_, Le.refl _, fun b hb n => ?_, fun b hb => hideAll_none _ (List.mem_append_right _ hb), r₁.Z.trans ⟨_, _, rfl⟩⟩
        · rcases List.mem_cons.mp hp with rfl | hp
          · exact ⟨hI₂, by show H.objs.size ≠ H.objs.size + 1 + 1; omega, none_ge _ (Nat.le_refl _)⟩
          · rw [List.mem_singleton.mp hp]; exact ⟨hD₂, by show H.objs.size + 1 ≠ H.objs.size + 1 + 1; omega, none_ge _ (Nat.le_succ _)⟩
        · show cenv.cells.lookup _ = _; rw [e4]; exact hkk y hy
        · obtain ⟨o, ho, hd⟩ := kaddr y hy; exact ⟨o, keep _ _ ho, hd⟩
        · have := klt _ (List.mem_map_of_mem hy)
          exact ⟨Nat.ne_of_lt (Nat.lt_succ_of_lt (Nat.lt_succ_of_lt this)), hideAll_none _ (List.mem_append_left _ (List.mem_map_of_mem hy))⟩
        · show (H.objs.size :: (H.objs.size + 1) :: kk.map (·.2.1)).Nodup
          refine List.nodup_cons.mpr ⟨fun q => ?_, List.nodup_cons.mpr ⟨fun q => absurd (klt _ q) (Nat.not_lt.mpr (Nat.le_succ _)), knd⟩⟩
          rcases List.mem_cons.mp q with q | q
          · exact absurd q (Nat.ne_of_lt (Nat.lt_succ_self _))
          · exact absurd (klt _ q) (Nat.lt_irrefl _)
        · rcases List.mem_cons.mp hb with rfl | hb
          · exact absurd (fl _ q) (Nat.lt_irrefl _)
          · rcases List.mem_cons.mp hb with rfl | hb
            · exact absurd (fl _ q) (Nat.not_lt.mpr (Nat.le_succ _))
            · exact kfr b hb q
        · obtain ⟨o, ho, p⟩ := frs_there r₁ hb
          exact ⟨o, o.slots, ho, p, keep _ _ ho⟩
      have V₂ : Le (tups H) (tups h₂) := fun b o e => by
        obtain ⟨z1, z2⟩ := tups_get.mp e
        exact tups_get.mpr ⟨keep b o z1, z2⟩
      have loop : codeAny (model PG c.w) c.A (.compLoop (.ListComp elt [⟨target, iter, ifs, 0⟩] scope pos) 0 (.ref H.objs.size) (.ref (H.objs.size + 1)) cenv) (compPost (model PG c.w) c.A c.E use Qx (.ref (H.objs.size + 1)) (H.objs.size + 1 + 1)) ⟨h₂, g, d, tk, os⟩ := ?_
      · exact codeAny_compStart_list loop (hsf _ 0 _ _ _ ⟨o₀, hI₂, hS₀⟩ loop)
      have hXs : ∀ {σ s}, R c' σ s → X s.heap := fun r' => (hX _ r₁).2 _ fun b o e n1 n2 => r'.F.keep b o (hideAll_get _ e fun q => (List.mem_append.mp q).elim n1 n2)
      have hVs : ∀ {σ s}, R c' σ s → Le (tups H) (tups s.heap) := fun {σ s} r' b o e => by
        obtain ⟨z1, z2⟩ := tups_get.mp e
        refine tups_get.mpr ⟨r'.F.keep b o (hideAll_get _ z1 fun q => ?_), z2⟩
        rcases List.mem_append.mp q with q | q
        · obtain ⟨y, hy, rfl⟩ := List.mem_map.mp q
          obtain ⟨o', ho', hd'⟩ := kaddr y hy
          rw [z1] at ho'; cases ho'
          obtain ⟨_, _, _, hd''⟩ := isT_seq z2
          rw [hd'] at hd''; cases hd''
        · obtain ⟨o', ho', p⟩ := frs_there r₁ q
          rw [show H.get? b = _ from ho'] at z1; cases z1
          rw [p.1] at z2; cases z2
      have gr : ∀ {σ s}, R c' σ s → Gr c ⟨H, g, d, tk0, os⟩ (kk.map (·.2.1)) c' (tups s.heap) := fun r' => ⟨fun b o e n1 n2 => hideAll_get _ e fun q => (List.mem_append.mp q).elim n1 n2, hVs r', rfl, rfl, rfl⟩
      have ne01 : H.objs.size ≠ H.objs.size + 1 := Nat.ne_of_lt (Nat.lt_succ_self _)
      refine (codeAny_comp (fun k s' => ∃ i oI oD acc, R c' ⟨[], [(H.objs.size, oI), (H.objs.size + 1, oD)], kk, tups s'.heap⟩ s' ∧ S i oI ∧ LstO oD acc ∧ J i (tups s'.heap) acc ∧ acc.length ≤ i ∧ i ≤ n ∧ k = n - i) ?_ n
        ⟨0, o₀, lstObj [], [], R₂, hS₀, ⟨rfl, ⟨_, rfl⟩, rfl⟩, j0 _ (r₁.V.trans V₂), Nat.zero_le _, Nat.zero_le _, rfl⟩)
      rintro k s' ⟨i, oI, oD, acc, r', hs', hl, hj, hle, hi, rfl⟩
      obtain ⟨hT, nm, fs, hcls, hdat, how⟩ := hS i oI hs'
      have hIo := (r'.N (_, oI) (.head _)).1
      by_cases hlt : i < n
      · refine hit _ i _ _ _ hlt (hXs r') ⟨oI, hIo, hs'⟩ fun x o' h' tk' hP ho' hso' hst => ?_
        obtain ⟨hT', nm', fs', hcls', hdat', how'⟩ := hS _ _ hso'
        obtain ⟨r₃, l₃⟩ := r'.back [H.objs.size] [(H.objs.size, o'), (H.objs.size + 1, oD)] (s' := { s' with heap := h', toks := tk' }) ⟨_, _, rfl⟩ (.of (fun b ob e n => hst b ob (fun q => n (q ▸ .head _)) e) fun z hz => (List.mem_singleton.mp hz) ▸ r'.O _ (.head _)) (List.forall_mem_singleton.mpr ⟨oI, .head _, hT⟩) rfl fun p hp => by
          rcases List.mem_cons.mp hp with rfl | hp
          · exact .inr ho'
          · rw [List.mem_singleton.mp hp]; exact .inl ⟨.tail _ (.head _), fun q => ne01 (List.mem_singleton.mp q).symm⟩
        refine go_ok (c := c) (s := { s' with heap := h', toks := tk' }) ho' hcls' hdat' how' ?_
        have st := step _ c' (tups h') i x acc H.objs.size o' (H.objs.size + 1) oD r₁ (gr r₃) a' (fun m um => ⟨um.hA, um.hh, um.hd, um.hu, um.fS⟩) hlt hP (Jm _ _ _ _ l₃ hj)
        refine wpAny_mono (st _ r₃) (fun _ s₄ p => ?_) fun _ _ e => e
        obtain ⟨σ₄, r₄, q₄⟩ := p
        refine wpAny_mono (vIfs_sound a' q₄ r₄) (fun b s₅ p => ?_) fun _ _ e => e
        obtain ⟨σ₅, r₅, q₅⟩ := p
        cases b with
        | false =>
          obtain ⟨⟨hn, hk'⟩, hj'⟩ := q₅.2 rfl
          rw [if_neg Bool.false_ne_true]
          exact ⟨n - (i + 1), by omega, i + 1, o', oD, acc, r₅.top.less ⟨(fun x v h => nomatch h), hn, hk'.symm, Le.refl _⟩, hso', hl, Jm _ _ _ _ r₅.V hj', Nat.le_succ_of_le hle, hlt, rfl⟩
        | true =>
          rw [if_pos rfl]
          refine wpAny_mono ((vET_sound a' 40).1 _ _ _ _ (q₅.1 rfl) r₅) (fun y s₆ p => ?_) fun _ _ e => e
          obtain ⟨σ₆, r₆, ⟨hn, hk'⟩, hj'⟩ := p
          have r₇ : R c' ⟨[], [(H.objs.size, o'), (H.objs.size + 1, oD)], kk, tups s₆.heap⟩ s₆ := r₆.top.less ⟨(fun x v h => nomatch h), hn, hk'.symm, Le.refl _⟩
          refine app_ (r₇.N (_, oD) (.tail _ (.head _))).1 hl (by omega) fun h₈ oD' hoD' hl₈ hs₈ => ?_
          obtain ⟨r₈, l₈⟩ := r₇.back [H.objs.size + 1] [(H.objs.size, o'), (H.objs.size + 1, oD')] (s' := { s₆ with heap := h₈ }) ⟨_, s₆.toks, rfl⟩ (gf_same hs₈ (r₇.O _ (.tail _ (.head _)))) (List.forall_mem_singleton.mpr ⟨oD, .tail _ (.head _), by unfold isT; rw [hl.1]; rfl⟩) rfl fun p hp => by
            rcases List.mem_cons.mp hp with rfl | hp
            · exact .inl ⟨.head _, fun q => ne01 (List.mem_singleton.mp q)⟩
            · rw [List.mem_singleton.mp hp]; exact .inr hoD'
          exact ⟨n - (i + 1), by omega, i + 1, o', oD', acc ++ [y], r₈, hso', hl₈, Jm _ _ _ _ (r₆.V.trans l₈) hj', by rw [List.length_append]; exact Nat.succ_le_succ hle, hlt, rfl⟩
      · have hin : i = n := by omega
        subst hin
        refine hend _ _ _ _ (hXs r') ⟨oI, hIo, hs'⟩ fun h' tk' hst => ?_
        obtain ⟨NM, hnM, _⟩ := r'.F.ns
        have hnM' : h'.Ns (H.objs.size + 1 + 1) NM := hnM.at' fun o e => hst _ _ (by show H.objs.size + 1 + 1 ≠ H.objs.size; omega) e
        have ch : ∀ b o, s'.heap.get? b = some o → b ≠ H.objs.size → b ≠ H.objs.size + 1 + 1 → h'.get? b = some o := fun b o e n1 _ => hst b o n1 e
        have lo : ∀ b, b < H.objs.size → b ≠ H.objs.size ∧ b ≠ H.objs.size + 1 + 1 := fun b hb => ⟨Nat.ne_of_lt hb, Nat.ne_of_lt (Nat.lt_succ_of_lt (Nat.lt_succ_of_lt hb))⟩
        have M := r₁.mid (X := kk.map (·.2.1)) (h' := h') ⟨fun b o e n1 n2 => ch b o (r'.F.keep b o (hideAll_get _ e fun q => (List.mem_append.mp q).elim n1 n2)) (lo b (Heap.lt_size e)).1 (lo b (Heap.lt_size e)).2, fun b hb o e p => ?_⟩ fun x hx => ?_
        · have hDo := (r'.N (_, oD) (.tail _ (.head _))).1
          have hD' : h'.get? (H.objs.size + 1) = some oD := ch _ _ hDo ne01.symm (Nat.ne_of_lt (Nat.lt_succ_self _))
          have dj := (List.nodup_append.mp r₁.D).2.2
          have R₃ : R c σ₁ ⟨h', g, d, tk', os⟩ := ⟨M.F, fun p hp => ⟨M.N p hp fun q => dj _ (List.mem_map_of_mem hp) _ ((hk.map _).subset q) rfl, (r₁.N p hp).2⟩, fun y hy => ⟨(r₁.K y hy).1, ?_, (r₁.K y hy).2.2⟩, r₁.D, r₁.O, M.V, M.T, r₁.G, r₁.Z.trans ⟨_, _, rfl⟩⟩
          · obtain ⟨f1, f2, f3⟩ := fresh_own r₁ (b := H.objs.size + 1) (Heap.get?_none_of_le (Nat.le_succ _))
            have R₄ := R₃.more hD' f1 f2 f3
            have V₄ : Le (tups s'.heap) (tups h') := fun b o e => by
              obtain ⟨z1, z2⟩ := tups_get.mp e
              refine tups_get.mpr ⟨ch b o z1 (fun q => ?_) (fun q => ?_), z2⟩
              · rw [q, hIo] at z1; cases z1; rw [hT] at z2; cases z2
              · obtain ⟨oL, es, ep, hL, hd, _⟩ := hnM
                rw [q, show s'.heap.get? (H.objs.size + 1 + 1) = _ from hL] at z1; cases z1
                obtain ⟨_, _, _, hd''⟩ := isT_seq z2
                rw [hd] at hd''; cases hd''
            have R₅ : R c ((σ₁.addN (H.objs.size + 1) oD).setT (tups s'.heap)) ⟨h', g, d, tk', os⟩ := ⟨R₄.F, R₄.N, R₄.K, R₄.D, R₄.O, V₄, R₄.T, R₄.G, R₄.Z⟩
            obtain ⟨h₀, t₀, hz₀⟩ := r'.Z
            obtain ⟨h₁, t₁, hz₁⟩ := r₁.Z
            have es : ({ s' with heap := h', toks := tk' } : Shared) = ⟨h', g, d, tk', os⟩ := by
              rw [show s' = { c.z with heap := h₀, toks := t₀ } from hz₀]
              cases hz₁; rfl
            have hC := hnM'
            obtain ⟨oC, esC, epC, hC, hdC, _⟩ := hC
            obtain ⟨g1, g2, g3⟩ := fresh_own r₁ (b := H.objs.size + 1 + 1) (Heap.get?_none_of_le (Nat.le_succ_of_le (Nat.le_succ _)))
            have R₆ := R₅.more (b := H.objs.size + 1 + 1) hC g1 (fun q => by
              rcases List.mem_cons.mp q with q | q
              · exact absurd q (Nat.succ_ne_self _)
              · exact g2 q) g3
            show compPost (model PG c.w) c.A c.E use Qx (.ref (H.objs.size + 1)) (H.objs.size + 1 + 1) _ { s' with heap := h', toks := tk' }
            rw [es]
            exact hU _ _ _ _ _ oC NM R₆ (by unfold isT; rw [hdC, Bool.and_false]) hnM' (fin _ _ _ _ (r₁.V.trans (hVs r')) hj hle hl f2)
          · by_cases q : y.2.1 ∈ kk.map (·.2.1)
            · obtain ⟨z, hz, e⟩ := List.mem_map.mp q
              have e' := nd_inj (List.nodup_append.mp r₁.D).2.1 (hk.subset hz) hy e
              subst e'
              obtain ⟨k1, ⟨o, ho, hd⟩, k3⟩ := r'.K z hz
              have := klt _ (List.mem_map_of_mem hz)
              exact ⟨o, ch _ _ ho (lo _ this).1 (lo _ this).2, hd⟩
            · exact (M.K y hy).2.1 q
        · obtain ⟨o2, sl, q1, _, q2⟩ := r'.T b hb (lo b (fl b hb)).2
          rw [show H.get? b = _ from e] at q1; cases q1
          exact ⟨sl, ch _ _ q2 (lo b (fl b hb)).1 (lo b (fl b hb)).2⟩
        · obtain ⟨y, hy, rfl⟩ := List.mem_map.mp hx
          obtain ⟨o, ho, hd⟩ := kaddr y hy
          refine ⟨(r₁.K y (hk.subset hy)).2.2, kfr _ hx, fun o' e => ?_⟩
          rw [show H.get? y.2.1 = _ from ho] at e; cases e
          unfold isT; rw [hd, Bool.and_false]
    have sz1 : (H.push o₀).objs.size = H.objs.size + 1 := Heap.size_push ..
    have sz2 : ((H.push o₀).push (lstObj [])).objs.size = H.objs.size + 1 + 1 := (Heap.size_push ..).trans (congrArg (· + 1) sz1)
    show codeAny _ _ (.compStart _ _ _ (.ref (H.push o₀).objs.size) _) (compPost _ _ _ _ _ (.ref (H.push o₀).objs.size) ((H.push o₀).push (lstObj [])).objs.size) _
    rw [sz2, sz1]
    refine core _ ?_ ?_ ?_ ?_ ?_ _
    all_goals first | rfl | exact sz2 | exact a.bi
theorem raw_comp {elt target iter : Expr} {ifs : List Expr} {scope : Scope} {pos : Pos} {n : Nat} {cl : List (Str × Addr)} (kk : List (Str × Addr × Option Value)) (a : Act sc c) (u : Up c n)
    (hfs : ∀ x, foldedSetIterable iter c.env x = pure x) (hcl : ∀ s, R c σ s → closureFor scope c.env = pure cl) (hkk : ∀ y ∈ kk, cl.lookup y.1 = some y.2.1)
    (hkind : scope.kind = .function) (hnames : ∀ x ∈ scope.names, x.2 = .local → scope.names.lookup x.1 = some .local) (hnc : ∀ x ∈ scope.names, x.2 ≠ .cell)
    (h : vE c sc 40 iter (fun v σ₁ => kk.Sublist σ₁.k ∧ ∃ n Pi X, n ≤ sizeLine ∧ Iter c v n Pi X ∧ (∀ s, R c σ₁ s → X s.heap ∧ ∀ h', (∀ b o, s.heap.get? b = some o → b ∉ kk.map (·.2.1) → b ∉ frs c.S → h'.get? b = some o) → X h') ∧
      ∃ J : Nat → Heap → List Value → Prop, (∀ i t t' acc, Le t t' → J i t acc → J i t' acc) ∧ (∀ t, Le σ₁.t t → J 0 t []) ∧
      (∀ s c' t i x acc I oI D oD, R c σ₁ s → Gr c s (kk.map (·.2.1)) c' t → Act (rl sc scope.names) c' → (∀ n, Up c n → Up c' n) → i < n → Pi i x → J i t acc →
        raw c' (assign target c'.env x) (fun _ σ₂ => vIfs c' (rl sc scope.names) ifs (fun b σ₃ => br b
            (vE c' (rl sc scope.names) 40 elt (fun y σ₄ => (List.Sublist [(I, oI), (D, oD)] σ₄.n ∧ σ₄.k = kk) ∧ J (i + 1) σ₄.t (acc ++ [y])) σ₃)
            ((List.Sublist [(I, oI), (D, oD)] σ₃.n ∧ σ₃.k = kk) ∧ J (i + 1) σ₃.t acc)) σ₂) ⟨[], [(I, oI), (D, oD)], kk, t⟩) ∧
      ∀ t acc D o, Le σ₁.t t → J n t acc → acc.length ≤ n → LstO o acc → NewAt D σ₁ → P (.ref D) ((σ₁.addN D o).setT t)) σ) :
    raw c (eval (.ListComp elt [⟨target, iter, ifs, 0⟩] scope pos) c.env) P σ := fun s r => by
  rw [eval_ListComp]
  exact comp_gen (use := none) kk a u hfs hcl hkk hkind hnames hnc h (fun _ s' σ' D C oC NM r' ht hn hp => ⟨NM, hn, fun h' hs => pst (r'.unAdd (tk := s'.toks) ht (stays_same hs)) hp⟩) s r
theorem raw_AssignComp {y : Str} {py spos : Pos} {Q : Flow → St → Prop} {elt target iter : Expr} {ifs : List Expr} {scope : Scope} {pos : Pos} {n : Nat} {cl : List (Str × Addr)} (kk : List (Str × Addr × Option Value)) (a : Act sc c) (u : Up c n)
    (hfs : ∀ x, foldedSetIterable iter c.env x = pure x) (hcl : ∀ s, R c σ s → closureFor scope c.env = pure cl) (hkk : ∀ y ∈ kk, cl.lookup y.1 = some y.2.1)
    (hkind : scope.kind = .function) (hnames : ∀ x ∈ scope.names, x.2 = .local → scope.names.lookup x.1 = some .local) (hnc : ∀ x ∈ scope.names, x.2 ≠ .cell)
    (h : vE c sc 40 iter (fun v σ₁ => kk.Sublist σ₁.k ∧ ∃ n Pi X, n ≤ sizeLine ∧ Iter c v n Pi X ∧ (∀ s, R c σ₁ s → X s.heap ∧ ∀ h', (∀ b o, s.heap.get? b = some o → b ∉ kk.map (·.2.1) → b ∉ frs c.S → h'.get? b = some o) → X h') ∧
      ∃ J : Nat → Heap → List Value → Prop, (∀ i t t' acc, Le t t' → J i t acc → J i t' acc) ∧ (∀ t, Le σ₁.t t → J 0 t []) ∧
      (∀ s c' t i x acc I oI D oD, R c σ₁ s → Gr c s (kk.map (·.2.1)) c' t → Act (rl sc scope.names) c' → (∀ n, Up c n → Up c' n) → i < n → Pi i x → J i t acc →
        raw c' (assign target c'.env x) (fun _ σ₂ => vIfs c' (rl sc scope.names) ifs (fun b σ₃ => br b
            (vE c' (rl sc scope.names) 40 elt (fun y σ₄ => (List.Sublist [(I, oI), (D, oD)] σ₄.n ∧ σ₄.k = kk) ∧ J (i + 1) σ₄.t (acc ++ [y])) σ₃)
            ((List.Sublist [(I, oI), (D, oD)] σ₃.n ∧ σ₃.k = kk) ∧ J (i + 1) σ₃.t acc)) σ₂) ⟨[], [(I, oI), (D, oD)], kk, t⟩) ∧
      ∀ t acc D o, Le σ₁.t t → J n t acc → acc.length ≤ n → LstO o acc → NewAt D σ₁ → Q .next (((σ₁.addN D o).setT t).setM y (.ref D))) σ) (hy : lk sc y = some .local) (hsw : swapsWith (.ListComp elt [⟨target, iter, ifs, 0⟩] scope pos) (some (.Name y py)) spos.line c.env = pure true) :
    raw c (exec (.Assign [.Name y py] (.ListComp elt [⟨target, iter, ifs, 0⟩] scope pos) spos) c.env) Q σ := fun s r => by
  rw [exec_Assign_Name_used _ _ _ _ hsw]
  refine wpAny_bind (wpAny_standAt (wpAny_bind ?_))
  show wpAny _ c.A (do let _ ← comprehension (.ListComp elt [⟨target, iter, ifs, 0⟩] scope pos) scope c.env _ (newList []) false (eval iter c.env) (some (assign (.Name y py) c.env))) _ _ s
  refine wpAny_bind (wpAny_mono (comp_gen (use := some (assign (.Name y py) c.env)) (Qx := fun _ s' => Post c Q .next s') (P := fun v σ' => Q .next (σ'.setM y v)) kk a u hfs hcl hkk hkind hnames hnc h (fun _ s' σ' D C oC NM r' ht hn hp => ?_) s r) (fun _ s' hq => wpAny_pure (wpAny_pure hq)) fun _ _ e => e)
  show wpAny _ _ (assign (.Name y py) c.env (.ref D)) _ _ _
  refine wpAny_assign_Name (wpAny_mono (vSto_sound a (Q := fun _ σ'' => σ'' = (σ'.addN C oC).setM y (.ref D)) (by unfold vSto; rw [hy]) r') (fun _ s'' p => ?_) fun _ _ e => e)
  obtain ⟨σ'', r'', rfl⟩ := p
  have r3 : R c ((σ'.setM y (.ref D)).addN C oC) s'' := r''
  refine ⟨NM, hn.at' fun o e => ?_, fun h' hs => pst (r3.unAdd (tk := s''.toks) ht (stays_same hs)) hp⟩
  rw [(r'.N _ (.head _)).1] at e; cases e
  exact (r3.N _ (.head _)).1
end
end Mine
end
section
open PySem PySem.W PyProof.Rows PySem.Spec PySem.Calls
set_option Elab.async false
set_option maxRecDepth 100000
set_option linter.unusedVariables false
namespace Mine
section
variable {c : Fx} {sc : List (Str × NameKind)} {s : Shared} {σ : St} {P : Value → St → Prop} {U : Unit → St → Prop}
variable {K : Type} [DecidableEq K] {knd : KeyKind PG c.w K} {kvs : List (K × Value)} {k : K} {key x : Value} {d : Addr} {o : Obj}
theorem low_size (a : Act sc c) (r : R c σ s) : (s.heap.objs.size == sysModules) = false := by
  obtain ⟨mean, mg, mb, T⟩ := a.T
  have := modules_low (T.nolimit.keeps r.F.keep)
  rw [beq_eq_false_iff_ne]
  exact Nat.ne_of_gt this
theorem raw_dict0 {p : Pos} (a : Act sc c) (h : ∀ d o, NewAt d σ → o.IsDictOf knd [] → (d == sysModules) = false → P (.ref d) (σ.addN d o)) : raw c (eval (.Dict [] [] p) c.env) P σ := fun s r => by
  obtain ⟨f1, f2, f3⟩ := fresh_own r (none_size s.heap)
  refine wpAny_Dict_empty (pst ((r.push _).more (Heap.get?_push_size _ rfl) f1 f2 f3) (h _ _ f2 ⟨#[], 0, ⟨rfl, rfl, rfl⟩, rfl, fun e he => (by simp at he), .nil, .nil⟩ (low_size a r)))
theorem raw_indict (hh : Has c σ d o) (hd : o.IsDictOf knd kvs) (hk : knd.is k key = true) (hne : (d == sysModules) = false) (h : P (.bool (valueAt kvs k).isSome) σ) : raw c (compareOp .In key (.ref d)) P σ := fun s r =>
  wpAny_in_of hk hne (r.dict hh hd).mapOf (done r h _)
theorem meth_dict {name : Str} {id : String} (hh : Has c σ d o) (hd : o.IsDictOf knd kvs) (slot : Slot "dict" name id) (ty : typeOf (.builtin id) = pure (.type "method_descriptor")) : Meth c (.ref d) name (.builtin id) [.ref d] σ :=
  ⟨.bi _, fun s r pl Q' E' hq => getMethod_builtin (r.dict hh hd).typeIs PySem.F.plainAttrs_dict slot ty (r.dict hh hd).mapOf.noDict (hq s.toks)⟩
theorem raw_dget {dflt : Value} (hh : Has c σ d o) (hd : o.IsDictOf knd kvs) (hk : knd.is k key = true) (hne : (d == sysModules) = false) (h : P ((valueAt kvs k).getD dflt) σ) : raw c (call (.builtin "dict.get") [.ref d, key, dflt]) P σ := fun s r =>
  call_meetsIn PySem.F.slot_dict_get (r.dict hh hd).typeIs PySem.F.entry_dict_get (PySem.F.args_dict_get_3 _ _ _) (meets_dict_get_default knd d hk hne dflt) ⟨_, (r.dict hh hd).mapOf, done r h _⟩
end
end Mine
end
section
open PySem PySem.W PyProof.Rows PySem.Spec PySem.Calls
set_option Elab.async false
set_option maxRecDepth 100000
set_option maxHeartbeats 4000000
set_option linter.unusedVariables false
namespace Mine
/-- a dict of ints by ints -/
inductive KV : List (Int × Value) → List (Int × Int) → Prop
  | nil : KV [] []
  | cons (k n : Int) (t : Tok) {r r'} : KV r r' → KV ((k, .int n t) :: r) ((k, n) :: r')
noncomputable def mget : List (Int × Int) → Int → Option Int
  | [], _ => none
  | (k, n) :: r, x => if k = x then some n else mget r x
noncomputable def mput (m : List (Int × Int)) (k n : Int) : List (Int × Int) := if (mget m k).isSome then m.map (fun p => if p.1 = k then (p.1, n) else p) else m ++ [(k, n)]
theorem KV.get {kvs : List (Int × Value)} {m : List (Int × Int)} (h : KV kvs m) (k : Int) : valueAt kvs k = none ∧ mget m k = none ∨ ∃ n t, valueAt kvs k = some (.int n t) ∧ mget m k = some n := by
  induction h with
  | nil => exact .inl ⟨rfl, rfl⟩
  | cons k' n t h ih =>
    unfold valueAt mget
    by_cases q : k' = k
    · exact .inr ⟨n, t, by simp [q], by rw [if_pos q]⟩
    · rw [if_neg q]
      unfold valueAt at ih
      simpa [q] using ih
theorem KV.any {kvs : List (Int × Value)} {m : List (Int × Int)} (h : KV kvs m) (k : Int) : kvs.any (fun kv => kv.1 = k) = (mget m k).isSome := by
  induction h with
  | nil => rfl
  | cons k' n t h ih =>
    unfold mget
    by_cases q : k' = k
    · simp [q]
    · rw [List.any_cons, if_neg q, ← ih]; simp [q]
theorem KV.map {kvs : List (Int × Value)} {m : List (Int × Int)} (h : KV kvs m) (k n : Int) (t : Tok) : KV (kvs.map fun kv => if kv.1 = k then (kv.1, Value.int n t) else kv) (m.map fun p => if p.1 = k then (p.1, n) else p) := by
  induction h with
  | nil => exact .nil
  | cons k' n' t' h ih =>
    rw [List.map_cons, List.map_cons]
    dsimp only
    split
    · exact .cons _ _ _ ih
    · exact .cons _ _ _ ih
theorem KV.app {kvs : List (Int × Value)} {m : List (Int × Int)} (h : KV kvs m) (k n : Int) (t : Tok) : KV (kvs ++ [(k, .int n t)]) (m ++ [(k, n)]) := by
  induction h with
  | nil => exact .cons _ _ _ .nil
  | cons _ _ _ _ ih => exact .cons _ _ _ ih
theorem KV.put {kvs : List (Int × Value)} {m : List (Int × Int)} (h : KV kvs m) (k n : Int) (t : Tok) : KV (stored kvs k (.int n t)) (mput m k n) := by
  unfold stored mput
  rw [h.any]
  split
  · exact h.map k n t
  · exact h.app k n t
noncomputable def way (l : Int) : Int := if 0 < l then 1 else 2
noncomputable def tabPut (m : List (Int × Int)) (l : Int) : List (Int × Int) := mput m l.natAbs (Builtin.bitOr ((mget m l.natAbs).getD 0) (way l))
/-- the law's table of a list of literals -/
noncomputable def tabOf (ns : List Int) : List (Int × Int) := ns.foldl tabPut []
noncomputable def TabO (w : World) (o : Obj) (m : List (Int × Int)) : Prop := ∃ kvs, o.IsDictOf (intKind PG w) kvs ∧ KV kvs m
theorem KV.length {kvs : List (Int × Value)} {m : List (Int × Int)} (h : KV kvs m) : kvs.length = m.length := by
  induction h with
  | nil => rfl
  | cons _ _ _ _ ih => rw [List.length_cons, List.length_cons, ih]
theorem mput_len (m : List (Int × Int)) (k n : Int) : (mput m k n).length ≤ m.length + 1 := by
  unfold mput; split <;> simp
theorem foldl_tab_len (ns : List Int) : ∀ m, (ns.foldl tabPut m).length ≤ m.length + ns.length := by
  induction ns with
  | nil => intro m; simp
  | cons l r ih =>
    intro m
    rw [List.foldl_cons]
    have h1 := ih (tabPut m l)
    have h2 : (tabPut m l).length ≤ m.length + 1 := mput_len _ _ _
    rw [List.length_cons]; omega
theorem isInt_is (k : Int) (t : Tok) : Value.isInt k (.int k t) = true := by simp [Value.isInt]
theorem KV.getD {kvs : List (Int × Value)} {m : List (Int × Int)} (h : KV kvs m) (k : Int) (t : Tok) : ∃ g tg, (valueAt kvs k).getD (.int 0 t) = .int g tg ∧ (mget m k).getD 0 = g := by
  rcases h.get k with ⟨h1, h2⟩ | ⟨n, t', h1, h2⟩
  · exact ⟨0, t, by rw [h1]; rfl, by rw [h2]; rfl⟩
  · exact ⟨n, t', by rw [h1]; rfl, by rw [h2]; rfl⟩
theorem lk_sub {m0 m' : List (Str × Value)} (h : ∀ p ∈ m0, lk m' p.1 = some p.2) : ∀ x v, lk m0 x = some v → lk m' x = some v := fun x v hv => h _ (lk_mem hv)
theorem abs_if (n : Int) : (if n < 0 then -n else n) = (n.natAbs : Int) := by split <;> omega
theorem isInt_abs (n : Int) (t : Tok) : Value.isInt (n.natAbs : Int) (.int (if n < 0 then -n else n) t) = true := by rw [abs_if]; exact isInt_is _ _
section
variable {c : Fx} {sc : List (Str × NameKind)} {s : Shared} {σ : St} {P : Value → St → Prop}
/-- a list or a tuple that the call may read -/
noncomputable def Sq (c : Fx) (σ : St) (a : Addr) (vs : List Value) : Prop := HasL c σ a vs ∨ TupAt σ.t a vs
theorem iter_sqh {c : Fx} {t : Heap} {a : Addr} {vs : List Value} (hh : c.A.handled = none) (h : Sqh c t a vs) : ∃ X, Iter c (.ref a) vs.length (fun i x => vs[i]? = some x) X ∧ ∀ σ s, R c σ s → Le t σ.t → X s.heap :=
  h.elim (fun h => ⟨_, iter_list hh a vs, fun σ s r _ => r.lst h⟩) fun h => ⟨_, iter_tuple hh a vs, fun σ s r l => r.tup (h.le l)⟩
theorem table_ok {l : Addr} {vs : List Value} {ns : List Int} (a : Act sc c) (u : Up c 800) (hS : Sq c σ l vs) (hI : IntsAre vs ns) (hn : ns.length ≤ 1000)
    (h : ∀ d o t', NewAt d σ → (d == sysModules) = false → TabO c.w o (tabOf ns) → Le σ.t t' → P (.ref d) ((σ.addN d o).setT t')) : raw c (call (.ref 187) [.ref l]) P σ := by
  refine enter [] a u (by simp) .nil (by simp) (by k_is) (by k_is) (Nat.le_of_ble_eq_true rfl) (fun _ => BindsTo.of_eq rfl) (by rfl) (by exact .nil) (by rfl) (by rfl) (by rfl) ?_
  intro s c' tv r I QF hQ
  have hq : Sqh c' tv l vs := hS.elim (fun h => .inl (h.up r I List.not_mem_nil)) fun h => .inr (h.up r I)
  have hlen := hI.length
  refine raw_dict0 (knd := intKind PG c'.w) I.a fun d o hN hd0 hlow => ?_
  refine raw_For I.a I.a.int I.p I.u.hh (fun x => rfl) ?_
  obtain ⟨X, hIt, hX⟩ := iter_sqh I.u.hh hq
  refine ⟨vs.length, _, X, hIt, fun i σ => σ.m = [(Str.ofString "found", .ref d), (Str.ofString "literals", .ref l)] ∧ (∃ o, σ.n = [(d, o)] ∧ TabO c'.w o (tabOf (ns.take i))) ∧ Le tv σ.t, ⟨rfl, ⟨o, rfl, _, hd0, .nil⟩, Le.refl _⟩, fun i σ s hJ r => hX _ _ r hJ.2.2, fun i x J oJ σ hi hx hJ hnew => ?_, fun σ hJ => ?_⟩
  · obtain ⟨m, n, k, t⟩ := σ
    obtain ⟨hm, ⟨o1, ho1, kvs, hD, hK⟩, ht⟩ := hJ
    cases hm; cases ho1
    have hi' : i < ns.length := by omega
    obtain ⟨t6, hx'⟩ := ints_at hI hi'
    rw [hx] at hx'; cases hx'
    refine raw_sto I.a ?_
    refine ⟨.bi _, raw_abs fun t1 => ?_⟩
    refine ⟨_, _, meth_dict (.inr (.head _)) hD PySem.F.slot_dict_get PySem.F.type_dict_get, fun t2 => ?_⟩
    refine raw_dget (.inr (.head _)) hD (k := ((ns.getD i 0).natAbs : Int)) (isInt_abs _ t1) hlow ?_
    obtain ⟨g, tg, hg, hm⟩ := hK.getD ((ns.getD i 0).natAbs : Int) t2
    rw [hg]
    have stp : ∀ (b : Int), b = way (ns.getD i 0) → ∀ (t5 : Tok) (Q' : Flow → St → Prop) (o' : Obj) (m' : List (Str × Value)), (∀ x v, lk [(Str.ofString "found", Value.ref d), (Str.ofString "literals", Value.ref l)] x = some v → lk m' x = some v) →
        o'.IsDictOf (intKind PG c'.w) (stored kvs ((ns.getD i 0).natAbs : Int) (.int (Builtin.bitOr g b) t5)) →
        LoopEnd J oJ (fun σ => σ.m = [(Str.ofString "found", .ref d), (Str.ofString "literals", .ref l)] ∧ (∃ o, σ.n = [(d, o)] ∧ TabO c'.w o (tabOf (ns.take (i + 1)))) ∧ Le tv σ.t) Q' .next ⟨m', [(d, o')] ++ [(J, oJ)], k, t⟩ := fun b hb t5 Q' o' m' hm' hD' => by
      refine LoopEnd.next ⟨[(Str.ofString "found", .ref d), (Str.ofString "literals", .ref l)], [(d, o')], k, t⟩ ⟨hm', List.Sublist.refl _, rfl, Le.refl _⟩ ⟨rfl, ⟨o', rfl, _, hD', ?_⟩, ht⟩
      have e : tabOf (ns.take (i + 1)) = tabPut (tabOf (ns.take i)) (ns.getD i 0) := by
        unfold tabOf
        rw [List.take_succ, List.foldl_append, List.getElem?_eq_getElem hi', List.getD_eq_getElem?_getD, List.getElem?_eq_getElem hi']; rfl
      rw [e]
      unfold tabPut
      rw [hm, ← hb]
      exact hK.put _ _ _
    intro t3
    have hz : kvs.length ≤ sizeLine := by
      have h1 := hK.length
      have h2 := foldl_tab_len (ns.take i) []
      have h3 : (ns.take i).length ≤ i := by rw [List.length_take]; omega
      rw [sizeLine_eq, h1]
      show (tabOf (ns.take i)).length ≤ _
      unfold tabOf
      rw [List.length_nil] at h2; omega
    refine ⟨fun hb t4 t5 => ?_, fun hb t4 t5 => ?_⟩
    · refine raw_setdict 0 rfl hD (isInt_abs _ t1) hz fun o' hD' => stp 1 (by unfold way; rw [if_pos (of_decide_eq_true hb)]) t5 _ o' _ ?_ hD'
      exact lk_sub (List.forall_mem_cons.mpr ⟨rfl, List.forall_mem_singleton.mpr rfl⟩)
    · refine raw_setdict 0 rfl hD (isInt_abs _ t1) hz fun o' hD' => stp 2 (by unfold way; rw [if_neg (of_decide_eq_false hb)]) t5 _ o' _ ?_ hD'
      exact lk_sub (List.forall_mem_cons.mpr ⟨rfl, List.forall_mem_singleton.mpr rfl⟩)
  · obtain ⟨m, n, k, t⟩ := σ
    obtain ⟨hm, ⟨o1, ho1, hT⟩, ht⟩ := hJ
    cases hm; cases ho1
    refine hQ _ _ fun s' Z S N O V => ?_
    obtain ⟨r', l'⟩ := r.back0 Z S
    have nd := N _ (.head _)
    have fs := I.fresh nd.2.2 List.not_mem_nil (O _ (.head _))
    obtain ⟨f1, f2, f3⟩ := fresh_own r fs
    rw [hlen, List.take_length] at hT
    exact pst (r'.more nd.1 f1 f2 f3) (h d o1 _ f2 hlow (I.w ▸ hT) l')
end
end Mine
end
section
open PySem PySem.W PyProof.Rows PySem.Spec PySem.Calls
set_option Elab.async false
set_option maxRecDepth 100000
set_option maxHeartbeats 4000000
set_option linter.unusedVariables false
namespace Mine
section
variable {c : Fx} {sc : List (Str × NameKind)} {s : Shared} {σ : St} {P : Value → St → Prop}
theorem raw_sortedL {l : Addr} {vs : List Value} {ns : List Int} (hh : HasL c σ l vs) (hI : IntsAre vs ns) (h64 : vs.length < 64)
    (h : ∀ a o vs' ns', NewAt a σ → LstO o vs' → IntsAre vs' ns' → ns'.Perm ns → ns'.Pairwise (· ≤ ·) → P (.ref a) (σ.addN a o)) : raw c (call (.builtin "sorted") [.ref l]) P σ := fun s r => by
  refine sorted_ints (r.hasL hh) hI h64 fun out ns' a1 a2 a3 => ?_
  obtain ⟨e, he⟩ := sortedAll_at s.heap vs out
  obtain ⟨f1, f2, f3⟩ := fresh_own r (b := s.heap.objs.size + 1) (Heap.get?_none_of_le (Nat.le_succ _))
  have r' := (r.grow (tk := s.toks) (h' := sortedAll s.heap vs out) (.of (fun b o e _ => sortedAll_old e) fun x hx => (nomatch hx))).more he f1 f2 f3
  exact pst r' (h _ _ out.toList ns' f2 ⟨rfl, ⟨e, by simp [seqObj]⟩, rfl⟩ a1 a2 a3)
theorem items_ints {kvs : List (Int × Value)} {vs : List Value} (hl : vs.length = kvs.length) (h : ∀ (j : Nat) (v : Value), vs[j]? = some v → ∃ k x, kvs[j]? = some (k, x) ∧ Value.isInt k v = true) : IntsAre vs (kvs.map (·.1)) := by
  induction vs generalizing kvs with
  | nil => cases kvs with
    | nil => exact .nil
    | cons _ _ => cases hl
  | cons v r ih =>
    cases kvs with
    | nil => cases hl
    | cons p q =>
      obtain ⟨k, x, hk, hi⟩ := h 0 v rfl
      cases hk
      obtain ⟨t, rfl⟩ := Value.isInt_shape hi
      exact .cons _ _ (ih (by simpa using hl) fun j v hv => h (j + 1) v hv)
theorem raw_sortedD {d : Addr} {o : Obj} {kvs : List (Int × Value)} (hA : c.A.handled = none) (hh : Has c σ d o) (hd : o.IsDictOf (intKind PG c.w) kvs) (hne : (d == sysModules) = false) (h64 : kvs.length < 64)
    (h : ∀ a o vs' ns', NewAt a σ → LstO o vs' → IntsAre vs' ns' → ns'.Perm (kvs.map (·.1)) → ns'.Pairwise (· ≤ ·) → P (.ref a) (σ.addN a o)) : raw c (call (.builtin "sorted") [.ref d]) P σ := fun s r => by
  obtain ⟨ep, hat⟩ := (r.dict hh hd).dictAt
  refine Calls.call_function_entry kind_sorted plain_sorted entry_sorted (args_sorted1 _) ?_
  unfold Builtin.«sorted»
  refine wpAny_bind (m := checkCount "sorted" 1 1 _) (wpAny_pure ?_)
  refine wpAny_bind (kdu_collect (A := c.A.in1) (kdl_dict (knd := intKind PG c.w) (kvs := kvs) (ep := ep) hne) hA hat (by rw [sizeLine_eq]; omega) fun h' tk acc hk hacc => ?_)
  have hI := items_ints (vs := acc.toList) (by rw [Array.length_toList]; exact hacc.1) fun j v e => hacc.2 j v (by rw [← Array.getElem?_toList]; exact e)
  have hl : acc.toList.length = kvs.length := by rw [Array.length_toList]; exact hacc.1
  refine wpAny_bind (wpAny_newList ?_ (by rw [sizeLine_eq, hl]; omega))
  have hoL : (h'.push (seqObj "list" acc.toList.toArray 0)).get? h'.objs.size = some (seqObj "list" acc.toList.toArray 0) := Heap.get?_push_size _ rfl
  refine wpAny_bind (wpAny_holding (wpAny_call_entry slot_list_sort ⟨_, hoL, rfl⟩ entry_list_sort (list_sort_tree hoL hI (by rw [hl]; exact h64) fun out ns' a1 a2 a3 => ⟨_, rfl, ?_⟩) (args_list_sort _)))
  refine wpAny_pure ⟨_, rfl, ?_⟩
  have kp : ∀ b o, s.heap.get? b = some o → (sortedHeap (h'.push (seqObj "list" acc.toList.toArray 0)) h'.objs.size acc.toList out).get? b = some o := fun b o e => by
    have e1 := hk b o e
    rw [sortedHeap_old (Nat.ne_of_lt (Heap.lt_size e1)) (by rw [Heap.size_push]; exact Nat.lt_succ_of_lt (Heap.lt_size e1))]
    exact Heap.get?_push_of_some _ e1
  obtain ⟨e, he⟩ := sortedHeap_at (out := out) hoL
  have hn : s.heap.get? h'.objs.size = none := by
    cases q : s.heap.get? h'.objs.size with
    | none => rfl
    | some o => exact absurd (Heap.lt_size (hk _ _ q)) (Nat.lt_irrefl _)
  obtain ⟨f1, f2, f3⟩ := fresh_own r hn
  have r' := (r.grow (tk := tk) (.of (fun b o e _ => kp b o e) fun x hx => (nomatch hx))).more he f1 f2 f3
  exact pst r' (h _ _ out.toList ns' f2 ⟨rfl, ⟨e, by simp [seqObj]⟩, rfl⟩ a1 a2 a3)
end
end Mine
end
section
open PySem PySem.W PyProof.Rows PySem.Spec PySem.Calls
set_option Elab.async false
set_option maxRecDepth 100000
set_option linter.unusedVariables false
namespace Mine
theorem entry_ci : entryFor table "proto.contains_iter" = some Builtin.«proto.contains_iter» := entryFor_of_tree (by kernel_rfl)
theorem plain_ci : plainId "proto.contains_iter" = true := by decide +kernel
theorem lk_vals_contains : typeLookup (.type "dict_values") "__contains__" = pure none := by rw [typeLookup_type, builtinLookup_eq_fast]; kernel_rfl
section
variable {c : Fx} {sc : List (Str × NameKind)} {s : Shared} {σ : St} {P : Value → St → Prop}
theorem iter_vals {K : Type} [DecidableEq K] {knd : KeyKind PG c.w K} {kvs : List (K × Value)} (hh : c.A.handled = none) (v d : Addr) (o : Obj) (hd : o.IsDictOf knd kvs) :
    Iter c (.ref v) kvs.length (fun i x => ∃ k, kvs[i]? = some (k, x)) (fun h => h.IsValuesView v d ∧ h.get? d = some o) := by
  obtain ⟨es, ep, hD⟩ := hd
  have at_ : ∀ {h : Heap}, h.get? d = some o → h.DictAt knd d kvs ep := fun e => ⟨o, es, e, hD⟩
  refine ⟨fun i o => o.cls = .type "dict_valueiterator" ∧ o.data = .fields #[.ref d, .int i 0, .int kvs.length 0, .int ep 0], fun i o h => ⟨isT_fields h.2, _, _, h.1, h.2, by decide⟩, fun A hh => ⟨
    fun s Q E hX hQ => wpAny_pyIter_values hX.1 (at_ hX.2) (hQ _ ⟨rfl, rfl⟩ rfl), fun I i s Q E hi hX hS hQ => ?_, fun I s Q E hX hS hQ => wpAny_pyNext_values_end hh hS (at_ hX.2) (by simp) fun h' he => hQ h' s.toks fun b ob n e => he b ob n e, fun I i s Q E hS hQ => wpAny_pyIter_valiter hS hQ⟩⟩
  obtain ⟨⟨k, x⟩, hx⟩ : ∃ p, kvs[i]? = some p := ⟨kvs[i], by simp [hi]⟩
  exact wpAny_pyNext_values_item hS (at_ hX.2) hx fun h' ⟨o', ho', hs'⟩ hs => hQ x o' h' s.toks ⟨k, hx⟩ ho' hs' (stays_same hs)
theorem raw_in_iter {v : Addr} {T : String} {ns : List Int} {n : Int} {u : Tok} {Pi : Nat → Value → Prop} {X : Heap → Prop} (hh : c.A.handled = none) (hIt : Iter c (.ref v) ns.length Pi X) (hPi : ∀ i x, Pi i x → ∃ t, x = .int (ns.getD i 0) t)
    (hT : ∀ s, R c σ s → s.TypeIs (.ref v) T) (hno : typeLookup (.type T) "__contains__" = pure none) (hX : ∀ s, R c σ s → X s.heap)
    (h : ∀ b, (b = true ↔ n ∈ ns) → P (.bool b) σ) : raw c (compareOp .In (.int n u) (.ref v)) P σ := fun s r => by
  obtain ⟨S, hS, hall⟩ := hIt
  obtain ⟨hmk, _, _, _⟩ := hall c.A hh
  obtain ⟨_, hit, hend, _⟩ := hall c.A.in1 hh
  have loop : ∀ (k i : Nat) (s' : Shared) (I : Addr) (o : Obj), k = ns.length - i → i ≤ ns.length → (∀ j, j < i → ns.getD j 0 ≠ n) → R c (σ.endN I o) s' → S i o →
      codeAny (model PG c.w) c.A (.builtin "proto.contains_iter" ⟨[.ref I, .int n u], []⟩) (fun r s'' => match r with | .ok (.ret v) => ∃ b, v = .bool b ∧ R c σ s'' ∧ (b = true ↔ n ∈ ns) | _ => False) s' := by
    intro k
    induction k with
    | zero =>
      intro i s' I o hk hi hno' r' hs'
      refine codeAny_builtin entry_ci ?_
      rw [Around.under_plainId plain_ci _]
      have hin : i = ns.length := by omega +splitDisjunctions
      subst hin
      obtain ⟨hT', _⟩ := hS _ _ hs'
      obtain ⟨ru, _⟩ := r'.unEnd (h' := s'.heap) (tk := s'.toks) hT' fun b ob _ e => e
      unfold Builtin.«proto.contains_iter»
      refine wpAny_bind (hend _ _ _ _ (hX _ ru) ⟨o, (r'.N (I, o) (List.mem_append_right _ (.head _))).1, hs'⟩ fun h' tk hst => ?_)
      refine wpAny_bind (wpAny_rule (wpAny_pure ⟨false, rfl, (r'.unEnd hT' hst).1, (fun q => nomatch q), fun q => ?_⟩))
      obtain ⟨j, hj, e⟩ := List.getElem_of_mem q
      exact absurd (by rw [List.getD_eq_getElem?_getD, List.getElem?_eq_getElem hj]; exact e) (hno' j hj)
    | succ k ih =>
      intro i s' I o hk hi hno' r' hs'
      refine codeAny_builtin entry_ci ?_
      rw [Around.under_plainId plain_ci _]
      have hlt : i < ns.length := by omega +splitDisjunctions
      obtain ⟨hT', _⟩ := hS _ _ hs'
      obtain ⟨ru, u1, u2, u3⟩ := r'.unEnd (h' := s'.heap) (tk := s'.toks) hT' fun b ob _ e => e
      unfold Builtin.«proto.contains_iter»
      refine wpAny_bind (hit _ i _ _ _ hlt (hX _ ru) ⟨o, (r'.N (I, o) (List.mem_append_right _ (.head _))).1, hs'⟩ fun x o' h' tk hP ho' hso' hst => ?_)
      obtain ⟨t, rfl⟩ := hPi _ _ hP
      refine wpAny_bind (wpAny_eqBool_int ?_)
      have r₂ := (r'.unEnd (h' := h') (tk := tk) hT' hst).1
      by_cases q : ns.getD i 0 = n
      · rw [if_pos (beq_iff_eq.mpr q)]
        refine wpAny_bind (wpAny_rule (wpAny_pure ⟨true, rfl, r₂, fun _ => ?_, fun _ => rfl⟩))
        rw [← q, List.getD_eq_getElem?_getD, List.getElem?_eq_getElem hlt]
        exact List.getElem_mem hlt
      · rw [if_neg (fun z => q (beq_iff_eq.mp z))]
        refine wpAny_pure ⟨plainId_quiet plain_ci _, ih (i + 1) _ I o' (by omega +splitDisjunctions) hlt (fun j hj => ?_) (r₂.endN ho' u1 u2 u3) hso'⟩
        rcases Nat.lt_succ_iff_lt_or_eq.mp hj with z | z
        · exact hno' j z
        · rw [z]; exact q
  show wpAny _ _ (contains (.ref v) (.int n u) >>= fun b => pure (Value.bool b)) _ _ s
  refine wpAny_bind ?_
  unfold contains
  refine wpAny_holding ?_
  show wpAny _ _ (specialOf (.ref v) "__contains__" >>= _) _ _ _
  refine wpAny_bind (wpAny_specialOf (hT s r) hno ?_)
  show wpAny _ _ (callSpecialUnlessNone? (.ref v) "__contains__" _ _ >>= _) _ _ _
  unfold callSpecialUnlessNone?
  refine wpAny_bind (wpAny_bind (wpAny_specialOf (hT s r) hno (wpAny_pure ?_)))
  refine wpAny_bind (wpAny_rule (wpAny_bind (wpAny_tryCatch (hmk _ _ _ (hX s r) fun o₀ hS₀ hf₀ => ?_))))
  obtain ⟨f1, f2, f3⟩ := fresh_own r (none_size s.heap)
  refine wpAny_bind (wpAny_runValue (codeAny_mono (loop _ 0 _ _ o₀ rfl (Nat.zero_le _) (fun j hj => absurd hj (Nat.not_lt_zero _)) ((r.push o₀).endN (Heap.get?_push_size _ hf₀) f1 f2 f3) hS₀) fun r' s' z => ?_))
  rcases r' with e | (v' | _ | _ | _) <;> first | exact z.elim | skip
  obtain ⟨b, rfl, r'', hb⟩ := z
  exact wpAny_pure (wpAny_pure (pst r'' (h b hb)))
end
end Mine
end
section
open PySem PySem.W PyProof.Rows PySem.Spec PySem.Calls
set_option Elab.async false
set_option maxRecDepth 100000
set_option linter.unusedVariables false
namespace Mine
section
variable {c : Fx} {sc : List (Str × NameKind)} {s : Shared} {σ : St} {P : Value → St → Prop}
variable {K : Type} [DecidableEq K] {knd : KeyKind PG c.w K} {kvs : List (K × Value)} {d : Addr} {o : Obj}
noncomputable abbrev vwO (d : Addr) : Obj := { cls := .type "dict_values", data := .fields #[.ref d] }
theorem raw_values (hh : Has c σ d o) (hd : o.IsDictOf knd kvs) (hne : (d == sysModules) = false) (h : ∀ v, NewAt v σ → P (.ref v) (σ.addN v (vwO d))) : raw c (call (.builtin "dict.values") [.ref d]) P σ := fun s r => by
  obtain ⟨f1, f2, f3⟩ := fresh_own r (none_size s.heap)
  exact call_meetsIn PySem.F.slot_dict_values (r.dict hh hd).typeIs PySem.F.entry_dict_values (PySem.F.args_dict_values_1 _) (meets_dict_values knd d hne) ⟨⟨_, r.dict hh hd⟩, pst ((r.push (vwO d)).more (Heap.get?_push_size _ rfl) f1 f2 f3) (h _ f2)⟩
theorem raw_tupleL {l : Addr} {vs : List Value} (hh : HasL c σ l vs) (hz : vs.length ≤ sizeLine) (h : ∀ a t', Le σ.t t' → t'.get? a = some (tupObj vs) → P (.ref a) (σ.setT t')) : raw c (call (.type "tuple") [.ref l]) P σ := fun s r => by
  refine call_tuple_list (r.hasL hh) (fun h' hk => ?_) (by rw [List.size_toArray]; exact hz)
  have r' : R c σ { s with heap := h'.push (tupObj vs) } := r.grow (tk := s.toks) (.of (fun b o e _ => Heap.get?_push_of_some _ (hk b o e)) fun x hx => (nomatch hx))
  exact pst r'.top (h _ _ r'.V (tups_get.mpr ⟨Heap.get?_push_size _ rfl, rfl⟩))
end
end Mine
end
section
open PySem PySem.W PyProof.Rows PySem.Spec PySem.Calls
set_option Elab.async false
set_option maxRecDepth 100000
namespace Mine
/-- no zero, the heights rise -/
noncomputable def Tidy (cl : List Int) : Prop := (∀ x ∈ cl, x ≠ 0) ∧ cl.Pairwise (fun a b => a.natAbs < b.natAbs)
noncomputable def Nrm (S : Int → Prop) : Option (List Int) → Prop
  | none => ∃ x, S x ∧ S (-x)
  | some cl => (∀ x, S x → ¬ S (-x)) ∧ Tidy cl ∧ ∀ x, x ∈ cl ↔ S x
theorem sorted_ext {α : Type} {r : α → α → Prop} (asy : ∀ x y, r x y → r y x → False) : ∀ {a b : List α}, a.Pairwise r → b.Pairwise r → (∀ x, x ∈ a ↔ x ∈ b) → a = b
  | [], [], _, _, _ => rfl
  | [], y :: _, _, _, h => by have := (h y).mpr (.head _); cases this
  | x :: _, [], _, _, h => by have := (h x).mp (.head _); cases this
  | x :: a, y :: b, ha, hb, h => by
    obtain ⟨ha1, ha2⟩ := List.pairwise_cons.mp ha
    obtain ⟨hb1, hb2⟩ := List.pairwise_cons.mp hb
    have e : x = y := by
      rcases List.mem_cons.mp ((h x).mp (.head _)) with q | q
      · exact q
      · rcases List.mem_cons.mp ((h y).mpr (.head _)) with q' | q'
        · exact q'.symm
        · exact (asy _ _ (hb1 x q) (ha1 y q')).elim
    subst e
    refine congrArg _ (sorted_ext asy ha2 hb2 fun z => ⟨fun q => ?_, fun q => ?_⟩)
    · rcases List.mem_cons.mp ((h z).mp (.tail _ q)) with w | w
      · subst w; exact (asy _ _ (ha1 z q) (ha1 z q)).elim
      · exact w
    · rcases List.mem_cons.mp ((h z).mpr (.tail _ q)) with w | w
      · subst w; exact (asy _ _ (hb1 z q) (hb1 z q)).elim
      · exact w
theorem Nrm.uniq {S S' : Int → Prop} {r r' : Option (List Int)} (h : Nrm S r) (h' : Nrm S' r') (e : ∀ x, S x ↔ S' x) : r = r' := by
  cases r with
  | none =>
    obtain ⟨x, a, b⟩ := h
    cases r' with
    | none => rfl
    | some c => exact absurd ((e _).mp b) (h'.1 x ((e x).mp a))
  | some c =>
    cases r' with
    | none =>
      obtain ⟨x, a, b⟩ := h'
      exact absurd ((e _).mpr b) (h.1 x ((e x).mpr a))
    | some c' => exact congrArg some (sorted_ext (fun x y a b => Nat.lt_asymm a b) h.2.1.2 h'.2.1.2 fun x => (h.2.2 x).trans ((e x).trans (h'.2.2 x).symm))
theorem rise_of {ns : List Int} (h : ∀ i, 0 < i → i < ns.length → (ns.getD (i - 1) 0).natAbs < (ns.getD i 0).natAbs) : ns.Pairwise (fun a b => a.natAbs < b.natAbs) := by
  induction ns with
  | nil => exact .nil
  | cons x r ih =>
    have ih' := ih fun i hi hl => by
      have := h (i + 1) (Nat.succ_pos _) (Nat.succ_lt_succ hl)
      obtain ⟨j, rfl⟩ : ∃ j, i = j + 1 := ⟨i - 1, by omega +splitDisjunctions⟩
      exact this
    refine List.pairwise_cons.mpr ⟨fun y hy => ?_, ih'⟩
    cases r with
    | nil => cases hy
    | cons z q =>
      have h1 : x.natAbs < z.natAbs := h 1 Nat.one_pos (by simp)
      rcases List.mem_cons.mp hy with rfl | hy
      · exact h1
      · exact Nat.lt_trans h1 ((List.pairwise_cons.mp ih').1 y hy)
theorem tidyP_iff {ns : List Int} : tidyP ns ↔ Tidy ns := by
  have at_ : ∀ i, i < ns.length → ns.getD i 0 ∈ ns := fun i hi => by rw [List.getD_eq_getElem?_getD, List.getElem?_eq_getElem hi]; exact List.getElem_mem hi
  constructor
  · intro h
    refine ⟨fun x hx => ?_, rise_of fun i h0 hi => (h i hi).2 h0⟩
    obtain ⟨i, hi, rfl⟩ := List.getElem_of_mem hx
    have := (h i hi).1
    rwa [List.getD_eq_getElem?_getD, List.getElem?_eq_getElem hi] at this
  · intro h i hi
    refine ⟨h.1 _ (at_ i hi), fun h0 => ?_⟩
    have := List.pairwise_iff_getElem.mp h.2 (i - 1) i (by omega +splitDisjunctions) hi (by omega +splitDisjunctions)
    have g : ∀ j (hj : j < ns.length), ns.getD j 0 = ns[j] := fun j hj => by rw [List.getD_eq_getElem?_getD, List.getElem?_eq_getElem hj]; rfl
    rw [g _ hi, g _ (show i - 1 < ns.length by omega +splitDisjunctions)]
    exact this
/-- a table of ways by heights -/
structure TabOk (m : List (Int × Int)) : Prop where
  nd : (m.map (·.1)).Nodup
  ok : ∀ p ∈ m, 0 < p.1 ∧ (p.2 = 1 ∨ p.2 = 2 ∨ p.2 = 3)
noncomputable def tabHas (m : List (Int × Int)) (x : Int) : Prop := ∃ v, mget m x.natAbs = some v ∧ (v = way x ∨ v = 3)
theorem mget_mem : ∀ {m : List (Int × Int)} {k v : Int}, mget m k = some v → (k, v) ∈ m
  | (k', n) :: r, k, v, h => by
    unfold mget at h
    split at h
    · rename_i q; cases h; rw [q]; exact .head _
    · exact .tail _ (mget_mem h)
theorem mem_mget : ∀ {m : List (Int × Int)} {k v : Int}, (m.map (·.1)).Nodup → (k, v) ∈ m → mget m k = some v
  | (k', n) :: r, k, v, nd, h => by
    obtain ⟨n1, n2⟩ := List.nodup_cons.mp nd
    unfold mget
    rcases List.mem_cons.mp h with e | h
    · cases e; rw [if_pos rfl]
    · rw [if_neg (fun q => n1 (by rw [show k' = k from q]; exact List.mem_map_of_mem (f := (·.1)) h))]
      exact mem_mget n2 h
theorem mget_app (m : List (Int × Int)) (k n x : Int) : mget (m ++ [(k, n)]) x = (mget m x).or (if k = x then some n else none) := by
  induction m with
  | nil => simp [mget]
  | cons p r ih =>
    rw [List.cons_append]; unfold mget
    split
    · rfl
    · exact ih
theorem mget_map (m : List (Int × Int)) (k n x : Int) : mget (m.map fun p => if p.1 = k then (p.1, n) else p) x = if x = k then (mget m x).map (fun _ => n) else mget m x := by
  induction m with
  | nil => simp [mget]
  | cons p r ih =>
    obtain ⟨a, b⟩ := p
    rw [List.map_cons]
    by_cases q : a = k
    · rw [if_pos q]; unfold mget
      by_cases z : a = x
      · rw [if_pos z, if_pos z, if_pos (z ▸ q)]; rfl
      · rw [if_neg z, if_neg z, ih]
    · rw [if_neg q]; unfold mget
      by_cases z : a = x
      · rw [if_pos z, if_pos z, if_neg (fun w => q (z.trans w))]
      · rw [if_neg z, if_neg z, ih]
theorem mget_put (m : List (Int × Int)) (k n x : Int) : mget (mput m k n) x = if x = k then some n else mget m x := by
  unfold mput
  split
  · rename_i h
    rw [mget_map]
    split
    · rename_i q; subst q
      obtain ⟨v, hv⟩ := Option.isSome_iff_exists.mp h
      rw [hv]; rfl
    · rfl
  · rename_i h
    rw [mget_app]
    have hn : mget m k = none := by cases q : mget m k with
      | none => rfl
      | some v => rw [q] at h; exact absurd rfl h
    by_cases q : x = k
    · subst q; simp [hn]
    · rw [if_neg q, if_neg (fun z => q z.symm)]; cases mget m x <;> rfl
theorem mput_keys (m : List (Int × Int)) (k n : Int) : (mput m k n).map (·.1) = if (mget m k).isSome then m.map (·.1) else m.map (·.1) ++ [k] := by
  unfold mput
  split
  · rw [List.map_map]
    refine List.map_congr_left fun p _ => ?_
    show (if p.1 = k then (p.1, n) else p).1 = p.1
    split <;> rfl
  · simp
theorem mput_ok {m : List (Int × Int)} (h : TabOk m) {k n : Int} (hk : 0 < k) (hn : n = 1 ∨ n = 2 ∨ n = 3) : TabOk (mput m k n) := by
  refine ⟨?_, fun p hp => ?_⟩
  · rw [mput_keys]
    split
    · exact h.nd
    · rename_i q
      refine List.nodup_append.mpr ⟨h.nd, List.nodup_cons.mpr ⟨List.not_mem_nil, .nil⟩, fun a ha b hb e => ?_⟩
      rw [List.mem_singleton.mp hb] at e
      subst e
      obtain ⟨p, hp, rfl⟩ := List.mem_map.mp ha
      exact q (by rw [mem_mget h.nd (show (p.1, p.2) ∈ m from hp)]; rfl)
  · unfold mput at hp
    split at hp
    · obtain ⟨q, hq, rfl⟩ := List.mem_map.mp hp
      split
      · exact ⟨(h.ok q hq).1, hn⟩
      · exact h.ok q hq
    · rcases List.mem_append.mp hp with hp | hp
      · exact h.ok p hp
      · rw [List.mem_singleton.mp hp]; exact ⟨hk, hn⟩
theorem way_or (x : Int) : way x = 1 ∨ way x = 2 := by unfold way; split <;> simp
/-- one more way at a height -/
theorem has_put {m : List (Int × Int)} (h : TabOk m) {k b : Int} (hk : 0 < k) (hb : b = 1 ∨ b = 2 ∨ b = 3) (S : Int → Prop) (hS : ∀ x, S x ↔ (x.natAbs : Int) = k ∧ (b = way x ∨ b = 3)) :
    TabOk (mput m k (Builtin.bitOr ((mget m k).getD 0) b)) ∧ ∀ x, tabHas (mput m k (Builtin.bitOr ((mget m k).getD 0) b)) x ↔ tabHas m x ∨ S x := by
  have e : ∀ v : Int, (v = 0 ∨ v = 1 ∨ v = 2 ∨ v = 3) → ∀ b : Int, (b = 1 ∨ b = 2 ∨ b = 3) → (Builtin.bitOr v b = 1 ∨ Builtin.bitOr v b = 2 ∨ Builtin.bitOr v b = 3) ∧
      ∀ w : Int, (w = 1 ∨ w = 2) → ((Builtin.bitOr v b = w ∨ Builtin.bitOr v b = 3) ↔ (v = w ∨ v = 3) ∨ (b = w ∨ b = 3)) := by
    rintro v (rfl | rfl | rfl | rfl) b (rfl | rfl | rfl) <;> refine ⟨by decide, ?_⟩ <;> rintro w (rfl | rfl) <;> decide
  have hv : ∀ v, mget m k = some v → v = 1 ∨ v = 2 ∨ v = 3 := fun v q => (h.ok _ (mget_mem q)).2
  have hv' : (mget m k).getD 0 = 0 ∨ (mget m k).getD 0 = 1 ∨ (mget m k).getD 0 = 2 ∨ (mget m k).getD 0 = 3 := by
    cases q : mget m k with
    | none => exact .inl rfl
    | some v => exact .inr (hv v q)
  obtain ⟨e1, e2⟩ := e _ hv' b hb
  refine ⟨mput_ok h hk e1, fun x => ?_⟩
  unfold tabHas
  rw [mget_put, hS x]
  by_cases q : (x.natAbs : Int) = k
  · rw [if_pos q, q]
    have e3 := e2 (way x) (way_or x)
    constructor
    · rintro ⟨v, hv, hw⟩
      cases hv
      rcases e3.mp hw with z | z
      · cases y : mget m k with
        | none => rw [y] at z; rcases way_or x with w | w <;> rw [w] at z <;> rcases z with z | z <;> cases z
        | some v => rw [y] at z; exact .inl ⟨v, rfl, z⟩
      · exact .inr ⟨rfl, z⟩
    · rintro (⟨v, hv, hw⟩ | ⟨_, hw⟩)
      · exact ⟨_, rfl, e3.mpr (.inl (by rw [hv]; exact hw))⟩
      · exact ⟨_, rfl, e3.mpr (.inr hw)⟩
  · rw [if_neg q]
    constructor
    · exact .inl
    · rintro (z | ⟨z, _⟩)
      · exact z
      · exact absurd z q
theorem way_eq {x l : Int} (hl : l ≠ 0) (h : x.natAbs = l.natAbs) : way l = way x ↔ x = l := by
  unfold way; constructor
  · intro e; split at e <;> split at e <;> first | omega +splitDisjunctions | cases e
  · rintro rfl; rfl
theorem tabOf_ok : ∀ {ns : List Int}, (∀ x ∈ ns, x ≠ 0) → ∀ {m : List (Int × Int)}, TabOk m → TabOk (ns.foldl tabPut m) ∧ ∀ x, tabHas (ns.foldl tabPut m) x ↔ tabHas m x ∨ x ∈ ns
  | [], _, m, h => ⟨h, fun x => by simp⟩
  | l :: r, hn, m, h => by
    have hl := hn l (.head _)
    obtain ⟨a, b⟩ := has_put h (k := l.natAbs) (b := way l) (by omega +splitDisjunctions) ((way_or l).imp id .inl) (fun x => x = l) fun x => by
      constructor
      · rintro rfl; exact ⟨rfl, .inl rfl⟩
      · rintro ⟨e, w | w⟩
        · exact (way_eq hl (by omega +splitDisjunctions)).mp w
        · rcases way_or l with z | z <;> rw [z] at w <;> cases w
    obtain ⟨c, d⟩ := tabOf_ok (fun x hx => hn x (.tail _ hx)) a
    refine ⟨c, fun x => (d x).trans ?_⟩
    show tabHas (mput m l.natAbs (Builtin.bitOr ((mget m l.natAbs).getD 0) (way l))) x ∨ _ ↔ _
    rw [b x, List.mem_cons, or_assoc]
theorem tabOf_has {ns : List Int} (hn : ∀ x ∈ ns, x ≠ 0) : TabOk (tabOf ns) ∧ ∀ x, tabHas (tabOf ns) x ↔ x ∈ ns := by
  obtain ⟨a, b⟩ := tabOf_ok hn (m := []) ⟨.nil, fun p hp => (nomatch hp)⟩
  exact ⟨a, fun x => (b x).trans ⟨fun q => q.elim (fun ⟨v, hv, _⟩ => (nomatch hv)) id, .inr⟩⟩
/-- the clause of a table -/
theorem clause_nrm {m : List (Int × Int)} (h : TabOk m) : (3 ∈ m.map (·.2) → Nrm (tabHas m) none) ∧ ∀ ks : List Int, 3 ∉ m.map (·.2) → ks.Perm (m.map (·.1)) → ks.Pairwise (· ≤ ·) → Nrm (tabHas m) (some (ks.map fun k => if mget m k = some 1 then k else -k)) := by
  constructor
  · intro q
    obtain ⟨⟨k, v⟩, hp, e⟩ := List.mem_map.mp q
    have e' : v = 3 := e
    subst e'
    have g := mem_mget h.nd hp
    have := (h.ok _ hp).1
    exact ⟨k, ⟨3, by rw [show ((k.natAbs : Nat) : Int) = k by omega +splitDisjunctions]; exact g, .inr rfl⟩, 3, by rw [show (((-k).natAbs : Nat) : Int) = k by omega +splitDisjunctions]; exact g, .inr rfl⟩
  · intro ks n3 hp hs
    have nd : ks.Nodup := hp.nodup_iff.mpr h.nd
    have n3' : ∀ k, mget m k ≠ some 3 := fun k q => n3 (List.mem_map_of_mem (f := (·.2)) (mget_mem q))
    have kpos : ∀ k ∈ ks, 0 < k ∧ (mget m k = some 1 ∨ mget m k = some 2) := fun k hk => by
      obtain ⟨p, hp', rfl⟩ := List.mem_map.mp (hp.mem_iff.mp hk)
      have g := mem_mget h.nd (show (p.1, p.2) ∈ m from hp')
      refine ⟨(h.ok p hp').1, ?_⟩
      rcases (h.ok p hp').2 with e | e | e
      · exact .inl (e ▸ g)
      · exact .inr (e ▸ g)
      · exact absurd (e ▸ g) (n3' _)
    have hh : ∀ x, tabHas m x → mget m x.natAbs = some (way x) := fun x ⟨v, hv, hw⟩ => by
      rcases hw with rfl | rfl
      · exact hv
      · exact absurd hv (n3' _)
    have ab : ∀ k, (if mget m k = some 1 then k else -k).natAbs = k.natAbs := fun k => by split <;> omega +splitDisjunctions
    refine ⟨fun x hx hy => ?_, ⟨fun x hx => ?_, ?_⟩, fun x => ⟨fun hx => ?_, fun hx => ?_⟩⟩
    · have a := hh _ hx
      have b := hh _ hy
      rw [show (-x).natAbs = x.natAbs by omega +splitDisjunctions, a] at b
      have p := (h.ok _ (mget_mem a)).1
      unfold way at b; split at b <;> split at b <;> first | omega +splitDisjunctions | cases b
    · obtain ⟨k, hk, rfl⟩ := List.mem_map.mp hx
      have := (kpos k hk).1
      split <;> omega +splitDisjunctions
    · refine List.pairwise_map.mpr ?_
      have both := List.Pairwise.and hs nd
      refine List.Pairwise.imp_of_mem (fun {a b} ha hb q => ?_) both
      rw [ab, ab]
      have := (kpos a ha).1
      have := (kpos b hb).1
      have := q.1
      have := q.2
      omega +splitDisjunctions
    · obtain ⟨k, hk, rfl⟩ := List.mem_map.mp hx
      obtain ⟨p, g⟩ := kpos k hk
      unfold tabHas
      rw [ab, show (k.natAbs : Int) = k by omega +splitDisjunctions]
      rcases g with g | g
      · exact ⟨1, g, .inl (by rw [if_pos g]; unfold way; rw [if_pos p])⟩
      · refine ⟨2, g, .inl ?_⟩
        rw [if_neg (by rw [g]; intro z; cases z)]; unfold way; rw [if_neg (by omega +splitDisjunctions)]
    · have a := hh _ hx
      have p := (h.ok _ (mget_mem a)).1
      refine List.mem_map.mpr ⟨x.natAbs, hp.mem_iff.mpr (List.mem_map_of_mem (f := (·.1)) (mget_mem a)), ?_⟩
      rw [a]
      unfold way
      split
      · rw [if_pos rfl]; omega +splitDisjunctions
      · rw [if_neg (by intro z; cases z)]; omega +splitDisjunctions
end Mine
end
section
open PySem PySem.W PyProof.Rows PySem.Spec PySem.Calls
set_option Elab.async false
set_option maxRecDepth 100000
set_option maxHeartbeats 4000000
set_option linter.unusedVariables false
namespace Mine
/-- a tuple of ints -/
noncomputable def CT (t : Heap) (v : Value) (ns : List Int) : Prop := ∃ a vs, v = .ref a ∧ TupAt t a vs ∧ IntsAre vs ns
theorem CT.le {t t' : Heap} {v : Value} {ns : List Int} (h : CT t v ns) (l : Le t t') : CT t' v ns := let ⟨a, vs, e, h1, h2⟩ := h; ⟨a, vs, e, h1.le l, h2⟩
/-- None or a tuple of ints -/
noncomputable def OT (t : Heap) (v : Value) : Option (List Int) → Prop
  | none => v = .none
  | some ns => CT t v ns
section
variable {c : Fx} {sc : List (Str × NameKind)} {s : Shared} {σ : St} {P : Value → St → Prop}
theorem clause_ok {d : Addr} {o : Obj} {m : List (Int × Int)} (a : Act sc c) (u : Up c 800) (hh : Has c σ d o) (hO : TabO c.w o m) (hlow : (d == sysModules) = false) (hm : TabOk m) (hn : m.length < 64)
    (h : ∀ v r t', Nrm (tabHas m) r → OT t' v r → Le σ.t t' → P v (σ.setT t')) : raw c (call (.ref 192) [.ref d]) P σ := by
  refine enter [] a u (by simp) .nil (by simp) (by k_is) (by k_is) (Nat.le_of_ble_eq_true rfl) (fun _ => BindsTo.of_eq rfl) (by rfl) (by decide) (by rfl) (by rfl) (by rfl) ?_
  intro s c' tv r I QF hQ
  obtain ⟨kvs, hD, hK⟩ := hO
  rw [← I.w] at hD
  have hg : ∀ σ', Has c' σ' d o := fun σ' => hh.enter r I List.not_mem_nil
  have hlen := hK.length
  have vals : ∀ {kvs m}, KV kvs m → ∀ (i : Nat) (k : Int) (x : Value), kvs[i]? = some (k, x) → ∃ t, x = .int ((m.map (·.2)).getD i 0) t := by
    intro kvs m h
    induction h with
    | nil => intro i k x h; cases h
    | cons k' n t h ih =>
      intro i k x hx
      cases i with
      | zero => cases hx; exact ⟨t, rfl⟩
      | succ i => exact ih i k x hx
  have keys : ∀ {kvs m}, KV kvs m → kvs.map (·.1) = m.map (·.1) := by
    intro kvs m h
    induction h with
    | nil => rfl
    | cons k' n t h ih => exact congrArg (k' :: ·) ih
  have fin : ∀ v r m' n k t, Nrm (tabHas m) r → OT t v r → QF (.ret v) ⟨m', n, k, t⟩ := fun v r₀ m' n k t hN hO => hQ _ _ fun s' Z S N O V => by
    obtain ⟨r', l'⟩ := r.back0 Z S
    refine pst r' (h _ r₀ _ hN ?_ l')
    cases r₀ with
    | none => exact hO
    | some cl => exact CT.le hO V
  obtain ⟨c0, c1⟩ := clause_nrm hm
  intro t1
  refine ⟨_, _, meth_dict (hg _) hD PySem.F.slot_dict_values PySem.F.type_dict_values, ?_⟩
  refine raw_values (hg _) hD hlow fun v hN => ?_
  have hIt : Iter c' (.ref v) (m.map (·.2)).length _ _ := (by rw [List.length_map, ← hlen]; exact iter_vals I.u.hh v d o hD)
  refine raw_in_iter (n := 3) I.u.hh hIt (fun i x q => q.elim fun k hx => vals hK i k x hx) (fun s r => ⟨vwO d, (r.N _ (.head _)).1, rfl⟩) lk_vals_contains (fun s r => ⟨⟨vwO d, (r.N _ (.head _)).1, rfl, rfl⟩, r.has (hg _)⟩) fun b hb => ?_
  refine ⟨fun q => fin _ none _ _ _ _ (c0 (hb.mp q)) rfl, fun q => ?_⟩
  have n3 : 3 ∉ m.map (·.2) := fun z => (nomatch q.symm.trans (hb.mpr z))
  refine ⟨.ty _, ?_⟩
  refine raw_comp [(Str.ofString "table", c'.L + 1, some (.ref d))] I.a I.u (fun x => rfl) (fun s r => closure_cells r (by rfl)) (List.forall_mem_singleton.mpr rfl) (by rfl) (by decide) (by decide) ?_
  refine ⟨.bi _, ?_⟩
  refine raw_sortedD I.u.hh (hg _) hD hlow (by rw [hlen]; exact hn) fun l ol vs' ks hNl hol hI hp hs => ?_
  rw [keys hK] at hp
  have hl : ks.length = m.length := by rw [hp.length_eq, List.length_map]
  have hvl : vs'.length = ks.length := hI.length
  have hHL : ∀ {s' σ}, R c' σ s' → (l, ol) ∈ σ.n → s'.heap.IsList l vs'.toArray := fun r hm => ⟨_, (r.N _ hm).1, hol.1, hol.2.1⟩
  refine ⟨.refl _, vs'.length, _, _, by rw [sizeLine_eq]; omega, iter_list I.u.hh l vs', fun s r => ⟨hHL r (.head _), fun h' k => ⟨ol, k _ _ (r.N _ (.head _)).1 (fun q => ?_) (r.off (.inr (.head _))), hol.1, hol.2.1⟩⟩, fun i t acc => IntsAre acc ((ks.take i).map fun k => if mget m k = some 1 then k else -k), fun _ _ _ _ _ h => h, fun _ _ => .nil, ?_, ?_⟩
  · exact (List.nodup_append.mp r.D).2.2 _ (.head _) _ (List.mem_singleton.mp q ▸ .head _) rfl
  · intro s c2 t i x acc J oJ D oD rr G a2 u2 hi hx hJ
    have hi' : i < ks.length := hvl ▸ hi
    obtain ⟨t6, hx'⟩ := ints_at hI hi'
    rw [hx] at hx'; cases hx'
    have hin : ks.getD i 0 ∈ m.map (·.1) := hp.mem_iff.mp (by rw [List.getD_eq_getElem?_getD, List.getElem?_eq_getElem hi']; exact List.getElem_mem hi')
    obtain ⟨p, hpm, hpe⟩ := List.mem_map.mp hin
    have hg1 : mget m (ks.getD i 0) = some p.2 := mem_mget hm.nd (hpe ▸ hpm)
    obtain ⟨n, tn, hv, hg2⟩ : ∃ n t, valueAt kvs (ks.getD i 0) = some (.int n t) ∧ mget m (ks.getD i 0) = some n := (hK.get (ks.getD i 0)).elim (fun q => (nomatch hg1.symm.trans q.2)) id
    have hdn : d ∉ [c'.L + 1] := fun q => by
      have e := rr.has (hg _)
      obtain ⟨oc, h1, h2⟩ := (rr.K _ (.head _)).2.1
      rw [List.mem_singleton.mp q, show s.heap.get? (c'.L + 1) = some oc from h1] at e
      cases e
      obtain ⟨_, _, _, h3, _⟩ := hD
      rw [h2] at h3; cases h3
    rw [← G.w] at hD
    refine raw_sto a2 ?_
    refine ⟨fun _ => ?_, fun q => (nomatch q)⟩
    refine raw_getdict ((hg _).gr rr G hdn) hD (k := ks.getD i 0) (isInt_is _ t6) hv ?_ rfl
    intro t7
    have nxt : ∀ x, x = (if mget m (ks.getD i 0) = some 1 then ks.getD i 0 else -ks.getD i 0) → ∀ t, IntsAre (acc ++ [.int x t]) ((ks.take (i + 1)).map fun k => if mget m k = some 1 then k else -k) := fun x e t => by
      rw [List.take_add_one, List.map_append, List.getElem?_eq_getElem hi', show ks[i] = ks.getD i 0 by rw [List.getD_eq_getElem?_getD, List.getElem?_eq_getElem hi']; rfl]
      exact hJ.append (by rw [e]; exact .cons _ _ .nil)
    refine ⟨fun q => ⟨⟨.refl _, rfl⟩, nxt _ ?_ _⟩, fun q t8 => ⟨⟨.refl _, rfl⟩, nxt _ ?_ _⟩⟩
    · rw [if_pos (by rw [hg2, beq_iff_eq.mp q])]
    · rw [if_neg (by rw [hg2]; intro z; cases z; cases q)]
  · intro t acc D oD hle hacc hlen' hLo hND
    refine raw_tupleL (vs := acc) ⟨oD, hLo.2.1.choose, .inr (.head _), hLo.1, hLo.2.1.choose_spec⟩ (by rw [sizeLine_eq]; omega) fun a t' hle' hget => ?_
    refine fin _ _ _ _ _ _ (c1 ks n3 hp hs) ⟨a, acc, rfl, .of hget, ?_⟩
    rwa [hvl, List.take_length] at hacc
end
end Mine
end
section
open PySem PySem.W PyProof.Rows PySem.Spec PySem.Calls
set_option Elab.async false
set_option maxRecDepth 100000
set_option maxHeartbeats 4000000
set_option linter.unusedVariables false
namespace Mine
noncomputable def runB {α : Type} (n : Nat) (ans : Nat → Nat → Bool) : KasT α → Option α
  | .ret a => some a
  | .ask i j k => match Nat.blt i n && Nat.blt j n with
    | true => runB n ans (k (ans i j))
    | false => none
theorem blt2 {i j n : Nat} : (Nat.blt i n && Nat.blt j n) = true ↔ i < n ∧ j < n := by
  rw [Bool.and_eq_true, Nat.blt_eq, Nat.blt_eq]
theorem run_wp {α : Type} {n : Nat} {ans : Nat → Nat → Bool} {cmp : Nat → Nat → (Bool → Shared → Prop) → Shared → Prop} {s : Shared} {Q : α → Shared → Prop} (hc : ∀ i j C, i < n → j < n → C (ans i j) s → cmp i j C s) :
    ∀ (t : KasT α) {p : α}, runB n ans t = some p → Q p s → t.kasWp cmp Q s
  | .ret a, p, h, hq => by cases h; exact hq
  | .ask i j k, p, h, hq => by
    unfold runB at h
    cases q : (Nat.blt i n && Nat.blt j n) with
    | false => rw [q] at h; cases h
    | true =>
      rw [q] at h
      obtain ⟨h1, h2⟩ := blt2.mp q
      exact hc i j _ h1 h2 (run_wp hc (k (ans i j)) h hq)
theorem run_same {α : Type} {n : Nat} {a b : Nat → Nat → Bool} (e : ∀ i j, i < n → j < n → a i j = b i j) : ∀ (t : KasT α), runB n a t = runB n b t
  | .ret a => rfl
  | .ask i j k => by
    unfold runB
    cases q : (Nat.blt i n && Nat.blt j n) with
    | false => rfl
    | true =>
      obtain ⟨h1, h2⟩ := blt2.mp q
      show runB n a (k (a i j)) = runB n b (k (b i j))
      rw [e i j h1 h2]
      exact run_same e _
noncomputable def incr : List Nat → Bool
  | x :: y :: r => Nat.blt x y && incr (y :: r)
  | _ => true
theorem incr_ok : ∀ {l : List Nat}, incr l = true → l.Pairwise (· < ·)
  | [], _ => .nil
  | [_], _ => List.pairwise_singleton ..
  | x :: y :: r, h => by
    obtain ⟨h1, h2⟩ := Bool.and_eq_true_iff.mp (show (Nat.blt x y && incr (y :: r)) = true from h)
    have ih := incr_ok h2
    refine List.pairwise_cons.mpr ⟨fun z hz => ?_, ih⟩
    rw [Nat.blt_eq] at h1
    rcases List.mem_cons.mp hz with rfl | hz
    · exact h1
    · exact Nat.lt_trans h1 ((List.pairwise_cons.mp ih).1 z hz)
noncomputable def chk (g : List Nat) : Bool := match runB g.length (fun i j => Nat.blt (g.getD i 0) (g.getD j 0)) (kas_sort g.length) with
  | none => false
  | some p => p.toList.isPerm (List.range g.length) && incr (p.toList.map (g.getD · 0))
theorem chk2 : ∀ a, a < 2 → ∀ b, b < 2 → (a ≠ b) → chk [a, b] = true := by decide +kernel
theorem chk3 : ∀ a, a < 3 → ∀ b, b < 3 → ∀ c, c < 3 → (a ≠ b ∧ a ≠ c ∧ b ≠ c) → chk [a, b, c] = true := by decide +kernel
set_option synthInstance.maxSize 1000 in
set_option synthInstance.maxHeartbeats 400000 in
theorem chk4 : ∀ a, a < 4 → ∀ b, b < 4 → ∀ c, c < 4 → ∀ d, d < 4 → (a ≠ b ∧ a ≠ c ∧ a ≠ d ∧ b ≠ c ∧ b ≠ d ∧ c ≠ d) → chk [a, b, c, d] = true := by decide +kernel
theorem count_lt {p q : Nat → Bool} {i : Nat} : ∀ {l : List Nat}, (∀ x ∈ l, p x = true → q x = true) → i ∈ l → q i = true → p i = false → l.countP p < l.countP q
  | x :: r, h, hm, hq, hp => by
    have le : r.countP p ≤ r.countP q := List.countP_mono_left fun y hy => h y (.tail _ hy)
    rw [List.countP_cons, List.countP_cons]
    rcases List.mem_cons.mp hm with rfl | hm
    · rw [hp, hq]; exact Nat.lt_succ_of_le le
    · have ih := count_lt (fun y hy => h y (.tail _ hy)) hm hq hp
      have hx := h x (.head _)
      cases a : p x with
      | false => exact Nat.lt_of_lt_of_le ih (Nat.le_add_right _ _)
      | true => rw [hx a]; exact Nat.succ_lt_succ ih
theorem sort4 {n : Nat} (h2 : 2 ≤ n) (h4 : n ≤ 4) (f : Nat → Nat) (hf : ∀ i j, i < n → j < n → f i = f j → i = j) :
    ∃ p : Array Nat, runB n (fun i j => decide (f i < f j)) (kas_sort n) = some p ∧ p.toList.Perm (List.range n) ∧ p.toList.Pairwise (fun i j => f i < f j) := by
  let rk : Nat → Nat := fun i => (List.range n).countP fun k => Nat.blt (f k) (f i)
  have rl : ∀ i j, i < n → j < n → f i < f j → rk i < rk j := fun i j hi hj h =>
    count_lt (i := i) (fun x _ hx => by rw [Nat.blt_eq] at hx ⊢; exact Nat.lt_trans hx h) (List.mem_range.mpr hi) (Nat.blt_eq.mpr h) (by
      cases q : Nat.blt (f i) (f i) with
      | false => rfl
      | true => exact absurd (Nat.blt_eq.mp q) (Nat.lt_irrefl _))
  have ri : ∀ i j, i < n → j < n → (f i < f j ↔ rk i < rk j) := fun i j hi hj => ⟨rl i j hi hj, fun h => by
    rcases Nat.lt_trichotomy (f i) (f j) with q | q | q
    · exact q
    · exact absurd (hf i j hi hj q ▸ h) (Nat.lt_irrefl _)
    · exact absurd (Nat.lt_trans h (rl j i hj hi q)) (Nat.lt_irrefl _)⟩
  have rn : ∀ i, i < n → rk i < n := fun i hi => by
    have : (List.range n).countP (fun k => Nat.blt (f k) (f i)) < (List.range n).countP (fun _ => true) := count_lt (i := i) (fun _ _ _ => rfl) (List.mem_range.mpr hi) rfl (by
      cases q : Nat.blt (f i) (f i) with
      | false => rfl
      | true => exact absurd (Nat.blt_eq.mp q) (Nat.lt_irrefl _))
    have e : (List.range n).countP (fun _ => true) = n := by simp
    rw [e] at this; exact this
  have rne : ∀ i j, i < n → j < n → i ≠ j → rk i ≠ rk j := fun i j hi hj hne q => by
    rcases Nat.lt_trichotomy (f i) (f j) with z | z | z
    · have := rl i j hi hj z; rw [q] at this; exact absurd this (Nat.lt_irrefl _)
    · exact hne (hf i j hi hj z)
    · have := rl j i hj hi z; rw [q] at this; exact absurd this (Nat.lt_irrefl _)
  have fin : ∀ g : List Nat, g.length = n → (∀ i, i < n → g.getD i 0 = rk i) → chk g = true → ∃ p : Array Nat, runB n (fun i j => decide (f i < f j)) (kas_sort n) = some p ∧ p.toList.Perm (List.range n) ∧ p.toList.Pairwise (fun i j => f i < f j) := fun g hl hg hc => by
    subst hl
    unfold chk at hc
    have e := run_same (α := Array Nat) (a := fun i j => Nat.blt (g.getD i 0) (g.getD j 0)) (b := fun i j => decide (f i < f j)) (n := g.length) (fun i j hi hj => by
      rw [hg i hi, hg j hj]
      rw [Bool.eq_iff_iff, Nat.blt_eq, decide_eq_true_eq]
      exact (ri i j hi hj).symm) (kas_sort g.length)
    rw [e] at hc
    cases q : runB g.length (fun i j => decide (f i < f j)) (kas_sort g.length) with
    | none => rw [q] at hc; cases hc
    | some p =>
      rw [q] at hc
      obtain ⟨c1, c2⟩ := Bool.and_eq_true_iff.mp (show (p.toList.isPerm (List.range g.length) && incr (p.toList.map (g.getD · 0))) = true from hc)
      have pm := List.isPerm_iff.mp c1
      refine ⟨p, rfl, pm, ?_⟩
      refine List.Pairwise.imp_of_mem (fun {a b} ha hb r => ?_) (List.pairwise_map.mp (incr_ok c2))
      have ha' := List.mem_range.mp (pm.mem_iff.mp ha)
      have hb' := List.mem_range.mp (pm.mem_iff.mp hb)
      rw [hg a ha', hg b hb'] at r
      exact (ri a b ha' hb').mpr r
  have c2 : n = 2 ∨ n = 3 ∨ n = 4 := by omega
  rcases c2 with rfl | rfl | rfl
  · refine fin [rk 0, rk 1] rfl (fun i hi => ?_) (chk2 _ (rn 0 (by decide)) _ (rn 1 (by decide)) (rne 0 1 (by decide) (by decide) (by decide)))
    match i, hi with
    | 0, _ => rfl
    | 1, _ => rfl
  · refine fin [rk 0, rk 1, rk 2] rfl (fun i hi => ?_) (chk3 _ (rn 0 (by decide)) _ (rn 1 (by decide)) _ (rn 2 (by decide)) ⟨rne 0 1 (by decide) (by decide) (by decide), rne 0 2 (by decide) (by decide) (by decide), rne 1 2 (by decide) (by decide) (by decide)⟩)
    match i, hi with
    | 0, _ => rfl
    | 1, _ => rfl
    | 2, _ => rfl
  · refine fin [rk 0, rk 1, rk 2, rk 3] rfl (fun i hi => ?_) (chk4 _ (rn 0 (by decide)) _ (rn 1 (by decide)) _ (rn 2 (by decide)) _ (rn 3 (by decide))
      ⟨rne 0 1 (by decide) (by decide) (by decide), rne 0 2 (by decide) (by decide) (by decide), rne 0 3 (by decide) (by decide) (by decide), rne 1 2 (by decide) (by decide) (by decide), rne 1 3 (by decide) (by decide) (by decide), rne 2 3 (by decide) (by decide) (by decide)⟩)
    match i, hi with
    | 0, _ => rfl
    | 1, _ => rfl
    | 2, _ => rfl
    | 3, _ => rfl
end Mine
end
section
open PySem PySem.W PyProof.Rows PySem.Spec PySem.Calls
set_option Elab.async false
set_option maxRecDepth 100000
set_option linter.unusedVariables false
namespace Mine
theorem Up.le {c : Fx} {n m : Nat} (u : Up c n) (h : n ≤ m) : Up c m := ⟨u.hA, u.hh, Nat.le_trans u.hd h, Nat.le_trans u.hu (Nat.mul_le_mul_left _ h), u.fS⟩
section
variable {c : Fx} {sc : List (Str × NameKind)} {s : Shared} {σ : St} {P : Value → St → Prop}
theorem order_ok {x : Int} {t0 : Tok} (a : Act sc c) (u : Up c 850) (h : ∀ b t' t1, Le σ.t t' → t'.get? b = some (tupObj [.int x.natAbs t1, .bool (decide (0 < x))]) → P (.ref b) (σ.setT t')) : raw c (call (.ref 79) [.int x t0]) P σ := by
  refine enter [] a u (by simp) .nil (by simp) (by k_is) (by k_is) (Nat.le_of_ble_eq_true rfl) (fun _ => BindsTo.of_eq rfl) (by rfl) (by exact .nil) (by rfl) (by rfl) (by rfl) ?_
  intro s c' tv r I QF hQ
  refine ⟨.bi _, raw_abs fun t1 t2 => ⟨Nat.le_of_ble_eq_true rfl, fun b t' hle hb => ?_⟩⟩
  refine hQ _ _ fun s' Z S N O V => ?_
  obtain ⟨r', l'⟩ := r.back0 Z S
  refine pst r' (h b _ t1 l' ?_)
  rw [← abs_if]
  exact V _ _ hb
end
end Mine
end
section
open PySem PySem.W PyProof.Rows PySem.Spec PySem.Calls
set_option Elab.async false
set_option maxRecDepth 100000
set_option linter.unusedVariables false
namespace Mine
/-- the keys that order_of gives -/
inductive KT (t : Heap) : List Value → List Int → Prop
  | nil : KT t [] []
  | cons {b : Addr} {n : Int} {u : Tok} {vs : List Value} {ns : List Int} (h : t.get? b = some (tupObj [.int n.natAbs u, .bool (decide (0 < n))])) (r : KT t vs ns) : KT t (.ref b :: vs) (n :: ns)
theorem KT.le {t t' : Heap} {vs : List Value} {ns : List Int} (h : KT t vs ns) (l : Le t t') : KT t' vs ns := by
  induction h with
  | nil => exact .nil
  | cons h r ih => exact .cons (l _ _ h) ih
theorem KT.snoc {t : Heap} {vs : List Value} {ns : List Int} (h : KT t vs ns) {b : Addr} {n : Int} {u : Tok} (hb : t.get? b = some (tupObj [.int n.natAbs u, .bool (decide (0 < n))])) : KT t (vs ++ [.ref b]) (ns ++ [n]) := by
  induction h with
  | nil => exact .cons hb .nil
  | cons h r ih => exact .cons h ih
theorem KT.length {t : Heap} {vs : List Value} {ns : List Int} (h : KT t vs ns) : vs.length = ns.length := by
  induction h with
  | nil => rfl
  | cons h r ih => exact congrArg Nat.succ ih
theorem KT.at_ {t : Heap} {vs : List Value} {ns : List Int} (h : KT t vs ns) : ∀ {i : Nat}, i < ns.length → ∃ b u, vs.getD i .none = .ref b ∧ t.get? b = some (tupObj [.int (ns.getD i 0).natAbs u, .bool (decide (0 < ns.getD i 0))]) := by
  induction h with
  | nil => intro i hi; exact absurd hi (Nat.not_lt_zero _)
  | cons h r ih =>
    intro i hi
    cases i with
    | zero => exact ⟨_, _, rfl, h⟩
    | succ i => exact ih (Nat.lt_of_succ_lt_succ hi)
theorem KT.tups {t h : Heap} {vs : List Value} {ns : List Int} (k : KT t vs ns) (l : ∀ b o, t.get? b = some o → h.get? b = some o) : ∃ fs, KatTups h vs fs ∧ fs.length = ns.length ∧ ∀ v ∈ fs, ∃ n u, v = .int n u := by
  induction k with
  | nil => exact ⟨[], .nil, rfl, fun v hv => (nomatch hv)⟩
  | cons hb r ih =>
    obtain ⟨fs, h1, h2, h3⟩ := ih
    refine ⟨_ :: fs, .cons (l _ _ hb) rfl rfl rfl h1, congrArg Nat.succ h2, fun v hv => ?_⟩
    rcases List.mem_cons.mp hv with rfl | hv
    · exact ⟨_, _, rfl⟩
    · exact h3 v hv
theorem keys_cmp {w : World} {A : Around} {s : Shared} {t : Heap} {ks : List Value} {ns : List Int} (k : KT t ks ns) (l : ∀ b o, t.get? b = some o → s.heap.get? b = some o)
    (hd : ∀ i j, i < ns.length → j < ns.length → (ns.getD i 0).natAbs = (ns.getD j 0).natAbs → i = j) {i j : Nat} {C : Bool → Shared → Prop} (hi : i < ns.length) (hj : j < ns.length) (hC : C (decide ((ns.getD i 0).natAbs < (ns.getD j 0).natAbs)) s) :
    kas_ask PG w A (tuples' true) ks i j C s := by
  obtain ⟨b1, u1, e1, h1⟩ := k.at_ hi
  obtain ⟨b2, u2, e2, h2⟩ := k.at_ hj
  unfold kas_ask
  rw [e1, e2]
  refine kat_lt (l _ _ h1) rfl (l _ _ h2) rfl (kat_cons (wpAny_eqBool_int ?_))
  by_cases q : (ns.getD i 0).natAbs = (ns.getD j 0).natAbs
  · have e0 : (((ns.getD i 0).natAbs : Int) == ((ns.getD j 0).natAbs : Int)) = true := by rw [q]; exact beq_self_eq_true _
    rw [e0]
    have e := hd i j hi hj q
    subst e
    refine kat_yes (kat_cons (SeqAt.EqAt.same _ PG w _ _ ?_))
    refine kat_yes (kat_nil ?_)
    have : decide ((ns.getD i 0).natAbs < (ns.getD i 0).natAbs) = false := decide_eq_false (Nat.lt_irrefl _)
    rw [this] at hC
    exact hC
  · have e : (((ns.getD i 0).natAbs : Int) == ((ns.getD j 0).natAbs : Int)) = false := beq_eq_false_iff_ne.mpr fun z => q (Int.ofNat.inj z)
    rw [e]
    refine kat_no (oneLt_int ?_)
    have e2 : decide (((ns.getD i 0).natAbs : Int) < ((ns.getD j 0).natAbs : Int)) = decide ((ns.getD i 0).natAbs < (ns.getD j 0).natAbs) := by
      rw [Bool.eq_iff_iff, decide_eq_true_eq, decide_eq_true_eq]; exact Int.ofNat_lt
    rw [e2]
    exact hC
/-- what a sort of ns by heights gives -/
theorem sort_out {vs : List Value} {ns : List Int} (hI : IntsAre vs ns) {p : List Nat} (hp : p.Perm (List.range ns.length)) (hs : p.Pairwise fun i j => (ns.getD i 0).natAbs < (ns.getD j 0).natAbs) :
    IntsAre (p.map fun i => vs.getD i .none) (p.map fun i => ns.getD i 0) ∧ (p.map fun i => ns.getD i 0).Perm ns ∧ (p.map fun i => ns.getD i 0).Pairwise fun a b => a.natAbs < b.natAbs := by
  refine ⟨?_, ?_, List.pairwise_map.mpr hs⟩
  · have : ∀ l : List Nat, (∀ i ∈ l, i < ns.length) → IntsAre (l.map fun i => vs.getD i .none) (l.map fun i => ns.getD i 0) := by
      intro l
      induction l with
      | nil => intro _; exact .nil
      | cons i r ih =>
        intro h
        obtain ⟨t, ht⟩ := ints_at hI (h i (.head _))
        have e : vs.getD i .none = .int (ns.getD i 0) t := by rw [List.getD_eq_getElem?_getD, ht]; rfl
        rw [List.map_cons, List.map_cons, e]
        exact .cons _ _ (ih fun j hj => h j (.tail _ hj))
    exact this p fun i hi => List.mem_range.mp (hp.mem_iff.mp hi)
  · have e : (List.range ns.length).map (fun i => ns.getD i 0) = ns := by
      refine List.ext_getElem (by simp) fun i h1 h2 => ?_
      simp [h2]
    have q := hp.map fun i => ns.getD i 0
    rw [e] at q
    exact q
end Mine
end
section
open PySem PySem.W PyProof.Rows PySem.Spec PySem.Calls
set_option Elab.async false
set_option maxRecDepth 100000
set_option maxHeartbeats 4000000
set_option linter.unusedVariables false
namespace Mine
section
variable {c : Fx} {sc : List (Str × NameKind)} {s : Shared} {σ : St} {P : Value → St → Prop}
theorem keyK (w : World) : keepIn (hd.heap_1 w.params) (.ref 79) = true := by k_is
/-- two lists in the ledger, the first of which is altered -/
theorem R.list0 {a : Addr} {xs : Array Value} {n : Nat} {rest : List (Addr × Obj)} {m : List (Str × Value)} {k : List (Str × Addr × Option Value)} {t : Heap} (r : R c ⟨m, (a, seqObj "list" xs n) :: rest, k, t⟩ s) (g : Array Value → Array Value) :
    ∃ e, R c ⟨m, (a, seqObj "list" (g xs) e) :: rest, k, t⟩ { s with heap := s.heap.update a (Obj.mapSeq g) } :=
  ⟨_, r.upd (i := 0) (tk := s.toks) rfl (Heap.SameBut.update s.heap a (Obj.mapSeq g)) (get?_update_seq (r.N _ (.head _)).1 g) rfl⟩
theorem R.list1 {a b : Addr} {ob : Obj} {xs : Array Value} {n : Nat} {rest : List (Addr × Obj)} {m : List (Str × Value)} {k : List (Str × Addr × Option Value)} {t : Heap} (r : R c ⟨m, (b, ob) :: (a, seqObj "list" xs n) :: rest, k, t⟩ s) (g : Array Value → Array Value) :
    ∃ e, R c ⟨m, (b, ob) :: (a, seqObj "list" (g xs) e) :: rest, k, t⟩ { s with heap := s.heap.update a (Obj.mapSeq g) } :=
  ⟨_, r.upd (i := 1) (tk := s.toks) rfl (Heap.SameBut.update s.heap a (Obj.mapSeq g)) (get?_update_seq (r.N _ (.tail _ (.head _))).1 g) rfl⟩
theorem sort_tail {A : Around} {a kS : Addr} {keys : List Value} {e e1 : Nat} {st : SortSt} {out : List Value} {F : PySem.Fin → Shared → Prop} {E : Value → Shared → Prop} {m : List (Str × Value)} {rest : List (Addr × Obj)} {k : List (Str × Addr × Option Value)} {t : Heap}
    (r : R c ⟨m, (kS, seqObj "list" keys.toArray e) :: (a, seqObj "list" #[] e1) :: rest, k, t⟩ s) (hout : (arrOf st).map (·.2) = out.toArray) (hz : out.length ≤ 4) (hk : keys.length ≤ 4) (hf : failedOf st = none)
    (h : ∀ h' e', R c ⟨m, (a, seqObj "list" out.toArray e') :: rest, k, t⟩ { s with heap := h' } → F (.done (.ret .none)) { s with heap := h' }) : wpAny (model PG c.w) A (ksk_tail a false e1 (.ref kS) st) F E s := by
  have nk := (r.N _ (.head _)).1
  unfold ksk_tail
  dsimp only
  refine wpAny_bind (listUpdate_at nk rfl ?_ (by rw [List.size_toArray, sizeLine_eq]; omega) (Nat.zero_le _))
  obtain ⟨e2, r2⟩ := r.list0 fun _ => #[]
  refine wpAny_bind (wpAny_letGo ?_)
  refine wpAny_bind (seqEpoch_at (r2.N _ (.tail _ (.head _))).1 rfl ?_)
  rw [if_neg Bool.false_ne_true, hout]
  refine wpAny_bind (listUpdate_at (r2.N _ (.tail _ (.head _))).1 rfl ?_ (Nat.zero_le _) (by rw [List.size_toArray, sizeLine_eq]; omega))
  obtain ⟨e3, r3⟩ := r2.list1 fun _ => out.toArray
  rw [hf]
  simp only [bne_self_eq_false, Bool.false_eq_true, if_false]
  refine wpAny_pure (h _ e3 (r3.less ⟨fun _ _ x => x, .cons _ (.refl _), rfl, Le.refl _⟩))
theorem raw_sortedK {d : Addr} {o : Obj} {kvs : List (Int × Value)} {ns : List Int} (a : Act sc c) (u : Up c 810) (hh : Has c σ d o) (hd : o.IsDictOf (intKind PG c.w) kvs) (hne : (d == sysModules) = false) (h4 : kvs.length ≤ 4)
    (hns : kvs.map (·.1) = ns) (hdis : ∀ i j, i < ns.length → j < ns.length → (ns.getD i 0).natAbs = (ns.getD j 0).natAbs → i = j)
    (h : ∀ D oD vs' ns' t', NewAt D σ → LstO oD vs' → IntsAre vs' ns' → ns'.Perm ns → ns'.Pairwise (fun a b => a.natAbs < b.natAbs) → Le σ.t t' → P (.ref D) ((σ.addN D oD).setT t')) :
    raw c (call (.builtin "sorted") [.ref d] [(Str.ofString "key", .ref 79)]) P σ := fun s r => by
  obtain ⟨H₀, gs, dr, tk₀, os⟩ := s
  obtain ⟨ep, hat⟩ := (r.dict hh hd).dictAt
  refine call_function_entry_kw kind_sorted plain_sorted entry_sorted (ksk_s1 _ _) ?_
  unfold Builtin.«sorted»
  refine wpAny_bind (m := checkCount "sorted" 1 1 _) (wpAny_pure ?_)
  refine wpAny_bind (kdu_collect (A := c.A.in1) (kdl_dict (knd := intKind PG c.w) (kvs := kvs) (ep := ep) hne) u.hh hat (by rw [sizeLine_eq]; omega) fun h' tk acc hk hacc => ?_)
  have hI := items_ints (vs := acc.toList) (by rw [Array.length_toList]; exact hacc.1) fun j v e => hacc.2 j v (by rw [← Array.getElem?_toList]; exact e)
  have hl : acc.toList.length = kvs.length := by rw [Array.length_toList]; exact hacc.1
  rw [hns] at hI
  have hnl : ns.length = kvs.length := by rw [← hns, List.length_map]
  generalize acc.toList = vs at hI hl
  refine wpAny_bind (wpAny_newList ?_ (by rw [sizeLine_eq, hl]; omega))
  have r1 : R c σ ⟨h', gs, dr, tk, os⟩ := r.grow (tk := tk) (.of (fun b o e _ => hk b o e) fun x hx => (nomatch hx))
  have r2 : R c σ ⟨h'.push (seqObj "list" vs.toArray 0), gs, dr, tk, os⟩ := r1.push (seqObj "list" vs.toArray 0)
  show wpAny _ _ _ _ _ ⟨h'.push (seqObj "list" vs.toArray 0), gs, dr, tk, os⟩
  obtain ⟨f1, f2, f3⟩ := fresh_own r1 (none_size h')
  have hoL : (h'.push (seqObj "list" vs.toArray 0)).get? h'.objs.size = some (seqObj "list" vs.toArray 0) := Heap.get?_push_size _ rfl
  have r3 := r2.more hoL f1 f2 f3
  refine wpAny_bind (wpAny_holding (wpAny_call_entry_kw slot_list_sort ⟨_, hoL, rfl⟩ entry_list_sort ?_ (ksk_l1 _ _)))
  rw [ksk_t1]
  -- the sort itself
  have r4 := r3.as c.A.in1.in1 NoE
  obtain ⟨e1, r5⟩ := R.list0 (c := c.at c.A.in1.in1 NoE) r4 fun _ => #[]
  have a5 : Act sc (c.at c.A.in1.in1 NoE) := a.as _ _
  have u5 : Up (c.at c.A.in1.in1 NoE) 850 := ⟨u.hA, u.hh, Nat.le_trans u.hd (by decide), (by have := u.hu; show c.A.units + 1 + 1 ≤ _; omega), u.fS⟩
  unfold ksk_tree
  refine wpAny_bind (listItems_at hoL rfl ?_)
  refine wpAny_bind (listUpdate_at hoL rfl ?_ (by rw [List.size_toArray, sizeLine_eq]; omega) (Nat.zero_le _))
  refine wpAny_bind (seqEpoch_at (r5.N _ (.head _)).1 rfl ?_)
  refine wpAny_bind (wpAny_newTuple ?_ (by rw [sizeLine_eq]; simp; omega))
  have r6 := r5.push { cls := .type "tuple", data := .seq vs.toArray.toList.toArray }
  refine wpAny_bind (wpAny_newList ?_ (Nat.zero_le _))
  obtain ⟨g1, g2, g3⟩ := fresh_own r6 (none_size _)
  have r7 := (r6.push (seqObj "list" #[] 0)).more (Heap.get?_push_size _ rfl) g1 g2 g3
  refine wpAny_holding ?_
  generalize hkS : (((h'.push (seqObj "list" vs.toArray 0)).update h'.objs.size (Obj.mapSeq fun _ => #[])).push { cls := .type "tuple", data := .seq vs.toArray.toList.toArray }).objs.size = kS at r7
  unfold ksk_rest
  refine wpAny_bind (wpAny_rule ?_)
  first
    | rw [List.forIn_toArray]
    | (rw [← Array.forIn_toList]; simp only [List.toList_toArray])
  refine wpAny_bind (ksk_fold (fun i s' => ∃ kA e t, R (c.at c.A.in1.in1 NoE) ⟨σ.m, (kS, seqObj "list" (List.toArray kA) e) :: (h'.objs.size, seqObj "list" #[] e1) :: σ.n, σ.k, t⟩ s' ∧ KT t kA (ns.take i) ∧ Le σ.t t) vs 0 _
    ⟨[], 0, σ.t, r7, .nil, Le.refl _⟩ ?step ?done)
  case step =>
    rintro j x s' hx ⟨kA, e, t, rr, hk', hle⟩
    rw [Nat.zero_add] at hk' ⊢
    have hj : j < ns.length := by rw [hnl, ← hl]; exact (List.getElem?_eq_some_iff.mp hx).1
    obtain ⟨t6, hx'⟩ := ints_at hI hj
    rw [hx] at hx'; cases hx'
    have hz : kA.length ≤ 4 := by rw [hk'.length, List.length_take]; omega
    refine wpAny_bind (wpAny_attempt (wpAny_mono (order_ok (P := fun v σ' => ∃ b t' t1, v = .ref b ∧ σ' = St.setT ⟨σ.m, (kS, seqObj "list" (List.toArray kA) e) :: (h'.objs.size, seqObj "list" #[] e1) :: σ.n, σ.k, t⟩ t' ∧ Le t t' ∧ t'.get? b = some (tupObj [.int (ns.getD j 0).natAbs t1, .bool (decide (0 < ns.getD j 0))])) a5 u5
      (fun b t' t1 l g => ⟨b, t', t1, rfl, rfl, l, g⟩) s' rr) (fun v s'' hp => ?_) fun _ _ hF => hF.elim))
    obtain ⟨_, rr2, b, t', t1, rfl, rfl, l', g⟩ := hp
    have nk := (rr2.N _ (.head _)).1
    dsimp only
    refine wpAny_bind (listUpdate_at nk rfl ?_ (by rw [List.size_toArray, sizeLine_eq]; omega) (Nat.le_trans (Nat.le_of_eq (Array.size_push ..)) (by rw [List.size_toArray, sizeLine_eq]; omega)))
    obtain ⟨e2, rr3⟩ := R.list0 rr2 (·.push (.ref b))
    rw [show (List.toArray kA).push (.ref b) = List.toArray (kA ++ [.ref b]) by simp] at rr3
    refine wpAny_pure ⟨rfl, _, e2, t', rr3, ?_, hle.trans l'⟩
    have et : ns.take (j + 1) = ns.take j ++ [ns.getD j 0] := by rw [List.take_add_one, List.getD_eq_getElem?_getD, List.getElem?_eq_getElem hj]; rfl
    rw [et]
    exact (hk'.le l').snoc g
  case done =>
    rintro s' ⟨kA, e, t, rr, hk', hle⟩
    rw [Nat.zero_add, hl, ← hnl, List.take_length] at hk'
    have nk := (rr.N _ (.head _)).1
    dsimp only
    refine wpAny_bind (listItems_at nk rfl ?_)
    have kl := hk'.length
    have fin : ∀ (st : SortSt) (vs' : List Value) (ns' : List Int) (s'' : Shared), R (c.at c.A.in1.in1 NoE) ⟨σ.m, (kS, seqObj "list" (List.toArray kA) e) :: (h'.objs.size, seqObj "list" #[] e1) :: σ.n, σ.k, t⟩ s'' → (arrOf st).map (·.2) = vs'.toArray → failedOf st = none →
        IntsAre vs' ns' → ns'.Perm ns → ns'.Pairwise (fun a b => a.natAbs < b.natAbs) → wpAny (model PG c.w) c.A.in1.in1 (ksk_tail h'.objs.size false e1 (.ref kS) st) (fun fin s' => ∃ v, fin = .done (.ret v) ∧ wpAny (model PG c.w) c.A.in1 (pure (.done (.ret (.ref h'.objs.size)))) (fun fin s' => ∃ v, fin = PySem.Fin.done (.ret v) ∧ Post c P v s') c.E s') c.E s'' := fun st vs' ns' s'' rr ho hf i1 i2 i3 => by
      have l1 := i1.length
      have l2 := i2.length_eq
      refine sort_tail (c := c.at c.A.in1.in1 NoE) rr ho (by omega) (by omega) hf fun h2 e2 r2 => ⟨_, rfl, wpAny_pure ⟨_, rfl, pst r2.un (h _ _ _ ns' t f2 ⟨rfl, ⟨e2, rfl⟩, rfl⟩ i1 i2 i3 hle)⟩⟩
    unfold ksk_end
    dsimp only
    rw [if_neg Bool.false_ne_true, if_neg Bool.false_ne_true]
    by_cases h2 : vs.toArray.size < 2
    · rw [if_pos h2, if_pos h2]
      rw [List.size_toArray] at h2
      refine wpAny_bind (wpAny_pure (wpAny_bind (wpAny_pure ?_)))
      refine fin _ vs ns s' rr ?_ rfl hI (.refl _) ?_
      · show ((List.toArray kA).zip vs.toArray).map (·.2) = _
        apply Array.toList_inj.mp
        rw [Array.toList_map, ksk_zip]
        exact List.map_snd_zip (Nat.le_of_eq (hl.trans (hnl.symm.trans kl.symm)))
      · match ns, hnl with
        | [], _ => exact .nil
        | [x], _ => exact List.pairwise_singleton ..
        | _ :: _ :: _, q => simp at q; omega
    · rw [if_neg h2, if_neg h2]
      rw [List.size_toArray] at h2
      have l0 : ∀ b o, t.get? b = some o → s'.heap.get? b = some o := fun b o e => (tups_get.mp (rr.V b o e)).1
      obtain ⟨fs, k1, k2, k3⟩ := hk'.tups l0
      refine wpAny_bind (kat_kind (T := .type "int") k1 (by omega) (fun v hv => ?_) (by decide) ?_)
      · obtain ⟨n, u, rfl⟩ := k3 v hv
        exact Looks.of_pure rfl
      · have hlk : kA.length = vs.length := by omega
        have hl' : vs.length = ns.length := by omega
        rw [show (Value.type "int" != Value.type "tuple") = true by decide]
        obtain ⟨p, p1, p2, p3⟩ := sort4 (n := vs.length) (by omega) (by omega) (fun i => (ns.getD i 0).natAbs) fun i j hi hj => hdis i j (by omega) (by omega)
        refine wpAny_bind (wpAny_mono (kat_run (Q := fun st' s' => ∃ p : Array Nat, arrOf st' = p.map (kas_item ((List.toArray kA).zip vs.toArray)) ∧ failedOf st' = none ∧ p.toList.Perm (List.range vs.length) ∧ p.toList.Pairwise (fun i j => (ns.getD i 0).natAbs < (ns.getD j 0).natAbs) ∧ R (c.at c.A.in1.in1 NoE) ⟨σ.m, (kS, seqObj "list" (List.toArray kA) e) :: (h'.objs.size, seqObj "list" #[] e1) :: σ.n, σ.k, t⟩ s')
          (G := fun p s' => p.toList.Perm (List.range vs.length) ∧ p.toList.Pairwise (fun i j => (ns.getD i 0).natAbs < (ns.getD j 0).natAbs) ∧ R (c.at c.A.in1.in1 NoE) ⟨σ.m, (kS, seqObj "list" (List.toArray kA) e) :: (h'.objs.size, seqObj "list" #[] e1) :: σ.n, σ.k, t⟩ s')
          hlk (by omega) (by omega) (fun p st' s' _ a2 a3 a4 => ⟨p, a2, a3, a4⟩)
          (run_wp (n := vs.length) (cmp := kas_ask PG c.w c.A.in1.in1 (tuples' true) kA) (fun i j C hi hj hC => keys_cmp (i := i) (j := j) hk' l0 hdis (hl' ▸ hi) (hl' ▸ hj) hC) _ p1 (And.intro p2 (And.intro p3 rr)))) ?_ fun _ _ x => x)
        rintro ⟨⟨⟩, st'⟩ s3 ⟨q, q1, q2, q3, q4, q5⟩
        obtain ⟨o1, o2, o3⟩ := sort_out hI (hl' ▸ q3) q4
        exact fin st' _ _ s3 q5 (kat_snds hlk q1) q2 o1 o2 o3
end
end Mine
end
section
open PySem PySem.W PyProof.Rows PySem.Spec PySem.Calls
set_option Elab.async false
set_option maxRecDepth 100000
set_option linter.unusedVariables false
namespace Mine
/-- the heights that the law draws -/
noncomputable def H4 : List Nat := [1, 2, 3, 1000000000000000000000000000007]
noncomputable def Lit (x : Int) : Prop := x.natAbs ∈ H4
theorem Lit.ne {x : Int} (h : Lit x) : x ≠ 0 := fun q => by
  subst q
  exact absurd h (show (0 : Nat) ∉ H4 by decide)
theorem nodup_le {α : Type} [BEq α] [LawfulBEq α] : ∀ {l H : List α}, l.Nodup → (∀ x ∈ l, x ∈ H) → l.length ≤ H.length
  | [], _, _, _ => Nat.zero_le _
  | x :: r, H, nd, h => by
    obtain ⟨n1, n2⟩ := List.nodup_cons.mp nd
    have hx := h x (.head _)
    have ih := nodup_le (H := H.erase x) n2 fun y hy => (List.mem_erase_of_ne fun q => n1 (by rw [← q]; exact hy)).mpr (h y (.tail _ hy))
    rw [List.length_erase_of_mem hx] at ih
    have := List.length_pos_of_mem hx
    rw [List.length_cons]
    omega +splitDisjunctions
structure Kept (ks ns : List Int) : Prop where
  nd : ks.Nodup
  mem : ∀ x, x ∈ ks ↔ x ∈ ns
  no : ∀ x ∈ ks, -x ∉ ks
theorem keys_stored (kvs : List (Int × Value)) (k : Int) (v : Value) : (stored kvs k v).map (·.1) = if k ∈ kvs.map (·.1) then kvs.map (·.1) else kvs.map (·.1) ++ [k] := by
  by_cases h : k ∈ kvs.map (·.1)
  · rw [if_pos h]
    unfold stored
    obtain ⟨p, hp, e⟩ := List.mem_map.mp h
    rw [if_pos (List.any_eq_true.mpr ⟨p, hp, decide_eq_true e⟩), List.map_map]
    refine List.map_congr_left fun q _ => ?_
    show (if q.1 = k then (q.1, v) else q).1 = q.1
    split <;> rfl
  · rw [if_neg h, stored_absent (valueAt_none_of_not_mem h), List.map_append]; rfl
theorem Kept.put {kvs : List (Int × Value)} {ns : List Int} (h : Kept (kvs.map (·.1)) ns) {k : Int} {v : Value} (hk : k ≠ 0) (hn : -k ∉ kvs.map (·.1)) : Kept ((stored kvs k v).map (·.1)) (ns ++ [k]) := by
  rw [keys_stored]
  split
  · rename_i q
    refine ⟨h.nd, fun x => ?_, h.no⟩
    rw [h.mem, List.mem_append, List.mem_singleton]
    exact ⟨.inl, fun z => z.elim id fun e => e ▸ (h.mem k).mp q⟩
  · rename_i q
    refine ⟨List.nodup_append.mpr ⟨h.nd, List.nodup_cons.mpr ⟨List.not_mem_nil, .nil⟩, fun a ha b hb e => q (by rw [← List.mem_singleton.mp hb, ← e]; exact ha)⟩, fun x => ?_, fun x hx hy => ?_⟩
    · rw [List.mem_append, List.mem_append, h.mem]
    · rcases List.mem_append.mp hx with a | a <;> rcases List.mem_append.mp hy with b | b
      · exact h.no x a b
      · exact hn (by rw [← List.mem_singleton.mp b, Int.neg_neg]; exact a)
      · exact hn (List.mem_singleton.mp a ▸ b)
      · have e1 := List.mem_singleton.mp a
        have e2 := List.mem_singleton.mp b
        exact hk (by omega +splitDisjunctions)
theorem Kept.dis {ks ns : List Int} (h : Kept ks ns) : ∀ i j, i < ks.length → j < ks.length → (ks.getD i 0).natAbs = (ks.getD j 0).natAbs → i = j := fun i j hi hj e => by
  have g : ∀ j (hj : j < ks.length), ks.getD j 0 = ks[j] := fun j hj => by rw [List.getD_eq_getElem?_getD, List.getElem?_eq_getElem hj]; rfl
  rw [g i hi, g j hj] at e
  have m1 := List.getElem_mem hi
  have m2 := List.getElem_mem hj
  rcases Int.natAbs_eq_natAbs_iff.mp e with q | q
  · have nd := List.pairwise_iff_getElem.mp h.nd
    rcases Nat.lt_trichotomy i j with z | z | z
    · exact absurd q (nd i j hi hj z)
    · exact z
    · exact absurd q.symm (nd j i hj hi z)
  · rw [q] at m1; exact absurd m1 (h.no _ m2)
section
variable {c : Fx} {sc : List (Str × NameKind)} {s : Shared} {σ : St} {P : Value → St → Prop}
theorem LoopEnd.nx {I : Addr} {o : Obj} {J : St → Prop} {Q : Flow → St → Prop} {m : List (Str × Value)} {n : List (Addr × Obj)} {k : List (Str × Addr × Option Value)} {t : Heap} (h : ∃ σ', Less σ' ⟨m, n, k, t⟩ ∧ J σ') : LoopEnd I o J Q .next ⟨m, n ++ [(I, o)], k, t⟩ :=
  let ⟨σ', l, h⟩ := h; LoopEnd.next σ' l h
/-- a builtin called with one argument and one keyword -/
theorem raw_kw {x kn : Str} {p kp pos : Pos} {e ke : Expr} {id : String} (a : Act sc c) (hs : noStar [e] = true)
    (h : vE c sc 40 (.Name x p) (fun f σ₁ => f = .builtin id ∧ vE c sc 40 e (fun v σ₂ => vE c sc 40 ke (fun kv σ₃ => raw c (call (.builtin id) [v] [(kn, kv)]) P σ₃) σ₂) σ₁) σ) : raw c (eval (.Call (.Name x p) [e] [⟨some kn, ke, kp⟩] pos) c.env) P σ := fun s r => by
  refine wpAny_Call_Name_kw (seq_ ((vET_sound a 40).1 _ _ _ _ h r) fun f σ₁ s₁ r₁ q₁ => ?_)
  obtain ⟨rfl, q₁⟩ := q₁
  obtain ⟨h1, h2⟩ := star_cons (c := c) hs
  refine callWith_kw ?_ (he := ?_) (hplain := star_any pos hs)
  · refine args_cons (seq_ ((vET_sound a 40).1 _ _ _ _ q₁ r₁) fun v σ₂ s₂ r₂ q₂ => ?_) h1
    refine args_nil ?_
    exact evalAll_cons (wpAny_bind (seq_ ((vET_sound a 40).1 _ _ _ _ q₂ r₂) fun kv σ₃ s₃ r₃ q₃ => wpAny_bind (wpAny_standAt (wpAny_pure (evalAll_nil (q₃ _ r₃))))))
  · rw [h1]; rfl
theorem tidy_ok {l : Addr} {vs : List Value} {ns : List Int} (a : Act sc c) (u : Up c 800) (hS : HasL c σ l vs) (hI : IntsAre vs ns) (hn : ns.length ≤ 1000) (hL : ∀ x ∈ ns, Lit x)
    (h : ∀ v r t', Nrm (· ∈ ns) r → OT t' v r → Le σ.t t' → P v (σ.setT t')) : raw c (call (.ref 86) [.ref l]) P σ := by
  refine enter [] a u (by simp) .nil (by simp) (by k_is) (by k_is) (Nat.le_of_ble_eq_true rfl) (fun _ => BindsTo.of_eq rfl) (by rfl) (by exact .nil) (by rfl) (by rfl) (by rfl) ?_
  intro s c' tv r I QF hQ
  have hlen := hI.length
  have fin : ∀ v r₀ m n k t, Nrm (· ∈ ns) r₀ → OT t v r₀ → QF (.ret v) ⟨m, n, k, t⟩ := fun v r₀ m n k t hN hO => hQ _ _ fun s' Z S N O V => by
    obtain ⟨r', l'⟩ := r.back0 Z S
    refine pst r' (h _ r₀ _ hN ?_ l')
    cases r₀ with
    | none => exact hO
    | some cl => exact CT.le hO V
  refine raw_dict0 (knd := intKind PG c'.w) I.a fun d o hN hd0 hlow => ?_
  refine raw_For I.a I.a.int I.p I.u.hh (fun x => rfl) ?_
  have hq : HasL c' ⟨[], [], [], tv⟩ l vs := hS.enter r I List.not_mem_nil
  refine ⟨vs.length, _, _, iter_list I.u.hh l vs, fun i σ => σ.m = [(Str.ofString "kept", .ref d), (Str.ofString "literals", .ref l)] ∧ ∃ o kvs, σ.n = [(d, o)] ∧ o.IsDictOf (intKind PG c'.w) kvs ∧ Kept (kvs.map (·.1)) (ns.take i), ⟨rfl, o, [], rfl, hd0, .nil, fun x => ⟨(fun q => nomatch q), (fun q => nomatch q)⟩, fun x q => nomatch q⟩, fun i σ s hJ r => r.lst (hS.up (c' := c') ‹_› I List.not_mem_nil), fun i x J oJ σ hi hx hJ hnew => ?_, fun σ hJ => ?_⟩
  · obtain ⟨m, n, k, t⟩ := σ
    obtain ⟨hm, o1, kvs, ho1, hD, hK⟩ := hJ
    cases hm; cases ho1
    have hi' : i < ns.length := hlen ▸ hi
    obtain ⟨t6, hx'⟩ := ints_at hI hi'
    rw [hx] at hx'; cases hx'
    have hmem : ns.getD i 0 ∈ ns := by rw [List.getD_eq_getElem?_getD, List.getElem?_eq_getElem hi']; exact List.getElem_mem hi'
    refine raw_sto I.a ?_
    intro t1
    refine raw_indict (.inr (.head _)) hD (isInt_is _ t1) hlow ⟨fun hb => ?_, fun hb => ?_⟩
    · refine LoopEnd.ret (fin _ none _ _ _ _ ⟨ns.getD i 0, hmem, ?_⟩ rfl)
      refine List.mem_of_mem_take ((hK.mem _).mp ?_)
      rw [valueAt_isSome_eq_any] at hb
      obtain ⟨p, hp, e⟩ := List.any_eq_true.mp hb
      exact List.mem_map.mpr ⟨p, hp, of_decide_eq_true e⟩
    · have hno : -ns.getD i 0 ∉ kvs.map (·.1) := fun q => by
        obtain ⟨p, hp, e⟩ := List.mem_map.mp q
        rw [valueAt_isSome_eq_any, List.any_eq_true.mpr ⟨p, hp, decide_eq_true e⟩] at hb
        cases hb
      have hz : kvs.length ≤ 1000 := by
        have h1 := nodup_le hK.nd fun x hx => (hK.mem x).mp hx
        rw [List.length_map, List.length_take] at h1
        exact Nat.le_trans h1 (Nat.le_trans (Nat.min_le_right _ _) hn)
      refine raw_setdict 0 rfl hD (isInt_is _ t6) (Nat.le_trans hz (by rw [sizeLine_eq]; decide)) fun o' hD' => ?_
      refine LoopEnd.nx (n := [(d, o')]) ⟨⟨[(Str.ofString "kept", .ref d), (Str.ofString "literals", .ref l)], [(d, o')], k, t⟩, ⟨?_, .refl _, rfl, Le.refl _⟩, rfl, o', _, rfl, hD', ?_⟩
      · exact lk_sub (List.forall_mem_cons.mpr ⟨rfl, List.forall_mem_singleton.mpr rfl⟩)
      rw [List.take_add_one, List.getElem?_eq_getElem hi', show ns[i] = ns.getD i 0 by rw [List.getD_eq_getElem?_getD, List.getElem?_eq_getElem hi']; rfl]
      exact hK.put (hL _ hmem).ne hno
  · obtain ⟨m, n, k, t⟩ := σ
    obtain ⟨hm, o1, kvs, ho1, hD, hK⟩ := hJ
    cases hm; cases ho1
    rw [hlen, List.take_length] at hK
    refine ⟨.ty _, ?_⟩
    refine raw_kw I.a rfl ⟨rfl, ?_⟩
    have h4 : kvs.length ≤ 4 := by
      have nd : ((kvs.map (·.1)).map Int.natAbs).Nodup := List.pairwise_map.mpr (List.Pairwise.imp_of_mem (fun {a b} ha hb ne e => by
        rcases Int.natAbs_eq_natAbs_iff.mp e with q | q
        · exact ne q
        · rw [q] at ha; exact hK.no _ hb ha) hK.nd)
      have := nodup_le (H := H4) nd fun y hy => by
        obtain ⟨x, hx, rfl⟩ := List.mem_map.mp hy
        exact hL x ((hK.mem x).mp hx)
      rwa [List.length_map, List.length_map] at this
    refine raw_sortedK I.a (I.u.le (by decide)) (.inr (.head _)) hD hlow h4 rfl hK.dis fun D oD vs' ns' t' hND hLo hI' hp hs hle => ?_
    have hl' : vs'.length ≤ 4 := by rw [hI'.length, hp.length_eq, List.length_map]; exact h4
    refine raw_tupleL (vs := vs') ⟨oD, hLo.2.1.choose, .inr (.head _), hLo.1, hLo.2.1.choose_spec⟩ (Nat.le_trans hl' (by rw [sizeLine_eq]; decide)) fun a t'' hle' hget => ?_
    refine fin (.ref a) (some ns') _ _ _ t'' ⟨fun x hx hy => ?_, ⟨fun x hx => ?_, hs⟩, fun x => hp.mem_iff.trans (hK.mem x)⟩ ⟨a, vs', rfl, .of hget, hI'⟩
    · exact hK.no x ((hK.mem x).mpr hx) ((hK.mem _).mpr hy)
    · exact (hL x ((hK.mem x).mp (hp.mem_iff.mp hx))).ne
end
end Mine
end
section
open PySem PySem.W PyProof.Rows PySem.Spec PySem.Calls
set_option Elab.async false
set_option maxRecDepth 100000
set_option maxHeartbeats 4000000
set_option linter.unusedVariables false
namespace Mine
/-- data: None, ints, texts, tuples of data -/
inductive D where
  | n | i (x : Int) | s (x : Str) | t (l : List D)
mutual
noncomputable def DV (t : Heap) : D → Value → Prop
  | .n, v => v = .none
  | .i x, v => ∃ u, v = .int x u
  | .s x, v => ∃ u, v = .str x u
  | .t ds, v => ∃ a vs, v = .ref a ∧ TupAt t a vs ∧ DVs t ds vs
noncomputable def DVs (t : Heap) : List D → List Value → Prop
  | [], vs => vs = []
  | d :: ds, vs => ∃ v r, vs = v :: r ∧ DV t d v ∧ DVs t ds r
end
mutual
noncomputable def dep : D → Nat
  | .t ds => deps ds + 1
  | _ => 0
noncomputable def deps : List D → Nat
  | [] => 0
  | d :: ds => max (dep d) (deps ds)
end
theorem TupAt.uniq {t : Heap} {a : Addr} {vs ws : List Value} (h : TupAt t a vs) (k : TupAt t a ws) : vs = ws := by
  obtain ⟨o, n, e, _, hd⟩ := h
  obtain ⟨o', n', e', _, hd'⟩ := k
  rw [e] at e'; cases e'
  rw [hd] at hd'
  have := (Data.seq.inj hd').1
  simpa using this
mutual
theorem DV.le {t t' : Heap} (l : Le t t') : ∀ {d : D} {v : Value}, DV t d v → DV t' d v
  | .n, _, h => by unfold DV at h ⊢; exact h
  | .i x, _, h => by unfold DV at h ⊢; exact h
  | .s x, _, h => by unfold DV at h ⊢; exact h
  | .t ds, v, h => by
    unfold DV at h ⊢
    obtain ⟨a, vs, e, h1, h2⟩ := h
    exact ⟨a, vs, e, h1.le l, DVs.le l h2⟩
theorem DVs.le {t t' : Heap} (l : Le t t') : ∀ {ds : List D} {vs : List Value}, DVs t ds vs → DVs t' ds vs
  | [], _, h => by unfold DVs at h ⊢; exact h
  | d :: ds, vs, h => by
    unfold DVs at h ⊢
    obtain ⟨v, r, e, h1, h2⟩ := h
    exact ⟨v, r, e, DV.le l h1, DVs.le l h2⟩
end
theorem DVs.length {t : Heap} : ∀ {ds : List D} {vs : List Value}, DVs t ds vs → vs.length = ds.length
  | [], _, h => by unfold DVs at h; rw [h]; rfl
  | d :: ds, vs, h => by
    unfold DVs at h
    obtain ⟨v, r, e, h1, h2⟩ := h
    rw [e, List.length_cons, List.length_cons, DVs.length h2]
mutual
theorem DV.fun {t : Heap} : ∀ {d e : D} {v : Value}, DV t d v → DV t e v → d = e
  | .n, e, v, h, k => by unfold DV at h; subst h; cases e <;> (unfold DV at k; first | rfl | (obtain ⟨_, _, k, _⟩ := k; cases k) | (obtain ⟨_, k⟩ := k; cases k))
  | .i x, e, v, h, k => by
    unfold DV at h; obtain ⟨u, rfl⟩ := h
    cases e <;> (unfold DV at k; first | (obtain ⟨_, _, k, _⟩ := k; cases k) | (obtain ⟨_, k⟩ := k; cases k; rfl) | (obtain ⟨_, k⟩ := k; cases k) | cases k)
  | .s x, e, v, h, k => by
    unfold DV at h; obtain ⟨u, rfl⟩ := h
    cases e <;> (unfold DV at k; first | (obtain ⟨_, _, k, _⟩ := k; cases k) | (obtain ⟨_, k⟩ := k; cases k; rfl) | (obtain ⟨_, k⟩ := k; cases k) | cases k)
  | .t ds, e, v, h, k => by
    unfold DV at h; obtain ⟨a, vs, rfl, h1, h2⟩ := h
    cases e with
    | t es =>
      unfold DV at k
      obtain ⟨b, ws, e, k1, k2⟩ := k
      cases e
      cases h1.uniq k1
      rw [DVs.fun h2 k2]
    | n => unfold DV at k; cases k
    | _ => unfold DV at k; obtain ⟨_, k⟩ := k; cases k
theorem DVs.fun {t : Heap} : ∀ {ds es : List D} {vs : List Value}, DVs t ds vs → DVs t es vs → ds = es
  | [], es, vs, h, k => by
    unfold DVs at h; subst h
    cases es with
    | nil => rfl
    | cons _ _ => unfold DVs at k; obtain ⟨_, _, k, _⟩ := k; cases k
  | d :: ds, es, vs, h, k => by
    unfold DVs at h; obtain ⟨v, r, rfl, h1, h2⟩ := h
    cases es with
    | nil => unfold DVs at k; cases k
    | cons e es =>
      unfold DVs at k
      obtain ⟨v', r', q, k1, k2⟩ := k
      cases q
      rw [DV.fun h1 k1, DVs.fun h2 k2]
end
theorem DVs.at_ {t : Heap} : ∀ {ds : List D} {vs : List Value}, DVs t ds vs → ∀ (i : Nat) (h1 : i < ds.length) (h2 : i < vs.length), DV t ds[i] vs[i]
  | d :: ds, vs, h, i, h1, h2 => by
    unfold DVs at h
    obtain ⟨v, r, rfl, k1, k2⟩ := h
    cases i with
    | zero => exact k1
    | succ i => exact DVs.at_ k2 i (Nat.lt_of_succ_lt_succ h1) (Nat.lt_of_succ_lt_succ h2)
theorem DVs.app {t : Heap} : ∀ {ds es : List D} {vs ws : List Value}, DVs t ds vs → DVs t es ws → DVs t (ds ++ es) (vs ++ ws)
  | [], es, vs, ws, h, k => by unfold DVs at h; subst h; exact k
  | d :: ds, es, vs, ws, h, k => by
    unfold DVs at h
    obtain ⟨v, r, rfl, k1, k2⟩ := h
    rw [List.cons_append, List.cons_append]
    unfold DVs
    exact ⟨v, _, rfl, k1, k2.app k⟩
theorem DVs.one {t : Heap} {d : D} {v : Value} (h : DV t d v) : DVs t [d] [v] := by
  unfold DVs; exact ⟨v, [], rfl, h, by unfold DVs; rfl⟩
theorem ints_dvs {t : Heap} {vs : List Value} {ns : List Int} (h : IntsAre vs ns) : DVs t (ns.map .i) vs := by
  induction h with
  | nil => rw [List.map_nil]; unfold DVs; rfl
  | cons n u h ih => rw [List.map_cons]; unfold DVs; exact ⟨_, _, rfl, by unfold DV; exact ⟨_, rfl⟩, ih⟩
theorem dep_mem : ∀ {ds : List D} {i : Nat} (h : i < ds.length), dep ds[i] ≤ deps ds
  | d :: ds, 0, _ => by unfold deps; exact Nat.le_max_left _ _
  | d :: ds, i + 1, h => by
    unfold deps
    exact Nat.le_trans (dep_mem (Nat.lt_of_succ_lt_succ h)) (Nat.le_max_right _ _)
open PySem.SeqAt in
theorem all_of {α : Type} {vs ws : List Value} {ds es : List α} (hv : vs.length = ds.length) (hw : ws.length = es.length) {A : Around} {s : Shared}
    (h : ∀ j (h1 : j < vs.toArray.size) (h2 : j < ws.toArray.size), ∃ b, (b = true ↔ ds[j]? = es[j]?) ∧ EqAt A s vs.toArray[j] ws.toArray[j] b) :
    ∃ e : Nat → Bool, (∀ j (h1 : j < vs.toArray.size) (h2 : j < ws.toArray.size), EqAt A s vs.toArray[j] ws.toArray[j] (e j)) ∧ (((List.range (min vs.toArray.size ws.toArray.size)).all e && vs.toArray.size == ws.toArray.size) = true ↔ ds = es) := by
  classical
  have hs : ∀ j, ∃ b, ∀ (h1 : j < vs.toArray.size) (h2 : j < ws.toArray.size), (b = true ↔ ds[j]? = es[j]?) ∧ EqAt A s vs.toArray[j] ws.toArray[j] b := fun j => by
    by_cases h1 : j < vs.toArray.size
    · by_cases h2 : j < ws.toArray.size
      · obtain ⟨b, hb⟩ := h j h1 h2
        exact ⟨b, fun _ _ => hb⟩
      · exact ⟨true, fun _ q => absurd q h2⟩
    · exact ⟨true, fun q => absurd q h1⟩
  refine ⟨fun j => (hs j).choose, fun j h1 h2 => ((hs j).choose_spec h1 h2).2, ?_⟩
  rw [Bool.and_eq_true, List.all_eq_true, beq_iff_eq]
  have s1 : vs.toArray.size = vs.length := List.size_toArray
  have s2 : ws.toArray.size = ws.length := List.size_toArray
  simp only [List.mem_range]
  constructor
  · rintro ⟨q, z⟩
    refine List.ext_getElem? fun j => ?_
    by_cases hj : j < ds.length
    · exact ((hs j).choose_spec (by omega) (by omega)).1.mp (q j (by omega))
    · rw [List.getElem?_eq_none (by omega), List.getElem?_eq_none (by omega)]
  · rintro rfl
    exact ⟨fun j hj => ((hs j).choose_spec (by omega) (by omega)).1.mpr rfl, by omega⟩
section
variable {A : Around} {s : Shared} {t : Heap}
theorem tup_of (hl : Le t (tups s.heap)) {a : Addr} {vs : List Value} (h : TupAt t a vs) : s.heap.IsTuple a vs.toArray := by
  obtain ⟨o, n, e, hc, hd⟩ := h
  exact ⟨o, (tups_get.mp (hl _ _ e)).1, hc, n, hd⟩
open PySem.SeqAt
mutual
theorem DV.eq (hl : Le t (tups s.heap)) : ∀ {d e : D} {v v' : Value} {A : Around}, DV t d v → DV t e v' → A.units + dep d < cLine → ∃ b, (b = true ↔ d = e) ∧ EqAt A s v v' b
  | .n, e, v, v', A, h, k, hu => by
    unfold DV at h; subst h
    cases e with
    | n => unfold DV at k; subst k; exact ⟨true, by simp, EqAt.same _⟩
    | i x => unfold DV at k; obtain ⟨u, rfl⟩ := k; exact ⟨false, by simp, EqAt.none_int _ _⟩
    | s x => unfold DV at k; obtain ⟨u, rfl⟩ := k; exact ⟨false, by simp, EqAt.none_str _ _⟩
    | t es => unfold DV at k; obtain ⟨a, vs, rfl, k1, k2⟩ := k; exact ⟨false, by simp, EqAt.none_tuple (tup_of hl k1) (by omega)⟩
  | .i x, e, v, v', A, h, k, hu => by
    unfold DV at h; obtain ⟨u, rfl⟩ := h
    cases e with
    | n => unfold DV at k; subst k; exact ⟨false, by simp, EqAt.int_none _ _⟩
    | i x => unfold DV at k; obtain ⟨u, rfl⟩ := k; exact ⟨_, by simp, EqAt.int_int _ _ _ _⟩
    | s x => unfold DV at k; obtain ⟨u, rfl⟩ := k; exact ⟨false, by simp, EqAt.int_str _ _ _ _⟩
    | t es => unfold DV at k; obtain ⟨a, vs, rfl, k1, k2⟩ := k; exact ⟨false, by simp, EqAt.int_tuple _ _ (tup_of hl k1) (by omega)⟩
  | .s x, e, v, v', A, h, k, hu => by
    unfold DV at h; obtain ⟨u, rfl⟩ := h
    cases e with
    | n => unfold DV at k; subst k; exact ⟨false, by simp, EqAt.str_none _ _⟩
    | i x => unfold DV at k; obtain ⟨u, rfl⟩ := k; exact ⟨false, by simp, EqAt.str_int _ _ _ _⟩
    | s x => unfold DV at k; obtain ⟨u, rfl⟩ := k; exact ⟨_, by simp, EqAt.str_str _ _ _ _⟩
    | t es => unfold DV at k; obtain ⟨a, vs, rfl, k1, k2⟩ := k; exact ⟨false, by simp, EqAt.str_tuple _ _ (tup_of hl k1) (by omega)⟩
  | .t ds, e, v, v', A, h, k, hu => by
    unfold DV at h; obtain ⟨a, vs, rfl, h1, h2⟩ := h
    unfold dep at hu
    cases e with
    | n => unfold DV at k; subst k; exact ⟨false, by simp, EqAt.tuple_none (tup_of hl h1) (by omega)⟩
    | i x => unfold DV at k; obtain ⟨u, rfl⟩ := k; exact ⟨false, by simp, EqAt.tuple_int _ _ (tup_of hl h1) (by omega)⟩
    | s x => unfold DV at k; obtain ⟨u, rfl⟩ := k; exact ⟨false, by simp, EqAt.tuple_str _ _ (tup_of hl h1) (by omega)⟩
    | t es =>
      unfold DV at k; obtain ⟨b, ws, rfl, k1, k2⟩ := k
      by_cases q : a = b
      · subst q
        cases h1.uniq k1
        exact ⟨true, by simp [h2.fun k2], EqAt.same _⟩
      · obtain ⟨ee, e1, e2⟩ := all_of (A := A.in1) (s := s) h2.length k2.length fun j z1 z2 => by
          have := DVs.eq hl (A := A.in1) h2 k2 (by show A.units + 1 + deps ds < _; omega) j (by simpa using z1) (by simpa using z2)
          simpa using this
        exact ⟨_, by rw [e2]; simp, EqAt.of_refs q (RcAt.tuples (tup_of hl h1) (tup_of hl k1) (by omega) e1)⟩
theorem DVs.eq (hl : Le t (tups s.heap)) : ∀ {ds es : List D} {vs ws : List Value} {A : Around}, DVs t ds vs → DVs t es ws → A.units + deps ds < cLine → ∀ j (h1 : j < vs.length) (h2 : j < ws.length), ∃ b, (b = true ↔ ds[j]? = es[j]?) ∧ EqAt A s vs[j] ws[j] b
  | [], es, vs, ws, A, h, k, hu, j, h1, h2 => by unfold DVs at h; subst h; cases h1
  | d :: ds, es, vs, ws, A, h, k, hu, j, h1, h2 => by
    unfold DVs at h
    obtain ⟨v, r, rfl, h3, h4⟩ := h
    cases es with
    | nil => unfold DVs at k; subst k; cases h2
    | cons e es =>
      unfold DVs at k
      obtain ⟨v', r', rfl, k3, k4⟩ := k
      unfold deps at hu
      cases j with
      | zero =>
        obtain ⟨b, b1, b2⟩ := DV.eq hl (A := A) h3 k3 (by omega)
        exact ⟨b, by simpa using b1, b2⟩
      | succ j =>
        obtain ⟨b, b1, b2⟩ := DVs.eq hl (A := A) h4 k4 (by omega) j (Nat.lt_of_succ_lt_succ h1) (Nat.lt_of_succ_lt_succ h2)
        exact ⟨b, by simpa using b1, by simpa using b2⟩
end
end
end Mine
end
section
open PySem PySem.W PyProof.Rows PySem.Spec PySem.Calls
set_option Elab.async false
set_option maxRecDepth 100000
set_option maxHeartbeats 4000000
set_option linter.unusedVariables false
namespace Mine
section
open PySem.SeqAt
variable {A : Around} {s : Shared} {t : Heap}
noncomputable def Both (A : Around) (s : Shared) (v v' : Value) (p : Prop) : Prop := ∃ b, (b = true ↔ p) ∧ RcAt A s v v' b ∧ RcNeAt A s v v' (!b)
theorem DV.rc (hl : Le t (tups s.heap)) {d e : D} {v v' : Value} (h : DV t d v) (k : DV t e v') (hu : A.units + dep d < cLine) : Both A s v v' (d = e) := by
  cases d with
  | n =>
    unfold DV at h; subst h
    cases e with
    | n => unfold DV at k; subst k; exact ⟨true, by simp, RcAt.none_none, RcNeAt.none_none⟩
    | i x => unfold DV at k; obtain ⟨u, rfl⟩ := k; exact ⟨false, by simp, RcAt.none_int _ _, RcNeAt.none_int _ _⟩
    | s x => unfold DV at k; obtain ⟨u, rfl⟩ := k; exact ⟨false, by simp, RcAt.none_str _ _, RcNeAt.none_str _ _⟩
    | t es => unfold DV at k; obtain ⟨a, vs, rfl, k1, k2⟩ := k; exact ⟨false, by simp, RcAt.none_tuple (tup_of hl k1) (by omega), RcNeAt.none_tuple (tup_of hl k1) (by omega)⟩
  | i x =>
    unfold DV at h; obtain ⟨u, rfl⟩ := h
    cases e with
    | n => unfold DV at k; subst k; exact ⟨false, by simp, RcAt.int_none _ _, RcNeAt.int_none _ _⟩
    | i x => unfold DV at k; obtain ⟨u, rfl⟩ := k; exact ⟨_, by simp, RcAt.int_int _ _ _ _, RcNeAt.int_int _ _ _ _⟩
    | s x => unfold DV at k; obtain ⟨u, rfl⟩ := k; exact ⟨false, by simp, RcAt.int_str _ _ _ _, RcNeAt.int_str _ _ _ _⟩
    | t es => unfold DV at k; obtain ⟨a, vs, rfl, k1, k2⟩ := k; exact ⟨false, by simp, RcAt.int_tuple _ _ (tup_of hl k1) (by omega), RcNeAt.int_tuple _ _ (tup_of hl k1) (by omega)⟩
  | s x =>
    unfold DV at h; obtain ⟨u, rfl⟩ := h
    cases e with
    | n => unfold DV at k; subst k; exact ⟨false, by simp, RcAt.str_none _ _, RcNeAt.str_none _ _⟩
    | i x => unfold DV at k; obtain ⟨u, rfl⟩ := k; exact ⟨false, by simp, RcAt.str_int _ _ _ _, RcNeAt.str_int _ _ _ _⟩
    | s x => unfold DV at k; obtain ⟨u, rfl⟩ := k; exact ⟨_, by simp, RcAt.str_str _ _ _ _, RcNeAt.str_str _ _ _ _⟩
    | t es => unfold DV at k; obtain ⟨a, vs, rfl, k1, k2⟩ := k; exact ⟨false, by simp, RcAt.str_tuple _ _ (tup_of hl k1) (by omega), RcNeAt.str_tuple _ _ (tup_of hl k1) (by omega)⟩
  | t ds =>
    unfold DV at h; obtain ⟨a, vs, rfl, h1, h2⟩ := h
    unfold dep at hu
    cases e with
    | n => unfold DV at k; subst k; exact ⟨false, by simp, RcAt.tuple_none (tup_of hl h1) (by omega), RcNeAt.tuple_none (tup_of hl h1) (by omega)⟩
    | i x => unfold DV at k; obtain ⟨u, rfl⟩ := k; exact ⟨false, by simp, RcAt.tuple_int _ _ (tup_of hl h1) (by omega), RcNeAt.tuple_int _ _ (tup_of hl h1) (by omega)⟩
    | s x => unfold DV at k; obtain ⟨u, rfl⟩ := k; exact ⟨false, by simp, RcAt.tuple_str _ _ (tup_of hl h1) (by omega), RcNeAt.tuple_str _ _ (tup_of hl h1) (by omega)⟩
    | t es =>
      unfold DV at k; obtain ⟨b, ws, rfl, k1, k2⟩ := k
      obtain ⟨ee, e1, e2⟩ := all_of (A := A.in1) (s := s) h2.length k2.length fun j z1 z2 => by
        have := DVs.eq hl (A := A.in1) h2 k2 (by show A.units + 1 + deps ds < _; omega) j (by simpa using z1) (by simpa using z2)
        simpa using this
      exact ⟨_, by rw [e2]; simp, RcAt.tuples (tup_of hl h1) (tup_of hl k1) (by omega) e1, RcNeAt.tuples (tup_of hl h1) (tup_of hl k1) (by omega) e1⟩
theorem lists_rc (hl : Le t (tups s.heap)) {ds es : List D} {vs ws : List Value} {a b : Addr} (ha : s.heap.IsList a vs.toArray) (hb : s.heap.IsList b ws.toArray) (h : DVs t ds vs) (k : DVs t es ws) (hu : A.units + 1 + deps ds < cLine) : Both A s (.ref a) (.ref b) (ds = es) := by
  obtain ⟨ee, e1, e2⟩ := all_of (A := A.in1) (s := s) h.length k.length fun j z1 z2 => by
    have := DVs.eq hl (A := A.in1) h k hu j (by simpa using z1) (by simpa using z2)
    simpa using this
  by_cases q : vs.toArray.size = ws.toArray.size
  · rw [← q, Nat.min_self, beq_self_eq_true, Bool.and_true] at e2
    exact ⟨_, e2, RcAt.lists ha hb q (by omega) e1, RcNeAt.lists ha hb q (by omega) e1⟩
  · refine ⟨false, ⟨(fun z => nomatch z), fun z => absurd ?_ q⟩, RcAt.lists_lengths ha hb (by simpa using q) (by omega), RcNeAt.lists_lengths ha hb (by simpa using q) (by omega)⟩
    rw [List.size_toArray, List.size_toArray, h.length, k.length, z]
end
section
variable {c : Fx} {sc : List (Str × NameKind)} {s : Shared} {σ : St} {P : Value → St → Prop} {a b : Addr} {vs ws : List Value} {ds es : List D} {x y : Value} {d e : D} {n : Nat}
theorem raw_eqD (u : Up c n) (hn : n ≤ 900) (hx : DV σ.t d x) (hy : DV σ.t e y) (hd : dep d ≤ 9) (h : ∀ b, (b = true ↔ d = e) → P (.bool b) σ) : raw c (compareOp .Eq x y) P σ := fun s r => by
  obtain ⟨b, h1, h2, _⟩ := DV.rc (A := c.A) (s := s) r.V hx hy (by have := u.hu; show _ < 9900; omega)
  exact h2 _ _ _ _ (pst r (h b h1))
theorem raw_neDu (u : c.A.units ≤ 9000) (hx : DV σ.t d x) (hy : DV σ.t e y) (hd : dep d ≤ 9) (h : ∀ b, (b = true ↔ ¬ d = e) → P (.bool b) σ) : raw c (compareOp .NotEq x y) P σ := fun s r => by
  obtain ⟨b, h1, _, h2⟩ := DV.rc (A := c.A) (s := s) r.V hx hy (by show _ < 9900; omega)
  exact h2 _ _ _ _ (pst r (h (!b) (by rw [← h1]; cases b <;> simp)))
theorem raw_neD (u : Up c n) (hn : n ≤ 900) (hx : DV σ.t d x) (hy : DV σ.t e y) (hd : dep d ≤ 9) (h : ∀ b, (b = true ↔ ¬ d = e) → P (.bool b) σ) : raw c (compareOp .NotEq x y) P σ := raw_neDu (Nat.le_trans u.hu (Nat.mul_le_mul_left 10 hn)) hx hy hd h
theorem raw_eqLu (u : c.A.units ≤ 9000) (ha : HasL c σ a vs) (hb : HasL c σ b ws) (hx : DVs σ.t ds vs) (hy : DVs σ.t es ws) (hd : deps ds ≤ 9) (h : ∀ b, (b = true ↔ ds = es) → P (.bool b) σ) : raw c (compareOp .Eq (.ref a) (.ref b)) P σ := fun s r => by
  obtain ⟨b, h1, h2, _⟩ := lists_rc (A := c.A) (s := s) r.V (r.hasL ha) (r.hasL hb) hx hy (by show _ < 9900; omega)
  exact h2 _ _ _ _ (pst r (h b h1))
theorem raw_eqL (u : Up c n) (hn : n ≤ 900) (ha : HasL c σ a vs) (hb : HasL c σ b ws) (hx : DVs σ.t ds vs) (hy : DVs σ.t es ws) (hd : deps ds ≤ 9) (h : ∀ b, (b = true ↔ ds = es) → P (.bool b) σ) : raw c (compareOp .Eq (.ref a) (.ref b)) P σ := raw_eqLu (Nat.le_trans u.hu (Nat.mul_le_mul_left 10 hn)) ha hb hx hy hd h
theorem raw_neL (u : Up c n) (hn : n ≤ 900) (ha : HasL c σ a vs) (hb : HasL c σ b ws) (hx : DVs σ.t ds vs) (hy : DVs σ.t es ws) (hd : deps ds ≤ 9) (h : ∀ b, (b = true ↔ ¬ ds = es) → P (.bool b) σ) : raw c (compareOp .NotEq (.ref a) (.ref b)) P σ := fun s r => by
  obtain ⟨b, h1, _, h2⟩ := lists_rc (A := c.A) (s := s) r.V (r.hasL ha) (r.hasL hb) hx hy (by have := u.hu; show _ < 9900; omega)
  exact h2 _ _ _ _ (pst r (h (!b) (by rw [← h1]; cases b <;> simp)))
open PySem.SeqAt in
theorem hits {A : Around} {t : Heap} (hl : Le t (tups s.heap)) (h : DVs t ds vs) (k : DV t d x) (hu : A.units + deps ds < cLine) : ∃ e : Value → Bool, (∀ y, y ∈ vs.toArray → EqAt A s y x (e y)) ∧ (vs.toArray.any e = true ↔ d ∈ ds) := by
  classical
  have key : ∀ y, ∃ b, y ∈ vs → (b = true ↔ DV t d y) ∧ EqAt A s y x b := fun y => by
    by_cases hy : y ∈ vs
    · obtain ⟨i, hi, rfl⟩ := List.getElem_of_mem hy
      have hi' : i < ds.length := h.length ▸ hi
      have hd := h.at_ i hi' hi
      have := dep_mem hi'
      obtain ⟨b, b1, b2⟩ := hd.eq hl k (A := A) (by omega)
      exact ⟨b, fun _ => ⟨b1.trans ⟨fun q => q ▸ hd, fun q => hd.fun q⟩, b2⟩⟩
    · exact ⟨true, fun q => absurd q hy⟩
  refine ⟨fun y => (key y).choose, fun y hy => ((key y).choose_spec (by simpa using hy)).2, ?_⟩
  rw [Array.any_eq_true']
  constructor
  · rintro ⟨y, hy, q⟩
    have hy' : y ∈ vs := by simpa using hy
    have := ((key y).choose_spec hy').1.mp q
    obtain ⟨i, hi, rfl⟩ := List.getElem_of_mem hy'
    have hi' : i < ds.length := h.length ▸ hi
    rw [this.fun (h.at_ i hi' hi)]
    exact List.getElem_mem hi'
  · intro q
    obtain ⟨i, hi, rfl⟩ := List.getElem_of_mem q
    have hi' : i < vs.length := h.length ▸ hi
    exact ⟨vs[i], by simp, ((key _).choose_spec (List.getElem_mem hi')).1.mpr (h.at_ i hi hi')⟩
theorem raw_inDu (u : c.A.units ≤ 9000) (hS : Sq c σ a vs) (hv : DVs σ.t ds vs) (hx : DV σ.t d x) (hd : deps ds ≤ 9) (h : ∀ b, (b = true ↔ d ∈ ds) → P (.bool b) σ) : raw c (compareOp .In x (.ref a)) P σ := fun s r => by
  obtain ⟨e, e1, e2⟩ := hits (s := s) (A := c.A.in1) r.V hv hx (by show c.A.units + 1 + _ < 9900; omega)
  rcases hS with hS | hS
  · exact PySem.SeqAt.in_listAt e (r.hasL hS) e1 (pst r (h _ e2))
  · exact PySem.SeqAt.in_tupleAt e (r.tup hS) e1 (pst r (h _ e2))
theorem raw_inD (u : Up c n) (hn : n ≤ 900) (hS : Sq c σ a vs) (hv : DVs σ.t ds vs) (hx : DV σ.t d x) (hd : deps ds ≤ 9) (h : ∀ b, (b = true ↔ d ∈ ds) → P (.bool b) σ) : raw c (compareOp .In x (.ref a)) P σ := raw_inDu (Nat.le_trans u.hu (Nat.mul_le_mul_left 10 hn)) hS hv hx hd h
theorem raw_ninD (u : Up c n) (hn : n ≤ 900) (hS : Sq c σ a vs) (hv : DVs σ.t ds vs) (hx : DV σ.t d x) (hd : deps ds ≤ 9) (h : ∀ b, (b = true ↔ d ∉ ds) → P (.bool b) σ) : raw c (compareOp .NotIn x (.ref a)) P σ := fun s r => by
  obtain ⟨e, e1, e2⟩ := hits (s := s) (A := c.A.in1) r.V hv hx (by have := u.hu; show c.A.units + 1 + _ < 9900; omega)
  have e3 : (!vs.toArray.any e) = true ↔ d ∉ ds := by rw [← e2]; cases vs.toArray.any e <;> simp
  rcases hS with hS | hS
  · exact PySem.SeqAt.notIn_listAt e (r.hasL hS) e1 (pst r (h _ e3))
  · exact PySem.SeqAt.notIn_tupleAt e (r.tup hS) e1 (pst r (h _ e3))
theorem mem_i {x : Int} {ns : List Int} : D.i x ∈ ns.map D.i ↔ x ∈ ns := by simp
theorem deps_i (ns : List Int) : deps (ns.map D.i) = 0 := by
  induction ns with
  | nil => rfl
  | cons n r ih => rw [List.map_cons]; unfold deps; rw [ih]; rfl
theorem dvI {t : Heap} {x : Int} {u : Tok} : DV t (.i x) (.int x u) := by unfold DV; exact ⟨u, rfl⟩
theorem dvS {t : Heap} {x : Str} {u : Tok} : DV t (.s x) (.str x u) := by unfold DV; exact ⟨u, rfl⟩
theorem dvN {t : Heap} : DV t .n .none := by unfold DV; rfl
theorem raw_inI {ns : List Int} {x : Int} {t : Tok} (u : Up c n) (hn : n ≤ 900) (hS : Sq c σ a vs) (hI : IntsAre vs ns) (h : ∀ b, (b = true ↔ x ∈ ns) → P (.bool b) σ) : raw c (compareOp .In (.int x t) (.ref a)) P σ :=
  raw_inD u hn hS (ints_dvs hI) dvI (by rw [deps_i]; exact Nat.zero_le _) fun b hb => h b (hb.trans mem_i)
theorem raw_ninI {ns : List Int} {x : Int} {t : Tok} (u : Up c n) (hn : n ≤ 900) (hS : Sq c σ a vs) (hI : IntsAre vs ns) (h : ∀ b, (b = true ↔ x ∉ ns) → P (.bool b) σ) : raw c (compareOp .NotIn (.int x t) (.ref a)) P σ :=
  raw_ninD u hn hS (ints_dvs hI) dvI (by rw [deps_i]; exact Nat.zero_le _) fun b hb => h b (hb.trans (not_congr mem_i))
variable {l : Addr} {o : Obj}
theorem lst_notT (h : LstO o vs) : isT o = false := by unfold isT; rw [h.1]; rfl
theorem LstO.hasL (h : LstO o vs) (hm : Has c σ l o) : HasL c σ l vs := ⟨o, h.2.1.choose, hm, h.1, h.2.1.choose_spec⟩
theorem meth_list {name : Str} {id : String} (hm : Has c σ l o) (hl : LstO o vs) (slot : Slot "list" name id) (ty : typeOf (.builtin id) = pure (.type "method_descriptor")) : Meth c (.ref l) name (.builtin id) [.ref l] σ :=
  ⟨.bi _, fun s r pl Q' E' hq => getMethod_builtin (r.hasL (hl.hasL hm)).typeIs PySem.F.plainAttrs_list slot ty (fun a e => by cases e; exact ⟨o, r.has hm, hl.2.2⟩) (hq s.toks)⟩
theorem raw_append (i : Nat) (hi : σ.n[i]? = some (l, o)) (hl : LstO o vs) (hz : vs.length ≤ sizeLine) (h : ∀ o', LstO o' (vs ++ [x]) → P .none (σ.setN i l o')) : raw c (call (.builtin "list.append") [.ref l, x]) P σ := fun s r =>
  app_ (r.has (.inr (List.mem_of_getElem? hi))) hl hz fun h' o' ho' hl' hs => pst (r.upd (tk := s.toks) hi hs ho' (lst_notT hl)) (h o' hl')
theorem ext_meets {l b : Addr} {o ob : Obj} {xs ys : Array Value} {n nb : Nat} (hc : o.cls = .type "list") (hd : o.data = .seq xs n) (hcb : ob.cls = .type "list") (hdb : ob.data = .seq ys nb) (hsz : xs.size + ys.size ≤ sizeLine) :
    Meets (Builtin.«list.extend» ⟨[.ref l, .ref b], []⟩) (fun _ R s => s.heap.get? l = some o ∧ s.heap.get? b = some ob ∧ R (.ok (.ret Value.none)) { s with heap := s.heap.update l (Obj.mapSeq fun x => x ++ ys), toks := s.toks }) := .of_wp fun prog w A R s h => by
  obtain ⟨oc, od, oda, osl⟩ := o
  obtain ⟨bc, bd, bda, bsl⟩ := ob
  simp only at hc hd hcb hdb
  subst hc hd hcb hdb
  obtain ⟨hp, g, d, tk, os⟩ := s
  obtain ⟨hl, hb, h⟩ := h
  have hc0 := extend_door hsz
  have hc1 : xs.size ≤ sizeLine := by omega
  have hz' : (xs ++ ys).size ≤ sizeLine + 1 := by rw [Array.size_append]; omega
  have f3 := PySem.AutoSeq1.sub_list_list
  wp_walk using (wpAny_updateSeq hl rfl (hz := hc1) (_hz' := hz')), PySem.AutoSeq1.wpAny_loadPart' hl, PySem.AutoSeq1.wpAny_loadPart' hb
  exact ⟨_, rfl, h⟩
theorem raw_extend (i : Nat) (hi : σ.n[i]? = some (l, o)) (hl : LstO o vs) (hb : HasL c σ b ws) (hz : vs.length + ws.length ≤ 100000) (h : ∀ o', LstO o' (vs ++ ws) → P .none (σ.setN i l o')) : raw c (call (.builtin "list.extend") [.ref l, .ref b]) P σ := fun s r => by
  obtain ⟨ob, nb, hhb, hcb, hdb⟩ := hb
  obtain ⟨hc, ⟨n, hd⟩, hdi⟩ := hl
  have ho := r.has (.inr (List.mem_of_getElem? hi))
  have hob := r.has hhb
  have hsz : vs.length + ws.length ≤ sizeLine := Nat.le_trans hz (by rw [sizeLine_eq]; decide)
  obtain ⟨n', hd'⟩ := Obj.data_mapSeq hd (· ++ ws.toArray)
  have hT : s.TypeIs (.ref l) "list" := ⟨o, ho, hc⟩
  have sz : vs.toArray.size + ws.toArray.size ≤ sizeLine := by rw [List.size_toArray, List.size_toArray]; exact hsz
  exact call_meets PySem.F.slot_list_extend hT PySem.F.entry_list_extend (PySem.F.args_list_extend_2 _ _) (ext_meets hc hd hcb hdb sz) ⟨ho, hob, pst (r.upd (tk := s.toks) hi (Heap.SameBut.update ..) (Heap.get?_update_self _ ho (Obj.isFreed_of_seq hd')) (by unfold isT; rw [hc]; rfl)) (h _ ⟨(Obj.cls_mapSeq ..).trans hc, ⟨n', hd'.trans (by simp)⟩, (mapSeq_dict ..).trans hdi⟩)⟩
end
end Mine
end
section
open PySem PySem.W PyProof.Rows PySem.Spec PySem.Calls
set_option Elab.async false
set_option maxRecDepth 100000
set_option maxHeartbeats 4000000
set_option linter.unusedVariables false
namespace Mine
section
variable {c : Fx} {sc : List (Str × NameKind)} {s : Shared} {σ : St} {P : Value → St → Prop}
/-- a value that a text may bear -/
noncomputable def Told (v : Value) : Prop := (∃ a t, v = .int a t ∧ a.natAbs < 10 ^ 100) ∨ ∃ x t, v = .str x t ∧ x.length ≤ 1000
noncomputable def vJ (c : Fx) (sc : List (Str × NameKind)) : List Expr → (St → Prop) → St → Prop
  | [], Q, σ => Q σ
  | e :: r, Q, σ => match e with
    | .Constant (.str y) _ _ => y.length ≤ 1000 ∧ vJ c sc r Q σ
    | .FormattedValue e cv sp _ => (cv = -1 ∧ sp = none) ∧ vE c sc 40 e (fun v σ' => Told v ∧ vJ c sc r Q σ') σ
    | _ => False
theorem fits_ {out y : Str} {k : Nat} (h : out.length + 1000 * (k + 1) ≤ 20000) (hy : y.length ≤ 1000) : (out ++ y).length ≤ sizeLine ∧ (out ++ y).length + 1000 * k ≤ 20000 := by
  rw [strLen_append, sizeLine_eq]; omega
theorem join_ok (a : Act sc c) : ∀ (es : List Expr) (out : Str) (σ : St) (s : Shared), vJ c sc es (fun σ' => ∀ x t, P (.str x t) σ') σ → R c σ s → out.length + 1000 * es.length ≤ 20000 →
    wpAny (model PG c.w) c.A (joinParts out (evalEach es c.env)) (Post c P) c.E s
  | [], out, σ, s, h, r, hz => joinParts_nil (done r (h _ _) _) (by rw [sizeLine_eq]; omega)
  | e :: rest, out, σ, s, h, r, hz => by
    rw [List.length_cons] at hz
    refine joinParts_cons (x := eval e c.env) (rest := evalEach rest c.env) ?_
    unfold vJ at h
    split at h
    · obtain ⟨h1, h2⟩ := h
      obtain ⟨z1, z2⟩ := fits_ hz h1
      exact Constant_str ⟨z1, join_ok a rest _ σ _ h2 (r.tk _) z2⟩
    · obtain ⟨⟨rfl, rfl⟩, h2⟩ := h
      refine FormattedValue_plain (seq_ ((vET_sound a 40).1 _ _ _ _ h2 r) fun v σ₁ s₁ r₁ q₁ => ?_)
      obtain ⟨hv, q₁⟩ := q₁
      rcases hv with ⟨x, t, rfl, hx⟩ | ⟨x, t, rfl, hx⟩
      · have hlen := int_text_length_le10 (k := 100) (by decide) hx
        have hlog : x.natAbs.log2 < 1920 := by
          by_cases q : x.natAbs = 0
          · rw [q]; decide
          · exact (Nat.log2_lt q).mpr (Nat.lt_of_lt_of_le hx (by decide +kernel))
        obtain ⟨z1, z2⟩ := fits_ (y := Str.ofString (toString x)) hz (by rw [PySem.ofString_length]; omega)
        exact formatField_int_small hlog ⟨z1, join_ok a rest _ σ₁ _ q₁ ((r₁.tk _)) z2⟩
      · obtain ⟨z1, z2⟩ := fits_ hz hx
        exact formatField_str (fun t' tk => ⟨z1, join_ok a rest _ σ₁ _ q₁ (r₁.tk _) z2⟩) (by rw [sizeLine_eq]; omega)
    · exact h.elim
theorem raw_fstr {v₁ v₂ : Expr} {rest : List Expr} {pos : Pos} (a : Act sc c) (hl : rest.length ≤ 8) (h : vJ c sc (v₁ :: v₂ :: rest) (fun σ' => ∀ x t, P (.str x t) σ') σ) : raw c (eval (.JoinedStr (v₁ :: v₂ :: rest) pos) c.env) P σ := fun s r =>
  JoinedStr_many (join_ok a (v₁ :: v₂ :: rest) Str.empty σ s h r (by rw [List.length_cons, List.length_cons]; show 0 + _ ≤ _; omega))
/-- a value handed to several names -/
theorem raw_assignT {elts : List Expr} {k} {pos : Pos} {t : Addr} {vs : List Value} {Q : Unit → St → Prop} (hh : c.A.handled = none) (ht : TupAt σ.t t vs) (hn : (assignEach elts c.env).length = vs.length) (hstar : (assignEach elts c.env).findIdx? (·.1) = none)
    (h : raw c (assignInOrder ((assignEach elts c.env).map (·.2)) vs) Q σ) : raw c (assign (.Tuple elts k pos) c.env (.ref t)) Q σ := fun s r => by
  refine wpAny_assign_Tuple hh (r.tup ht) (by rw [List.size_toArray]; exact hn) hstar fun h' hx => ?_
  have r' : R c σ { s with heap := h' } := r.grow (tk := s.toks) (.of (fun b o e _ => hx b o (Nat.ne_of_lt (Heap.lt_size e)) e) fun x hx => (nomatch hx))
  have := h _ r'
  exact this
theorem raw_inOrder {f : Value → Sem Unit} {fs : List (Value → Sem Unit)} {v : Value} {vs : List Value} {Q : Unit → St → Prop} (h : raw c (f v) (fun _ σ' => raw c (assignInOrder fs vs) Q σ') σ) : raw c (assignInOrder (f :: fs) (v :: vs)) Q σ := fun s r => by
  show wpAny _ _ (holding vs (f v) >>= fun _ => assignInOrder fs vs) _ _ _
  exact wpAny_bind (wpAny_holding (seq_ (h s r) fun _ σ₁ s₁ r₁ q₁ => q₁ _ r₁))
theorem raw_inOrder0 {Q : Unit → St → Prop} (h : Q () σ) : raw c (assignInOrder [] []) Q σ := fun s r => wpAny_pure (pst r h)
theorem raw_AssignTup {elts : List Expr} {k} {tpos pos : Pos} {e : Expr} {Q : Flow → St → Prop} (a : Act sc c) (hs : swapsWithSole [.Tuple elts k tpos] e pos.line c.env = pure false) (hw : swappedStores [.Tuple elts k tpos] e c.env = pure none)
    (h : vE c sc 40 e (fun v σ₁ => raw c (assign (.Tuple elts k tpos) c.env v) (fun _ σ₂ => Q .next σ₂) σ₁) σ) : raw c (exec (.Assign [.Tuple elts k tpos] e pos) c.env) Q σ := fun s r =>
  Assign_Tuple (seq_ ((vET_sound a 40).1 _ _ _ _ h r) fun v σ₁ s₁ r₁ q₁ => seq_ (q₁ _ r₁) fun _ σ₂ s₂ r₂ q₂ => pst r₂ q₂) hs hw
end
end Mine
end
section
open PySem PySem.W PyProof.Rows PySem.Spec PySem.Calls
set_option Elab.async false
set_option maxRecDepth 100000
set_option maxHeartbeats 4000000
set_option linter.unusedVariables false
namespace Mine
noncomputable def clash (one other : List Int) (v : Int) : Prop := (v ∈ one ∧ -v ∈ other) ∨ (-v ∈ one ∧ v ∈ other)
noncomputable def resS (one other : List Int) (v x : Int) : Prop := (x ∈ one ∨ x ∈ other) ∧ x.natAbs ≠ v.natAbs
theorem cell_notT {o : Obj} {v : Option Value} (h : o.data = .cell v) : isT o = false := by unfold isT; rw [h, Bool.and_false]
theorem src_sq {c : Fx} {σ : St} {kk : List (Str × Addr × Option Value)} {l : Addr} {vs : List Value} (hh : c.A.handled = none) (hS : Sq c σ l vs) (hk : kk.Sublist σ.k) :
    ∃ X, Iter c (.ref l) vs.length (fun i x => vs[i]? = some x) X ∧ ∀ s, R c σ s → X s.heap ∧ ∀ h' : Heap, (∀ b o, s.heap.get? b = some o → b ∉ kk.map (·.2.1) → b ∉ frs c.S → h'.get? b = some o) → X h' := by
  rcases hS with hS | hS
  · refine ⟨_, iter_list hh l vs, fun s r => ⟨r.hasL hS, fun h' k => ?_⟩⟩
    obtain ⟨o, n, hm, hc, hd⟩ := hS
    refine ⟨o, k _ _ (r.has hm) (fun q => ?_) (r.off hm), hc, n, hd⟩
    obtain ⟨y, hy, e⟩ := List.mem_map.mp q
    obtain ⟨o', ho', hd'⟩ := (r.K y (hk.subset hy)).2.1
    rw [e, r.has hm] at ho'; cases ho'
    rw [hd] at hd'; cases hd'
  · refine ⟨_, iter_tuple hh l vs, fun s r => ⟨r.tup hS, fun h' k => ?_⟩⟩
    obtain ⟨o, n, e0, hc, hd⟩ := hS
    obtain ⟨e1, e2⟩ := tups_get.mp (r.V _ _ e0)
    refine ⟨o, k _ _ e1 (fun q => ?_) (fun q => ?_), hc, n, hd⟩
    · obtain ⟨y, hy, e⟩ := List.mem_map.mp q
      obtain ⟨o', ho', hd'⟩ := (r.K y (hk.subset hy)).2.1
      rw [e, e1] at ho'; cases ho'
      rw [hd] at hd'; cases hd'
    · obtain ⟨o', ho', p⟩ := frs_there r q
      rw [e1] at ho'; cases ho'
      rw [p.1] at e2; cases e2
theorem take_succ' {α : Type} [Inhabited α] {ns : List α} {i : Nat} {d : α} (h : i < ns.length) : ns.take (i + 1) = ns.take i ++ [ns.getD i d] := by
  rw [List.take_add_one, List.getElem?_eq_getElem h, List.getD_eq_getElem?_getD, List.getElem?_eq_getElem h]; rfl
theorem filt_next {acc : List Value} {ns : List Int} {i : Nat} {e : Int} (hJ : IntsAre acc ((ns.take i).filter (· != e))) (hi : i < ns.length) :
    ((ns.getD i 0 != e) = true → ∀ t, IntsAre (acc ++ [.int (ns.getD i 0) t]) ((ns.take (i + 1)).filter (· != e))) ∧ ((ns.getD i 0 != e) = false → IntsAre acc ((ns.take (i + 1)).filter (· != e))) := by
  rw [take_succ' (d := 0) hi, List.filter_append]
  constructor
  · intro h t
    rw [List.filter_cons_of_pos (p := (· != e)) h, List.filter_nil]
    exact hJ.append (.cons _ _ .nil)
  · intro h
    rw [List.filter_cons_of_neg (p := (· != e)) (by rw [h]; exact Bool.false_ne_true), List.filter_nil, List.append_nil]
    exact hJ
theorem res_of {one other : List Int} {v e : Int} (hT1 : Tidy one) (hT2 : Tidy other) (he : e = v ∨ e = -v) (h1 : e ∈ one) (h2 : -e ∈ other) (x : Int) : x ∈ one.filter (· != e) ++ other.filter (· != -e) ↔ resS one other v x := by
  have uniq : ∀ {cl : List Int}, Tidy cl → ∀ x y, x ∈ cl → y ∈ cl → x.natAbs = y.natAbs → x = y := by
    intro cl h x y hx hy q
    obtain ⟨i, hi, rfl⟩ := List.getElem_of_mem hx
    obtain ⟨j, hj, rfl⟩ := List.getElem_of_mem hy
    have := List.pairwise_iff_getElem.mp h.2
    rcases Nat.lt_trichotomy i j with z | z | z
    · exact absurd q (Nat.ne_of_lt (this i j hi hj z))
    · subst z; rfl
    · exact absurd q.symm (Nat.ne_of_lt (this j i hj hi z))
  have ev : e.natAbs = v.natAbs := by rcases he with rfl | rfl <;> omega
  unfold resS
  rw [List.mem_append, List.mem_filter, List.mem_filter, ← ev]
  constructor
  · rintro (⟨a, b⟩ | ⟨a, b⟩)
    · exact ⟨.inl a, fun q => by rw [uniq hT1 x e a h1 q] at b; simp at b⟩
    · exact ⟨.inr a, fun q => by rw [uniq hT2 x (-e) a h2 (by omega)] at b; simp at b⟩
  · rintro ⟨a | a, b⟩
    · exact .inl ⟨a, by simpa using fun q => b (by rw [q])⟩
    · exact .inr ⟨a, by simpa using fun q => b (by rw [q]; omega)⟩
section
variable {c : Fx} {sc : List (Str × NameKind)} {s : Shared} {σ : St} {P : Value → St → Prop}
theorem Act.swaps {elt : Expr} {gs : List Comprehension} {scope : Scope} {pos py : Pos} {y : Str} {l : Nat} (a : Act sc c) (hy : lk sc y = some .local) (hp : (py.line == pos.line && !(scope.names.any fun x => x.1 == y && (x.2 == .local || x.2 == .cell))) = true) :
    swapsWith (.ListComp elt gs scope pos) (some (.Name y py)) l c.env = pure true := by
  show pure (c.env.blockKind == .function && c.env.kindOf y == some .local && py.line == pos.line && _) = _
  have e1 : (c.env.blockKind == .function) = true := by unfold Env.blockKind; rw [a.fk]; rfl
  have e2 : (c.env.kindOf y == some .local) = true := by rw [a.kind hy]; rfl
  rw [e1, e2, Bool.true_and, Bool.true_and]
  exact congrArg _ hp
/-- an exception of the number k leaves the call -/
noncomputable def Flies (c : Fx) (σ : St) (k : Int) : Prop := ∀ s e s₂, R c σ s → Lift s s₂ → Exn c.w s.heap (frs c.S) e k (some .none) s₂.heap → c.E (.ref e) s₂
theorem resolve_ok {l1 l2 : Addr} {vs1 vs2 : List Value} {one other : List Int} {v : Int} {t0 : Tok} (a : Act sc c) (u : Up c 750) (h1 : TupAt σ.t l1 vs1) (h2 : TupAt σ.t l2 vs2) (hI1 : IntsAre vs1 one) (hI2 : IntsAre vs2 other)
    (hL1 : ∀ x ∈ one, Lit x) (hL2 : ∀ x ∈ other, Lit x) (hT1 : Tidy one) (hT2 : Tidy other) (hn1 : one.length ≤ 100) (hn2 : other.length ≤ 100) (hv : v.natAbs < 10 ^ 100)
    (hc : clash one other v → ∀ w r t', Nrm (resS one other v) r → OT t' w r → Le σ.t t' → P w (σ.setT t')) (hno : ¬ clash one other v → Flies c σ (-1)) : raw c (call (.ref 98) [.ref l1, .ref l2, .int v t0]) P σ := by
  refine enter [] a u (by simp) .nil (by simp) (by k_is) (by k_is) (Nat.le_of_ble_eq_true rfl) (fun _ => BindsTo.of_eq rfl) (by rfl) (by decide) (by rfl) (by rfl) (by rfl) ?_
  intro s c' tv r I QF hQ
  have g1 := h1.up r I
  have g2 := h2.up r I
  have fin : ∀ e, (e = v ∨ e = -v) → e ∈ one → -e ∈ other → clash one other v → ∀ w rr m n k t, Nrm (· ∈ one.filter (· != e) ++ other.filter (· != -e)) rr → OT t w rr → QF (.ret w) ⟨m, n, k, t⟩ := fun e he m1 m2 hcl w rr m n k t hN hO => hQ _ _ fun s' Z S N O V => by
    obtain ⟨r', l'⟩ := r.back0 Z S
    refine pst r' (hc hcl w rr _ ?_ ?_ l')
    · cases rr with
      | none => obtain ⟨x, a, b⟩ := hN; exact ⟨x, (res_of hT1 hT2 he m1 m2 x).mp a, (res_of hT1 hT2 he m1 m2 _).mp b⟩
      | some cl => exact ⟨fun x a b => hN.1 x ((res_of hT1 hT2 he m1 m2 x).mpr a) ((res_of hT1 hT2 he m1 m2 _).mpr b), hN.2.1, fun x => (hN.2.2 x).trans (res_of hT1 hT2 he m1 m2 x)⟩
    · cases rr with
      | none => exact hO
      | some cl => exact CT.le hO V
  refine raw_inI I.u (by decide) (.inr g1) hI1 fun b1 hb1 => ?_
  refine (fun (hB : ¬(v ∈ one ∧ -v ∈ other) → _) => ⟨fun q1 t1 => raw_inI I.u (by decide) (.inr g2) hI2 fun b2 hb2 => ⟨fun q2 => ?c1, fun q2 => hB fun z => (nomatch q2.symm.trans (hb2.mpr z.2))⟩, fun q1 => ⟨(fun q => nomatch q), fun _ => hB fun z => (nomatch q1.symm.trans (hb1.mpr z.1))⟩⟩) fun n1 => ?c2
  case c1 =>
    refine raw_AssignComp [(Str.ofString "variable", c'.L + 1, some (.int v t0))] I.a I.u (fun x => rfl) (fun s r => closure_cells r (by rfl)) (List.forall_mem_singleton.mpr rfl) (by rfl) (by decide) (by decide) ?_ (by rfl) (I.a.swaps (by rfl) (by rfl))
    obtain ⟨X, hIt, hX⟩ := src_sq (c := c') (σ := ⟨_, _, kc c'.L _ _, tv⟩) I.u.hh (.inr g1) (.refl _)
    refine ⟨.refl _, vs1.length, _, X, by rw [hI1.length, sizeLine_eq]; omega, hIt, hX, fun i t acc => IntsAre acc ((one.take i).filter (· != v)), fun _ _ _ _ _ h => h, fun _ _ => .nil, ?_, ?_⟩
    · intro s c2 t i x acc J oJ D oD rr G a2 u2 hi hx hJ
      have hi' : i < one.length := hI1.length ▸ hi
      obtain ⟨t6, hx'⟩ := ints_at hI1 hi'
      rw [hx] at hx'; cases hx'
      obtain ⟨f1, f2⟩ := filt_next hJ hi'
      refine raw_sto a2 ⟨fun q => ⟨⟨.refl _, rfl⟩, f1 q _⟩, fun q => ⟨⟨.refl _, rfl⟩, f2 q⟩⟩
    · intro t acc D oD hle hacc hlen' hLo hND
      rw [hI1.length, List.take_length] at hacc
      refine ⟨_, _, meth_list (.inr (.head _)) hLo PySem.F.slot_list_extend PySem.F.type_list_extend, ?_⟩
      refine raw_comp [(Str.ofString "variable", c'.L + 1, some (.int v t0))] I.a I.u (fun x => rfl) (fun s r => closure_cells r (by rfl)) (List.forall_mem_singleton.mpr rfl) (by rfl) (by decide) (by decide) ?_
      obtain ⟨X, hIt, hX⟩ := src_sq (c := c') (σ := ⟨_, [(D, oD)], kc c'.L _ _, t⟩) I.u.hh (.inr (g2.le hle)) (.refl _)
      refine ⟨.refl _, vs2.length, _, X, by rw [hI2.length, sizeLine_eq]; omega, hIt, hX, fun i t acc => IntsAre acc ((other.take i).filter (· != -v)), fun _ _ _ _ _ h => h, fun _ _ => .nil, ?_, ?_⟩
      · intro s c2 t i x acc J oJ D oD rr G a2 u2 hi hx hJ
        have hi' : i < other.length := hI2.length ▸ hi
        obtain ⟨t6, hx'⟩ := ints_at hI2 hi'
        rw [hx] at hx'; cases hx'
        obtain ⟨f1, f2⟩ := filt_next hJ hi'
        refine raw_sto a2 fun _ => ⟨fun q => ⟨⟨.refl _, rfl⟩, f1 q _⟩, fun q => ⟨⟨.refl _, rfl⟩, f2 q⟩⟩
      · intro t2 acc2 D2 oD2 hle2 hacc2 hlen2 hLo2 hND2
        rw [hI2.length, List.take_length] at hacc2
        have z1 := List.length_filter_le (· != v) one
        have z2 := List.length_filter_le (· != -v) other
        have z3 := hacc.length
        have z4 := hacc2.length
        refine raw_extend (vs := acc) (ws := acc2) 1 rfl hLo (hLo2.hasL (.inr (.head _))) (by omega) fun o' hLo' => ?_
        refine ⟨.own (by k_is), ?_⟩
        refine tidy_ok I.a (I.u.le (by decide)) (hLo'.hasL (.inr (.tail _ (.head _)))) (hacc.append hacc2) (by rw [List.length_append]; omega) (fun x hx => ?_) fun w rr t' hN hO hle3 => fin v (.inl rfl) (hb1.mp q1) (hb2.mp q2) (.inl ⟨hb1.mp q1, hb2.mp q2⟩) w rr _ _ _ _ hN hO
        rcases List.mem_append.mp hx with q | q
        · exact hL1 x (List.mem_filter.mp q).1
        · exact hL2 x (List.mem_filter.mp q).1
  case c2 =>
    intro t1
    refine raw_inI I.u (by decide) (.inr g1) hI1 fun b3 hb3 => ?_
    refine (fun (hB : ¬(-v ∈ one ∧ v ∈ other) → _) => ⟨fun q3 => raw_inI I.u (by decide) (.inr g2) hI2 fun b4 hb4 => ⟨fun q4 => ?c3, fun q4 => hB fun z => (nomatch q4.symm.trans (hb4.mpr z.2))⟩, fun q3 => ⟨(fun q => nomatch q), fun _ => hB fun z => (nomatch q3.symm.trans (hb3.mpr z.1))⟩⟩) fun n2 => ?c4
    case c3 =>
      refine raw_AssignComp [(Str.ofString "variable", c'.L + 1, some (.int v t0))] I.a I.u (fun x => rfl) (fun s r => closure_cells r (by rfl)) (List.forall_mem_singleton.mpr rfl) (by rfl) (by decide) (by decide) ?_ (by rfl) (I.a.swaps (by rfl) (by rfl))
      obtain ⟨X, hIt, hX⟩ := src_sq (c := c') (σ := ⟨_, _, kc c'.L _ _, tv⟩) I.u.hh (.inr g1) (.refl _)
      refine ⟨.refl _, vs1.length, _, X, by rw [hI1.length, sizeLine_eq]; omega, hIt, hX, fun i t acc => IntsAre acc ((one.take i).filter (· != -v)), fun _ _ _ _ _ h => h, fun _ _ => .nil, ?_, ?_⟩
      · intro s c2 t i x acc J oJ D oD rr G a2 u2 hi hx hJ
        have hi' : i < one.length := hI1.length ▸ hi
        obtain ⟨t6, hx'⟩ := ints_at hI1 hi'
        rw [hx] at hx'; cases hx'
        obtain ⟨f1, f2⟩ := filt_next hJ hi'
        refine raw_sto a2 fun _ => ⟨fun q => ⟨⟨.refl _, rfl⟩, f1 q _⟩, fun q => ⟨⟨.refl _, rfl⟩, f2 q⟩⟩
      · intro t acc D oD hle hacc hlen' hLo hND
        rw [hI1.length, List.take_length] at hacc
        refine ⟨_, _, meth_list (.inr (.head _)) hLo PySem.F.slot_list_extend PySem.F.type_list_extend, ?_⟩
        refine raw_comp [(Str.ofString "variable", c'.L + 1, some (.int v t0))] I.a I.u (fun x => rfl) (fun s r => closure_cells r (by rfl)) (List.forall_mem_singleton.mpr rfl) (by rfl) (by decide) (by decide) ?_
        obtain ⟨X, hIt, hX⟩ := src_sq (c := c') (σ := ⟨_, [(D, oD)], kc c'.L _ _, t⟩) I.u.hh (.inr (g2.le hle)) (.refl _)
        refine ⟨.refl _, vs2.length, _, X, by rw [hI2.length, sizeLine_eq]; omega, hIt, hX, fun i t acc => IntsAre acc ((other.take i).filter (· != v)), fun _ _ _ _ _ h => h, fun _ _ => .nil, ?_, ?_⟩
        · intro s c2 t i x acc J oJ D oD rr G a2 u2 hi hx hJ
          have hi' : i < other.length := hI2.length ▸ hi
          obtain ⟨t6, hx'⟩ := ints_at hI2 hi'
          rw [hx] at hx'; cases hx'
          obtain ⟨f1, f2⟩ := filt_next hJ hi'
          refine raw_sto a2 ⟨fun q => ⟨⟨.refl _, rfl⟩, f1 q _⟩, fun q => ⟨⟨.refl _, rfl⟩, f2 q⟩⟩
        · intro t2 acc2 D2 oD2 hle2 hacc2 hlen2 hLo2 hND2
          rw [hI2.length, List.take_length] at hacc2
          have z1 := List.length_filter_le (· != -v) one
          have z2 := List.length_filter_le (· != v) other
          have z3 := hacc.length
          have z4 := hacc2.length
          refine raw_extend (vs := acc) (ws := acc2) 1 rfl hLo (hLo2.hasL (.inr (.head _))) (by omega) fun o' hLo' => ?_
          refine ⟨.own (by k_is), ?_⟩
          refine tidy_ok I.a (I.u.le (by decide)) (hLo'.hasL (.inr (.tail _ (.head _)))) (hacc.append hacc2) (by rw [List.length_append]; omega) (fun x hx => ?_) fun w rr t' hN hO hle3 => fin (-v) (.inr rfl) (hb3.mp q3) (by rw [Int.neg_neg]; exact hb4.mp q4) (.inr ⟨hb3.mp q3, hb4.mp q4⟩) w rr _ _ _ _ (by rw [Int.neg_neg]; exact hN) hO
          rcases List.mem_append.mp hx with q | q
          · exact hL1 x (List.mem_filter.mp q).1
          · exact hL2 x (List.mem_filter.mp q).1
    case c4 =>
      refine raw_Raise I.a I.u (by decide) (by rfl) ⟨rfl, ?_⟩
      refine raw_fstr I.a (by decide) ⟨by decide, ⟨rfl, rfl⟩, .inl ⟨v, t0, rfl, hv⟩, fun x tx => ?_⟩
      intro t2 t3
      refine ⟨_, _, _, rfl, fun s1 e s2 r1 hz hE => ?_⟩
      refine I.leave r r1 (fun b hb => nomatch hb) (I.w ▸ hE) hz fun s'' hz' hE' => hno (fun q => q.elim n1 n2) s e s'' r hz' hE'
end
end Mine
end
section
open PySem PySem.W PyProof.Rows PySem.Spec PySem.Calls
set_option Elab.async false
set_option maxRecDepth 100000
set_option maxHeartbeats 4000000
set_option linter.unusedVariables false
namespace Mine
section
variable {c : Fx} {sc : List (Str × NameKind)} {s : Shared} {σ : St} {P : Value → St → Prop} {U : Unit → St → Prop}
theorem raw_weak {α : Type} {t : Sem α} {Q : α → St → Prop} {σ' : St} (l : Less σ' σ) (h : raw c t Q σ') : raw c t Q σ := fun s r => h s (r.less l)
theorem vSs_weak {sts : List Stmt} {Q : Flow → St → Prop} {σ' : St} (a : Act sc c) (l : Less σ' σ) (h : vSs c sc 60 sts Q σ') : raw c (execs sts c.env) Q σ := fun s r => (vS_sound a a.int 60).2 _ _ _ _ h (r.less l)
noncomputable def dumE (sc : List (Str × NameKind)) : Env := { scope := { kind := .function, names := sc, isGenerator := false, isCoroutine := false, more := [] }, locals := 0, globals := 0, cells := [], code := .none }
theorem Act.stores (a : Act sc c) (ts : List Expr) (v : Expr) : swappedStores ts v c.env = swappedStores ts v (dumE sc) := by
  have e1 : c.env.blockKind = (dumE sc).blockKind := by unfold Env.blockKind; rw [a.fk]; rfl
  have e2 : c.env.kindOf = (dumE sc).kindOf := by funext x; show c.env.scope.names.lookup x = _; rw [a.sc]; rfl
  unfold swappedStores
  rw [e1, e2]
theorem raw_AssignSwap {x y : Str} {px py tp pos : Pos} {k} {e : Expr} {Q : Flow → St → Prop} (a : Act sc c) (hh : c.A.handled = none) (hx : lk sc x = some .local) (hy : lk sc y = some .local) (hs : swapsWithSole [.Tuple [.Name x px, .Name y py] k tp] e pos.line c.env = pure false) (hw : swappedStores [.Tuple [.Name x px, .Name y py] k tp] e (dumE sc) = pure (some [x, y]))
    (h : vE c sc 40 e (fun v σ₁ => ∃ t w1 w2, v = .ref t ∧ TupAt σ₁.t t [w1, w2] ∧ Q .next ((σ₁.setM y w2).setM x w1)) σ) : raw c (exec (.Assign [.Tuple [.Name x px, .Name y py] k tp] e pos) c.env) Q σ := fun s r => by
  refine Assign_Tuple_swapped (names := [x, y]) (hs := hs) (hw := (a.stores _ _).trans hw) (seq_ ((vET_sound a 40).1 _ _ _ _ h r) fun v σ₁ s₁ r₁ q₁ => ?_)
  obtain ⟨t, w1, w2, rfl, ht, q₁⟩ := q₁
  have e : ([x, y] : List Str).length = ([w1, w2] : List Value).toArray.size := rfl
  rw [e]
  refine wpAny_unpackItems_tuple hh (r₁.tup ht) fun h' hx' => ?_
  have r₂ : R c σ₁ { s₁ with heap := h' } := r₁.grow (tk := s₁.toks) (.of (fun b o e _ => hx' b o (Nat.ne_of_lt (Heap.lt_size e)) e) fun x hx => (nomatch hx))
  have st : ∀ (z : Str) (v : Value) (σ : St) (s : Shared) (K : Unit → Shared → Prop), lk sc z = some .local → R c σ s → (∀ s', R c (σ.setM z v) s' → K () s') → wpAny (model PG c.w) c.A (bindName c.env z v) K c.E s := fun z v σ s K hz r hK =>
    bindName_ (wpAny_mono (vSto_sound a (Q := fun _ σ' => σ' = σ.setM z v) (by unfold vSto; rw [hz]) r) (fun _ s' p => by obtain ⟨_, r', rfl⟩ := p; exact hK s' r') fun _ _ e => e)
  have fin : wpAny (model PG c.w) c.A (assignInOrder [fun v => bindName c.env y v, fun v => bindName c.env x v] [w2, w1]) (fun _ s' => Post c Q .next s') c.E { s₁ with heap := h' } := by
    unfold assignInOrder
    refine wpAny_bind (wpAny_holding (st y w2 σ₁ _ _ hy r₂ fun s₃ r₃ => ?_))
    unfold assignInOrder
    refine wpAny_bind (wpAny_holding (st x w1 _ _ _ hx r₃ fun s₄ r₄ => ?_))
    unfold assignInOrder
    exact wpAny_pure (pst r₄ q₁)
  exact fin
theorem raw_isN {v : Value} (h0 : v = .none → P (.bool true) σ) (h1 : v ≠ .none → P (.bool false) σ) : raw c (compareOp .Is v .none) P σ := fun s r => by
  by_cases q : v = .none
  · subst q; exact wpAny_is_self rfl (pst r (h0 rfl))
  · exact is_none_ne q (pst r (h1 q))
theorem raw_isnN {v : Value} (h0 : v = .none → P (.bool false) σ) (h1 : v ≠ .none → P (.bool true) σ) : raw c (compareOp .IsNot v .none) P σ := fun s r => by
  by_cases q : v = .none
  · subst q; exact wpAny_isNot_self rfl (pst r (h0 rfl))
  · exact isnot_none_ne q (pst r (h1 q))
theorem raw_dpop {d : Addr} {o : Obj} {kvs : List (Int × Value)} {k : Int} {t : Tok} {x : Value} (i : Nat) (hi : σ.n[i]? = some (d, o)) (hd : o.IsDictOf (intKind PG c.w) kvs) (hz : kvs.length ≤ 1000) (hv : valueAt kvs k = some x)
    (h : ∀ o', o'.IsDictOf (intKind PG c.w) (without kvs k) → P x (σ.setN i d o')) : raw c (call (.builtin "dict.pop") [.ref d, .int k t]) P σ := fun s r =>
  call_meetsIn PySem.F.slot_dict_pop (r.dict (.inr (List.mem_of_getElem? hi)) hd).typeIs PySem.F.entry_dict_pop (PySem.F.args_dict_pop_2 _ _) (meets_dict_pop_there (intKind PG c.w) d (k := k) (key := .int k t) (isInt_is k t) [] (.inl rfl) rfl)
    ⟨kvs, x, r.dict (.inr (List.mem_of_getElem? hi)) hd, Nat.le_trans hz (by rw [sizeLine_eq]; decide), hv, fun h' hmm hs => by
      obtain ⟨o', ho', hd'⟩ := Heap.dictOf_iff.mp hmm
      exact pst (r.upd (tk := s.toks + 1) hi hs ho' (dict_notT hd)) (h o' hd')⟩
end
noncomputable def mdel (m : List (Int × Int)) (k : Int) : List (Int × Int) := m.filter fun p => decide (p.1 ≠ k)
theorem KV.del {kvs : List (Int × Value)} {m : List (Int × Int)} (h : KV kvs m) (k : Int) : KV (without kvs k) (mdel m k) := by
  unfold without mdel
  induction h with
  | nil => exact .nil
  | cons k' n t h ih =>
    rw [List.filter_cons, List.filter_cons]
    split
    · exact .cons _ _ _ ih
    · exact ih
theorem mget_del (m : List (Int × Int)) (k x : Int) : mget (mdel m k) x = if x = k then none else mget m x := by
  unfold mdel
  induction m with
  | nil => split <;> rfl
  | cons p r ih =>
    obtain ⟨a, b⟩ := p
    rw [List.filter_cons]
    by_cases q : a = k
    · rw [if_neg (by simp [q]), ih]
      by_cases z : x = k
      · rw [if_pos z, if_pos z]
      · rw [if_neg z, if_neg z]
        show _ = if a = x then some b else mget r x
        rw [if_neg fun w => z (w.symm.trans q)]
    · rw [if_pos (by simp [q])]
      show (if a = x then some b else mget _ x) = _
      rw [ih]
      by_cases z : x = k
      · rw [if_pos z, if_neg fun w => q (w.trans z), if_pos z]
      · rw [if_neg z, if_neg z]; rfl
theorem tab_del {m : List (Int × Int)} (h : TabOk m) (k : Int) : TabOk (mdel m k) ∧ ∀ x, tabHas (mdel m k) x ↔ tabHas m x ∧ (x.natAbs : Int) ≠ k := by
  refine ⟨⟨?_, fun p hp => h.ok p (List.mem_filter.mp hp).1⟩, fun x => ?_⟩
  · exact h.nd.sublist (List.filter_sublist.map _)
  · unfold tabHas
    rw [mget_del]
    by_cases q : (x.natAbs : Int) = k
    · rw [if_pos q]
      exact ⟨fun ⟨_, z, _⟩ => (nomatch z), fun z => absurd q z.2⟩
    · rw [if_neg q]
      exact ⟨fun z => ⟨z, q⟩, fun z => z.1⟩
theorem tab_get {ns : List Int} (hT : Tidy ns) {v : Int} (hv : 0 < v) : (v ∈ ns → (mget (tabOf ns) v).getD 0 = 1) ∧ (-v ∈ ns → (mget (tabOf ns) v).getD 0 = 2) ∧ (v ∉ ns → -v ∉ ns → (mget (tabOf ns) v).getD 0 = 0) := by
  obtain ⟨ok, has⟩ := tabOf_has hT.1
  have both : v ∈ ns → -v ∈ ns → False := fun a b => by
    obtain ⟨i, hi, e1⟩ := List.getElem_of_mem a
    obtain ⟨j, hj, e2⟩ := List.getElem_of_mem b
    have := List.pairwise_iff_getElem.mp hT.2
    rcases Nat.lt_trichotomy i j with z | z | z
    · have := this i j hi hj z; rw [e1, e2] at this; omega
    · subst z; rw [e1] at e2; omega
    · have := this j i hj hi z; rw [e1, e2] at this; omega
  have w1 : way v = 1 := by unfold way; rw [if_pos hv]
  have w2 : way (-v) = 2 := by unfold way; rw [if_neg (by omega)]
  have a1 : ((v.natAbs : Nat) : Int) = v := by omega
  have a2 : (((-v).natAbs : Nat) : Int) = v := by omega
  have h1 := has v
  have h2 := has (-v)
  unfold tabHas at h1 h2
  rw [a1, w1] at h1
  rw [a2, w2] at h2
  cases q : mget (tabOf ns) v with
  | none =>
    rw [q] at h1 h2
    refine ⟨fun z => ?_, fun z => ?_, fun _ _ => rfl⟩
    · obtain ⟨_, w, _⟩ := h1.mpr z; cases w
    · obtain ⟨_, w, _⟩ := h2.mpr z; cases w
  | some g =>
    rw [q] at h1 h2
    have og := (ok.ok _ (mget_mem q)).2
    rcases og with rfl | rfl | rfl
    · have z := h1.mp ⟨1, rfl, .inl rfl⟩
      exact ⟨fun _ => rfl, fun y => (both z y).elim, fun y => absurd z y⟩
    · have z := h2.mp ⟨2, rfl, .inl rfl⟩
      exact ⟨fun y => (both y z).elim, fun _ => rfl, fun _ y => absurd z y⟩
    · exact (both (h1.mp ⟨3, rfl, .inr rfl⟩) (h2.mp ⟨3, rfl, .inr rfl⟩)).elim
/-- the two ways of a height in two lists: sorted they are 1, 2 exactly at a clash -/
theorem clash_ways {one other : List Int} (h1 : Tidy one) (h2 : Tidy other) {v : Int} (hv : 0 < v) {ns : List Int} (hp : ns.Perm [(mget (tabOf one) v).getD 0, (mget (tabOf other) v).getD 0]) (hs : ns.Pairwise (· ≤ ·)) : ns = [1, 2] ↔ clash one other v := by
  obtain ⟨a1, a2, a3⟩ := tab_get h1 hv
  obtain ⟨b1, b2, b3⟩ := tab_get h2 hv
  have key : ∀ x y : Int, ns.Perm [x, y] → (ns = [1, 2] ↔ (x = 1 ∧ y = 2) ∨ (x = 2 ∧ y = 1)) := fun x y p => by
    constructor
    · rintro rfl
      have m1 := p.mem_iff (a := 1)
      have m2 := p.mem_iff (a := 2)
      have m3 := p.mem_iff (a := x)
      have m4 := p.mem_iff (a := y)
      simp only [List.mem_cons, List.not_mem_nil, or_false, true_or, or_true, true_iff, iff_true] at m1 m2 m3 m4
      omega
    · intro q
      have p' : ns.Perm [1, 2] := by
        rcases q with ⟨rfl, rfl⟩ | ⟨rfl, rfl⟩
        · exact p
        · exact p.trans (List.Perm.swap ..)
      exact List.Perm.eq_of_pairwise (le := (· ≤ ·)) (fun a b _ _ h1 h2 => Int.le_antisymm h1 h2) hs (by decide) p'
  rw [key _ _ hp]
  unfold clash
  by_cases p1 : v ∈ one
  · rw [a1 p1]
    by_cases q2 : -v ∈ other
    · rw [b2 q2]; exact ⟨fun _ => .inl ⟨p1, q2⟩, fun _ => .inl ⟨rfl, rfl⟩⟩
    · have nb : (mget (tabOf other) v).getD 0 ≠ 2 := by
        by_cases q1 : v ∈ other
        · rw [b1 q1]; decide
        · rw [b3 q1 q2]; decide
      have nn : -v ∉ one := fun z => by rw [a1 p1] at a2; cases a2 z
      exact ⟨fun q => absurd q (by rintro (⟨_, z⟩ | ⟨z, _⟩); exact nb z; cases z), fun q => absurd q (by rintro (⟨_, z⟩ | ⟨z, _⟩); exact q2 z; exact nn z)⟩
  · by_cases p2 : -v ∈ one
    · rw [a2 p2]
      by_cases q1 : v ∈ other
      · rw [b1 q1]; exact ⟨fun _ => .inr ⟨p2, q1⟩, fun _ => .inr ⟨rfl, rfl⟩⟩
      · have nb : (mget (tabOf other) v).getD 0 ≠ 1 := by
          by_cases q2 : -v ∈ other
          · rw [b2 q2]; decide
          · rw [b3 q1 q2]; decide
        exact ⟨fun q => absurd q (by rintro (⟨z, _⟩ | ⟨_, z⟩); cases z; exact nb z), fun q => absurd q (by rintro (⟨z, _⟩ | ⟨_, z⟩); exact p1 z; exact q1 z)⟩
    · rw [a3 p1 p2]
      exact ⟨fun q => absurd q (by rintro (⟨z, _⟩ | ⟨z, _⟩) <;> cases z), fun q => absurd q (by rintro (⟨z, _⟩ | ⟨z, _⟩); exact p1 z; exact p2 z)⟩
end Mine
end
section
open PySem PySem.W PyProof.Rows PySem.Spec PySem.Calls
set_option Elab.async false
set_option maxRecDepth 100000
set_option maxHeartbeats 4000000
set_option linter.unusedVariables false
namespace Mine
inductive LR where
  | pivot
  | always
  | cl (ns : List Int)
/-- what is left of two clauses, as the law says it -/
noncomputable def LV (t : Heap) (v : Value) : LR → Prop
  | .pivot => ∃ u, v = .str (Str.ofString "pivot") u
  | .always => ∃ u, v = .str (Str.ofString "always") u
  | .cl ns => CT t v ns
noncomputable def LeftP (one other : List Int) (v : Int) : LR → Prop
  | .pivot => ¬ clash one other v
  | .always => clash one other v ∧ Nrm (resS one other v) none
  | .cl ns => clash one other v ∧ Nrm (resS one other v) (some ns)
theorem LV.le {t t' : Heap} {v : Value} {r : LR} (h : LV t v r) (l : Le t t') : LV t' v r := by
  cases r with
  | pivot => exact h
  | always => exact h
  | cl ns => exact CT.le h l
theorem kv_at {kvs : List (Int × Value)} {m : List (Int × Int)} (h : KV kvs m) : ∀ {i : Nat} {k : Int} {x : Value}, kvs[i]? = some (k, x) → ∃ n t, m[i]? = some (k, n) ∧ x = .int n t := by
  induction h with
  | nil => intro i k x h; cases h
  | cons k' n t h ih =>
    intro i k x hx
    cases i with
    | zero => cases hx; exact ⟨n, t, rfl, rfl⟩
    | succ i => exact ih hx
/-- the ways of a table's first i rows -/
noncomputable def tabS (m : List (Int × Int)) (i : Nat) (x : Int) : Prop := ∃ b, (((x.natAbs : Nat) : Int), b) ∈ m.take i ∧ (b = way x ∨ b = 3)
theorem tabS_all {m : List (Int × Int)} (h : TabOk m) (x : Int) : tabS m m.length x ↔ tabHas m x := by
  unfold tabS tabHas
  rw [List.take_length]
  exact ⟨fun ⟨b, h1, h2⟩ => ⟨b, mem_mget h.nd h1, h2⟩, fun ⟨b, h1, h2⟩ => ⟨b, mget_mem h1, h2⟩⟩
theorem nrm_iff {S S' : Int → Prop} {r : Option (List Int)} (h : Nrm S r) (e : ∀ x, S x ↔ S' x) : Nrm S' r := by
  cases r with
  | none => obtain ⟨x, a, b⟩ := h; exact ⟨x, (e x).mp a, (e _).mp b⟩
  | some cl => exact ⟨fun x a b => h.1 x ((e x).mpr a) ((e _).mpr b), h.2.1, fun x => (h.2.2 x).trans (e x)⟩
section
variable {c : Fx} {sc : List (Str × NameKind)} {s : Shared} {σ : St} {P : Value → St → Prop}
theorem i_inj {ns ms : List Int} : ns.map D.i = ms.map D.i ↔ ns = ms := by
  constructor
  · intro h
    have := congrArg (List.map fun d => match d with | D.i x => x | _ => 0) h
    simpa [List.map_map, Function.comp_def] using this
  · rintro rfl; rfl
theorem lst_has {a : Addr} {vs : List Value} (h : Has c σ a (lstObj vs)) : HasL c σ a vs := ⟨_, _, h, rfl, rfl⟩
theorem left_ok {l1 l2 : Addr} {vs1 vs2 : List Value} {one other : List Int} {v : Int} {t0 : Tok} (a : Act sc c) (u : Up c 700) (h1 : TupAt σ.t l1 vs1) (h2 : TupAt σ.t l2 vs2) (hI1 : IntsAre vs1 one) (hI2 : IntsAre vs2 other)
    (hT1 : Tidy one) (hT2 : Tidy other) (hn1 : one.length ≤ 20) (hn2 : other.length ≤ 20) (hv : 0 < v) (h : ∀ w r t', LeftP one other v r → LV t' w r → Le σ.t t' → P w (σ.setT t')) : raw c (call (.ref 199) [.ref l1, .ref l2, .int v t0]) P σ := by
  refine enter [] a u (by simp) .nil (by simp) (by k_is) (by k_is) (Nat.le_of_ble_eq_true rfl) (fun _ => BindsTo.of_eq rfl) (by rfl) (by decide) (by rfl) (by rfl) (by rfl) ?_
  intro s c' tv r I QF hQ
  have g1 := h1.up r I
  have g2 := h2.up r I
  have fin : ∀ w rr m n k t, LeftP one other v rr → LV t w rr → QF (.ret w) ⟨m, n, k, t⟩ := fun w rr m n k t hN hO => hQ _ _ fun s' Z S N O V => by
    obtain ⟨r', l'⟩ := r.back0 Z S
    exact pst r' (h w rr _ hN (hO.le V) l')
  obtain ⟨ok1, has1⟩ := tabOf_has hT1.1
  obtain ⟨ok2, has2⟩ := tabOf_has hT2.1
  have len1 : (tabOf one).length ≤ 20 := by have := foldl_tab_len one []; unfold tabOf; simp at this; omega
  have len2 : (tabOf other).length ≤ 20 := by have := foldl_tab_len other []; unfold tabOf; simp at this; omega
  refine raw_AssignSwap I.a I.u.hh (by rfl) (by rfl) (by rfl) (by rfl) ?_
  refine ⟨.own (by k_is), ?_⟩
  refine table_ok I.a (I.u.le (by decide)) (.inr g1) hI1 (by omega) fun d1 o1 t1 hN1 low1 hO1 le1 => ?_
  refine ⟨.own (by k_is), ?_⟩
  refine table_ok I.a (I.u.le (by decide)) (.inr (g2.le le1)) hI2 (by omega) fun d2 o2 t2 hN2 low2 hO2 le2 => ?_
  obtain ⟨kv1, hD1, hK1⟩ := hO1
  obtain ⟨kv2, hD2, hK2⟩ := hO2
  refine ⟨Nat.le_of_ble_eq_true rfl, fun tp t3 le3 hget => ⟨tp, _, _, rfl, .of hget, ?_⟩⟩
  refine ⟨.bi _, ?_⟩
  refine ⟨_, _, meth_dict (.inr (.tail _ (.head _))) hD1 PySem.F.slot_dict_get PySem.F.type_dict_get, fun t4 => ?_⟩
  refine raw_dget (.inr (.tail _ (.head _))) hD1 (k := v) (isInt_is v t0) low1 ?_
  obtain ⟨w1, tw1, e1, em1⟩ := hK1.getD v t4
  rw [e1]
  refine ⟨_, _, meth_dict (.inr (.head _)) hD2 PySem.F.slot_dict_get PySem.F.type_dict_get, fun t5 => ?_⟩
  refine raw_dget (.inr (.head _)) hD2 (k := v) (isInt_is v t0) low2 ?_
  obtain ⟨w2, tw2, e2, em2⟩ := hK2.getD v t5
  rw [e2]
  refine ⟨Nat.le_of_ble_eq_true rfl, fun L hNL => ?_⟩
  refine raw_sortedL (ns := [w1, w2]) (lst_has (.inr (.head _))) (.cons _ _ (.cons _ _ .nil)) (Nat.lt_of_sub_eq_succ rfl) fun L2 o2' vs' ns' hN2' hLo hI hp hs => ?_
  rw [← em1, ← em2] at hp
  have hcl := clash_ways hT1 hT2 hv hp hs
  intro t6 t7
  refine ⟨Nat.le_of_ble_eq_true rfl, fun L3 hN3 => ?_⟩
  refine raw_neL I.u (by decide) (hLo.hasL (.inr (.tail _ (.head _)))) (lst_has (.inr (.head _))) (ints_dvs hI) (ints_dvs (.cons 1 t6 (.cons 2 t7 .nil))) (by rw [deps_i]; exact Nat.zero_le _) fun b hb => ?_
  have hb' : b = true ↔ ¬ clash one other v := hb.trans (not_congr (i_inj.trans hcl))
  refine ⟨fun q t8 => fin _ .pivot _ _ _ _ (hb'.mp q) ⟨t8, rfl⟩, fun q => ?_⟩
  have hc : clash one other v := Classical.byContradiction fun z => (nomatch q.symm.trans (hb'.mpr z))
  refine raw_weak (σ' := ⟨[(Str.ofString "first", .ref d1), (Str.ofString "second", .ref d2), (Str.ofString "var", .int v t0)], [(d2, o2), (d1, o1)], kc c'.L _ _, t3⟩) ⟨lk_sub (List.forall_mem_cons.mpr ⟨rfl, List.forall_mem_cons.mpr ⟨rfl, List.forall_mem_singleton.mpr rfl⟩⟩), .cons _ (.cons _ (.cons _ (.refl _))), rfl, Le.refl _⟩ ?_
  refine raw_For I.a I.a.int I.p I.u.hh (fun x => rfl) ?_
  refine ⟨kv2.length, _, _, iter_dict I.u.hh d2 o2 hD2 low2, fun i σ => σ.m = [(Str.ofString "first", .ref d1), (Str.ofString "second", .ref d2), (Str.ofString "var", .int v t0)] ∧ (∃ o1 kv m, σ.n = [(d2, o2), (d1, o1)] ∧ o1.IsDictOf (intKind PG c'.w) kv ∧ KV kv m ∧ TabOk m ∧ (∀ x, tabHas m x ↔ x ∈ one ∨ tabS (tabOf other) i x) ∧ m.length ≤ 20 + i) ∧ σ.t = t3,
    ⟨rfl, ⟨o1, kv1, _, rfl, hD1, hK1, ok1, fun x => (has1 x).trans ⟨.inl, fun q => q.elim id fun ⟨b, z, _⟩ => (nomatch z)⟩, len1⟩, rfl⟩, ?_, ?_, ?_⟩
  · rintro i σ s ⟨_, ⟨o1, kv, m, hn, _⟩, _⟩ r
    exact (r.N _ (by rw [hn]; exact .head _)).1
  · rintro i x J oJ ⟨m, n, k, t⟩ hi ⟨key, val, hkv, hkx⟩ ⟨hm, ⟨o1', kv, mm, hn, hD, hK, ok, has, hlen⟩, ht⟩ hnew
    cases hm; cases hn; cases ht
    obtain ⟨tk, rfl⟩ := Value.isInt_shape hkx
    obtain ⟨b, tb, hb, rfl⟩ := kv_at hK2 hkv
    have hbm : (key, b) ∈ tabOf other := List.mem_of_getElem? hb
    have bok := ok2.ok _ hbm
    have hbg := mem_mget ok2.nd hbm
    obtain ⟨b', tb', hv2, hg2⟩ : ∃ n t, valueAt kv2 key = some (.int n t) ∧ mget (tabOf other) key = some n := (hK2.get key).elim (fun q => (nomatch hbg.symm.trans q.2)) id
    have ebb : b' = b := Option.some.inj (hg2.symm.trans hbg)
    subst ebb
    refine raw_sto I.a ?_
    refine ⟨_, _, meth_dict (.inr (.tail _ (.head _))) hD PySem.F.slot_dict_get PySem.F.type_dict_get, fun t9 => ?_⟩
    refine raw_dget (.inr (.tail _ (.head _))) hD (k := key) (isInt_is key tk) low1 ?_
    obtain ⟨g, tg, eg, emg⟩ := hK.getD key t9
    rw [eg]
    refine raw_getdict (.inr (.head _)) hD2 (k := key) (isInt_is key tk) hv2 ?_ rfl
    intro t10
    have hz : kv.length ≤ 1000 := by
      have := hK.length
      have := hK2.length
      omega
    refine raw_setdict 1 rfl hD (k := key) (isInt_is key tk) (Nat.le_trans hz (by rw [sizeLine_eq]; decide)) fun o' hD' => ?_
    refine LoopEnd.nx (n := [(d2, o2), (d1, o')]) ⟨⟨[(Str.ofString "first", .ref d1), (Str.ofString "second", .ref d2), (Str.ofString "var", .int v t0)], [(d2, o2), (d1, o')], k, _⟩, ⟨lk_sub (List.forall_mem_cons.mpr ⟨rfl, List.forall_mem_cons.mpr ⟨rfl, List.forall_mem_singleton.mpr rfl⟩⟩), .refl _, rfl, Le.refl _⟩, rfl, ⟨o', _, mput mm key (Builtin.bitOr ((mget mm key).getD 0) b'), rfl, hD', ?_, ?_, ?_, ?_⟩, rfl⟩
    · rw [emg]; exact hK.put _ _ _
    · exact (has_put ok bok.1 bok.2 (fun x => ((x.natAbs : Nat) : Int) = key ∧ (b' = way x ∨ b' = 3)) fun x => Iff.rfl).1
    · intro x
      refine ((has_put ok bok.1 bok.2 (fun x => ((x.natAbs : Nat) : Int) = key ∧ (b' = way x ∨ b' = 3)) fun x => Iff.rfl).2 x).trans ?_
      rw [has x, or_assoc]
      refine or_congr Iff.rfl ?_
      have et : (tabOf other).take (i + 1) = (tabOf other).take i ++ [(key, b')] := by rw [List.take_add_one, hb]; rfl
      unfold tabS
      rw [et]
      constructor
      · rintro (⟨y, h1, h2⟩ | ⟨h1, h2⟩)
        · exact ⟨y, List.mem_append_left _ h1, h2⟩
        · exact ⟨b', List.mem_append_right _ (by rw [h1]; exact .head _), h2⟩
      · rintro ⟨y, h1, h2⟩
        rcases List.mem_append.mp h1 with z | z
        · exact .inl ⟨y, z, h2⟩
        · have z' := List.mem_singleton.mp z
          rw [Prod.mk.injEq] at z'
          exact .inr ⟨z'.1, z'.2 ▸ h2⟩
    · have := mput_len mm key (Builtin.bitOr ((mget mm key).getD 0) b')
      omega
  · rintro ⟨m, n, k, t⟩ ⟨hm, ⟨o1', kv, mm, hn, hD, hK, ok, has, hlen⟩, ht⟩
    cases hm; cases hn; cases ht
    have hl2 := hK2.length
    have hl := hK.length
    rw [hl2] at has hlen
    have has' : ∀ x, tabHas mm x ↔ x ∈ one ∨ x ∈ other := fun x => (has x).trans (or_congr Iff.rfl ((tabS_all ok2 x).trans (has2 x)))
    have hvs : ∃ n t, valueAt kv v = some (.int n t) := by
      have : ∃ w, mget mm v = some w := by
        rcases hc with ⟨z, _⟩ | ⟨z, _⟩
        · obtain ⟨w, hw, _⟩ := (has' v).mpr (.inl z)
          rw [show ((v.natAbs : Nat) : Int) = v by omega] at hw; exact ⟨w, hw⟩
        · obtain ⟨w, hw, _⟩ := (has' (-v)).mpr (.inl z)
          rw [show (((-v).natAbs : Nat) : Int) = v by omega] at hw; exact ⟨w, hw⟩
      obtain ⟨w, hw⟩ := this
      rcases hK.get v with ⟨_, q⟩ | ⟨n, t, q, _⟩
      · rw [hw] at q; cases q
      · exact ⟨n, t, q⟩
    obtain ⟨nv, tv', hvv⟩ := hvs
    refine ⟨_, _, meth_dict (.inr (.tail _ (.head _))) hD PySem.F.slot_dict_pop PySem.F.type_dict_pop, ?_⟩
    refine raw_dpop 1 rfl hD (by omega) hvv fun o' hD' => ?_
    obtain ⟨okd, hasd⟩ := tab_del ok v
    refine ⟨.own (by k_is), ?_⟩
    refine clause_ok I.a (I.u.le (by decide)) (.inr (.tail _ (.head _))) ⟨_, hD', hK.del v⟩ low1 okd (Nat.lt_of_le_of_lt (List.length_filter_le _ _) (by omega)) fun w rr t' hN hO hle => ?_
    have hN' : Nrm (resS one other v) rr := nrm_iff hN fun x => (hasd x).trans (by rw [has' x]; unfold resS; exact and_congr Iff.rfl (by omega))
    cases rr with
    | none =>
      cases hO
      exact raw_isN (fun _ => ⟨fun _ t11 => fin _ .always _ _ _ _ ⟨hc, hN'⟩ ⟨t11, rfl⟩, fun q => (nomatch q)⟩) fun q => absurd rfl q
    | some cl =>
      have hO' := hO
      obtain ⟨ac, vc, rfl, _⟩ := hO'
      exact raw_isN (fun q => (nomatch q)) fun _ => ⟨(fun q => nomatch q), fun _ => fin _ (.cl cl) _ _ _ _ ⟨hc, hN'⟩ hO⟩
end
end Mine
end
section
open PySem PySem.W PyProof.Rows PySem.Spec PySem.Calls
set_option Elab.async false
set_option maxRecDepth 100000
set_option maxHeartbeats 4000000
set_option linter.unusedVariables false
namespace Mine
section
variable {c : Fx} {sc : List (Str × NameKind)} {s : Shared} {σ : St} {P : Value → St → Prop}
theorem raw_floordiv {x y : Int} {t u : Tok} (hy : y ≠ 0) (hy' : y.natAbs < 1000) (h : ∀ t, P (.int (x.fdiv y) t) σ) : raw c (binaryOp .FloorDiv (.int x t) (.int y u)) P σ := fun s r => PyProof.Rows.floordiv_int hy (done r (h _) _) (.inl (PyProof.noPylong_small (by omega)))
theorem map_setN {l : List (Addr × Obj)} {i : Nat} {a : Addr} {o o' : Obj} (h : l[i]? = some (a, o)) : (l.set i (a, o')).map (·.1) = l.map (·.1) := by
  rw [List.map_set]
  obtain ⟨h1, e1⟩ := List.getElem?_eq_some_iff.mp h
  refine List.ext_getElem? fun j => ?_
  rw [List.getElem?_set]
  split
  · rename_i q; subst q; rw [List.getElem?_map, h, List.length_map, if_pos h1]; rfl
  · rfl
theorem NewAt.setN {i : Nat} {a b : Addr} {o o' : Obj} (h : NewAt b σ) (hi : σ.n[i]? = some (a, o)) : NewAt b (σ.setN i a o') := by
  show b ∉ (σ.n.set i (a, o')).map (·.1) ++ _
  rw [map_setN hi]; exact h
/-- a call that altered one object and hands on a new one -/
theorem Fin.one {c' : Fx} {W : List Addr} {n : Nat} {t : Heap} {sc' : List (Str × NameKind)} {i : Nat} {a l : Addr} {o o' ol : Obj} {s' : Shared} (I : In c sc' s W c' n t) (r : R c σ s) (hi : σ.n[i]? = some (a, o)) (Z : Lift s s') (S : GF s.heap s'.heap [a] (frs c.S)) (ho' : s'.heap.get? a = some o') (ht : isT o = false)
    (hl : s'.heap.get? l = some ol) (hlo : Own c'.h c'.L l) (hlf : l ∉ frs c.S) (hW : l ∉ W) : R c (((σ.setN i a o').addN l ol).setT (tups s'.heap)) s' ∧ Le σ.t (tups s'.heap) ∧ NewAt l σ := by
  obtain ⟨r', l'⟩ := r.back1 hi Z S ho' ht
  obtain ⟨f1, f2, f3⟩ := fresh_own r (I.fresh hlo.2 hW hlf)
  exact ⟨r'.more hl f1 (NewAt.setN (σ := σ) f2 hi) f3, l', f2⟩
noncomputable def Lits (ps lits : List Int) : Prop := ∀ x ∈ lits, ∃ p ∈ ps, x = p ∨ x = -p
theorem literals_ok {fd lc lp : Addr} {o : Obj} {k : Int} {vs pv : List Value} {ns ps : List Int} (i : Nat) (a : Act sc c) (u : Up c 700) (hi : σ.n[i]? = some (fd, o)) (hF : FeedO c.w o lc k) (hL : HasL c σ lc vs) (hI : IntsAre vs ns) (hn : ns.length ≤ 48)
    (h0 : 0 ≤ k) (hk : k ≤ 900) (hP : TupAt σ.t lp pv) (hPI : IntsAre pv ps) (hp0 : 0 < ps.length) (hp4 : ps.length ≤ 4)
    (h : ∀ l ol o' lv lits k' t', NewAt l σ → LstO ol lv → IntsAre lv lits → lits.length ≤ 4 → Lits ps lits → FeedO c.w o' lc k' → k ≤ k' → k' ≤ k + 5 → Le σ.t t' → P (.ref l) (((σ.setN i fd o').addN l ol).setT t')) :
    raw c (call (.ref 206) [.ref fd, .ref lp]) P σ := by
  have hd := hF
  obtain ⟨t00, hd⟩ := hd
  refine enter [(fd, o)] a u (List.forall_mem_singleton.mpr (List.mem_of_getElem? hi)) (List.nodup_cons.mpr ⟨List.not_mem_nil, .nil⟩) (List.forall_mem_singleton.mpr (dict_notT hd)) (by k_is) (by k_is) (Nat.le_of_ble_eq_true rfl) (fun _ => BindsTo.of_eq rfl) (by rfl) (by exact .nil) (by rfl) (by rfl) (by rfl) ?_
  intro s c' tv r I QF hQ
  have gP := hP.up r I
  have hL' : ∀ σ', HasL c' σ' lc vs := fun σ' => hL.enter r I (hL.ne r (.inr (List.mem_of_getElem? hi)) hd)
  refine ⟨Nat.zero_le _, fun l hNl => ?_⟩
  refine raw_For I.a I.a.int I.p I.u.hh (fun x => rfl) ?_
  refine ⟨.ty _, ?_⟩
  intro t1
  refine ⟨.own (by k_is), ?_⟩
  intro t2
  refine next_ok (ns := ns) 1 I.a (I.u.le (by decide)) rfl (I.w ▸ hF) (hL' _) hI hn h0 (by omega) (by decide) fun rr tr o1 t1' hr0 hr4 hF1 le1 => ?_
  intro t3
  refine raw_range fun rg u1 u2 u3 hNr => ?_
  have hrr : (1 + rr).toNat = 1 + rr.toNat := by omega
  refine ⟨1 + rr.toNat, _, _, iter_rg (a := 0) (b := 1 + rr) (t := u1) (u := u2) (v := u3) I.u.hh rg (by decide) (by omega) (by split <;> omega) (by decide) (by omega), fun i σ => σ.m = [(Str.ofString "found", .ref l), (Str.ofString "pool", .ref lp), (Str.ofString "feed", .ref fd)] ∧
    (∃ ol o' lv lits k', σ.n = [(rg, rgO 0 (1 + rr) u1 u2 u3), (l, ol), (fd, o')] ∧ LstO ol lv ∧ IntsAre lv lits ∧ lits.length ≤ i ∧ Lits ps lits ∧ FeedO c'.w o' lc k' ∧ k ≤ k' ∧ k' ≤ k + 1 + i) ∧ Le tv σ.t, ?_, ?_, ?_, ?_⟩
  · exact ⟨rfl, ⟨lstObj [], o1, [], [], k + 1, rfl, ⟨rfl, ⟨_, rfl⟩, rfl⟩, .nil, Nat.le_refl _, (fun x hx => nomatch hx), hF1, by omega, by omega⟩, le1⟩
  · rintro i σ s ⟨_, ⟨_, _, _, _, _, hn, _⟩, _⟩ r
    exact (r.N _ (by rw [hn]; exact .head _)).1
  · rintro i x J oJ ⟨m, n, kk, t⟩ hi' hx ⟨hm, ⟨ol, o', lv, lits, k', hn', hLo, hLi, hll, hlp, hF', hk1, hk2⟩, hle⟩ hnew
    obtain ⟨t5, rfl⟩ := hx
    cases hm; cases hn'
    have hplen := hPI.length
    refine raw_sto I.a ?_
    refine ⟨.own (by k_is), ?_⟩
    intro t6
    refine ⟨.bi _, ?_⟩
    refine raw_len (t₀ := tv) (.inr gP) hle (by rw [hplen, sizeLine_eq]; omega) fun t7 => ⟨IntMulOk.of_left (intBits_le_64 (by decide) (by decide)), fun t8 => ?_⟩
    refine next_ok (ns := ns) 2 I.a (I.u.le (by decide)) rfl hF' (hL' _) hI hn (by omega) (by omega) (by omega) fun code tc o2 t2' hc0 hc1 hF2 le2 => ?_
    refine ⟨_, _, meth_list (.inr (.tail _ (.head _))) hLo PySem.F.slot_list_append PySem.F.type_list_append, ?_⟩
    intro t9
    refine ⟨by decide, fun t10 t11 => ?_⟩
    have hgp : ∀ (j : Nat), j < ps.length → ∃ t, pv[j]? = some (.int (ps.getD j 0) t) := fun j hj => ints_at hPI hj
    have hmem : ∀ j, j < ps.length → ps.getD j 0 ∈ ps := fun j hj => by rw [List.getD_eq_getElem?_getD, List.getElem?_eq_getElem hj]; exact List.getElem_mem hj
    have hdv : (code.fdiv 2).toNat < ps.length ∧ 0 ≤ code.fdiv 2 := by
      rw [hplen] at hc1
      have e := Int.fdiv_eq_ediv_of_nonneg code (show (0 : Int) ≤ 2 by decide)
      rw [e]; omega
    obtain ⟨tq, hq⟩ := hgp _ hdv.1
    have nxt : ∀ (x : Int), (x = ps.getD (code.fdiv 2).toNat 0 ∨ x = -ps.getD (code.fdiv 2).toNat 0) → ∀ (tx : Tok) (ol' : Obj) (m' : List (Str × Value)) (Q' : Flow → St → Prop), (∀ y v, lk [(Str.ofString "found", Value.ref l), (Str.ofString "pool", Value.ref lp), (Str.ofString "feed", Value.ref fd)] y = some v → lk m' y = some v) → LstO ol' (lv ++ [.int x tx]) → ∀ t', Le t2' t' →
        LoopEnd J oJ (fun σ => σ.m = [(Str.ofString "found", .ref l), (Str.ofString "pool", .ref lp), (Str.ofString "feed", .ref fd)] ∧
          (∃ ol o' lv lits k', σ.n = [(rg, rgO 0 (1 + rr) u1 u2 u3), (l, ol), (fd, o')] ∧ LstO ol lv ∧ IntsAre lv lits ∧ lits.length ≤ i + 1 ∧ Lits ps lits ∧ FeedO c'.w o' lc k' ∧ k ≤ k' ∧ k' ≤ k + 1 + (i + 1 : Nat)) ∧ Le tv σ.t) Q' .next ⟨m', [(rg, rgO 0 (1 + rr) u1 u2 u3), (l, ol'), (fd, o2)] ++ [(J, oJ)], kk, t'⟩ := fun x hx tx ol' m' Q' hm' hLo' t' hle' => by
      refine LoopEnd.next ⟨_, [(rg, rgO 0 (1 + rr) u1 u2 u3), (l, ol'), (fd, o2)], kk, t'⟩ ⟨hm', .refl _, rfl, Le.refl _⟩ ⟨rfl, ⟨ol', o2, _, lits ++ [x], k' + 1, rfl, hLo', hLi.append (.cons _ _ .nil), by rw [List.length_append]; exact Nat.succ_le_succ hll, fun z hz => ?_, hF2, by omega, by omega⟩, (hle.trans le2).trans hle'⟩
      rcases List.mem_append.mp hz with q | q
      · exact hlp z q
      · rw [List.mem_singleton.mp q]; exact ⟨_, hmem _ hdv.1, hx⟩
    have hz : lv.length ≤ sizeLine := by rw [hLi.length, sizeLine_eq]; omega
    have sub : ∀ p ∈ [(Str.ofString "found", Value.ref l), (Str.ofString "pool", Value.ref lp), (Str.ofString "feed", Value.ref fd)], lk ((Str.ofString "code", Value.int code tc) :: (Str.ofString "lap", Value.int (0 + ↑i) t5) :: [(Str.ofString "found", Value.ref l), (Str.ofString "pool", Value.ref lp), (Str.ofString "feed", Value.ref fd)]) p.1 = some p.2 :=
      List.forall_mem_cons.mpr ⟨rfl, List.forall_mem_cons.mpr ⟨rfl, List.forall_mem_singleton.mpr rfl⟩⟩
    refine ⟨fun _ t12 => raw_floordiv (by decide) (by decide) fun t13 => raw_get (t₀ := tv) (.inr gP) (hle.trans le2) hdv.2 (by omega) hq ?_ rfl, fun _ t12 => raw_floordiv (by decide) (by decide) fun t13 => raw_get (t₀ := tv) (.inr gP) (hle.trans le2) hdv.2 (by omega) hq (fun t14 => ?_) rfl⟩
    · exact raw_append 1 rfl hLo hz fun ol' hLo' => nxt _ (.inl rfl) _ ol' _ _ (lk_sub sub) hLo' _ (Le.refl _)
    · exact raw_append 1 rfl hLo hz fun ol' hLo' => nxt _ (.inr rfl) _ ol' _ _ (lk_sub sub) hLo' _ (Le.refl _)
  · rintro ⟨m, n, kk, t⟩ ⟨hm, ⟨ol, o', lv, lits, k', hn', hLo, hLi, hll, hlp, hF', hk1, hk2⟩, hle⟩
    cases hm; cases hn'
    refine hQ _ _ fun s' Z S N O V => ?_
    have nl := N _ (.tail _ (.head _))
    have nf := N _ (.tail _ (.tail _ (.head _)))
    obtain ⟨r', l', f2⟩ := Fin.one I r hi Z S nf.1 (dict_notT hd) nl.1 nl.2 (O _ (.tail _ (.head _))) fun q => by
      have e := nl.1
      rw [List.mem_singleton.mp q, nf.1] at e
      cases e
      obtain ⟨_, hF''⟩ := hF'
      obtain ⟨_, _, _, h3, _⟩ := hF''
      obtain ⟨_, ⟨_, h4⟩, _⟩ := hLo
      rw [h4] at h3; cases h3
    exact pst r' (h l ol o' lv lits k' _ f2 hLo hLi (by omega) hlp (I.w ▸ hF') hk1 (by omega) l')
end
end Mine
end
section
open PySem PySem.W PyProof.Rows PySem.Spec PySem.Calls Builtin Builtin.ObjectAttr
set_option Elab.async false
set_option maxRecDepth 100000
set_option linter.unusedVariables false
namespace Mine
theorem S_ga (w : World) : findIn (hd.heap_1 w.params) (.ref 169) "__getattribute__" = some (some (.builtin "object.__getattribute__")) := by k_is
theorem S_gb (w : World) : findIn (hd.heap_1 w.params) (.ref 169) "__getattr__" = some none := by k_is
theorem S_sa (w : World) : findIn (hd.heap_1 w.params) (.ref 169) "__setattr__" = some (some (.builtin "object.__setattr__")) := by k_is
theorem S_hd (w : World) : hasDictIn (hd.heap_1 w.params) 169 = true := by k_is
theorem S_po (w : World) : plainOver (hd.heap_1 w.params) 169 = true := by k_is
noncomputable def fSteps : Str := Str.ofString "steps"
noncomputable def fNamed : Str := Str.ofString "named"
noncomputable def fEmpty : Str := Str.ofString "empty"
theorem S_f (w : World) : findIn (hd.heap_1 w.params) (.ref 169) fSteps = some none ∧ findIn (hd.heap_1 w.params) (.ref 169) fNamed = some none ∧ findIn (hd.heap_1 w.params) (.ref 169) fEmpty = some none := ⟨by unfold fSteps; k_is, by unfold fNamed; k_is, by unfold fEmpty; k_is⟩
noncomputable def sDict (w : World) (a b e : Value) (t1 t2 t3 : Tok) : List DictEntry := [⟨PyData.keyHash w.params fSteps, .str fSteps t1, a⟩, ⟨PyData.keyHash w.params fNamed, .str fNamed t2, b⟩, ⟨PyData.keyHash w.params fEmpty, .str fEmpty t3, e⟩]
/-- the dict of a Steps -/
noncomputable def StO (w : World) (o : Obj) (ls ln : Addr) (em : Int) : Prop := ∃ te t1 t2 t3 n, o = dictOf (sDict w (.ref ls) (.ref ln) (.int em te) t1 t2 t3) n
theorem StO.notT {w : World} {o : Obj} {ls ln : Addr} {em : Int} (h : StO w o ls ln em) : isT o = false := by obtain ⟨_, _, _, _, _, rfl⟩ := h; rfl
section
variable {c : Fx} {sc : List (Str × NameKind)} {s : Shared} {σ : St} {P : Value → St → Prop} {x dx ls ln : Addr} {od : Obj} {em : Int}
/-- an object of Steps that the call may read -/
structure Inst (c : Fx) (σ : St) (x dx : Addr) (od : Obj) (ls ln : Addr) (em : Int) : Prop where
  i : Has c σ x (instObj 169 dx)
  d : Has c σ dx od
  o : StO c.w od ls ln em
theorem Inst.at_ (I : Inst c σ x dx od ls ln em) (r : R c σ s) : W.InstAt s.heap x (instObj 169 dx) 169 (some od) := ⟨r.has I.i, rfl, rfl, r.has I.d⟩
theorem raw_getA {name : Str} {v : Value} (a : Act sc c) (I : Inst c σ x dx od ls ln em) (hn : findIn (hd.heap_1 c.w.params) (.ref 169) name = some none) (hl : lookIn name od = some (some v)) (hh : handedIn v = true) (h : P v σ) : raw c (getAttr (.ref x) name true) P σ := fun s r => by
  have X := a.X.keeps r.F.keep
  exact get_value X (I.at_ r) (S_ga c.w) (findObj_own (S_hd c.w) hn rfl hl) hh (done r h _)
theorem raw_steps (a : Act sc c) (I : Inst c σ x dx od ls ln em) (h : P (.ref ls) σ) : raw c (getAttr (.ref x) fSteps true) P σ := raw_getA a I (S_f c.w).1 (by obtain ⟨_, _, _, _, _, rfl⟩ := I.o; rfl) rfl h
theorem raw_named (a : Act sc c) (I : Inst c σ x dx od ls ln em) (h : P (.ref ln) σ) : raw c (getAttr (.ref x) fNamed true) P σ := raw_getA a I (S_f c.w).2.1 (by obtain ⟨_, _, _, _, _, rfl⟩ := I.o; rfl) rfl h
theorem raw_empty (a : Act sc c) (I : Inst c σ x dx od ls ln em) (h : ∀ t, P (.int em t) σ) : raw c (getAttr (.ref x) fEmpty true) P σ := by
  obtain ⟨te, t1, t2, t3, n, e⟩ := I.o
  exact raw_getA a I (S_f c.w).2.2 (v := .int em te) (by rw [e]; rfl) rfl (h te)
theorem meth_steps {name : Str} {f : Addr} (a : Act sc c) (I : Inst c σ x dx od ls ln em) (hf : findIn (hd.heap_1 c.w.params) (.ref 169) name = some (some (.ref f))) (ht : typeIn (hd.heap_1 c.w.params) (.ref f) = some (.type "function")) (hk : keepIn (hd.heap_1 c.w.params) (.ref f) = true)
    (hs : lookIn name od = some none) : Meth c (.ref x) name (.ref f) [.ref x] σ :=
  ⟨.own hk, fun s r pl Q' E' hq => method_fn (a.X.keeps r.F.keep) (I.at_ r) (S_ga c.w) (S_gb c.w) hf ht (by show Option.map _ (lookIn name od) = _; rw [hs]; rfl) (hq s.toks)⟩
theorem R.updS {a : Addr} {o o' : Obj} {i : Nat} {h' : Heap} {tk : Nat} (r : R c σ s) (hi : σ.n[i]? = some (a, o)) (hs : Stays a s.heap h') (ho : h'.get? a = some o') (ht : isT o = false) : R c (σ.setN i a o') { s with heap := h', toks := tk } := by
  obtain ⟨x, y⟩ := r.back1 (s' := { s with heap := h', toks := tk }) hi ⟨_, _, rfl⟩ (.of (fun b ob e n => hs b ob (fun q => n (q ▸ .head _)) e) fun x hx => (List.mem_singleton.mp hx) ▸ r.off (.inr (List.mem_of_getElem? hi))) ho ht
  exact ⟨x.F, x.N, x.K, x.D, x.O, y, x.T, x.G, x.Z⟩
/-- a store into the dict of an object -/
theorem raw_setA {name : Str} {v : Value} {es : List DictEntry} {n : Nat} {U : Unit → St → Prop} (i : Nat) (a : Act sc c) (hx : Has c σ x (instObj 169 dx)) (hi : σ.n[i]? = some (dx, dictOf es n)) (hn : findIn (hd.heap_1 c.w.params) (.ref 169) name = some none) (hr : es.any (·.refKey) = false) (hz : es.length ≤ 900)
    (h : ∀ t, U () (σ.setN i dx (dictOf (putL name (PyData.keyHash c.w.params name) (.str name t) v es) (putN name es n)))) : raw c (setAttr (.ref x) name v) U σ := fun s r => by
  have X := a.X.keeps r.F.keep
  have hd := r.has (.inr (List.mem_of_getElem? hi))
  have hx' := r.has hx
  have IA : W.InstAt s.heap x (instObj 169 dx) 169 (some (dictOf es n)) := ⟨hx', rfl, rfl, hd⟩
  refine set_plain X IA (S_sa c.w) (osa_open (s := { s with toks := s.toks + 1 }) X IA (S_po c.w) (r := none) (by unfold takerIn; rw [hn]; rfl) fun b => ?_)
  obtain ⟨cd, hc, hd'⟩ := any_some (S_hd c.w)
  have hlen : (putL name (PyData.keyHash c.w.params name) (.str name (s.toks + 1)) v es).length ≤ 1000 := by
    have : ∀ es : List DictEntry, (putL name (PyData.keyHash c.w.params name) (.str name (s.toks + 1)) v es).length ≤ es.length + 1 := by
      intro es
      induction es with
      | nil => exact Nat.le_refl _
      | cons e q ih => unfold putL; split <;> simp <;> omega +splitDisjunctions
    have := this es
    omega +splitDisjunctions
  refine wpAny_bind (wpAny_pure (wpAny_bind (wpAny_bind (wpAny_loadPart hx' (wpAny_bind ((looks_clsIn X hc).here (s := { s with toks := s.toks + 1 }) ?_))))))
  rw [hd']
  refine wpAny_pure (a := some dx) ?_
  refine store_in (s := { s with toks := s.toks + 1 }) (w := c.w) hd hr hlen fun h' hs hd2 => ?_
  exact pst (r.updS (tk := s.toks + 1 + 1) hi hs hd2 rfl) (h _)
variable {vs : List Value}
theorem Inst.enter {c' : Fx} {W : List Addr} {n : Nat} {t : Heap} {sc' : List (Str × NameKind)} {σ' : St} (J : Inst c σ x dx od ls ln em) (r : R c σ s) (I : In c sc' s W c' n t) (h1 : x ∉ W) (h2 : dx ∉ W) : Inst c' σ' x dx od ls ln em :=
  ⟨J.i.enter r I h1, J.d.enter r I h2, I.w ▸ J.o⟩
theorem Inst.off {l : Addr} {o : Obj} (J : Inst c σ x dx od ls ln em) (r : R c σ s) (hl : Has c σ l o) (hL : LstO o vs) : x ≠ l ∧ dx ≠ l := by
  have e := r.has hl
  refine ⟨fun q => ?_, fun q => ?_⟩
  · have e' := r.has J.i
    rw [q, e] at e'; cases e'
    cases hL.1
  · have e' := r.has J.d
    rw [q, e] at e'; cases e'
    obtain ⟨_, _, _, _, _, rfl⟩ := J.o
    exact absurd (show Value.type "dict" = Value.type "list" from hL.1) (by simp)
theorem size_ok (a : Act sc c) (u : Up c 840) (J : Inst c σ x dx od ls ln em) (hL : HasL c σ ls vs) (hz : vs.length ≤ 1000) (h : ∀ t t', Le σ.t t' → P (.int vs.length t) (σ.setT t')) : raw c (call (.ref 140) [.ref x]) P σ := by
  refine enter [] a u (by simp) .nil (by simp) (by k_is) (by k_is) (Nat.le_of_ble_eq_true rfl) (fun _ => BindsTo.of_eq rfl) (by rfl) (by exact .nil) (by rfl) (by rfl) (by rfl) ?_
  intro s c' tv r I QF hQ
  have hL' : ∀ σ', HasL c' σ' ls vs := fun σ' => hL.enter r I List.not_mem_nil
  refine ⟨.bi _, ?_⟩
  refine raw_steps I.a (J.enter r I List.not_mem_nil List.not_mem_nil) ?_
  refine raw_len_list (hL' _) (Nat.le_trans hz (by rw [sizeLine_eq]; decide)) fun t => ?_
  refine hQ _ _ fun s' Z S N O V => ?_
  obtain ⟨r', l'⟩ := r.back0 Z S
  exact pst r' (h _ _ l')
theorem count_ok (a : Act sc c) (u : Up c 840) (J : Inst c σ x dx od ls ln em) (hL : HasL c σ ln vs) (hz : vs.length ≤ 1000) (h : ∀ t t', Le σ.t t' → P (.int (vs.length - 1) t) (σ.setT t')) : raw c (call (.ref 133) [.ref x]) P σ := by
  refine enter [] a u (by simp) .nil (by simp) (by k_is) (by k_is) (Nat.le_of_ble_eq_true rfl) (fun _ => BindsTo.of_eq rfl) (by rfl) (by exact .nil) (by rfl) (by rfl) (by rfl) ?_
  intro s c' tv r I QF hQ
  have hL' : ∀ σ', HasL c' σ' ln vs := fun σ' => hL.enter r I List.not_mem_nil
  refine ⟨.bi _, ?_⟩
  refine raw_named I.a (J.enter r I List.not_mem_nil List.not_mem_nil) ?_
  refine raw_len_list (hL' _) (Nat.le_trans hz (by rw [sizeLine_eq]; decide)) fun t t1 t2 => ?_
  refine hQ _ _ fun s' Z S N O V => ?_
  obtain ⟨r', l'⟩ := r.back0 Z S
  exact pst r' (h _ _ l')
theorem clause_at_ok {k : Int} {t0 : Tok} {row : Addr} {r0 cl p0 n0 : Value} (a : Act sc c) (u : Up c 840) (J : Inst c σ x dx od ls ln em) (hL : HasL c σ ls vs) (hk : 0 ≤ k) (hk' : k ≤ 1000) (hv : vs[k.toNat]? = some (.ref row)) (hT : TupAt σ.t row [r0, cl, p0, n0])
    (h : ∀ t', Le σ.t t' → P cl (σ.setT t')) : raw c (call (.ref 147) [.ref x, .int k t0]) P σ := by
  refine enter [] a u (by simp) .nil (by simp) (by k_is) (by k_is) (Nat.le_of_ble_eq_true rfl) (fun _ => BindsTo.of_eq rfl) (by rfl) (by exact .nil) (by rfl) (by rfl) (by rfl) ?_
  intro s c' tv r I QF hQ
  have hL' : ∀ σ', HasL c' σ' ls vs := fun σ' => hL.enter r I List.not_mem_nil
  have gT := hT.up r I
  refine raw_steps I.a (J.enter r I List.not_mem_nil List.not_mem_nil) ?_
  refine raw_getlist (hL' _) hk (by omega +splitDisjunctions) hv ?_ rfl
  intro t1
  refine raw_get (t₀ := tv) (.inr gT) (Le.refl _) (by decide) (by decide) rfl ?_ rfl
  refine hQ _ _ fun s' Z S N O V => ?_
  obtain ⟨r', l'⟩ := r.back0 Z S
  exact pst r' (h _ l')
theorem names_okC {k : Int} {t0 : Tok} (a : Act sc c) (u : Up c 840) (J : Inst c σ x dx od ls ln em) (hL : HasL c σ ln vs) (hz : vs.length ≤ 1000) (hk : k.natAbs < 10 ^ 100) (h : ∀ t' v, 0 < k → k < vs.length → vs[k.toNat]? = some v → Le σ.t t' → P v (σ.setT t')) (hno : ¬ (0 < k ∧ k < vs.length) → Flies c σ (-1)) :
    rawC c (.ref 126) [.ref x, .int k t0] P σ := by
  refine enterR [] a u (by simp) .nil (by simp) (by k_is) (by k_is) (Nat.le_of_ble_eq_true rfl) (fun _ => BindsTo.of_eq rfl) (by rfl) (by exact .nil) (by rfl) (by rfl) (by rfl) ?_
  intro s c' tv r I QF hQ
  have hL' : ∀ σ', HasL c' σ' ln vs := fun σ' => hL.enter r I List.not_mem_nil
  have J' : ∀ σ', Inst c' σ' x dx od ls ln em := fun σ' => J.enter r I List.not_mem_nil List.not_mem_nil
  intro t1
  refine (fun (hB : ¬ (0 < k ∧ k < vs.length) → _) => ⟨fun q1 => ⟨.bi _, raw_named I.a (J' _) (raw_len_list (hL' _) (Nat.le_trans hz (by rw [sizeLine_eq]; decide)) fun t2 => ⟨fun q => hB fun z => (by rw [show decide (k < (vs.length : Int)) = true from decide_eq_true z.2] at q; cases q), fun q => ?c1⟩)⟩, fun q1 => ⟨fun _ => hB fun z => of_decide_eq_false q1 z.1, fun q => (nomatch q)⟩⟩) fun hn => ?c2
  case c2 =>
    refine raw_Raise I.a I.u (by decide) (by rfl) ⟨rfl, ?_⟩
    refine raw_fstr I.a (by decide) ⟨by decide, ⟨rfl, rfl⟩, .inl ⟨k, t0, rfl, hk⟩, by decide, fun x tx => ?_⟩
    intro t2 t3
    refine ⟨_, _, _, rfl, fun s1 e s2 r1 hz hE => ?_⟩
    refine I.leave r r1 (fun b hb => nomatch hb) (I.w ▸ hE) hz fun s'' hz' hE' => hno hn s e s'' r hz' hE'
  case c1 =>
    have k1 : 0 < k := of_decide_eq_true q1
    have k2 : k < vs.length := by
      by_cases z : k < (vs.length : Int)
      · exact z
      · rw [show decide (k < (vs.length : Int)) = false from decide_eq_false z] at q; cases q
    have hx : vs[k.toNat]? = some vs[k.toNat] := List.getElem?_eq_getElem (by omega +splitDisjunctions)
    refine raw_named I.a (J' _) (raw_getlist (hL' _) (by omega +splitDisjunctions) (by omega +splitDisjunctions) hx ?_ rfl)
    refine hQ _ _ fun s' Z S N O V => ?_
    obtain ⟨r', l'⟩ := r.back0 Z S
    exact pst r' (h _ _ k1 k2 hx l')
theorem names_ok {k : Int} {t0 : Tok} (a : Act sc c) (u : Up c 840) (J : Inst c σ x dx od ls ln em) (hL : HasL c σ ln vs) (hz : vs.length ≤ 1000) (hk : k.natAbs < 10 ^ 100) (h : ∀ t' v, 0 < k → k < vs.length → vs[k.toNat]? = some v → Le σ.t t' → P v (σ.setT t')) (hno : ¬ (0 < k ∧ k < vs.length) → Flies c σ (-1)) :
    raw c (call (.ref 126) [.ref x, .int k t0]) P σ := (names_okC a u J hL hz hk h hno).raw
theorem name_gen {k : Int} {t0 : Tok} {v : Value} {oln : Obj} (W : List (Addr × Obj)) (i : Nat) (a : Act sc c) (u : Up c 840) (J : Inst c σ x dx od ls ln em) (hm : Has c σ ln oln) (hL : LstO oln vs) (hz : vs.length ≤ 1000) (hk : k.natAbs < 10 ^ 100)
    (hW : k ≠ vs.length ∧ W = [] ∨ W = [(ln, oln)] ∧ σ.n[i]? = some (ln, oln)) (h : ∀ t' o', k = vs.length → LstO o' (vs ++ [v]) → Le σ.t t' → P .none ((σ.setN i ln o').setT t')) (hno : k ≠ vs.length → Flies c σ (-1)) :
    rawC c (.ref 119) [.ref x, .int k t0, v] P σ := by
  have hWn : ∀ p ∈ W, p = (ln, oln) ∧ p ∈ σ.n := fun p hp => by
    rcases hW with ⟨_, rfl⟩ | ⟨rfl, e⟩
    · cases hp
    · rw [List.mem_singleton.mp hp]; exact ⟨rfl, List.mem_of_getElem? e⟩
  have hnd : (adr W).Nodup := by
    rcases hW with ⟨_, rfl⟩ | ⟨rfl, _⟩
    · exact .nil
    · exact List.nodup_cons.mpr ⟨List.not_mem_nil, .nil⟩
  have hWa : ∀ b ∈ adr W, b = ln := fun b hb => by
    obtain ⟨p, hp, rfl⟩ := List.mem_map.mp hb
    rw [(hWn p hp).1]
  refine enterR W a u (fun p hp => (hWn p hp).2) hnd (fun p hp => by rw [(hWn p hp).1]; exact lst_notT hL) (by k_is) (by k_is) (Nat.le_of_ble_eq_true rfl) (fun _ => BindsTo.of_eq rfl) (by rfl) (by exact .nil) (by rfl) (by rfl) (by rfl) ?_
  intro s c' tv r I QF hQ
  obtain ⟨e1, e2⟩ := J.off r hm hL
  have J' : ∀ σ', Inst c' σ' x dx od ls ln em := fun σ' => J.enter r I (fun q => e1 (hWa _ q)) fun q => e2 (hWa _ q)
  have H' : ∀ σ' : St, σ'.n = W → Has c' σ' ln oln := fun σ' e => by
    rcases hW with ⟨_, rfl⟩ | ⟨rfl, _⟩
    · exact hm.enter r I List.not_mem_nil
    · exact .inr (e ▸ .head _)
  refine ⟨.bi _, raw_named I.a (J' _) (raw_len_list (hL.hasL (H' _ rfl)) (Nat.le_trans hz (by rw [sizeLine_eq]; decide)) fun t1 => ⟨fun q => ?_, fun q => ?_⟩)⟩
  · have hne : k ≠ vs.length := fun z => by rw [z] at q; simp at q
    refine raw_Raise I.a I.u (by decide) (by rfl) ⟨rfl, ?_⟩
    refine raw_fstr I.a (by decide) ⟨by decide, ⟨rfl, rfl⟩, .inl ⟨k, t0, rfl, hk⟩, by decide, fun x tx => ?_⟩
    intro t2 t3
    refine ⟨_, _, _, rfl, fun s1 e s2 r1 hz hE => ?_⟩
    exact I.leave r r1 (fun b hb => ⟨oln, hWa b hb ▸ r.has hm, hWa b hb ▸ r1.has (H' _ rfl)⟩) (I.w ▸ hE) hz fun s'' hz' hE' => hno hne s e s'' r hz' hE'
  · have heq : k = vs.length := by simpa using q
    rcases hW with ⟨z, _⟩ | ⟨rfl, hi⟩
    · exact absurd heq z
    refine raw_named I.a (J' _) ⟨_, _, meth_list (.inr (.head _)) hL PySem.F.slot_list_append PySem.F.type_list_append, ?_⟩
    refine raw_append 0 rfl hL (Nat.le_trans hz (by rw [sizeLine_eq]; decide)) fun o' hL' => ?_
    refine hQ _ _ fun s' Z S N O V => ?_
    obtain ⟨r', l'⟩ := r.back1 hi Z S (N _ (.head _)).1 (lst_notT hL)
    exact pst r' (h _ _ heq hL' l')
theorem name_ok {k : Int} {t0 : Tok} {v : Value} {oln : Obj} (i : Nat) (a : Act sc c) (u : Up c 840) (J : Inst c σ x dx od ls ln em) (hi : σ.n[i]? = some (ln, oln)) (hL : LstO oln vs) (hz : vs.length ≤ 1000) (hk : k.natAbs < 10 ^ 100)
    (h : ∀ t' o', k = vs.length → LstO o' (vs ++ [v]) → Le σ.t t' → P .none ((σ.setN i ln o').setT t')) (hno : k ≠ vs.length → Flies c σ (-1)) :
    raw c (call (.ref 119) [.ref x, .int k t0, v]) P σ := (name_gen _ i a u J (.inr (List.mem_of_getElem? hi)) hL hz hk (.inr ⟨rfl, hi⟩) h hno).raw
end
end Mine
end
section
open PySem PySem.W PyProof.Rows PySem.Spec PySem.Calls Builtin Builtin.ObjectAttr
set_option Elab.async false
set_option maxRecDepth 100000
set_option maxHeartbeats 4000000
set_option linter.unusedVariables false
namespace Mine
noncomputable def ruleNames : List String := ["input", "define", "ite_term", "three", "bits", "congruence", "farkas", "branch", "divide", "cut", "resolve"]
noncomputable def ruleVs : List Value := [.str (Str.ofString "input") 264, .str (Str.ofString "define") 265, .str (Str.ofString "ite_term") 266, .str (Str.ofString "three") 267, .str (Str.ofString "bits") 268, .str (Str.ofString "congruence") 269, .str (Str.ofString "farkas") 270, .str (Str.ofString "branch") 271, .str (Str.ofString "divide") 272, .str (Str.ofString "cut") 273, .str (Str.ofString "resolve") 274]
theorem K72 (w : World) : (hd.heap_1 w.params).lookup 72 = some { cls := .type "tuple", data := .seq ruleVs.toArray } := by unfold ruleVs; k_is
noncomputable def ruleDs : List D := ruleNames.map fun x => .s (Str.ofString x)
theorem rule_dvs {t : Heap} : DVs t ruleDs ruleVs := by
  unfold ruleDs ruleNames ruleVs
  simp only [List.map]
  repeat (unfold DVs; refine ⟨_, _, rfl, dvS, ?_⟩)
  unfold DVs; rfl
theorem rule_deps : deps ruleDs ≤ 9 := by decide
section
variable {c : Fx} {sc : List (Str × NameKind)} {s : Shared} {σ : St} {P : Value → St → Prop} {x dx ls ln : Addr} {od : Obj} {em : Int} {vs : List Value}
theorem rules_at {t : Heap} (a : Act sc c) (r : R c σ s) (l : Le (tups s.heap) t) : TupAt t 72 ruleVs :=
  ⟨_, _, l _ _ (tups_get.mpr ⟨(a.X.keeps r.F.keep) _ _ (K72 c.w), rfl⟩), rfl, rfl⟩
theorem raw_know {α : Type} {t : Sem α} {Q : α → St → Prop} {φ : Prop} (k : ∀ s, R c σ s → φ) (h : φ → raw c t Q σ) : raw c t Q σ := fun s r => h (k s r) s r
theorem Inst.ne (J : Inst c σ x dx od ls ln em) (r : R c σ s) : x ≠ dx := fun q => by
  have e := r.has J.i
  rw [q, r.has J.d] at e; cases e
  obtain ⟨_, _, _, _, _, e⟩ := J.o
  cases e
theorem R.back2 {i j : Nat} {a b : Addr} {oa ob oa' ob' : Obj} {s' : Shared} (r : R c σ s) (hi : σ.n[i]? = some (a, oa)) (hj : σ.n[j]? = some (b, ob)) (hab : a ≠ b) (hz : Lift s s') (g : GF s.heap s'.heap [a, b] (frs c.S)) (ha : s'.heap.get? a = some oa') (hb : s'.heap.get? b = some ob')
    (hta : isT oa = false) (htb : isT ob = false) : R c (((σ.setN i a oa').setN j b ob').setT (tups s'.heap)) s' ∧ Le σ.t (tups s'.heap) := by
  have hj' : (σ.n.set i (a, oa'))[j]? = some (b, ob) := by
    rw [List.getElem?_set]
    split
    · rename_i q; subst q; rw [hi] at hj; cases hj; exact absurd rfl hab
    · exact hj
  refine r.back [a, b] ((σ.n.set i (a, oa')).set j (b, ob')) hz g (List.forall_mem_cons.mpr ⟨⟨oa, List.mem_of_getElem? hi, hta⟩, List.forall_mem_singleton.mpr ⟨ob, List.mem_of_getElem? hj, htb⟩⟩) ((map_setN hj').trans (map_setN hi)) fun p hp => ?_
  obtain ⟨k, hk⟩ := List.mem_iff_getElem?.mp hp
  rw [List.getElem?_set] at hk
  split at hk
  · split at hk
    · cases hk; exact .inr hb
    · cases hk
  · rename_i n1
    rw [List.getElem?_set] at hk
    split at hk
    · split at hk
      · cases hk; exact .inr ha
      · cases hk
    · rename_i n2
      refine .inl ⟨List.mem_of_getElem? hk, fun w => ?_⟩
      obtain ⟨z, oz⟩ := p
      rcases List.mem_cons.mp w with e | e
      · subst e; exact n2 (nd_at _ (List.nodup_append.mp r.D).1 _ _ hi hk)
      · have e := List.mem_singleton.mp e
        subst e; exact n1 (nd_at _ (List.nodup_append.mp r.D).1 _ _ hj hk)
theorem raw_lenS {l : Addr} {ws : List Value} (hS : Sq c σ l ws) (hz : ws.length ≤ 1000) (h : ∀ t, P (.int ws.length t) σ) : raw c (call (.builtin "len") [.ref l]) P σ := by
  have hz' : ws.length ≤ sizeLine := Nat.le_trans hz (by rw [sizeLine_eq]; decide)
  rcases hS with hS | hS
  · exact raw_len_list hS hz' h
  · exact raw_len (t₀ := σ.t) (.inr hS) (Le.refl _) hz' h
theorem raw_AssignA {o e : Expr} {attr : Str} {ap pos : Pos} {Q : Flow → St → Prop} (a : Act sc c) (hs : swapsWith e (some (.Attribute o attr ap)) pos.line c.env = pure false)
    (h : vE c sc 40 e (fun v σ₁ => vE c sc 40 o (fun ov σ₂ => raw c (setAttr ov attr v) (fun _ σ₃ => Q .next σ₃) σ₂) σ₁) σ) : raw c (exec (.Assign [.Attribute o attr ap] e pos) c.env) Q σ := fun s r =>
  plainObj_wpAny_Assign_Attribute (seq_ ((vET_sound a 40).1 _ _ _ _ h r) fun v σ₁ s₁ r₁ q₁ => seq_ ((vET_sound a 40).1 _ _ _ _ q₁ r₁) fun ov σ₂ s₂ r₂ q₂ => wpAny_mono (q₂ _ r₂) (fun _ s₃ p => let ⟨σ₃, r₃, q₃⟩ := p; pst r₃ q₃) fun _ _ e => e) hs
theorem raw_tupleS {l : Addr} {ws : List Value} (hS : Sq c σ l ws) (hz : ws.length ≤ 1000) (h : ∀ b t', TupAt t' b ws → Le σ.t t' → P (.ref b) (σ.setT t')) : raw c (call (.type "tuple") [.ref l]) P σ := by
  rcases hS with hS | hS
  · exact raw_tupleL hS (Nat.le_trans hz (by rw [sizeLine_eq]; decide)) fun b t' hle hg => h b t' (.of hg) hle
  · exact fun s r => call_tuple_same (r.tup hS) (pst r.top (h _ _ (hS.le r.V) r.V))
theorem rawC_know {f : Value} {args : List Value} {Q : Value → St → Prop} {φ : Prop} (k : ∀ s, R c σ s → φ) (h : φ → rawC c f args Q σ) : rawC c f args Q σ := fun s r => h (k s r) s r
theorem add_gen {lc lp : Addr} {cvs pvs : List Value} {cl pr : List Int} {rn : Str} {tr : Tok} {note : Value} {ols : Obj} (W : List (Addr × Obj)) (i j : Nat) (a : Act sc c) (u : Up c 790) (J : Inst c σ x dx od ls ln em) (hls : Has c σ ls ols) (hW : ¬ (D.s rn ∈ ruleDs ∧ Tidy cl ∧ ∀ p ∈ pr, 0 ≤ p ∧ p < vs.length) ∧ W = [] ∨ W = [(dx, od), (ls, ols)] ∧ σ.n[i]? = some (dx, od) ∧ σ.n[j]? = some (ls, ols)) (hL : LstO ols vs) (hz : vs.length ≤ 500)
    (hC : HasL c σ lc cvs ∧ lc ≠ ls ∨ TupAt σ.t lc cvs) (hCI : IntsAre cvs cl) (hcl : cl.length ≤ 100) (hP : HasL c σ lp pvs ∧ lp ≠ ls ∨ TupAt σ.t lp pvs) (hPI : IntsAre pvs pr) (hpl : pr.length ≤ 100) (hrn : rn.length ≤ 100) (hpb : ∀ p ∈ pr, p.natAbs < 10 ^ 100)
    (h : ∀ od' ols' row t' cv pv tk, D.s rn ∈ ruleDs → Tidy cl → (∀ p ∈ pr, 0 ≤ p ∧ p < vs.length) → StO c.w od' ls ln (if cl = [] ∧ em < 0 then vs.length else em) → LstO ols' (vs ++ [.ref row]) → TupAt t' row [.str rn tr, cv, pv, note] → CT t' cv cl → CT t' pv pr → Le σ.t t' →
      P (.int vs.length tk) (((σ.setN i dx od').setN j ls ols').setT t'))
    (hno : ¬ (D.s rn ∈ ruleDs ∧ Tidy cl ∧ ∀ p ∈ pr, 0 ≤ p ∧ p < vs.length) → Flies c σ vs.length) :
    rawC c (.ref 161) [.ref x, .str rn tr, .ref lc, .ref lp, note] P σ := by
  refine rawC_know (φ := x ≠ dx ∧ x ≠ ls ∧ dx ≠ ls) (fun s r => ⟨J.ne r, J.off r hls hL⟩) fun hne => ?_
  obtain ⟨hne1, hne2, hne3⟩ := hne
  have hWn : ∀ p ∈ W, (p = (dx, od) ∨ p = (ls, ols)) ∧ p ∈ σ.n := fun p hp => by
    rcases hW with ⟨_, rfl⟩ | ⟨rfl, e1, e2⟩
    · cases hp
    · rcases List.mem_cons.mp hp with rfl | hp
      · exact ⟨.inl rfl, List.mem_of_getElem? e1⟩
      · rw [List.mem_singleton.mp hp]; exact ⟨.inr rfl, List.mem_of_getElem? e2⟩
  have hWa : ∀ b ∈ adr W, b = dx ∨ b = ls := fun b hb => by
    obtain ⟨p, hp, rfl⟩ := List.mem_map.mp hb
    exact (hWn p hp).1.imp (fun e => by rw [e]) fun e => by rw [e]
  have hnd : (adr W).Nodup := by
    rcases hW with ⟨_, rfl⟩ | ⟨rfl, _⟩
    · exact .nil
    · exact List.nodup_cons.mpr ⟨fun q => hne3 (List.mem_singleton.mp q), List.nodup_cons.mpr ⟨List.not_mem_nil, .nil⟩⟩
  refine enterR W a u (fun p hp => (hWn p hp).2) hnd (fun p hp => by rcases (hWn p hp).1 with rfl | rfl; exact J.o.notT; exact lst_notT hL) (by k_is) (by k_is) (Nat.le_of_ble_eq_true rfl) (fun _ => BindsTo.of_eq rfl) (by rfl) (by exact .nil) (by rfl) (by rfl) (by rfl) ?_
  intro s c' tv r I QF hQ
  have hxW : x ∉ adr W := fun q => (hWa x q).elim hne1 hne2
  have Jx : ∀ σ' : St, (∀ p ∈ W, p ∈ σ'.n) → Inst c' σ' x dx od ls ln em := fun σ' e => ⟨J.i.enter r I hxW, by
    rcases hW with ⟨_, rfl⟩ | ⟨rfl, _⟩
    · exact J.d.enter r I List.not_mem_nil
    · exact .inr (e _ (.head _)), I.w ▸ J.o⟩
  have Lx : ∀ σ' : St, (∀ p ∈ W, p ∈ σ'.n) → Has c' σ' ls ols := fun σ' e => by
    rcases hW with ⟨_, rfl⟩ | ⟨rfl, _⟩
    · exact hls.enter r I List.not_mem_nil
    · exact .inr (e _ (.tail _ (.head _)))
  have arg : ∀ {l : Addr} {ws : List Value}, (HasL c σ l ws ∧ l ≠ ls ∨ TupAt σ.t l ws) → ∀ σ' : St, Le tv σ'.t → Sq c' σ' l ws := fun {l ws} hS σ' hle => by
    rcases hS with ⟨hS, hn⟩ | hS
    · refine .inl (hS.enter r I fun q => ?_)
      rcases hWa _ q with q | q
      · obtain ⟨o, n, ho, hc, hd⟩ := hS
        have e := r.has ho
        rw [q, r.has J.d] at e; cases e
        obtain ⟨_, _, _, _, _, rfl⟩ := J.o
        exact absurd (show Value.type "dict" = Value.type "list" from hc) (by simp)
      · exact hn q
    · exact .inr ((hS.up r I).le hle)
  have gR := rules_at a r I.v
  have hz' : vs.length ≤ sizeLine := Nat.le_trans hz (by rw [sizeLine_eq]; decide)
  have fly : ∀ (k : Int), k = vs.length → ¬ (D.s rn ∈ ruleDs ∧ Tidy cl ∧ ∀ p ∈ pr, 0 ≤ p ∧ p < vs.length) → ∀ (σ' : St), (∀ p ∈ W, p ∈ σ'.n) → ∀ s1 e s2, R c' σ' s1 → Lift s1 s2 → Exn c'.w s1.heap (frs c'.S) e k none s2.heap → c'.E (.ref e) s2 := fun k hk hn σ' m s1 e s2 r1 hzz hE =>
    I.leave r r1 (fun b hb => by
      rcases hWa b hb with rfl | rfl
      · exact ⟨od, r.has J.d, r1.has (Jx _ m).d⟩
      · exact ⟨ols, r.has hls, r1.has (Lx _ m)⟩) (I.w ▸ hE) hzz fun s'' hz'' hE' => hno hn s e s'' r hz'' (hk ▸ hE')
  refine ⟨.bi _, raw_steps I.a (Jx _ fun _ h => h) (raw_len_list (hL.hasL (Lx _ fun _ h => h)) hz' fun tn => ?_)⟩
  refine raw_ninD I.u (by decide) (.inr gR) rule_dvs dvS rule_deps fun b1 hb1 => ⟨fun q => ?_, fun q => ?_⟩
  · refine raw_Raise I.a I.u (by decide) (by rfl) ⟨rfl, ?_⟩
    refine raw_fstr I.a (by decide) ⟨by decide, ⟨rfl, rfl⟩, .inr ⟨rn, tr, rfl, Nat.le_trans hrn (by decide)⟩, fun y ty => ?_⟩
    exact ⟨_, _, _, rfl, fly _ rfl (fun z => hb1.mp q z.1) _ fun _ h => h⟩
  have hr : D.s rn ∈ ruleDs := Classical.byContradiction fun z => (nomatch q.symm.trans (hb1.mpr z))
  refine ⟨.own (by k_is), ?_⟩
  refine tidyq_ok I.a (I.u.le (by decide)) (arg hC _ (Le.refl _)) hCI (by omega) fun b2 t2 hb2 hle2 => ⟨fun q2 => ?_, fun q2 => ?_⟩
  · have hnt : ¬ Tidy cl := fun z => by rw [hb2.mpr (tidyP_iff.mpr z)] at q2; cases q2
    refine raw_Raise I.a I.u (by decide) (by rfl) ⟨rfl, ?_⟩
    refine raw_fstr I.a (by decide) ⟨⟨rfl, rfl⟩, .inr ⟨rn, tr, rfl, Nat.le_trans hrn (by decide)⟩, by decide, fun y ty => ?_⟩
    exact ⟨_, _, _, rfl, fly _ rfl (fun z => hnt z.2.1) _ fun _ h => h⟩
  have htd : Tidy cl := tidyP_iff.mp (hb2.mp (by cases b2 <;> first | rfl | cases q2))
  refine raw_For I.a I.a.int I.p I.u.hh (fun x => rfl) ?_
  obtain ⟨X, hIt, hX⟩ := src_sq (c := c') (σ := ⟨[], W, [], t2⟩) (kk := []) I.u.hh (arg hP _ hle2) (.refl _)
  refine ⟨pvs.length, _, X, hIt, fun i σ => σ.m = [(Str.ofString "number", .int vs.length tn), (Str.ofString "note", note), (Str.ofString "premises", .ref lp), (Str.ofString "clause", .ref lc), (Str.ofString "rule", .str rn tr), (Str.ofString "self", .ref x)] ∧ σ.n = W ∧ σ.k = [] ∧ σ.t = t2 ∧ ∀ k, k < i → 0 ≤ pr.getD k 0 ∧ pr.getD k 0 < vs.length, ⟨rfl, rfl, rfl, rfl, fun k hk => absurd hk (Nat.not_lt_zero _)⟩, ?_, ?_, ?_⟩
  · rintro i ⟨m, n, k, t⟩ s ⟨_, hn, hk, ht, _⟩ r
    cases hn; cases hk; cases ht
    exact (hX s (r.less ⟨fun _ _ q => (nomatch q), .refl _, rfl, Le.refl _⟩)).1
  · rintro i y I0 oI ⟨m, n, k, t⟩ hi' hy ⟨hm, hn, hk, ht, hp⟩ hnew
    cases hm; cases hn; cases hk; cases ht
    have hi2 : i < pr.length := hPI.length ▸ hi'
    obtain ⟨ty, hy'⟩ := ints_at hPI hi2
    rw [hy] at hy'; cases hy'
    have hmem : pr.getD i 0 ∈ pr := by rw [List.getD_eq_getElem?_getD, List.getElem?_eq_getElem hi2]; exact List.getElem_mem hi2
    refine raw_sto I.a ?_
    intro t3
    refine (fun (hB : ¬ (0 ≤ pr.getD i 0 ∧ pr.getD i 0 < vs.length) → _) => ⟨fun q1 => ⟨fun q => hB fun z => (by rw [show decide (pr.getD i 0 < (vs.length : Int)) = true from decide_eq_true z.2] at q; cases q), fun q => ?c1⟩, fun q1 => ⟨fun _ => hB fun z => of_decide_eq_false q1 z.1, fun q => (nomatch q)⟩⟩) fun hn => ?c2
    case c1 =>
      have k1 : 0 ≤ pr.getD i 0 := of_decide_eq_true q1
      have k2 : pr.getD i 0 < vs.length := by
        by_cases z : pr.getD i 0 < (vs.length : Int)
        · exact z
        · rw [show decide (pr.getD i 0 < (vs.length : Int)) = false from decide_eq_false z] at q; cases q
      refine LoopEnd.nx (n := n) ⟨⟨[(Str.ofString "number", .int vs.length tn), (Str.ofString "note", note), (Str.ofString "premises", .ref lp), (Str.ofString "clause", .ref lc), (Str.ofString "rule", .str rn tr), (Str.ofString "self", .ref x)], n, [], t⟩, ⟨?_, .refl _, rfl, Le.refl _⟩, rfl, rfl, rfl, rfl, fun k hk => ?_⟩
      · exact lk_sub (List.forall_mem_cons.mpr ⟨rfl, List.forall_mem_cons.mpr ⟨rfl, List.forall_mem_cons.mpr ⟨rfl, List.forall_mem_cons.mpr ⟨rfl, List.forall_mem_cons.mpr ⟨rfl, List.forall_mem_singleton.mpr rfl⟩⟩⟩⟩⟩)
      · rcases Nat.lt_succ_iff_lt_or_eq.mp hk with z | z
        · exact hp k z
        · rw [z]; exact ⟨k1, k2⟩
    case c2 =>
      refine raw_Raise I.a I.u (by decide) (by rfl) ⟨rfl, ?_⟩
      refine raw_fstr I.a (by decide) ⟨⟨rfl, rfl⟩, .inr ⟨rn, tr, rfl, Nat.le_trans hrn (by decide)⟩, by decide, ⟨rfl, rfl⟩, .inl ⟨_, ty, rfl, hpb _ hmem⟩, by decide, fun y ty => ?_⟩
      exact ⟨_, _, _, rfl, fly _ rfl (fun z => hn (z.2.2 _ hmem)) _ fun p hp => List.mem_append_left _ hp⟩
  · rintro ⟨m, n, k, t⟩ ⟨hm, hn, hk, ht, hp⟩
    cases hm; cases hn; cases hk; cases ht
    rw [hPI.length] at hp
    have hp' : ∀ p ∈ pr, 0 ≤ p ∧ p < vs.length := fun p hm => by
      obtain ⟨j, hj, rfl⟩ := List.getElem_of_mem hm
      have := hp j hj
      rwa [List.getD_eq_getElem?_getD, List.getElem?_eq_getElem hj] at this
    rcases hW with ⟨z, _⟩ | ⟨rfl, hi, hj⟩
    · exact absurd ⟨hr, htd, hp'⟩ z
    have Jy : ∀ σ' : St, (dx, od) ∈ σ'.n → Inst c' σ' x dx od ls ln em := fun σ' m => ⟨J.i.enter r I hxW, .inr m, I.w ▸ J.o⟩
    refine raw_steps I.a (Jy _ (.head _)) ⟨_, _, meth_list (.inr (.tail _ (.head _))) hL PySem.F.slot_list_append PySem.F.type_list_append, ?_⟩
    refine ⟨.ty _, raw_tupleS (arg hC _ hle2) (by rw [hCI.length]; omega) fun ca t3 hct hle3 => ?_⟩
    refine ⟨.ty _, raw_tupleS (arg hP _ (hle2.trans hle3)) (by rw [hPI.length]; omega) fun pa t4 hpt hle4 => ?_⟩
    refine ⟨Nat.le_of_ble_eq_true rfl, fun row t5 hle5 hrow => ?_⟩
    refine raw_append 1 rfl hL hz' fun ols' hL' => ?_
    have le5 : Le tv t5 := ((hle2.trans hle3).trans hle4).trans hle5
    have fin : ∀ (od' : Obj) (m : List (Str × Value)) (tk : Tok), StO c.w od' ls ln (if cl = [] ∧ em < 0 then (vs.length : Int) else em) → QF (.ret (.int vs.length tk)) ⟨m, [(dx, od'), (ls, ols')], [], t5⟩ := fun od' m tk hO => hQ _ _ fun s' Z S N O V => by
      obtain ⟨r', l'⟩ := r.back2 hi hj hne3 Z S (N _ (.head _)).1 (N _ (.tail _ (.head _))).1 J.o.notT (lst_notT hL)
      exact pst r' (h od' ols' row _ (.ref ca) (.ref pa) tk hr htd hp' hO hL' ((TupAt.of hrow).le V) ⟨ca, cvs, rfl, (hct.le (hle4.trans hle5)).le V, hCI⟩ ⟨pa, pvs, rfl, (hpt.le hle5).le V, hPI⟩ l')
    refine ⟨.bi _, raw_lenS (arg hC _ le5) (by rw [hCI.length]; omega) fun t6 t7 => ⟨fun q => ?_, fun q => ⟨(fun q => nomatch q), fun _ => ?_⟩⟩⟩
    · have hnil : cl = [] := by
        have := hCI.length
        have q' : (cvs.length : Int) = 0 := by simpa using q
        exact List.length_eq_zero_iff.mp (by omega)
      refine raw_empty I.a (Jy _ (.head _)) fun t8 t9 => ⟨fun q2 => ?_, fun q2 => ?_⟩
      · refine raw_AssignA I.a rfl ?_
        obtain ⟨te, t1, t2', t3', nn, hod⟩ := J.o
        refine raw_setA (es := sDict c.w (.ref ls) (.ref ln) (.int em te) t1 t2' t3') (n := nn) 0 I.a (Jy _ (.head _)).i (by rw [← hod]; rfl) (S_f c'.w).2.2 rfl (Nat.le_of_ble_eq_true rfl) fun t10 => ?_
        exact fin _ _ _ ⟨tn, t1, t2', t3', nn, by rw [if_pos ⟨hnil, of_decide_eq_true q2⟩]; rfl⟩
      · exact fin _ _ _ (by rw [if_neg fun z => of_decide_eq_false q2 z.2]; exact J.o)
    · exact fin _ _ _ (by
        rw [if_neg fun z => ?_]
        · exact J.o
        · have := hCI.length
          rw [z.1] at this
          rw [this] at q; cases q)
theorem add_ok {lc lp : Addr} {cvs pvs : List Value} {cl pr : List Int} {rn : Str} {tr : Tok} {note : Value} {ols : Obj} (i j : Nat) (a : Act sc c) (u : Up c 790) (J : Inst c σ x dx od ls ln em) (hi : σ.n[i]? = some (dx, od)) (hj : σ.n[j]? = some (ls, ols)) (hL : LstO ols vs) (hz : vs.length ≤ 500)
    (hC : HasL c σ lc cvs ∧ lc ≠ ls ∨ TupAt σ.t lc cvs) (hCI : IntsAre cvs cl) (hcl : cl.length ≤ 100) (hP : HasL c σ lp pvs ∧ lp ≠ ls ∨ TupAt σ.t lp pvs) (hPI : IntsAre pvs pr) (hpl : pr.length ≤ 100) (hrn : rn.length ≤ 100) (hpb : ∀ p ∈ pr, p.natAbs < 10 ^ 100)
    (h : ∀ od' ols' row t' cv pv tk, D.s rn ∈ ruleDs → Tidy cl → (∀ p ∈ pr, 0 ≤ p ∧ p < vs.length) → StO c.w od' ls ln (if cl = [] ∧ em < 0 then vs.length else em) → LstO ols' (vs ++ [.ref row]) → TupAt t' row [.str rn tr, cv, pv, note] → CT t' cv cl → CT t' pv pr → Le σ.t t' →
      P (.int vs.length tk) (((σ.setN i dx od').setN j ls ols').setT t'))
    (hno : ¬ (D.s rn ∈ ruleDs ∧ Tidy cl ∧ ∀ p ∈ pr, 0 ≤ p ∧ p < vs.length) → Flies c σ vs.length) :
    raw c (call (.ref 161) [.ref x, .str rn tr, .ref lc, .ref lp, note]) P σ := (add_gen _ i j a u J (.inr (List.mem_of_getElem? hj)) (.inr ⟨rfl, hi, hj⟩) hL hz hC hCI hcl hP hPI hpl hrn hpb h hno).raw
end
end Mine
end
section
open PySem PySem.W PyProof.Rows PySem.Spec PySem.Calls Builtin Builtin.ObjectAttr
set_option Elab.async false
set_option maxRecDepth 100000
set_option linter.unusedVariables false
namespace Mine
section
variable {c : Fx} {sc : List (Str × NameKind)} {s : Shared} {σ : St} {P : Value → St → Prop} {a b : Addr} {vs ws : List Value}
theorem R.newT (r : R c σ s) (vs : List Value) : R c (σ.setT (tups (s.heap.push (tupObj vs)))) { s with heap := s.heap.push (tupObj vs) } ∧ Le σ.t (tups (s.heap.push (tupObj vs))) ∧ TupAt (tups (s.heap.push (tupObj vs))) s.heap.objs.size vs :=
  ⟨(r.push (tupObj vs)).top, (r.push (tupObj vs)).V, .of (tups_get.mpr ⟨Heap.get?_push_size _ rfl, rfl⟩)⟩
theorem raw_addT (ha : TupAt σ.t a vs) (hb : TupAt σ.t b ws) (hz : vs.length + ws.length ≤ 1000) (h : ∀ d t', TupAt t' d (vs ++ ws) → Le σ.t t' → P (.ref d) (σ.setT t')) : raw c (binaryOp .Add (.ref a) (.ref b)) P σ := fun s r => by
  have hta := r.tup ha
  have htb := r.tup hb
  have hz' : vs.length + ws.length ≤ sizeLine := Nat.le_trans hz (by rw [sizeLine_eq]; decide)
  obtain ⟨⟨cls, dd, data, sl⟩, ho, hc, n, hd⟩ := id hta
  obtain ⟨⟨cls2, dd2, data2, sl2⟩, ho2, hc2, n2, hd2⟩ := id htb
  simp only at hc hd hc2 hd2
  subst hc hd hc2 hd2
  have e : vs.toArray ++ ws.toArray = (vs ++ ws).toArray := by simp
  by_cases hv : vs = []
  · refine concat_meets ⟨_, ho, rfl⟩ ⟨_, ho2, rfl⟩ noFill_tuple_add seq_tuple_add PySem.F.slot_tuple_add PySem.F.entry_tuple_add (PySem.F.args_tuple_add_2 _ _)
      (tuple_addW0 a b vs.toArray ws.toArray n n2 dd dd2 sl sl2 (by simp [hv])) ⟨ho, ho2, pst r.top (h b _ ?_ r.V)⟩
    rw [hv]; exact hb.le r.V
  · by_cases hw : ws = []
    · refine concat_meets ⟨_, ho, rfl⟩ ⟨_, ho2, rfl⟩ noFill_tuple_add seq_tuple_add PySem.F.slot_tuple_add PySem.F.entry_tuple_add (PySem.F.args_tuple_add_2 _ _)
        (tuple_addW1 a b vs.toArray ws.toArray n n2 dd dd2 sl sl2 (by simpa using hv) (by simp [hw])) ⟨ho, ho2, pst r.top (h a _ ?_ r.V)⟩
      rw [hw, List.append_nil]; exact ha.le r.V
    · refine concat_meets ⟨_, ho, rfl⟩ ⟨_, ho2, rfl⟩ noFill_tuple_add seq_tuple_add PySem.F.slot_tuple_add PySem.F.entry_tuple_add (PySem.F.args_tuple_add_2 _ _)
        (tuple_addW2 a b vs.toArray ws.toArray n n2 dd dd2 sl sl2 (by simpa using hv) (by simpa using hw) (by rw [List.size_toArray, List.size_toArray]; exact hz')) ⟨ho, ho2, ?_⟩
      rw [e]
      obtain ⟨x, y, z⟩ := r.newT (vs ++ ws)
      exact pst x (h _ _ z y)
theorem raw_addL (ha : HasL c σ a vs) (hb : HasL c σ b ws) (hz : vs.length + ws.length ≤ 1000) (h : ∀ d, NewAt d σ → P (.ref d) (σ.addN d (lstObj (vs ++ ws)))) : raw c (binaryOp .Add (.ref a) (.ref b)) P σ := fun s r => by
  have hta := r.hasL ha
  have htb := r.hasL hb
  have hz' : vs.length + ws.length ≤ sizeLine := Nat.le_trans hz (by rw [sizeLine_eq]; decide)
  obtain ⟨⟨cls, dd, data, sl⟩, ho, hc, n, hd⟩ := id hta
  obtain ⟨⟨cls2, dd2, data2, sl2⟩, ho2, hc2, n2, hd2⟩ := id htb
  simp only at hc hd hc2 hd2
  subst hc hd hc2 hd2
  have e : vs.toArray ++ ws.toArray = (vs ++ ws).toArray := by simp
  refine concat_meets ⟨_, ho, rfl⟩ ⟨_, ho2, rfl⟩ noFill_list_add seq_list_add PySem.F.slot_list_add PySem.F.entry_list_add (PySem.F.args_list_add_2 _ _) (list_addW a b vs.toArray ws.toArray n n2 dd dd2 sl sl2 (by rw [List.size_toArray, List.size_toArray]; exact hz')) ⟨ho, ho2, ?_⟩
  rw [e]
  obtain ⟨f1, f2, f3⟩ := fresh_own r (none_size s.heap)
  exact pst ((r.push (lstObj (vs ++ ws))).more (Heap.get?_push_size _ rfl) f1 f2 f3) (h _ f2)
end
/-- a step of the list of steps -/
structure Row where
  rn : Str
  cl : List Int
  pr : List Int
  nt : D
noncomputable def rowD (r : Row) : D := .t [.s r.rn, .t (r.cl.map .i), .t (r.pr.map .i), r.nt]
noncomputable def pairD (p : Int × Int) : D := .t [.i p.1, .i p.2]
theorem dvs_ints {t : Heap} : ∀ {ns : List Int} {vs : List Value}, DVs t (ns.map .i) vs → IntsAre vs ns
  | [], vs, h => by rw [List.map_nil] at h; unfold DVs at h; rw [h]; exact .nil
  | n :: ns, vs, h => by
    rw [List.map_cons] at h; unfold DVs at h
    obtain ⟨v, r, rfl, h1, h2⟩ := h
    unfold DV at h1; obtain ⟨u, rfl⟩ := h1
    exact .cons _ _ (dvs_ints h2)
theorem ct_iff {t : Heap} {v : Value} {ns : List Int} : CT t v ns ↔ DV t (.t (ns.map .i)) v := by
  unfold DV
  exact ⟨fun ⟨a, vs, e, h1, h2⟩ => ⟨a, vs, e, h1, ints_dvs h2⟩, fun ⟨a, vs, e, h1, h2⟩ => ⟨a, vs, e, h1, dvs_ints h2⟩⟩
theorem dvs_nil {t : Heap} : DVs t [] [] := by unfold DVs; rfl
theorem dvs_cons {t : Heap} {d : D} {ds : List D} {v : Value} {vs : List Value} (h : DV t d v) (k : DVs t ds vs) : DVs t (d :: ds) (v :: vs) := by unfold DVs; exact ⟨v, vs, rfl, h, k⟩
theorem dvs_inv {t : Heap} {d : D} {ds : List D} {vs : List Value} (h : DVs t (d :: ds) vs) : ∃ v r, vs = v :: r ∧ DV t d v ∧ DVs t ds r := by unfold DVs at h; exact h
theorem dvs_inv0 {t : Heap} {vs : List Value} (h : DVs t [] vs) : vs = [] := by unfold DVs at h; exact h
theorem dv_tup {t : Heap} {a : Addr} {vs : List Value} {ds : List D} (h : TupAt t a vs) (k : DVs t ds vs) : DV t (.t ds) (.ref a) := by unfold DV; exact ⟨a, vs, rfl, h, k⟩
theorem dv_tinv {t : Heap} {v : Value} {ds : List D} (h : DV t (.t ds) v) : ∃ a vs, v = .ref a ∧ TupAt t a vs ∧ DVs t ds vs := by unfold DV at h; exact h
theorem dv_row {t : Heap} {r : Row} {v : Value} (h : DV t (rowD r) v) : ∃ a r0 cv p0 n0, v = .ref a ∧ TupAt t a [r0, cv, p0, n0] ∧ CT t cv r.cl := by
  obtain ⟨a, vs, rfl, h1, h2⟩ := dv_tinv h
  obtain ⟨v1, r1, rfl, k1, h2⟩ := dvs_inv h2
  obtain ⟨v2, r2, rfl, k2, h2⟩ := dvs_inv h2
  obtain ⟨v3, r3, rfl, k3, h2⟩ := dvs_inv h2
  obtain ⟨v4, r4, rfl, k4, h2⟩ := dvs_inv h2
  cases dvs_inv0 h2
  exact ⟨a, v1, v2, v3, v4, rfl, h1, ct_iff.mpr k2⟩
theorem dv_pair {t : Heap} {p : Int × Int} {v : Value} (h : DV t (pairD p) v) : ∃ a tx ty, v = .ref a ∧ TupAt t a [.int p.1 tx, .int p.2 ty] := by
  obtain ⟨a, vs, rfl, h1, h2⟩ := dv_tinv h
  obtain ⟨v1, r1, rfl, k1, h2⟩ := dvs_inv h2
  obtain ⟨v2, r2, rfl, k2, h2⟩ := dvs_inv h2
  cases dvs_inv0 h2
  unfold DV at k1 k2
  obtain ⟨u1, rfl⟩ := k1
  obtain ⟨u2, rfl⟩ := k2
  exact ⟨a, u1, u2, rfl, h1⟩
noncomputable def dsAt {ds : List D} {vs : List Value} {t : Heap} (h : DVs t ds vs) {i : Nat} {d : D} (hd : ds[i]? = some d) : ∃ v, vs[i]? = some v ∧ DV t d v := by
  obtain ⟨hi, e⟩ := List.getElem?_eq_some_iff.mp hd
  have hi' : i < vs.length := h.length ▸ hi
  exact ⟨vs[i], List.getElem?_eq_getElem hi', e ▸ h.at_ i hi hi'⟩
theorem tidy_len {cl : List Int} (hT : Tidy cl) (hL : ∀ x ∈ cl, Lit x) : cl.length ≤ 4 := by
  have nd : (cl.map Int.natAbs).Nodup := List.pairwise_map.mpr (hT.2.imp fun h => Nat.ne_of_lt h)
  have := nodup_le (H := H4) nd fun y hy => by
    obtain ⟨x, hx, rfl⟩ := List.mem_map.mp hy
    exact hL x hx
  rwa [List.length_map] at this
/-- a clause that the law may hold -/
structure Cl (cl : List Int) : Prop where
  T : Tidy cl
  L : ∀ x ∈ cl, Lit x
theorem Cl.len {cl : List Int} (h : Cl cl) : cl.length ≤ 4 := tidy_len h.T h.L
theorem Lit.bd {x : Int} (h : Lit x) : x.natAbs < 10 ^ 100 := by
  have : ∀ y ∈ H4, y < 10 ^ 100 := by decide +kernel
  exact this _ h
theorem res_cl {one other cl : List Int} {v : Int} (h1 : Cl one) (h2 : Cl other) (h : Nrm (resS one other v) (some cl)) : Cl cl :=
  ⟨h.2.1, fun x hx => ((h.2.2 x).mp hx).1.elim (h1.L x) (h2.L x)⟩
/-- a chain of resolutions, as the law says it -/
inductive Run (cls : List (List Int)) : List Int → List (Int × Int) → LR → Prop
  | nil (st) : Run cls st [] (.cl st)
  | stop {st v k r res} (h : LeftP st (cls.getD k.toNat []) v res) (hr : res = .pivot ∨ res = .always) : Run cls st ((v, k) :: r) res
  | go {st v k r st' out} (h : LeftP st (cls.getD k.toNat []) v (.cl st')) (hr : Run cls st' r out) : Run cls st ((v, k) :: r) out
theorem LeftP.uniq {one other : List Int} {v : Int} {a b : LR} (h : LeftP one other v a) (k : LeftP one other v b) : a = b := by
  cases a <;> cases b <;> first | rfl | exact absurd k.1 h | exact absurd h.1 k | skip
  · exact (nomatch Nrm.uniq h.2 k.2 fun _ => Iff.rfl)
  · exact (nomatch Nrm.uniq h.2 k.2 fun _ => Iff.rfl)
  · rename_i x y
    have := Nrm.uniq h.2 k.2 fun _ => Iff.rfl
    cases this; rfl
end Mine
end
section
open PySem PySem.W PyProof.Rows PySem.Spec PySem.Calls Builtin Builtin.ObjectAttr
set_option Elab.async false
set_option maxRecDepth 100000
set_option maxHeartbeats 4000000
set_option linter.unusedVariables false
namespace Mine
theorem Run.step {cls : List (List Int)} {st : List Int} {v k : Int} {q : List (Int × Int)} {out res : LR} (h : Run cls st ((v, k) :: q) out) (hL : LeftP st (cls.getD k.toNat []) v res) : (out = res ∧ (res = .pivot ∨ res = .always)) ∨ ∃ st', res = .cl st' ∧ Run cls st' q out := by
  cases h with
  | stop h hr => cases h.uniq hL; exact .inl ⟨rfl, hr⟩
  | go h hr => exact .inr ⟨_, (h.uniq hL).symm, hr⟩
theorem Run.pivot {cls : List (List Int)} {st : List Int} {v k : Int} {q : List (Int × Int)} {out : LR} (h : Run cls st ((v, k) :: q) out) (hL : LeftP st (cls.getD k.toNat []) v .pivot) : out = .pivot := (h.step hL).elim (·.1) fun ⟨_, e, _⟩ => nomatch e
theorem Run.always {cls : List (List Int)} {st : List Int} {v k : Int} {q : List (Int × Int)} {out : LR} (h : Run cls st ((v, k) :: q) out) (hL : LeftP st (cls.getD k.toNat []) v .always) : out = .always := (h.step hL).elim (·.1) fun ⟨_, e, _⟩ => nomatch e
theorem Run.cl {cls : List (List Int)} {st st' : List Int} {v k : Int} {q : List (Int × Int)} {out : LR} (h : Run cls st ((v, k) :: q) out) (hL : LeftP st (cls.getD k.toNat []) v (.cl st')) : Run cls st' q out := by
  rcases h.step hL with ⟨_, e | e⟩ | ⟨_, e, h⟩
  · cases e
  · cases e
  · cases e; exact h
theorem Run.end_ {cls : List (List Int)} {st : List Int} {out : LR} (h : Run cls st [] out) : out = .cl st := by cases h; rfl
noncomputable def chM (sv : Value) (lp : Addr) (first : Int) (tf : Tok) (x : Addr) : List (Str × Value) := [(Str.ofString "stand", sv), (Str.ofString "pairs", .ref lp), (Str.ofString "first", .int first tf), (Str.ofString "self", .ref x)]
noncomputable def chN (dx : Addr) (od : Obj) (ls : Addr) (ols : Obj) : List (Addr × Obj) := [(dx, od), (ls, ols)]
inductive JC (dx : Addr) (od : Obj) (ls : Addr) (ols : Obj) (x lp : Addr) (first : Int) (tf : Tok) (tv : Heap) (cls : List (List Int)) (links : List (Int × Int)) (out : LR) (i : Nat) : St → Prop
  | mk (sv : Value) (st : List Int) (t : Heap) (ht : Le tv t) (hsv : CT t sv st) (hst : Cl st) (hrn : Run cls st (links.drop i) out) : JC dx od ls ols x lp first tf tv cls links out i ⟨chM sv lp first tf x, chN dx od ls ols, [], t⟩
section
variable {c : Fx} {sc : List (Str × NameKind)} {s : Shared} {σ : St} {P : Value → St → Prop} {x dx ls ln : Addr} {od : Obj} {em : Int} {vs : List Value}
theorem StO.no {w : World} (h : StO w od ls ln em) {name : Str} (hn : ∀ a b e t1 t2 t3 n, lookIn name (dictOf (sDict w a b e t1 t2 t3) n) = some none) : lookIn name od = some none := by
  obtain ⟨_, _, _, _, _, rfl⟩ := h; exact hn ..
theorem GF.drop {h h' : Heap} {X S : List Addr} (g : GF h h' X S) (k : ∀ x ∈ X, ∀ o, h.get? x = some o → h'.get? x = some o) : GF h h' [] S :=
  ⟨fun b o e _ n2 => (by by_cases q : b ∈ X; exact k b q o e; exact g.1 b o e q n2), g.2⟩
theorem chain_ok {rows : List Row} {lp : Addr} {pvs : List Value} {links : List (Int × Int)} {first : Int} {tf : Tok} {out : LR} {ols : Obj} (i j : Nat) (a : Act sc c) (u : Up c 730) (J : Inst c σ x dx od ls ln em) (hi : σ.n[i]? = some (dx, od)) (hj : σ.n[j]? = some (ls, ols)) (hL : LstO ols vs)
    (hR : DVs σ.t (rows.map rowD) vs) (hz : rows.length ≤ 400) (hC : ∀ r ∈ rows, Cl r.cl) (hp : HasL c σ lp pvs) (hpn : lp ≠ ls) (hpd : DVs σ.t (links.map pairD) pvs) (hln : links.length ≤ 3)
    (hlk : ∀ p ∈ links, 0 < p.1 ∧ Lit p.1 ∧ 0 ≤ p.2 ∧ p.2 < rows.length) (hf : 0 ≤ first ∧ first < rows.length) (hrun : Run (rows.map (·.cl)) ((rows.map (·.cl)).getD first.toNat []) links out)
    (hpv : out = .pivot → Flies c σ (-1)) (hal : out = .always → Flies c σ vs.length) (h0 : ∀ st tk t', out = .cl st → links = [] → Le σ.t t' → P (.int first tk) (σ.setT t'))
    (h1 : ∀ st od' ols' row t' tk, out = .cl st → links ≠ [] → StO c.w od' ls ln (if st = [] ∧ em < 0 then vs.length else em) → LstO ols' (vs ++ [.ref row]) → DV t' (rowD ⟨Str.ofString "resolve", st, first :: links.map (·.2), .t ((links.map (·.1)).map .i)⟩) (.ref row) → Le σ.t t' →
      P (.int vs.length tk) (((σ.setN i dx od').setN j ls ols').setT t')) :
    raw c (call (.ref 166) [.ref x, .int first tf, .ref lp]) P σ := by
  have hmi := List.mem_of_getElem? hi
  have hmj := List.mem_of_getElem? hj
  refine raw_know (φ := x ≠ dx ∧ x ≠ ls ∧ dx ≠ ls) (fun s r => ⟨J.ne r, J.off r (.inr hmj) hL⟩) fun hne => ?_
  obtain ⟨hne1, hne2, hne3⟩ := hne
  refine enter [(dx, od), (ls, ols)] a u (List.forall_mem_cons.mpr ⟨hmi, List.forall_mem_singleton.mpr hmj⟩) (List.nodup_cons.mpr ⟨fun q => hne3 (List.mem_singleton.mp q), List.nodup_cons.mpr ⟨List.not_mem_nil, .nil⟩⟩) (List.forall_mem_cons.mpr ⟨J.o.notT, List.forall_mem_singleton.mpr (lst_notT hL)⟩) (by k_is) (by k_is) (Nat.le_of_ble_eq_true rfl) (fun _ => BindsTo.of_eq rfl) (by rfl) (by exact .nil) (by rfl) (by rfl) (by rfl) ?_
  intro s c' tv r I QF hQ
  have hxW : x ∉ adr [(dx, od), (ls, ols)] := fun q => by
    rcases List.mem_cons.mp q with q | q
    · exact hne1 q
    · exact hne2 (List.mem_singleton.mp q)
  have Jx : ∀ σ' : St, (dx, od) ∈ σ'.n → Inst c' σ' x dx od ls ln em := fun σ' m => ⟨J.i.enter r I hxW, .inr m, I.w ▸ J.o⟩
  have hO' : StO c'.w od ls ln em := I.w ▸ J.o
  have hp' : ∀ σ' : St, HasL c' σ' lp pvs := fun σ' => hp.enter r I fun q => by
    rcases List.mem_cons.mp q with q | q
    · obtain ⟨o, n, ho, hc, hd⟩ := hp
      have e := r.has ho
      rw [q, r.has J.d] at e; cases e
      obtain ⟨_, _, _, _, _, rfl⟩ := J.o
      exact absurd (show Value.type "dict" = Value.type "list" from hc) (by simp)
    · exact hpn (List.mem_singleton.mp q)
  have gR : DVs tv (rows.map rowD) vs := (hR.le r.V).le I.v
  have gP : DVs tv (links.map pairD) pvs := (hpd.le r.V).le I.v
  have hvl : vs.length = rows.length := by rw [gR.length, List.length_map]
  have hz' : vs.length ≤ sizeLine := by rw [hvl, sizeLine_eq]; omega
  have rowAt : ∀ (k : Int), 0 ≤ k → k < rows.length → ∃ ra r0 cv p0 n0, vs[k.toNat]? = some (.ref ra) ∧ TupAt tv ra [r0, cv, p0, n0] ∧ CT tv cv ((rows.map (·.cl)).getD k.toNat []) ∧ Cl ((rows.map (·.cl)).getD k.toNat []) := fun k h0 h1 => by
    have hk : k.toNat < rows.length := by omega
    obtain ⟨v, hv, hd⟩ := dsAt (i := k.toNat) (d := rowD rows[k.toNat]) gR (by rw [List.getElem?_map, List.getElem?_eq_getElem hk]; rfl)
    obtain ⟨ra, r0, cv, p0, n0, rfl, hT, hc⟩ := dv_row hd
    have e : (rows.map (·.cl)).getD k.toNat [] = rows[k.toNat].cl := by rw [List.getD_eq_getElem?_getD, List.getElem?_map, List.getElem?_eq_getElem hk]; rfl
    exact ⟨ra, r0, cv, p0, n0, hv, hT, e ▸ hc, e ▸ hC _ (List.getElem_mem hk)⟩
  have fly : ∀ (k : Int), Flies c σ k → ∀ (σ' : St), (dx, od) ∈ σ'.n → (ls, ols) ∈ σ'.n → ∀ s1 e f s2, R c' σ' s1 → Lift s1 s2 → Exn c'.w s1.heap (frs c'.S) e k f s2.heap → c'.E (.ref e) s2 := fun k hn σ' m1 m2 s1 e f s2 r1 hzz hE =>
    I.leave r r1 (fun b hb => by
      rcases List.mem_cons.mp hb with q | q
      · exact ⟨od, q ▸ (r.N _ hmi).1, q ▸ (r1.N _ m1).1⟩
      · rw [List.mem_singleton.mp q]; exact ⟨ols, (r.N _ hmj).1, (r1.N _ m2).1⟩) (I.w ▸ hE) hzz fun s'' hz'' hE' => hn s e s'' r hz'' hE'
  obtain ⟨ra, r0, cv, p0, n0, hv, hT, hct, hcl⟩ := rowAt first hf.1 hf.2
  refine ⟨_, _, meth_steps I.a (Jx _ (.head _)) (by k_is) (by k_is) (by k_is) (hO'.no fun _ _ _ _ _ _ _ => rfl), ?_⟩
  refine clause_at_ok I.a (I.u.le (by decide)) (Jx _ (.head _)) (hL.hasL (.inr (.tail _ (.head _)))) hf.1 (by omega) hv hT fun t1 hle1 => ?_
  refine raw_For I.a I.a.int I.p I.u.hh (fun x => rfl) ?_
  refine ⟨pvs.length, _, _, iter_list I.u.hh lp pvs, JC dx od ls ols x lp first tf tv (rows.map (·.cl)) links out,
    ⟨cv, _, _, hle1, hct.le hle1, hcl, hrun⟩, ?_, ?_, ?_⟩
  · rintro i σ s _ r
    exact r.hasL (hp' σ)
  · rintro i y I0 oI σ hi' hy ⟨sv, st, t, ht, hsv, hst, hrn⟩ hnew
    have hpl : pvs.length = links.length := by rw [gP.length, List.length_map]
    have hil : i < links.length := hpl ▸ hi'
    obtain ⟨y', hy', hyd⟩ := dsAt (i := i) (d := pairD links[i]) gP (by rw [List.getElem?_map, List.getElem?_eq_getElem hil]; rfl)
    rw [hy] at hy'; cases hy'
    obtain ⟨pa, tx, ty, rfl, hpT⟩ := dv_pair hyd
    obtain ⟨lk1, lk2, lk3, lk4⟩ := hlk _ (List.getElem_mem hil)
    refine raw_assignT I.u.hh (hpT.le ht) (by rfl) (by rfl) ?_
    refine raw_inOrder (raw_sto I.a ?_)
    refine raw_inOrder (raw_sto I.a (raw_inOrder0 ?_))
    obtain ⟨ra2, r02, cv2, p02, n02, hv2, hT2, hct2, hcl2⟩ := rowAt links[i].2 lk3 lk4
    obtain ⟨sa, svs, rfl, hsT, hsI⟩ := hsv
    refine ⟨.own (by k_is), ?_⟩
    refine ⟨_, _, meth_steps I.a (Jx _ (.head _)) (by k_is) (by k_is) (by k_is) (hO'.no fun _ _ _ _ _ _ _ => rfl), ?_⟩
    refine clause_at_ok I.a (I.u.le (by decide)) (Jx _ (.head _)) (hL.hasL (.inr (.tail _ (.head _)))) lk3 (by omega) hv2 (hT2.le ht) fun t2 hle2 => ?_
    obtain ⟨ca, cvs, rfl, hcT, hcI⟩ := hct2
    have hdrop : links.drop i = (links[i].1, links[i].2) :: links.drop (i + 1) := List.drop_eq_getElem_cons hil
    rw [hdrop] at hrn
    refine resolve_ok I.a (I.u.le (by decide)) (hsT.le hle2) ((hcT.le ht).le hle2) hsI hcI hst.L hcl2.L hst.T hcl2.T (Nat.le_trans hst.len (by decide)) (Nat.le_trans hcl2.len (by decide)) lk2.bd (fun hcla w rr t3 hN hO hle3 => ?_) fun hnc s1 e s2 r1 hz1 hE => ?_
    · cases rr with
      | none =>
        cases hO
        refine raw_isN (fun _ => ⟨fun _ => ?_, fun q => (nomatch q)⟩) fun q => absurd rfl q
        have halw : out = .always := hrn.always ⟨hcla, hN⟩
        refine raw_Raise I.a I.u (by decide) (by rfl) ⟨rfl, ?_⟩
        refine raw_fstr I.a (by decide) ⟨by decide, ⟨rfl, rfl⟩, .inl ⟨_, tx, rfl, lk2.bd⟩, by decide, fun y ty => ?_⟩
        refine ⟨.bi _, raw_steps I.a (Jx _ (.head _)) (raw_len_list (hL.hasL (.inr (.tail _ (.head _)))) hz' fun tn => ?_)⟩
        exact ⟨_, _, _, rfl, fun s1 e s2 r1 hz1 hE => fly _ (hal halw) _ (.head _) (.tail _ (.head _)) s1 e _ s2 r1 hz1 hE⟩
      | some cl =>
        have hO' := hO
        obtain ⟨wa, wvs, rfl, _⟩ := hO'
        refine raw_isN (fun q => (nomatch q)) fun _ => ⟨(fun q => nomatch q), fun _ => ?_⟩
        refine LoopEnd.nx (n := chN dx od ls ols) ⟨⟨chM (.ref wa) lp first tf x, chN dx od ls ols, [], t3⟩, ⟨?_, .refl _, rfl, Le.refl _⟩, .ref wa, cl, _, (ht.trans hle2).trans hle3, hO, res_cl hst hcl2 hN, hrn.cl ⟨hcla, hN⟩⟩
        exact lk_sub (List.forall_mem_cons.mpr ⟨rfl, List.forall_mem_cons.mpr ⟨rfl, List.forall_mem_cons.mpr ⟨rfl, List.forall_mem_singleton.mpr rfl⟩⟩⟩)
    · have hpiv : out = .pivot := hrn.pivot hnc
      exact fly (-1) (hpv hpiv) _ (.head _) (.tail _ (.head _)) s1 e _ s2 r1 hz1 hE
  · rintro σ' ⟨sv, st, t, ht, hsv, hst, hrn⟩
    have hpl : pvs.length = links.length := by rw [gP.length, List.length_map]
    rw [hpl, List.drop_length] at hrn
    have hout : out = .cl st := hrn.end_
    have hpz : pvs.length ≤ sizeLine := by rw [hpl, sizeLine_eq]; omega
    refine ⟨.bi _, raw_len_list (hp' _) hpz fun t1 t2 => ⟨fun q => ?_, fun q => ?_⟩⟩
    · have hnil : links = [] := List.length_eq_zero_iff.mp (by rw [← hpl]; simpa using q)
      refine hQ _ _ fun s' Z S N O V => ?_
      obtain ⟨r', l'⟩ := r.back0 Z (S.drop fun b hb o e => by
        rcases List.mem_cons.mp hb with q | q
        · rw [q] at e ⊢; rw [(r.N _ hmi).1] at e; cases e; exact (N _ (.head _)).1
        · have q := List.mem_singleton.mp q
          rw [q] at e ⊢; rw [(r.N _ hmj).1] at e; cases e; exact (N _ (.tail _ (.head _))).1)
      exact pst r' (h0 st tf _ hout hnil l')
    · have hnn : links ≠ [] := fun z => by rw [hpl, z] at q; cases q
      obtain ⟨sa, svs, rfl, hsT, hsI⟩ := hsv
      have pairAt : ∀ (i : Nat) (hil : i < links.length) (y : Value), pvs[i]? = some y → ∃ pa tx ty, y = .ref pa ∧ TupAt tv pa [.int links[i].1 tx, .int links[i].2 ty] := fun i hil y hy => by
        obtain ⟨y', hy', hyd⟩ := dsAt (i := i) (d := pairD links[i]) gP (by rw [List.getElem?_map, List.getElem?_eq_getElem hil]; rfl)
        rw [hy] at hy'; cases hy'
        exact dv_pair hyd
      have nxt : ∀ (f : Int × Int → Int) (acc : List Value) (i : Nat) (hil : i < links.length) (tz : Tok), IntsAre acc ((links.take i).map f) → IntsAre (acc ++ [.int (f links[i]) tz]) ((links.take (i + 1)).map f) := fun f acc i hil tz h => by
        rw [List.take_add_one, List.getElem?_eq_getElem hil, List.map_append]
        exact h.append (.cons _ _ .nil)
      refine ⟨Nat.le_of_ble_eq_true rfl, fun ta t3 hle3 hta => ?_⟩
      refine ⟨.ty _, ?_⟩
      refine raw_comp [] I.a I.u (fun x => rfl) (fun s r => closure_cells r (by rfl)) (fun y hy => (nomatch hy)) (by rfl) (by decide) (by decide) ?_
      obtain ⟨X, hIt, hX⟩ := src_sq (c := c') (σ := ⟨[(Str.ofString "stand", .ref sa), (Str.ofString "pairs", .ref lp), (Str.ofString "first", .int first tf), (Str.ofString "self", .ref x)], [(dx, od), (ls, ols)], [], t3⟩) (kk := []) I.u.hh (.inl (hp' _)) (.refl _)
      refine ⟨.refl _, pvs.length, _, X, hpz, hIt, hX, fun i t acc => IntsAre acc ((links.take i).map (fun p : Int × Int => p.2)), fun _ _ _ _ _ h => h, fun _ _ => .nil, ?_, ?_⟩
      · intro s c2 t4 i y acc J0 oJ D oD rr G a2 u2 hi hy hJ
        have hil : i < links.length := hpl ▸ hi
        obtain ⟨pa, tx, ty, rfl, hpT⟩ := pairAt i hil y hy
        refine raw_assignT (u2 _ I.u).hh (((hpT.le ht).le hle3).gr rr G) (by rfl) (by rfl) ?_
        refine raw_inOrder (raw_sto a2 ?_)
        refine raw_inOrder (raw_sto a2 (raw_inOrder0 ?_))
        exact ⟨fun _ => ⟨⟨.refl _, rfl⟩, nxt (·.2) acc i hil ty hJ⟩, fun q => (nomatch q)⟩
      · intro t4 acc D1 oD1 hle4 hacc hlen4 hLo1 hND1
        rw [hpl, List.take_length] at hacc
        have hal1 := hacc.length
        rw [List.length_map] at hal1
        refine raw_tupleL (vs := acc) (hLo1.hasL (.inr (.head _))) (by rw [hal1, sizeLine_eq]; omega) fun tb t5 hle5 htb => ?_
        refine raw_addT (((TupAt.of hta).le hle4).le hle5) (.of htb) (by rw [hal1]; simp; omega) fun tc t6 htc hle6 => ?_
        refine ⟨_, _, meth_steps I.a (Jx _ (.tail _ (.head _))) (by k_is) (by k_is) (by k_is) (hO'.no fun _ _ _ _ _ _ _ => rfl), fun t7 => ?_⟩
        refine ⟨.ty _, ?_⟩
        refine raw_comp [] I.a I.u (fun x => rfl) (fun s r => closure_cells r (by rfl)) (fun y hy => (nomatch hy)) (by rfl) (by decide) (by decide) ?_
        obtain ⟨X2, hIt2, hX2⟩ := src_sq (c := c') (σ := ⟨[(Str.ofString "premises", .ref tc), (Str.ofString "stand", .ref sa), (Str.ofString "pairs", .ref lp), (Str.ofString "first", .int first tf), (Str.ofString "self", .ref x)], [(D1, oD1), (dx, od), (ls, ols)], [], t6⟩) (kk := []) I.u.hh (.inl (hp' _)) (.refl _)
        have le36 : Le t3 t6 := (hle4.trans hle5).trans hle6
        refine ⟨.refl _, pvs.length, _, X2, hpz, hIt2, hX2, fun i t acc => IntsAre acc ((links.take i).map (fun p : Int × Int => p.1)), fun _ _ _ _ _ h => h, fun _ _ => .nil, ?_, ?_⟩
        · intro s c2 t8 i y acc J0 oJ D oD rr G a2 u2 hi hy hJ
          have hil : i < links.length := hpl ▸ hi
          obtain ⟨pa, tx, ty, rfl, hpT⟩ := pairAt i hil y hy
          refine raw_assignT (u2 _ I.u).hh ((((hpT.le ht).le hle3).le le36).gr rr G) (by rfl) (by rfl) ?_
          refine raw_inOrder (raw_sto a2 ?_)
          refine raw_inOrder (raw_sto a2 (raw_inOrder0 ?_))
          exact ⟨fun _ => ⟨⟨.refl _, rfl⟩, nxt (·.1) acc i hil tx hJ⟩, fun q => (nomatch q)⟩
        · intro t8 acc2 D2 oD2 hle8 hacc2 hlen8 hLo2 hND2
          rw [hpl, List.take_length] at hacc2
          have hal2 := hacc2.length
          rw [List.length_map] at hal2
          refine raw_tupleL (vs := acc2) (hLo2.hasL (.inr (.head _))) (by rw [hal2, sizeLine_eq]; omega) fun td t9 hle9 htd => ?_
          have le39 : Le t3 t9 := (le36.trans hle8).trans hle9
          have hps : ∀ p ∈ first :: links.map (·.2), 0 ≤ p ∧ p < vs.length := fun p hp => by
            rcases List.mem_cons.mp hp with rfl | hp
            · exact ⟨hf.1, by rw [hvl]; exact hf.2⟩
            · obtain ⟨q, hq, rfl⟩ := List.mem_map.mp hp
              have := hlk q hq
              exact ⟨this.2.2.1, by rw [hvl]; exact this.2.2.2⟩
          refine add_ok (pr := first :: links.map (·.2)) (pvs := .int first tf :: acc) 2 3 I.a (I.u.le (by decide)) (Jx _ (.tail _ (.tail _ (.head _)))) rfl rfl hL (by omega) (.inr ((hsT.le hle3).le le39)) hsI (Nat.le_trans hst.len (by decide)) (.inr ((htc.le hle8).le hle9)) (.cons _ _ hacc) (by rw [List.length_cons, List.length_map]; omega) (by decide) (fun p hp => ?_) (fun od' ols' row t10 cv' pv' tk hr1 hr2 hr3 hO2 hL2 hrow hcv hpv' hle10 => ?_) fun hno => ?_
          · have := hps p hp
            have : p.natAbs < 10 ^ 3 := by omega
            exact Nat.lt_of_lt_of_le this (by decide +kernel)
          · refine hQ _ _ fun s' Z S N O V => ?_
            obtain ⟨r', l'⟩ := r.back2 hi hj hne3 Z S (N _ (.tail _ (.tail _ (.head _)))).1 (N _ (.tail _ (.tail _ (.tail _ (.head _))))).1 J.o.notT (lst_notT hL)
            refine pst r' (h1 st od' ols' row _ tk hout hnn (I.w ▸ hO2) hL2 (DV.le V (dv_tup hrow ?_)) l')
            refine dvs_cons dvS (dvs_cons (ct_iff.mp hcv) (dvs_cons (ct_iff.mp hpv') (dvs_cons ?_ dvs_nil)))
            exact dv_tup ((TupAt.of htd).le hle10) (ints_dvs hacc2)
          · exact absurd ⟨by unfold ruleDs ruleNames; simp, hst.T, hps⟩ hno
end
end Mine
end
section
open PySem PySem.W PyProof.Rows PySem.Spec PySem.Calls Builtin Builtin.ObjectAttr
set_option Elab.async false
set_option maxRecDepth 100000
set_option maxHeartbeats 4000000
set_option linter.unusedVariables false
namespace Mine
noncomputable def clD (cl : List Int) : D := .t (cl.map .i)
theorem LoopEnd.brk {I : Addr} {o : Obj} {J : St → Prop} {Q : Flow → St → Prop} {m : List (Str × Value)} {n : List (Addr × Obj)} {k : List (Str × Addr × Option Value)} {t : Heap} (h : Q .next ⟨m, n, k, t⟩) : LoopEnd I o J Q .brk ⟨m, n ++ [(I, o)], k, t⟩ :=
  ⟨List.getLast?_concat, by show Q _ ⟨m, (n ++ [(I, o)]).dropLast, k, t⟩; rw [List.dropLast_concat]; exact h⟩
/-- a link that the law may draw -/
noncomputable def okLink (n : Nat) (p : Int × Int) : Prop := 0 < p.1 ∧ Lit p.1 ∧ 0 ≤ p.2 ∧ p.2 < n
/-- the pool of variables -/
structure Pool (t : Heap) (lp : Addr) (pv : List Value) (ps : List Int) : Prop where
  T : TupAt t lp pv
  I : IntsAre pv ps
  l0 : 0 < ps.length
  l4 : ps.length ≤ 4
  ok : ∀ p ∈ ps, 0 < p ∧ Lit p
theorem Pool.le {t t' : Heap} {lp : Addr} {pv : List Value} {ps : List Int} (h : Pool t lp pv ps) (l : Le t t') : Pool t' lp pv ps := ⟨h.T.le l, h.I, h.l0, h.l4, h.ok⟩
theorem Pool.at_ {t : Heap} {lp : Addr} {pv : List Value} {ps : List Int} (h : Pool t lp pv ps) {i : Nat} (hi : i < ps.length) : ∃ u, pv[i]? = some (.int (ps.getD i 0) u) ∧ 0 < ps.getD i 0 ∧ Lit (ps.getD i 0) := by
  obtain ⟨u, hu⟩ := ints_at h.I hi
  have := h.ok (ps.getD i 0) (by rw [List.getD_eq_getElem?_getD, List.getElem?_eq_getElem hi]; exact List.getElem_mem hi)
  exact ⟨u, hu, this⟩
theorem clsAt {t : Heap} {cls : List (List Int)} {cvs : List Value} (h : DVs t (cls.map clD) cvs) (hC : ∀ c ∈ cls, Cl c) {k : Int} (h0 : 0 ≤ k) (h1 : k < cls.length) : ∃ ca vs, cvs[k.toNat]? = some (.ref ca) ∧ TupAt t ca vs ∧ IntsAre vs (cls.getD k.toNat []) ∧ Cl (cls.getD k.toNat []) := by
  have hk : k.toNat < cls.length := by omega
  obtain ⟨v, hv, hd⟩ := dsAt (i := k.toNat) (d := clD cls[k.toNat]) h (by rw [List.getElem?_map, List.getElem?_eq_getElem hk]; rfl)
  obtain ⟨ca, vs, rfl, hT, hI⟩ := ct_iff.mpr hd
  have e : cls.getD k.toNat [] = cls[k.toNat] := by rw [List.getD_eq_getElem?_getD, List.getElem?_eq_getElem hk]; rfl
  exact ⟨ca, vs, hv, hT, e ▸ hI, e ▸ hC _ (List.getElem_mem hk)⟩
/-- what stays as it is in the walk of the links -/
structure LKX where
  (lk fd lp lcl : Addr)
  (first : Int)
  (tf : Tok)
noncomputable def LKX.m (X : LKX) (sa : Addr) : List (Str × Value) := [(Str.ofString "stand", .ref sa), (Str.ofString "links", .ref X.lk), (Str.ofString "first", .int X.first X.tf), (Str.ofString "pool", .ref X.lp), (Str.ofString "feed", .ref X.fd)]
noncomputable def LKX.k (X : LKX) (L : Addr) (ok : Option Value) : List (Str × Addr × Option Value) := [(Str.ofString "k", L + 2, ok), (Str.ofString "clauses", L + 1, some (.ref X.lcl))]
noncomputable def LKX.n (X : LKX) (rg : Addr) (orr olk o : Obj) : List (Addr × Obj) := [(rg, orr), (X.lk, olk), (X.fd, o)]
inductive JL (w : World) (L : Addr) (X : LKX) (rg : Addr) (orr : Obj) (lc : Addr) (tv : Heap) (cls : List (List Int)) (S0 : List Int) (k : Int) (i : Nat) : St → Prop
  | mk (sa : Addr) (sva : List Value) (st : List Int) (olk : Obj) (lv : List Value) (Ls : List (Int × Int)) (o' : Obj) (k' : Int) (okk : Option Value) (t : Heap) (hle : Le tv t) (hsT : TupAt t sa sva) (hsI : IntsAre sva st) (hst : Cl st) (hLo : LstO olk lv) (hLd : DVs t (Ls.map pairD) lv) (hLl : Ls.length ≤ i) (hLok : ∀ p ∈ Ls, okLink cls.length p) (hpre : ∀ q out, Run cls st q out → Run cls S0 (Ls ++ q) out) (hF' : FeedO w o' lc k') (hk1 : k ≤ k') (hk2 : k' ≤ k + 1 + 4 * i) : JL w L X rg orr lc tv cls S0 k i ⟨X.m sa, X.n rg orr olk o', X.k L okk, t⟩
inductive KL (L : Addr) (X : LKX) (sa : Addr) (lap : Value) (base : List (Addr × Obj)) (rk : Addr) (ork : Obj) (n : Nat) (t0 : Heap) (j : Nat) : St → Prop
  | mk (pre : List (Addr × Obj)) (ab : Addr) (oab : Obj) (abv : List Value) (aps : List (Int × Int)) (okk : Option Value) (t : Heap) (m1 : (rk, ork) ∈ pre) (m2 : (ab, oab) ∈ pre) (hLab : LstO oab abv) (hle4 : Le t0 t) (hda : DVs t (aps.map pairD) abv) (hoka : ∀ p ∈ aps, okLink n p) (hla : aps.length ≤ 4 * j) : KL L X sa lap base rk ork n t0 j ⟨(Str.ofString "able", .ref ab) :: (Str.ofString "lap", lap) :: X.m sa, pre ++ base, X.k L okk, t⟩
inductive ML (w : World) (L : Addr) (X : LKX) (sa rg : Addr) (orr : Obj) (z : Addr × Obj) (lc : Addr) (n : Nat) (lv : List Value) (k' : Int) (t4 : Heap) (σ : St) : Prop
  | mk (pa : Addr) (p : Int × Int) (olk' o'' : Obj) (k'' : Int) (okk'' : Option Value) (t'' : Heap) (hless : Less ⟨X.m sa, X.n rg orr olk' o'' ++ [z], X.k L okk'', t''⟩ σ) (hLo' : LstO olk' (lv ++ [.ref pa])) (hpd' : DV t'' (pairD p) (.ref pa)) (hokp : okLink n p) (hF'' : FeedO w o'' lc k'') (hk3 : k' ≤ k'') (hk4 : k'' ≤ k' + 3) (hle5 : Le t4 t'')
inductive AL (n q : Nat) (t : Heap) (acc : List Value) : Prop
  | mk (bps : List (Int × Int)) (b1 : DVs t (bps.map pairD) acc) (b2 : ∀ p ∈ bps, okLink n p) (b3 : bps.length ≤ q)
theorem m_sub5 {a b c d e : Str × Value} {m : List (Str × Value)} (ha : lk m a.1 = some a.2) (hb : lk m b.1 = some b.2) (hc : lk m c.1 = some c.2) (hd : lk m d.1 = some d.2) (he : lk m e.1 = some e.2) : ∀ x v, lk [a, b, c, d, e] x = some v → lk m x = some v :=
  lk_sub (List.forall_mem_cons.mpr ⟨ha, List.forall_mem_cons.mpr ⟨hb, List.forall_mem_cons.mpr ⟨hc, List.forall_mem_cons.mpr ⟨hd, List.forall_mem_singleton.mpr he⟩⟩⟩⟩)
theorem m_sub6 {a b c d e f : Str × Value} {m : List (Str × Value)} (ha : lk m a.1 = some a.2) (hb : lk m b.1 = some b.2) (hc : lk m c.1 = some c.2) (hd : lk m d.1 = some d.2) (he : lk m e.1 = some e.2) (hf : lk m f.1 = some f.2) : ∀ x v, lk [a, b, c, d, e, f] x = some v → lk m x = some v :=
  lk_sub (List.forall_mem_cons.mpr ⟨ha, List.forall_mem_cons.mpr ⟨hb, List.forall_mem_cons.mpr ⟨hc, List.forall_mem_cons.mpr ⟨hd, List.forall_mem_cons.mpr ⟨he, List.forall_mem_singleton.mpr hf⟩⟩⟩⟩⟩)
theorem m_sub7 {a b c d e f g : Str × Value} {m : List (Str × Value)} (ha : lk m a.1 = some a.2) (hb : lk m b.1 = some b.2) (hc : lk m c.1 = some c.2) (hd : lk m d.1 = some d.2) (he : lk m e.1 = some e.2) (hf : lk m f.1 = some f.2) (hg : lk m g.1 = some g.2) : ∀ x v, lk [a, b, c, d, e, f, g] x = some v → lk m x = some v :=
  lk_sub (List.forall_mem_cons.mpr ⟨ha, List.forall_mem_cons.mpr ⟨hb, List.forall_mem_cons.mpr ⟨hc, List.forall_mem_cons.mpr ⟨hd, List.forall_mem_cons.mpr ⟨he, List.forall_mem_cons.mpr ⟨hf, List.forall_mem_singleton.mpr hg⟩⟩⟩⟩⟩⟩)
section
variable {c : Fx} {sc : List (Str × NameKind)} {s : Shared} {σ : St} {P : Value → St → Prop}
theorem raw_getlast {l : Addr} {ws : List Value} {y : Value} {v i : Expr} {t : Tok} (hh : HasL c σ l (ws ++ [y])) (hz : ws.length ≤ 1000) (h : P y σ) (hs : plainSlice i = true) : raw c (subscriptTail v i (.ref l) (.int (-1) t)) P σ :=
  raw_tail (fun _ r => (r.hasL hh).typeIs) slot_list_getitem.lookup (fun _ r => wpAny_getItem_list_neg (k := -1) (r.hasL hh) (by decide) (by rw [List.size_toArray, List.length_append, List.length_singleton]; omega) (by decide) (by rw [List.size_toArray, List.length_append, List.length_singleton, show (-1 + ((ws.length + 1 : Nat) : Int)).toNat = ws.length by omega]; simp) (pst r h)) hs
theorem raw_isStr {v : Value} {res : LR} (hv : LV σ.t v res) (h1 : res = .pivot ∨ res = .always → P (.bool true) σ) (h2 : ∀ st, res = .cl st → P (.bool false) σ) : raw c (call (.builtin "isinstance") [v, .type "str"]) P σ := fun s r => by
  cases res with
  | pivot => obtain ⟨u, rfl⟩ := hv; exact PySem.IsiPair.str_str (done r (h1 (.inl rfl)) _)
  | always => obtain ⟨u, rfl⟩ := hv; exact PySem.IsiPair.str_str (done r (h1 (.inr rfl)) _)
  | cl st =>
    obtain ⟨a, vs, rfl, hT, hI⟩ := hv
    obtain ⟨o, ho, hc, _⟩ := r.tup hT
    exact PySem.IsiPair.tuple_str ho hc (done r (h2 st rfl) _)
theorem links_ok {fd lc lp lcl : Addr} {o : Obj} {k : Int} {vs pv cvs : List Value} {ns ps : List Int} {cls : List (List Int)} {first : Int} {tf : Tok} (i : Nat) (a : Act sc c) (u : Up c 680) (hi : σ.n[i]? = some (fd, o)) (hF : FeedO c.w o lc k) (hL : HasL c σ lc vs) (hI : IntsAre vs ns) (hn : ns.length ≤ 48)
    (h0 : 0 ≤ k) (hk : k ≤ 800) (hP : Pool σ.t lp pv ps) (hcl : HasL c σ lcl cvs) (hcn : lcl ≠ fd) (hcd : DVs σ.t (cls.map clD) cvs) (hcC : ∀ c ∈ cls, Cl c) (hc20 : cls.length ≤ 20) (hf : 0 ≤ first ∧ first < cls.length)
    (h : ∀ ta lk olk lv sv links res o' k' t', NewAt lk σ → TupAt t' ta [.ref lk, sv] → LstO olk lv → DVs t' (links.map pairD) lv → links.length ≤ 3 → (∀ p ∈ links, okLink cls.length p) → Run cls (cls.getD first.toNat []) links res → LV t' sv res → (∀ st, res = .cl st → Cl st) →
      FeedO c.w o' lc k' → k ≤ k' → k' ≤ k + 13 → Le σ.t t' → P (.ref ta) (((σ.setN i fd o').addN lk olk).setT t')) :
    raw c (call (.ref 230) [.ref fd, .ref lcl, .ref lp, .int first tf]) P σ := by
  have hd := hF
  obtain ⟨t00, hd⟩ := hd
  refine enter [(fd, o)] a u (List.forall_mem_singleton.mpr (List.mem_of_getElem? hi)) (List.nodup_cons.mpr ⟨List.not_mem_nil, .nil⟩) (List.forall_mem_singleton.mpr (dict_notT hd)) (by k_is) (by k_is) (Nat.le_of_ble_eq_true rfl) (fun _ => BindsTo.of_eq rfl) (by rfl) (by decide) (by rfl) (by rfl) (by rfl) ?_
  intro s c' tv r I QF hQ
  have gP : Pool tv lp pv ps := (hP.le r.V).le I.v
  have gC : DVs tv (cls.map clD) cvs := (hcd.le r.V).le I.v
  have hL' : ∀ σ', HasL c' σ' lc vs := fun σ' => hL.enter r I (hL.ne r (.inr (List.mem_of_getElem? hi)) hd)
  have hcl' : ∀ σ', HasL c' σ' lcl cvs := fun σ' => hcl.enter r I fun q => hcn (List.mem_singleton.mp q)
  have hcvl : cvs.length = cls.length := by rw [gC.length, List.length_map]
  obtain ⟨ca, cva, hcv, hcT, hcI, hcC0⟩ := clsAt gC hcC hf.1 hf.2
  refine raw_AssignSwap I.a I.u.hh (by rfl) (by rfl) (by rfl) (by rfl) ?_
  refine raw_getlist (hcl' _) hf.1 (by omega) hcv ?_ rfl
  refine ⟨Nat.zero_le _, fun lk hNlk => ?_⟩
  refine ⟨Nat.le_of_ble_eq_true rfl, fun tp t1 hle1 hget => ⟨tp, _, _, rfl, .of hget, ?_⟩⟩
  obtain ⟨X, hX⟩ : ∃ X : LKX, X = ⟨lk, fd, lp, lcl, first, tf⟩ := ⟨_, rfl⟩
  obtain ⟨S0, hS0⟩ : ∃ S, S = cls.getD first.toNat [] := ⟨_, rfl⟩
  have fin : ∀ ta olk lv sv links res o' k' m n kk t, (X.lk, olk) ∈ n → (X.fd, o') ∈ n → TupAt t ta [.ref X.lk, sv] → LstO olk lv → DVs t (links.map pairD) lv → links.length ≤ 3 → (∀ p ∈ links, okLink cls.length p) → Run cls S0 links res → LV t sv res → (∀ st, res = .cl st → Cl st) →
      FeedO c'.w o' lc k' → k ≤ k' → k' ≤ k + 13 → QF (.ret (.ref ta)) ⟨m, n, kk, t⟩ := by
   rw [hX, hS0]
   exact fun ta olk lv sv links res o' k' m n kk t m1 m2 f1 f2 f3 f4 f5 f6 f7 f8 f9 f10 f11 => hQ _ _ fun s' Z S N O V => by
    have nl := N _ m1
    have nf := N _ m2
    obtain ⟨r', l', g2⟩ := Fin.one I r hi Z S nf.1 (dict_notT hd) nl.1 nl.2 (O _ m1) fun q => by
      have e := nl.1
      rw [List.mem_singleton.mp q, nf.1] at e
      cases e
      obtain ⟨_, _, _, _, h3, _⟩ := f9
      obtain ⟨_, ⟨_, h4⟩, _⟩ := f2
      rw [h4] at h3; cases h3
    exact pst r' (h ta lk olk lv sv links res o' k' _ g2 (f1.le V) f2 (f3.le V) f4 f5 f6 (f7.le V) f8 (I.w ▸ f9) f10 f11 l')
  have gclX : ∀ σ', HasL c' σ' X.lcl cvs := by rw [hX]; exact hcl'
  have gPX : Pool tv X.lp pv ps := by rw [hX]; exact gP
  refine raw_weak (σ' := ⟨X.m ca, [(X.lk, lstObj []), (X.fd, o)], X.k c'.L none, t1⟩) (by rw [hX]; exact ⟨m_sub5 rfl rfl rfl rfl rfl, .refl _, rfl, Le.refl _⟩) ?_
  rw [← hS0] at hcI hcC0
  clear hX hS0 gP h hL hcl hP hQ hcd r
  refine raw_ForR I.a I.p I.u.hh (fun x => rfl) ?_
  refine ⟨.ty _, ?_⟩
  refine ⟨.own (by k_is), ?_⟩
  intro t2
  refine next_ok (ns := ns) 1 I.a (I.u.le (by decide)) rfl (I.w ▸ hF) (hL' _) hI hn h0 (by omega) (by decide) fun rr tr o1 t1' hr0 hr4 hF1 le1 => ?_
  refine raw_range fun rg u1 u2 u3 hNr => ?_
  obtain ⟨J, hJ⟩ : ∃ J : Nat → St → Prop, J = JL c'.w c'.L X rg (rgO 0 rr u1 u2 u3) lc tv cls S0 k := ⟨_, rfl⟩
  refine ⟨rr.toNat, _, _, iter_rg (a := 0) (b := rr) (t := u1) (u := u2) (v := u3) I.u.hh rg (by decide) (by omega) (by split <;> omega) (by decide) (by omega), J, ?_, ?_, ?_, ?_⟩
  · rw [hJ]
    exact ⟨ca, cva, _, lstObj [], [], [], o1, k + 1, none, _, hle1.trans le1, (hcT.le hle1).le le1, hcI, hcC0, ⟨rfl, ⟨_, rfl⟩, rfl⟩, dvs_nil, Nat.le_refl _, (fun p hp => nomatch hp), fun q out h => h, hF1, by omega, by omega⟩
  · intro i σ s h r
    rw [hJ] at h
    obtain ⟨_⟩ := h
    exact (r.N _ (.head _)).1
  · intro i x J0 oJ σ hi' hx hj hnew
    rw [hJ] at hj
    obtain ⟨sa, sva, st, olk, lv, L, o', k', okk, t, hle, hsT, hsI, hst, hLo, hLd, hLl, hLok, hpre, hF', hk1, hk2⟩ := hj
    obtain ⟨t5, rfl⟩ := hx
    have hlvl : lv.length = L.length := by rw [hLd.length, List.length_map]
    refine raw_sto I.a ?_
    refine raw_step (raw_go1 I.a I.a.int ?_)
    refine ⟨Nat.zero_le _, fun ab hNab => ?_⟩
    refine raw_step ?_
    refine raw_For I.a I.a.int I.p I.u.hh (fun x => rfl) ?_
    refine ⟨.ty _, .bi _, raw_len_list (gclX _) (by rw [hcvl, sizeLine_eq]; omega) fun t3 => raw_range fun rk v1 v2 v3 hNrk => ?_⟩
    obtain ⟨K, hK⟩ : ∃ K : Nat → St → Prop, K = KL c'.L X sa (.int (0 + ↑i) t5) (X.n rg (rgO 0 rr u1 u2 u3) olk o' ++ [(J0, oJ)]) rk (rgO 0 cvs.length v1 v2 v3) cls.length t := ⟨_, rfl⟩
    refine ⟨cls.length, _, _, iter_rg (a := 0) (b := cvs.length) (t := v1) (u := v2) (v := v3) I.u.hh rk (by decide) (by omega) (by split <;> omega) (by decide) (by omega), K, ?_, ?_, ?_, ?_⟩
    · rw [hK]
      exact ⟨[(rk, rgO 0 cvs.length v1 v2 v3), (ab, lstObj [])], ab, lstObj [], [], [], okk, _, .head _, .tail _ (.head _), ⟨rfl, ⟨_, rfl⟩, rfl⟩, Le.refl _, dvs_nil, (fun p hp => nomatch hp), Nat.le_refl _⟩
    · intro j σ s h r
      rw [hK] at h
      obtain ⟨pre, _, _, _, _, _, _, m1⟩ := h
      exact (r.N _ (List.mem_append_left _ m1)).1
    · intro j y J1 oJ1 σ hj hy hj' hnew1
      rw [hK] at hj'
      obtain ⟨pre, ab, oab, abv, aps, okk1, t4, m1, m2, hLab, hle4, hda, hoka, hla⟩ := hj'
      obtain ⟨t7, rfl⟩ := hy
      obtain ⟨cj, cjv, hjv, hjT, hjI, hjC⟩ := clsAt gC hcC (k := (0 + ↑j : Int)) (by omega) (by omega)
      refine raw_sto I.a ?_
      have habl : abv.length = aps.length := by rw [hda.length, List.length_map]
      refine raw_comp (X.k c'.L (some (.int (0 + ↑j) t7))) I.a I.u (fun x => rfl) (fun s r => closure_cells r (by rfl)) (List.forall_mem_cons.mpr ⟨rfl, List.forall_mem_singleton.mpr rfl⟩) (by rfl) (by decide) (by decide) ?_
      obtain ⟨Xs, hIt, hXs⟩ := src_sq (c := c') (σ := ⟨(Str.ofString "able", .ref ab) :: (Str.ofString "lap", .int (0 + ↑i) t5) :: X.m sa, pre ++ (X.n rg (rgO 0 rr u1 u2 u3) olk o' ++ [(J0, oJ)]) ++ [(J1, oJ1)], X.k c'.L (some (.int (0 + ↑j) t7)), t4⟩) (kk := X.k c'.L (some (.int (0 + ↑j) t7))) I.u.hh (.inr (hsT.le hle4)) (.refl _)
      have hsvl : sva.length = st.length := hsI.length
      have hst4 := hst.len
      refine ⟨.refl _, sva.length, _, Xs, by rw [hsvl, sizeLine_eq]; omega, hIt, hXs, AL cls.length, fun q ta tb acc l hh => ?_, fun _ _ => ⟨[], dvs_nil, (fun p hp => nomatch hp), Nat.le_refl _⟩, ?_, ?_⟩
      · obtain ⟨bps, b1, b2, b3⟩ := hh
        exact ⟨bps, b1.le l, b2, b3⟩
      · intro s2 c2 t8 q y acc Jc oJc D oD rr2 G a2 u2' hq hy hJc
        obtain ⟨bps, b1, b2, b3⟩ := hJc
        have hq' : q < st.length := hsvl ▸ hq
        obtain ⟨tq, hy'⟩ := ints_at hsI hq'
        rw [hy] at hy'; cases hy'
        have hmem : st.getD q 0 ∈ st := by rw [List.getD_eq_getElem?_getD, List.getElem?_eq_getElem hq']; exact List.getElem_mem hq'
        refine raw_sto a2 ?_
        intro t9
        have hoff : X.lcl ∉ (X.k c'.L (some (.int (0 + ↑j) t7))).map (·.2.1) := fun z => by
          obtain ⟨w, hw, e⟩ := List.mem_map.mp z
          obtain ⟨ow, how, hdw⟩ := (rr2.K w hw).2.1
          have hl := gclX ⟨(Str.ofString "able", .ref ab) :: (Str.ofString "lap", .int (0 + ↑i) t5) :: X.m sa, pre ++ (X.n rg (rgO 0 rr u1 u2 u3) olk o' ++ [(J0, oJ)]) ++ [(J1, oJ1)], X.k c'.L (some (.int (0 + ↑j) t7)), t4⟩
          obtain ⟨ol, nl, ho, hc, hd'⟩ := hl
          rw [e, rr2.has ho] at how; cases how
          rw [hd'] at hdw; cases hdw
        obtain ⟨olc, nlc, e1, e2, e3⟩ := (gclX _).gr rr2 G hoff
        refine raw_getlist ⟨olc, nlc, .inl e1, e2, e3⟩ (by omega) (by omega) hjv ?_ rfl
        have hcT8 : TupAt t8 cj cjv := (((hjT.le hle).le hle4).le rr2.V).le G.v
        refine raw_inI (u2' _ I.u) (by decide) (.inr hcT8) hjI fun b hb => ⟨fun _ => ?_, fun _ => ⟨⟨.refl _, rfl⟩, bps, b1, b2, Nat.le_succ_of_le b3⟩⟩
        refine ⟨.bi _, raw_abs fun t10 => ?_⟩
        refine ⟨Nat.le_of_ble_eq_true rfl, fun pa t11 hle11 hget11 => ⟨⟨.refl _, rfl⟩, bps ++ [(if st.getD q 0 < 0 then -st.getD q 0 else st.getD q 0, (0 + ↑j : Int))], ?_, fun p hp => ?_, ?_⟩⟩
        · rw [List.map_append]
          exact (b1.le hle11).app (DVs.one (dv_tup (.of hget11) (dvs_cons dvI (dvs_cons dvI dvs_nil))))
        · rcases List.mem_append.mp hp with z | z
          · exact b2 p z
          · rw [List.mem_singleton.mp z]
            have hne := hst.T.1 _ hmem
            have hlit := hst.L _ hmem
            refine ⟨?_, ?_, by show (0 : Int) ≤ 0 + ↑j; omega, by show (0 + ↑j : Int) < _; omega⟩
            · show 0 < (if st.getD q 0 < 0 then -st.getD q 0 else st.getD q 0); split <;> omega
            · show Lit (if st.getD q 0 < 0 then -st.getD q 0 else st.getD q 0)
              unfold Lit at hlit ⊢
              split
              · rwa [Int.natAbs_neg]
              · exact hlit
        · rw [List.length_append]; exact Nat.succ_le_succ b3
      · intro t8 acc D oD hle8 hacc hlen8 hLoD hND
        obtain ⟨bps, b1, b2, b3⟩ := hacc
        have hal : acc.length = bps.length := by rw [b1.length, List.length_map]
        refine raw_addL (hLab.hasL (.inr (.tail _ (List.mem_append_left _ (List.mem_append_left _ m2))))) (hLoD.hasL (.inr (.head _))) (by omega) fun d hNd => ?_
        refine LoopEnd.nx (n := ((d, lstObj (abv ++ acc)) :: (D, oD) :: pre) ++ (X.n rg (rgO 0 rr u1 u2 u3) olk o' ++ [(J0, oJ)])) ⟨⟨(Str.ofString "able", .ref d) :: (Str.ofString "lap", .int (0 + ↑i) t5) :: X.m sa, ((d, lstObj (abv ++ acc)) :: (D, oD) :: pre) ++ (X.n rg (rgO 0 rr u1 u2 u3) olk o' ++ [(J0, oJ)]), X.k c'.L (some (.int (0 + ↑j) t7)), t8⟩, ⟨?_, .refl _, rfl, Le.refl _⟩, ?_⟩
        · exact m_sub7 rfl rfl rfl rfl rfl rfl rfl
        · rw [hK]
          refine ⟨_, d, _, _, aps ++ bps, _, _, .tail _ (.tail _ m1), .head _, ⟨rfl, ⟨_, rfl⟩, rfl⟩, hle4.trans hle8, ?_, fun p hp => ?_, ?_⟩
          · rw [List.map_append]; exact (hda.le hle8).app b1
          · exact (List.mem_append.mp hp).elim (hoka p) (b2 p)
          · rw [List.length_append]; omega
    · intro σ hj'
      rw [hK] at hj'
      obtain ⟨pre, ab, oab, abv, aps, okk1, t4, m1, m2, hLab, hle4, hda, hoka, hla⟩ := hj'
      clear hK
      have habl : abv.length = aps.length := by rw [hda.length, List.length_map]
      refine raw_cut (M := ML c'.w c'.L X sa rg (rgO 0 rr u1 u2 u3) (J0, oJ) lc cls.length lv k' t4) ?_ ?_
      · refine raw_weak (σ' := ⟨(Str.ofString "able", .ref ab) :: X.m sa, (ab, oab) :: (X.n rg (rgO 0 rr u1 u2 u3) olk o' ++ [(J0, oJ)]), X.k c'.L okk1, t4⟩) ⟨m_sub6 rfl rfl rfl rfl rfl rfl, (List.singleton_sublist.mpr m2).append (.refl _), rfl, Le.refl _⟩ ?_
        refine raw_go1 I.a I.a.int ?_
        refine ⟨Nat.zero_le _, fun em hNem => ?_⟩
        refine raw_neL (ds := aps.map pairD) (es := []) I.u (by decide) (hLab.hasL (.inr (.tail _ (.head _)))) (lst_has (.inr (.head _))) hda dvs_nil (by
          clear hda habl hla hoka
          induction aps with
          | nil => exact Nat.zero_le _
          | cons p q ih => rw [List.map_cons]; unfold deps; exact Nat.max_le.mpr ⟨by unfold pairD dep deps deps deps dep; decide, ih⟩) fun b hb => ⟨fun q => ?_, fun q => ⟨(fun q => nomatch q), fun _ => ?_⟩⟩
        · refine ⟨.own (by k_is), ?_⟩
          intro t11
          have hne : aps ≠ [] := fun z => (hb.mp q) (by rw [z]; rfl)
          have hpos : 0 < aps.length := List.length_pos_iff.mpr hne
          refine next_ok (ns := ns) 4 I.a (I.u.le (by decide)) rfl hF' (hL' _) hI hn (by omega) (by omega) (by decide) fun r10 tr10 o10 t10' h10 h10' hF10 le10 => ?_
          intro t12
          refine ⟨fun _ => ?_, fun _ => ?_⟩
          · refine ⟨_, _, meth_list (.inr (.tail _ (.tail _ (.tail _ (.head _))))) hLo PySem.F.slot_list_append PySem.F.type_list_append, ?_⟩
            refine ⟨.own (by k_is), ⟨.bi _, raw_len_list (hLab.hasL (.inr (.tail _ (.head _)))) (by rw [habl, sizeLine_eq]; omega) fun t13 => ?_⟩⟩
            refine next_ok (ns := ns) 4 I.a (I.u.le (by decide)) rfl hF10 (hL' _) hI hn (by omega) (by omega) (by omega) fun r14 tr14 o14 t14' h14 h14' hF14 le14 => ?_
            have hr14 : r14.toNat < aps.length := by omega
            obtain ⟨v14, hv14, hd14⟩ := dsAt (i := r14.toNat) (d := pairD aps[r14.toNat]) hda (by rw [List.getElem?_map, List.getElem?_eq_getElem hr14]; rfl)
            obtain ⟨pa, tx14, ty14, rfl, hT14⟩ := dv_pair hd14
            refine raw_getlist (hLab.hasL (.inr (.tail _ (.head _)))) h14 (by omega) hv14 ?_ rfl
            refine raw_append 3 rfl hLo (by rw [hlvl, sizeLine_eq]; omega) fun olk' hLo' => ⟨rfl, pa, aps[r14.toNat], olk', o14, k' + 2, okk1, t14', ⟨m_sub5 rfl rfl rfl rfl rfl, .cons _ (.cons _ (.refl _)), rfl, Le.refl _⟩, hLo', (hd14.le le10).le le14, hoka _ (List.getElem_mem hr14), by rw [show k' + 2 = k' + 1 + 1 by omega]; exact hF14, by omega, by omega, le10.trans le14⟩
          · skip
            refine ⟨_, _, meth_list (.inr (.tail _ (.tail _ (.tail _ (.head _))))) hLo PySem.F.slot_list_append PySem.F.type_list_append, ?_⟩
            refine ⟨.own (by k_is), ⟨.bi _, raw_lenS (.inr (gPX.T.le ((hle.trans hle4).trans le10))) (by rw [gPX.I.length]; have := gPX.l4; omega) fun t20 => ?_⟩⟩
            refine next_ok (ns := ns) 4 I.a (I.u.le (by decide)) rfl hF10 (hL' _) hI hn (by omega) (by omega) (by have := gPX.I.length; have := gPX.l0; omega) fun r20 tr20 o20 t20' h20 h20' hF20 le20 => ?_
            have hr20 : r20.toNat < ps.length := by have := gPX.I.length; omega
            obtain ⟨u20, hu20, hp20, hl20⟩ := gPX.at_ hr20
            refine raw_get (t₀ := tv) (.inr gPX.T) (((hle.trans hle4).trans le10).trans le20) h20 (by have := gPX.I.length; have := gPX.l4; omega) hu20 ?_ rfl
            refine ⟨.own (by k_is), ⟨.bi _, raw_len_list (gclX _) (by rw [hcvl, sizeLine_eq]; omega) fun t21 => ?_⟩⟩
            refine next_ok (ns := ns) 4 I.a (I.u.le (by decide)) rfl hF20 (hL' _) hI hn (by omega) (by omega) (by omega) fun r21 tr21 o21 t21' h21 h21' hF21 le21 => ?_
            refine ⟨Nat.le_of_ble_eq_true rfl, fun pa t22 le22 hget22 => ?_⟩
            refine raw_append 3 rfl hLo (by rw [hlvl, sizeLine_eq]; omega) fun olk' hLo' => ⟨rfl, pa, (ps.getD r20.toNat 0, r21), olk', o21, k' + 1 + 2, okk1, t22, ⟨m_sub5 rfl rfl rfl rfl rfl, .cons _ (.cons _ (.refl _)), rfl, Le.refl _⟩, hLo', dv_tup (.of hget22) (dvs_cons dvI (dvs_cons dvI dvs_nil)), ⟨hp20, hl20, h21, by omega⟩, by rw [show k' + 1 + 2 = k' + 1 + 1 + 1 by omega]; exact hF21, by omega, by omega, le10.trans ((le20.trans le21).trans le22)⟩
        · skip
          refine ⟨_, _, meth_list (.inr (.tail _ (.tail _ (.tail _ (.head _))))) hLo PySem.F.slot_list_append PySem.F.type_list_append, ?_⟩
          refine ⟨.own (by k_is), ⟨.bi _, raw_lenS (.inr (gPX.T.le (hle.trans hle4))) (by rw [gPX.I.length]; have := gPX.l4; omega) fun t20 => ?_⟩⟩
          refine next_ok (ns := ns) 4 I.a (I.u.le (by decide)) rfl hF' (hL' _) hI hn (by omega) (by omega) (by have := gPX.I.length; have := gPX.l0; omega) fun r20 tr20 o20 t20' h20 h20' hF20 le20 => ?_
          have hr20 : r20.toNat < ps.length := by have := gPX.I.length; omega
          obtain ⟨u20, hu20, hp20, hl20⟩ := gPX.at_ hr20
          refine raw_get (t₀ := tv) (.inr gPX.T) ((hle.trans hle4).trans le20) h20 (by have := gPX.I.length; have := gPX.l4; omega) hu20 ?_ rfl
          refine ⟨.own (by k_is), ⟨.bi _, raw_len_list (gclX _) (by rw [hcvl, sizeLine_eq]; omega) fun t21 => ?_⟩⟩
          refine next_ok (ns := ns) 4 I.a (I.u.le (by decide)) rfl hF20 (hL' _) hI hn (by omega) (by omega) (by omega) fun r21 tr21 o21 t21' h21 h21' hF21 le21 => ?_
          refine ⟨Nat.le_of_ble_eq_true rfl, fun pa t22 le22 hget22 => ?_⟩
          refine raw_append 3 rfl hLo (by rw [hlvl, sizeLine_eq]; omega) fun olk' hLo' => ⟨rfl, pa, (ps.getD r20.toNat 0, r21), olk', o21, k' + 2, okk1, t22, ⟨m_sub5 rfl rfl rfl rfl rfl, .cons _ (.cons _ (.refl _)), rfl, Le.refl _⟩, hLo', dv_tup (.of hget22) (dvs_cons dvI (dvs_cons dvI dvs_nil)), ⟨hp20, hl20, h21, by omega⟩, by rw [show k' + 2 = k' + 1 + 1 by omega]; exact hF21, by omega, by omega, (le20.trans le21).trans le22⟩
      · rintro σ' ⟨pa, p, olk', o'', k'', okk'', t'', hless, hLo', hpd', hokp, hF'', hk3, hk4, hle5⟩
        refine raw_weak hless ?_
        refine raw_step (raw_go1 I.a I.a.int ?_)
        obtain ⟨pa', tx, ty, e, hpT⟩ := dv_pair hpd'
        cases e
        obtain ⟨cj, cjv, hjv, hjT, hjI, hjC⟩ := clsAt gC hcC hokp.2.2.1 hokp.2.2.2
        have le6 : Le tv t'' := (hle.trans hle4).trans hle5
        refine ⟨.own (by k_is), ?_⟩
        intro t20 t21
        refine raw_getlast (hLo'.hasL (.inr (.tail _ (.head _)))) (by omega) ?_ rfl
        intro t22
        refine raw_get (t₀ := t'') (.inr hpT) (Le.refl _) (by decide) (by decide) rfl ?_ rfl
        refine raw_getlist (gclX _) hokp.2.2.1 (by have := hokp.2.2.2; omega) hjv ?_ rfl
        intro t23 t24
        refine raw_getlast (hLo'.hasL (.inr (.tail _ (.head _)))) (by omega) ?_ rfl
        intro t25
        refine raw_get (t₀ := t'') (.inr hpT) (Le.refl _) (by decide) (by decide) rfl ?_ rfl
        have hst4 := hst.len
        have hjc4 := hjC.len
        refine left_ok I.a (I.u.le (by decide)) ((hsT.le hle4).le hle5) (hjT.le le6) hsI hjI hst.T hjC.T (by omega) (by omega) hokp.1 fun w res t26 hLP hLV hle26 => ?_
        have hLd' : DVs t26 ((L ++ [p]).map pairD) (lv ++ [.ref pa]) := by
          rw [List.map_append]
          exact (((hLd.le hle4).le hle5).le hle26).app (DVs.one (hpd'.le hle26))
        have hok' : ∀ z ∈ L ++ [p], okLink cls.length z := fun z hz => (List.mem_append.mp hz).elim (hLok z) fun q => (List.mem_singleton.mp q) ▸ hokp
        refine raw_go I.a I.a.int ?_
        refine ⟨.bi _, raw_isStr (hLV) (fun hres => ⟨fun _ => ?_, fun q => (nomatch q)⟩) fun st' hres => ⟨(fun q => nomatch q), fun _ => ?_⟩⟩
        · refine LoopEnd.brk (n := X.n rg (rgO 0 rr u1 u2 u3) olk' o'') ?_
          refine ⟨Nat.le_of_ble_eq_true rfl, fun ta t27 hle27 hget27 => ?_⟩
          refine fin ta olk' _ w (L ++ [p]) res o'' k'' _ _ _ _ (.tail _ (.head _)) (.tail _ (.tail _ (.head _))) (.of hget27) hLo' (hLd'.le hle27) (by rw [List.length_append]; exact Nat.succ_le_succ (by omega)) hok' (hpre _ _ (.stop hLP hres)) (hLV.le hle27) (fun st' e => by rcases hres with q | q <;> rw [q] at e <;> cases e) hF'' (by omega) (by omega)
        · subst hres
          have hLV' := hLV
          obtain ⟨wa, wav, rfl, hwT, hwI⟩ := hLV'
          refine LoopEnd.nx (n := X.n rg (rgO 0 rr u1 u2 u3) olk' o'') ⟨⟨X.m wa, X.n rg (rgO 0 rr u1 u2 u3) olk' o'', X.k c'.L okk'', t26⟩, ⟨?_, .refl _, rfl, Le.refl _⟩, ?_⟩
          · exact m_sub5 rfl rfl rfl rfl rfl
          · rw [hJ]
            refine ⟨wa, wav, st', olk', _, L ++ [p], o'', k'', okk'', _, le6.trans hle26, hwT, hwI, res_cl hst hjC hLP.2, hLo', hLd', by rw [List.length_append]; exact Nat.succ_le_succ hLl, hok', fun q out hr => ?_, hF'', by omega, by omega⟩
            rw [List.append_assoc]
            exact hpre _ _ (.go hLP hr)
  · intro σ hj
    rw [hJ] at hj
    obtain ⟨sa, sva, st, olk, lv, L, o', k', okk, t, hle, hsT, hsI, hst, hLo, hLd, hLl, hLok, hpre, hF', hk1, hk2⟩ := hj
    refine ⟨Nat.le_of_ble_eq_true rfl, fun ta t6 hle6 hget6 => ?_⟩
    refine fin ta olk lv (.ref sa) L (.cl st) o' k' _ _ _ _ (.tail _ (.head _)) (.tail _ (.tail _ (.head _))) (.of hget6) hLo (hLd.le hle6) (by omega) hLok ?_ ⟨sa, sva, rfl, hsT.le hle6, hsI⟩ (fun st' e => by cases e; exact hst) hF' hk1 (by omega)
    have := hpre [] _ (.nil st)
    rwa [List.append_nil] at this
end
end Mine
end
section
open PySem PySem.W PyProof.Rows PySem.Spec PySem.Calls Builtin Builtin.ObjectAttr
set_option Elab.async false
set_option maxRecDepth 100000
set_option linter.unusedVariables false
namespace Mine
theorem S_new (w : World) : makesIn (hd.heap_1 w.params) 169 = true := by k_is
theorem S_ini (w : World) : findIn (hd.heap_1 w.params) (.ref 169) "__init__" = some (some (.ref 112)) := by k_is
theorem S_fn (w : World) : typeIn (hd.heap_1 w.params) (.ref 112) = some (.type "function") := by k_is
section
variable {c : Fx} {sc : List (Str × NameKind)} {s : Shared} {σ : St} {P : Value → St → Prop}
theorem GF.mono {h h' : Heap} {X Y S : List Addr} (g : GF h h' X S) (s : ∀ x ∈ X, x ∈ Y) : GF h h' Y S := ⟨fun b o e n1 n2 => g.1 b o e (fun q => n1 (s b q)) n2, g.2⟩
/-- Steps() -/
theorem made_ok (a : Act sc c) (u : Up c 830) (h : ∀ x dx ls ln od t' tk, NewAt x σ → NewAt dx σ → NewAt ls σ → NewAt ln σ → StO c.w od ls ln (-1) → Le σ.t t' →
      P (.ref x) ⟨σ.m, (ln, lstObj [.int 0 tk]) :: (ls, lstObj []) :: (x, instObj 169 dx) :: (dx, od) :: σ.n, σ.k, t'⟩) : raw c (call (.ref 169) []) P σ := fun s r => by
  have X := a.X.keeps r.F.keep
  obtain ⟨h₀, g₀, d₀, t₀, os₀⟩ := s
  refine wpAny_call (make_core (makes_of X (S_new _)) (looks_findIn X (S_ini _)) (fun self => bind_fn X self (S_fn _)) (.inl rfl) ?_)
  let A₂ := c.A.under (.builtin "type.__call__" ⟨[.ref 169], []⟩)
  let c₂ : Fx := { c with A := A₂ }
  have a₂ : Act sc c₂ := ⟨a.fk, a.gl, a.bi, a.lo, a.sc, a.X, a.T⟩
  have u₂ : Up c₂ 831 := ⟨u.hA, u.hh, Nat.succ_le_succ u.hd, (by show c.A.units + 1 ≤ _; have := u.hu; omega +splitDisjunctions), u.fS⟩
  have n1 : h₀.get? h₀.objs.size = none := none_size _
  have n2 : h₀.get? (h₀.objs.size + 1) = none := Heap.get?_none_of_le (Nat.le_succ _)
  obtain ⟨o1, f1, k1⟩ := fresh_own r n1
  obtain ⟨o2, f2, k2⟩ := fresh_own r n2
  have R1 := ((r.push emptyDict).push (instObj 169 h₀.objs.size))
  have g1 : ((h₀.push emptyDict).push (instObj 169 h₀.objs.size)).get? h₀.objs.size = some emptyDict := by heap_get
  have g2 : ((h₀.push emptyDict).push (instObj 169 h₀.objs.size)).get? (h₀.objs.size + 1) = some (instObj 169 h₀.objs.size) := by heap_get
  have R2 := (R1.more g1 o1 f1 k1).more g2 o2 (fun q => by
    rcases List.mem_cons.mp q with q | q
    · exact absurd q (Nat.succ_ne_self _)
    · exact f2 q) k2
  have R3 : R c₂ ((σ.addN h₀.objs.size emptyDict).addN (h₀.objs.size + 1) (instObj 169 h₀.objs.size)) ⟨(h₀.push emptyDict).push (instObj 169 h₀.objs.size), g₀, d₀, t₀, os₀⟩ := ⟨R2.F, R2.N, R2.K, R2.D, R2.O, R2.V, R2.T, R2.G, R2.Z⟩
  refine codeAny_mono (enterC (P := fun v σ' => v = .none ∧ P (.ref (h₀.objs.size + 1)) σ') [(h₀.objs.size + 1, instObj 169 h₀.objs.size), (h₀.objs.size, emptyDict)] R3 a₂ u₂ (List.forall_mem_cons.mpr ⟨.head _, List.forall_mem_singleton.mpr (.tail _ (.head _))⟩)
    (List.nodup_cons.mpr ⟨fun q => Nat.succ_ne_self _ (List.mem_singleton.mp q), List.nodup_cons.mpr ⟨List.not_mem_nil, .nil⟩⟩) (List.forall_mem_cons.mpr ⟨rfl, List.forall_mem_singleton.mpr rfl⟩) (by k_is) (by k_is) (Nat.le_of_ble_eq_true rfl) (fun _ => BindsTo.of_eq rfl) (by rfl) (by exact .nil) (by rfl) (by rfl) (by rfl) ?_) ?_
  case refine_2 =>
    intro q s' z
    rcases q with e | (v | _ | _ | _) <;> first | exact z | exact z.elim | skip
    obtain ⟨σ', r', rfl, hp⟩ := z
    exact ⟨rfl, σ', ⟨r'.F, r'.N, r'.K, r'.D, r'.O, r'.V, r'.T, r'.G, r'.Z⟩, hp⟩
  intro s c' tv r I QF hQ
  refine raw_AssignA I.a rfl ⟨Nat.zero_le _, fun ls hls => ?_⟩
  refine raw_setA (es := []) (n := 0) 2 I.a (.inr (.tail _ (.head _))) rfl (S_f c'.w).1 rfl (Nat.le_of_ble_eq_true rfl) fun t1 => ?_
  refine raw_AssignA I.a rfl ?_
  intro tk
  refine ⟨Nat.le_of_ble_eq_true rfl, fun ln hln => ?_⟩
  refine raw_setA (es := putL fSteps (PyData.keyHash c'.w.params fSteps) (.str fSteps t1) (.ref ls) []) (n := putN fSteps [] 0) 3 I.a (.inr (.tail _ (.tail _ (.head _)))) rfl (S_f c'.w).2.1 rfl (Nat.le_of_ble_eq_true rfl) fun t2 => ?_
  refine raw_AssignA I.a rfl ?_
  intro t3 t4
  refine raw_setA (es := putL fNamed (PyData.keyHash c'.w.params fNamed) (.str fNamed t2) (.ref ln) (putL fSteps (PyData.keyHash c'.w.params fSteps) (.str fSteps t1) (.ref ls) [])) (n := putN fNamed (putL fSteps (PyData.keyHash c'.w.params fSteps) (.str fSteps t1) (.ref ls) []) (putN fSteps [] 0)) 3 I.a (.inr (.tail _ (.tail _ (.head _)))) rfl (S_f c'.w).2.2 rfl (Nat.le_of_ble_eq_true rfl) fun t5 => ?_
  refine hQ _ _ fun s' Z S N O V => ?_
  have hne : h₀.objs.size + 1 ≠ h₀.objs.size := Nat.succ_ne_self _
  obtain ⟨r', l'⟩ := r.back2 (i := 0) (j := 1) rfl rfl hne Z S (N _ (.tail _ (.tail _ (.head _)))).1 (N _ (.tail _ (.tail _ (.tail _ (.head _))))).1 rfl rfl
  have hns := N _ (.tail _ (.head _))
  have hnn := N _ (.head _)
  have sW : ls ∉ adr [(h₀.objs.size + 1, instObj 169 h₀.objs.size), (h₀.objs.size, emptyDict)] := fun q => hls (List.mem_append_left _ q)
  have nW : ln ∉ adr [(h₀.objs.size + 1, instObj 169 h₀.objs.size), (h₀.objs.size, emptyDict)] := fun q => hln (List.mem_append_left _ (.tail _ q))
  obtain ⟨p1, p2, p3⟩ := fresh_own r (I.fresh hns.2.2 sW (O _ (.tail _ (.head _))))
  obtain ⟨q1, q2, q3⟩ := fresh_own r (I.fresh hnn.2.2 nW (O _ (.head _)))
  have hlns : ln ≠ ls := fun q => hln (q ▸ List.mem_append_left _ (.head _))
  have r2 := (r'.more hns.1 p1 p2 p3).more hnn.1 q1 (fun q => by
    rcases List.mem_cons.mp q with q | q
    · exact hlns q
    · exact q2 q) q3
  have nn : ∀ b, NewAt b ((σ.addN h₀.objs.size emptyDict).addN (h₀.objs.size + 1) (instObj 169 h₀.objs.size)) → NewAt b σ := fun b hb q => hb (.tail _ (.tail _ q))
  exact pst r2 ⟨rfl, h _ _ ls ln _ _ tk f2 f1 (nn _ p2) (nn _ q2) ((show c'.w = c.w from I.w) ▸ (⟨t4, t1, t2, t5, _, rfl⟩ : StO c'.w _ ls ln (-1))) l'⟩
end
end Mine
end
section
open PySem PySem.W PyProof.Rows PySem.Spec PySem.Calls Builtin
set_option Elab.async false
set_option maxRecDepth 100000
set_option maxHeartbeats 4000000
set_option linter.unusedVariables false
namespace Mine
noncomputable def hH : List Int := [1, 2, 3, 1000000000000000000000000000007]
noncomputable def stepT (t : SetTable) (k : Int) : SetTable := match t.freeSlot (hashInt k) with
  | some (j, _) => (t.put j).1
  | none => t
noncomputable def lay (led : Bool) (σ : List Int) : SetTable := σ.foldl stepT (.fresh 0 0 led)
noncomputable def goodT (led : Bool) (n : Nat) (t : SetTable) : Bool :=
  t.fits n && (!t.tooFull && (t.plain && (t.led == led && (SetTable.below t.place 0 == 0 && (List.range n).all fun i => match t.place[i]? with | some j => SetTable.below t.place (j + 1) == i + 1 | none => false))))
noncomputable def freeT (t : SetTable) : Bool := hH.all fun k => match t.freeSlot (hashInt k) with
  | some (_, d) => !d
  | none => false
noncomputable def treeT (led : Bool) : Nat → Nat → SetTable → Bool
  | 0, n, t => goodT led n t
  | f + 1, n, t => goodT led n t && (freeT t && hH.all fun k => treeT led f (n + 1) (stepT t k))
theorem tree_ok : ∀ led, treeT led 4 0 (.fresh 0 0 led) = true := by decide +kernel
theorem tree_at {led : Bool} : ∀ (σ : List Int) (f n : Nat) (t : SetTable), treeT led f n t = true → (∀ x ∈ σ, x ∈ hH) → σ.length ≤ f → treeT led (f - σ.length) (n + σ.length) (σ.foldl stepT t) = true
  | [], f, n, t, h, _, _ => h
  | k :: σ, 0, n, t, h, _, hl => absurd hl (Nat.not_succ_le_zero _)
  | k :: σ, f + 1, n, t, h, hs, hl => by
    unfold treeT at h
    have h1 := (Bool.and_eq_true_iff.mp (Bool.and_eq_true_iff.mp h).2).2
    have h2 := List.all_eq_true.mp h1 k (hs k (.head _))
    have := tree_at σ f (n + 1) (stepT t k) h2 (fun x hx => hs x (.tail _ hx)) (Nat.le_of_succ_le_succ hl)
    rw [List.length_cons, List.foldl_cons, Nat.succ_sub_succ, show n + (σ.length + 1) = n + 1 + σ.length by omega]
    exact this
theorem lay_good {led : Bool} {σ : List Int} (hs : ∀ x ∈ σ, x ∈ hH) (hl : σ.length ≤ 4) : goodT led σ.length (lay led σ) = true := by
  have h := tree_at σ 4 0 _ (tree_ok led) hs hl
  rw [Nat.zero_add] at h
  cases q : 4 - σ.length with
  | zero => rw [q] at h; exact h
  | succ f => rw [q] at h; exact (Bool.and_eq_true_iff.mp h).1
theorem lay_free {led : Bool} {σ : List Int} {k : Int} (hs : ∀ x ∈ σ, x ∈ hH) (hl : σ.length ≤ 3) (hk : k ∈ hH) : ∃ j, (lay led σ).freeSlot (hashInt k) = some (j, false) ∧ lay led (σ ++ [k]) = ((lay led σ).put j).1 := by
  have h := tree_at σ 4 0 _ (tree_ok led) hs (by omega)
  obtain ⟨f, q⟩ : ∃ f, 4 - σ.length = f + 1 := ⟨3 - σ.length, by omega⟩
  rw [q] at h
  have h1 := List.all_eq_true.mp (Bool.and_eq_true_iff.mp (Bool.and_eq_true_iff.mp h).2).1 k hk
  change (match (lay led σ).freeSlot (hashInt k) with | some (_, d) => !d | none => false) = true at h1
  have e : lay led (σ ++ [k]) = stepT (lay led σ) k := by unfold lay; rw [List.foldl_append]; rfl
  unfold stepT at e
  split at h1
  · rename_i j d hf
    rw [hf] at e
    cases d
    · exact ⟨j, hf, e⟩
    · cases h1
  · cases h1
noncomputable def kOf (e : Int × Value) : Int := match e.2 with
  | .int n _ => n
  | _ => 0
noncomputable def ledW (w : World) : Bool := !(w.params.followText "set-order")
noncomputable abbrev setO (es : Array (Int × Value)) (ep : Nat) (t : SetTable) : Obj := { cls := .type "set", dict := none, data := .set es ep t, slots := #[] }
structure SetX (w : World) (σ : List Int) (o : Obj) (es : Array (Int × Value)) (ep : Nat) : Prop where
  o : o = setO es ep (lay (ledW w) σ)
  el : ElemsOf (intKind PG w) es.toList
  pm : (es.toList.map kOf).Perm σ
  H : ∀ x ∈ σ, x ∈ hH
  l4 : σ.length ≤ 4
section
variable {w : World} {σ : List Int} {o : Obj} {es : Array (Int × Value)} {ep : Nat} {A : Around} {E : Value → Shared → Prop} {s : Shared} {a : Addr}
theorem SetX.size (h : SetX w σ o es ep) : es.size = σ.length := by rw [← h.pm.length_eq, List.length_map, Array.length_toList]
theorem SetX.good (h : SetX w σ o es ep) : goodT (ledW w) es.size (lay (ledW w) σ) = true := h.size ▸ lay_good h.H h.l4
theorem SetX.fits (h : SetX w σ o es ep) : (lay (ledW w) σ).fits es.size = true := (Bool.and_eq_true_iff.mp h.good).1
theorem kOf_is {e : Int × Value} {k : Int} (h : (intKind PG w).is k e.2 = true) : kOf e = k := by
  obtain ⟨x, v⟩ := e
  obtain ⟨t, rfl⟩ := Value.isInt_shape (k := k) h
  rfl
theorem SetX.mem (h : SetX w σ o es ep) (k : Int) : k ∈ σ ↔ ∃ e ∈ es.toList, (intKind PG w).is k e.2 = true := by
  rw [← h.pm.mem_iff, List.mem_map]
  constructor
  · rintro ⟨e, he, rfl⟩
    obtain ⟨⟨k, hk, _⟩, _⟩ := h.el e he
    exact ⟨e, he, (kOf_is hk).symm ▸ hk⟩
  · rintro ⟨e, he, hk⟩
    exact ⟨e, he, kOf_is hk⟩
theorem setX_add {k : Int} {tk : Tok} {Q : Bool → Shared → Prop} (ho : s.heap.get? a = some o) (hX : SetX w σ o es ep) (hk : k ∈ hH) (hl : σ.length ≤ 3)
    (h : ∀ b h' o' es' ep', Heap.SameBut a s.heap h' → h'.get? a = some o' → SetX w (step_dedup σ k) o' es' ep' → Q b { s with heap := h' }) : wpAny (model PG w) A (setAddHashed a (.int k tk) (hashInt k)) Q E s := by
  have hf := hX.fits
  have hd : o.data = .set es ep (lay (ledW w) σ) := by rw [hX.o]
  have hsz := hX.size
  have hkey : (intKind PG w).is k (.int k tk) = true := intKind_is _ _ _ _
  unfold setAddHashed setAddHashedIn
  refine wpAny_holding (wpAny_bind (wpAny_setState_of ho hd hf ?_))
  dsimp only
  rw [byScan_of rfl (by unfold scanBound; omega) hX.el]
  simp only [↓reduceIte]
  unfold setAddByScan
  refine wpAny_bind (wpAny_bind (wpAny_rule (wpAny_bind (wpAny_setScan_of (k := k) hkey ho hd hf hX.el ?_))))
  cases hr : List.findIdx? (fun e => (intKind PG w).is k e.2) es.toList with
  | some j =>
    dsimp only
    obtain ⟨hj, hpj, _⟩ := List.findIdx?_eq_some_iff_getElem.mp hr
    have hm : k ∈ σ := (hX.mem k).mpr ⟨_, List.getElem_mem hj, hpj⟩
    refine wpAny_pure (wpAny_pure (h _ s.heap o es ep (Heap.SameBut.refl a s.heap) ho ?_))
    unfold step_dedup
    rw [if_pos (show (σ.any fun x => x == k) = true from List.any_eq_true.mpr ⟨k, hm, beq_self_eq_true k⟩)]
    exact hX
  | none =>
    dsimp only
    have hm : k ∉ σ := fun q => by
      obtain ⟨e, he, hp⟩ := (hX.mem k).mp q
      have := List.findIdx?_eq_none_iff.mp hr e he
      rw [hp] at this; cases this
    obtain ⟨j, hj, hlay⟩ := lay_free (led := ledW w) hX.H hl hk
    have hH' : ∀ x ∈ σ ++ [k], x ∈ hH := fun x hx => (List.mem_append.mp hx).elim (hX.H x) fun q => (List.mem_singleton.mp q) ▸ hk
    have hl' : (σ ++ [k]).length ≤ 4 := by rw [List.length_append, List.length_singleton]; omega
    have hg := lay_good (led := ledW w) hH' hl'
    obtain ⟨g1, hg⟩ := Bool.and_eq_true_iff.mp hg
    obtain ⟨g2, hg⟩ := Bool.and_eq_true_iff.mp hg
    obtain ⟨g3, _⟩ := Bool.and_eq_true_iff.mp hg
    have hp := layNew_perm (lay (ledW w) σ) es (hashInt k) (.int k tk)
    have hL : ∃ es', layNew (lay (ledW w) σ) es (hashInt k) (.int k tk) = (es', lay (ledW w) (σ ++ [k]), false, false) ∧ es'.size = (σ ++ [k]).length := by
      have hs2 := hp.length_eq
      rw [Array.length_toList, Array.length_toList, Array.size_push, hsz] at hs2
      unfold layNew at hs2 ⊢
      rw [hj] at hs2 ⊢
      dsimp only at hs2 ⊢
      have hs3 : (SetTable.insertAt es ((lay (ledW w) σ).put j).2 (hashInt k, Value.int k tk)).size = (σ ++ [k]).length := by rw [hs2, List.length_append, List.length_singleton]
      refine ⟨_, ?_, hs3⟩
      rw [← hlay, hs3]
      unfold SetTable.orStandIn
      rw [g1]; rfl
    obtain ⟨es', hL, hz'⟩ := hL
    rw [hL] at hp ⊢
    dsimp only at hp ⊢
    refine wpAny_bind (wpAny_pure ?_)
    rw [if_pos g3]
    refine wpAny_bind (wpAny_pure (wpAny_bind (wpAny_storeSet_of ho hd ?_ (by rw [hz', sizeLine_eq]; omega))))
    have g2' : (lay (ledW w) (σ ++ [k])).tooFull = false := by simpa using g2
    rw [if_pos rfl, g2']
    refine wpAny_pure (wpAny_pure (h _ _ (setO es' (ep + 1) (lay (ledW w) (σ ++ [k]))) es' (ep + 1) (Heap.SameBut.update s.heap a _) ?_ ?_))
    · have := Heap.get?_update_self (Obj.putSet es' (lay (ledW w) (σ ++ [k]))) ho (by rw [putSet_of _ _ hd]; rfl)
      rw [this, putSet_of _ _ hd, hX.o]
    · have e2 : step_dedup σ k = σ ++ [k] := by
        unfold step_dedup
        rw [if_neg]
        intro q
        obtain ⟨x, hx, e⟩ := List.any_eq_true.mp q
        exact hm (by rw [← beq_iff_eq.mp e]; exact hx)
      rw [e2]
      rw [Array.toList_push] at hp
      refine ⟨rfl, (hX.el.push (k := k) hkey rfl).perm hp, ?_, hH', hl'⟩
      refine (hp.map kOf).trans ?_
      rw [List.map_append]
      exact hX.pm.append_right _
end
end Mine
end
section
open PySem PySem.W PyProof.Rows PySem.Spec PySem.Calls Builtin
set_option Elab.async false
set_option maxRecDepth 100000
set_option linter.unusedVariables false
namespace Mine
noncomputable def SetIn (w : World) (σ : List Int) (h : Heap) (a : Addr) : Prop := ∃ o es ep, h.get? a = some o ∧ SetX w σ o es ep
theorem SetIn.at' {w : World} {σ : List Int} {h h' : Heap} {a : Addr} (x : SetIn w σ h a) (e : ∀ o, h.get? a = some o → h'.get? a = some o) : SetIn w σ h' a := let ⟨o, es, ep, ho, r⟩ := x; ⟨o, es, ep, e _ ho, r⟩
section
variable {w : World} {A : Around} {R : Result → Shared → Prop} {I : Addr} {fp wr : List Addr} {G : Array GenState → Array GenState → Prop} {n : Nat} {P : Nat → Value → Prop} {St : Nat → Shared → Prop}
theorem set_loop (W : WalksS PG w A.in1 I fp wr G n P St) (S : Addr) (hSf : S ∉ fp) (val : Nat → Int) (hval : ∀ i v, P i v → ∃ t, v = .int (val i) t) (hb : n ≤ 4) (hH : ∀ i, i < n → val i ∈ hH) :
    ∀ (k i : Nat) (s : Shared), n - i = k → i ≤ n → St i s → SetIn w (firstMet val i) s.heap S →
      (∀ s', Moved (S :: wr) G s s' → SetIn w (firstMet val n) s'.heap S → R (.ok (.ret .none)) s') → codeAny (model PG w) A (.builtin "set.update.loop" ⟨[.ref S, .ref I], []⟩) R s := by
  have hSw : S ∉ wr := fun h => hSf (W.sub _ h)
  have hsub : ∀ b ∈ wr, b ∈ S :: wr := fun b hb => List.mem_cons_of_mem _ hb
  intro k
  induction k with
  | zero =>
    intro i s hk hi hst hS hR
    have hin : i = n := by omega +splitDisjunctions
    subst hin
    refine codeAny_builtin PyProof.Rows.F.entry_set_update_loop ?_
    rw [Around.under_plainId PyProof.Rows.F.plain_set_update_loop _]
    show wpAny _ A.in1 (pyNext (.ref I) >>= _) _ _ s
    refine wpAny_bind (W.done s _ _ hst fun s' hm => ?_)
    exact wpAny_pure (hR s' (hm.mono hsub) (hS.at' fun o e => hm.heap S _ hSw e))
  | succ k ih =>
    intro i s hk hi hst hS hR
    have hlt : i < n := by omega +splitDisjunctions
    refine codeAny_builtin PyProof.Rows.F.entry_set_update_loop ?_
    rw [Around.under_plainId PyProof.Rows.F.plain_set_update_loop _]
    show wpAny _ A.in1 (pyNext (.ref I) >>= _) _ _ s
    refine wpAny_bind (W.item i s _ _ hlt hst fun v s' hP hst' hm => ?_)
    obtain ⟨t, rfl⟩ := hval i v hP
    obtain ⟨o, es, ep, ho, hX⟩ := hS.at' (h' := s'.heap) fun o e => hm.heap S _ hSw e
    show wpAny _ A.in1 (holding [Value.int (val i) t] (setAdd S (.int (val i) t)) >>= _) _ _ s'
    refine wpAny_bind (wpAny_holding ?_)
    unfold setAdd
    refine wpAny_holding (wpAny_bind ((intKind PG w).pyHash (k := val i) (intKind_is _ _ _ _) ?_))
    have hl := firstMet_length_le val i
    refine setX_add (s := { s' with toks := s'.toks + 1 }) ho hX (hH i hlt) (by omega +splitDisjunctions) fun b h' o' es' ep' hsb ho' hX' => ?_
    rw [← firstMet_succ] at hX'
    refine wpAny_pure ⟨plainId_quiet PyProof.Rows.F.plain_set_update_loop _, ih (i + 1) _ (by omega +splitDisjunctions) hlt (W.frame _ s' _ _ hst' (Nat.le_succ _) fun b hb o e => ?_) ⟨o', es', ep', ho', hX'⟩ fun s'' hm'' hS'' => ?_⟩
    · rw [hsb.2 b (fun h : b = S => hSf (by rw [← h]; exact hb))]; exact e
    · refine hR s'' (Moved.trans W.gtrans ((hm.mono hsub).then_heap (Nat.le_succ _) fun b o hb e => ?_) hm'') hS''
      rw [hsb.2 b (fun h : b = S => hb (by rw [h]; exact List.mem_cons_self))]; exact e
end
section
variable {w : World} {A : Around} {E : Value → Shared → Prop} {s : Shared}
theorem set_new_1 (a : Value) {Q₁ : Value → Shared → Prop} (h : Q₁ (.ref s.heap.objs.size) { s with heap := s.heap.push (setO #[] 0 (.fresh 0 0 (ledW w))) }) :
    codeAny (model PG w) A (.call (.builtin "set.__new__") ⟨[.type "set", a], []⟩) (wants Q₁ E) s := by
  refine codeAny_of_tree ?_
  show wpAny _ A.in1 (do checkBuiltinCall "set.__new__" ⟨[.type "set", a], []⟩; again (.builtin "set.__new__" ⟨[.type "set", a], []⟩)) _ _ s
  refine wpAny_bind (wpAny_of_eq (PySem.F.newCall_set_1 a) (wpAny_pure ⟨plainId_quiet PySem.F.plain_set_new _, codeAny_builtin PySem.F.entry_set_new ?_⟩))
  rw [Around.under_plainId PySem.F.plain_set_new _]
  unfold Builtin.«set.__new__» Builtin.Frozenset.newClass
  have hsub := sub_set_self
  obtain ⟨hp, g, d, tk, os⟩ := s
  dsimp only
  wp_walk
  refine wpAny_askSetting (wpAny_pure ?_)
  dsimp only
  simp only [newObj]
  refine wpAny_bind (wpAny_alloc (wpAny_pure ?_))
  exact wpAny_pure h
set_option maxHeartbeats 16000000 in
theorem set_list {l : Addr} {items : Array Value} {ns : List Int} {Q : Value → Shared → Prop} (hh : A.handled = none) (hl : s.heap.IsList l items) (hi : IntsAre items.toList ns) (hb : items.size ≤ 4) (hH : ∀ i, i < items.size → ns.getD i 0 ∈ hH)
    (h : ∀ (h' : Heap) (tk : Nat), SetIn w (firstMet (fun i => ns.getD i 0) items.size) h' s.heap.objs.size → (∀ b o, b < s.heap.objs.size → s.heap.get? b = some o → h'.get? b = some o) → Q (.ref s.heap.objs.size) { s with heap := h', toks := tk }) :
    wpAny (model PG w) A (call (.type "set") [.ref l]) Q E s := by
  obtain ⟨c, tl, hmro⟩ := PySem.F.called_set.mro
  have hmade := PySem.F.called_set.made
  have hsub := PySem.F.called_set.sub
  refine wpAny_call (codeAny_of_tree ?_)
  show wpAny _ _ (callAny (.type "set") _) _ _ _
  refine wpAny_pure ⟨Code.quiet_builtin _ (by decide +kernel), codeAny_builtin PySem.F.entry_type_call ?_⟩
  rw [Around.under_plain (weight_type_call_type "set" [.ref l] []) rfl]
  have h1 := PySem.F.called_set.notType
  have h2 := PySem.F.called_set.canCreate
  have hct := PySem.F.typeCall_set_1 (.ref l)
  repeat (any_goals (first | assumption | wp_step))
  refine codeAny_mono (set_new_1 (.ref l) (E := E) (Q₁ := fun obj s₁ => obj = .ref s.heap.objs.size ∧ s₁ = { s with heap := s.heap.push (setO #[] 0 (.fresh 0 0 (ledW w))) }) ⟨rfl, rfl⟩) fun r s₁ hr => ?_
  cases r with
  | error e => exact hr
  | ok fl =>
    cases fl with
    | ret obj =>
      obtain ⟨rfl, rfl⟩ := hr
      have hS : (s.heap.push (setO #[] 0 (.fresh 0 0 (ledW w)))).get? s.heap.objs.size = some (setO #[] 0 (.fresh 0 0 (ledW w))) := Heap.get?_push_size _ rfl
      have hT : Shared.TypeIs { s with heap := s.heap.push (setO #[] 0 (.fresh 0 0 (ledW w))) } (.ref s.heap.objs.size) "set" := ⟨_, hS, rfl⟩
      have hli := PySem.F.called_set.init.lookup
      have hbi := PySem.F.called_set.init.bind (.ref s.heap.objs.size)
      repeat (any_goals (first | assumption | wp_step))
      refine codeAny_mono (codeAny_call_builtin (R := wants (fun r s₂ => r = .none ∧ ∃ h' tk, s₂ = { s with heap := h', toks := tk } ∧ SetIn w (firstMet (fun i => ns.getD i 0) items.size) h' s.heap.objs.size ∧
          (∀ b o, b < s.heap.objs.size → s.heap.get? b = some o → h'.get? b = some o)) E) PySem.F.called_set.init.plain PySem.F.entry_set_init (check_set_init_1 hT ?_)) fun r₂ s₂ hr₂ => ?_
      · obtain ⟨ol, hol, hcl, nl, hdl⟩ := hl
        obtain ⟨ocls, odict, odata, oslots⟩ := ol
        simp only at hcl hdl
        subst hcl; subst hdl
        have hol' : (s.heap.push (setO #[] 0 (.fresh 0 0 (ledW w)))).get? l = some { cls := .type "list", dict := odict, data := .seq items nl, slots := oslots } := Heap.get?_push_of_some _ hol
        have hsls := PySem.F.sub_list_set
        have hslf := PySem.F.sub_list_frozenset
        have hne : (Value.type "list" == Value.type "dict") = false := by decide
        have hl1 : (s.heap.push (setO #[] 0 (.fresh 0 0 (ledW w)))).IsList l items := ⟨_, hol', rfl, nl, rfl⟩
        unfold Builtin.«set.__init__» noKeywords Builtin.Frozenset.updateFrom
        generalize hPI : pyIter = PI
        wp_walk
        subst hPI
        refine wpAny_pyIter_list hl1 ?_
        refine wpAny_bind (wpAny_runValue ?_)
        have hlS : l < s.heap.objs.size := Heap.lt_size hol
        have hh3 : A.in1.in1.in1.handled = none := by simp [hh]
        have hneI : l ≠ (s.heap.push (setO #[] 0 (.fresh 0 0 (ledW w)))).objs.size := by
          rw [Heap.size_push]; exact Nat.ne_of_lt (Nat.lt_succ_of_lt hlS)
        have hSf : s.heap.objs.size ∉ [(s.heap.push (setO #[] 0 (.fresh 0 0 (ledW w)))).objs.size, l] := by
          rw [Heap.size_push]; simp only [List.mem_cons, List.mem_singleton, List.not_mem_nil, or_false, not_or]
          exact ⟨Nat.ne_of_lt (Nat.lt_succ_self _), Nat.ne_of_gt hlS⟩
        have hval : ∀ (i : Nat) (v : Value), items[i]? = some v → ∃ t, v = .int ((fun i => ns.getD i 0) i) t := fun i v hv => IntsAre.int_at hi i v (by rw [Array.getElem?_toList]; exact hv)
        refine set_loop ((Walks.list hh3 _ l hneI items).toS) s.heap.objs.size hSf (fun i => ns.getD i 0) hval hb hH (items.size - 0) 0 _ (by omega +splitDisjunctions) (Nat.zero_le _) ⟨⟨_, Heap.get?_push_size _ rfl, rfl, rfl⟩, (hl1.push _)⟩ ?hS0 ?hR
        case hS0 => exact ⟨_, #[], 0, Heap.get?_push_of_some _ hS, ⟨rfl, fun e he => by simp at he, .nil, fun x hx => (nomatch hx), Nat.zero_le _⟩⟩
        case hR =>
          intro s' hm hS'
          obtain ⟨h', g', d', tk', os'⟩ := s'
          have eg : g' = s.gens := hm.gens
          have ed : d' = s.drawn := hm.drawn
          have eo : os' = s.os := hm.os
          subst eg; subst ed; subst eo
          show wpAny _ _ _ _ _ _
          refine wpAny_pure ?_
          show wpAny _ _ (ret Value.none) _ _ _
          refine wpAny_pure ⟨rfl, h', tk', rfl, hS', fun b o hb e => ?_⟩
          have hb1 : b ≠ s.heap.objs.size := Nat.ne_of_lt hb
          have hb2 : b ≠ (s.heap.push (setO #[] 0 (.fresh 0 0 (ledW w)))).objs.size := by
            rw [Heap.size_push]; exact Nat.ne_of_lt (Nat.lt_succ_of_lt hb)
          exact hm.heap b o (by simp only [List.mem_cons, List.mem_singleton, List.not_mem_nil, or_false, not_or]; exact ⟨hb1, hb2⟩) (Heap.get?_push_of_some _ (Heap.get?_push_of_some _ e))
      · cases r₂ with
        | error e => exact hr₂
        | ok fl₂ =>
          cases fl₂ with
          | ret r =>
            obtain ⟨rfl, h', tk, rfl, hS', hk'⟩ := hr₂
            repeat (any_goals (first | assumption | wp_step))
            exact h _ _ hS' hk'
          | _ => exact hr₂.elim
    | _ => exact hr.elim
end
end Mine
end
section
open PySem PySem.W PyProof.Rows PySem.Spec PySem.Calls Builtin
set_option Elab.async false
set_option maxRecDepth 100000
set_option linter.unusedVariables false
namespace Mine
theorem sl_iter : Slot "set" "__iter__" "set.__iter__" := .of (owner := "set") (n := "__iter__") (by rw [typeLookup_type, builtinLookup_eq_fast]; kernel_rfl) (by decide +kernel) (by decide +kernel) (by decide +kernel)
  (by first | exact .inl (by decide +kernel) | exact .inr (by decide +kernel)) (by rw [isSubtype_type]; kernel_rfl)
theorem en_iter : entryFor table "set.__iter__" = some Builtin.«frozenset.__iter__» := entryFor_alias (id' := "frozenset.__iter__") (by kernel_rfl) rfl (by decide +kernel) (by kernel_rfl)
theorem ar_iter (a : Value) : argsOk "set.__iter__" ⟨[a], []⟩ := by unfold argsOk; kernel_rfl
theorem sl_next : Slot "set_iterator" "__next__" "set_iterator.__next__" := .of (owner := "set_iterator") (n := "__next__") (by rw [typeLookup_type, builtinLookup_eq_fast]; kernel_rfl) (by decide +kernel) (by decide +kernel) (by decide +kernel)
  (by first | exact .inl (by decide +kernel) | exact .inr (by decide +kernel)) (by rw [isSubtype_type]; kernel_rfl)
theorem en_next : entryFor table "set_iterator.__next__" = some Builtin.«set_iterator.__next__» := entryFor_of_tree (by kernel_rfl)
theorem ar_next (a : Value) : argsOk "set_iterator.__next__" ⟨[a], []⟩ := by unfold argsOk; kernel_rfl
theorem sl_self : Slot "set_iterator" "__iter__" "set_iterator.__iter__" := .of (owner := "set_iterator") (n := "__iter__") (by rw [typeLookup_type, builtinLookup_eq_fast]; kernel_rfl) (by decide +kernel) (by decide +kernel) (by decide +kernel)
  (by first | exact .inl (by decide +kernel) | exact .inr (by decide +kernel)) (by rw [isSubtype_type]; kernel_rfl)
theorem en_self : entryFor table "set_iterator.__iter__" = some Builtin.«dict_keyiterator.__iter__» := entryFor_alias (id' := "dict_keyiterator.__iter__") (by kernel_rfl) rfl (by decide +kernel) (by kernel_rfl)
theorem ar_self (a : Value) : argsOk "set_iterator.__iter__" ⟨[a], []⟩ := by unfold argsOk; kernel_rfl
section
variable {w : World} {A : Around} {E : Value → Shared → Prop} {s : Shared} {r : Addr}
theorem hint_set {Q : Bool → Shared → Prop} (hT : s.TypeIs (.ref r) "set") (h : Q false s) : wpAny (model PG w) A (Builtin.List.listLengthHint (.ref r)) Q E s := by
  unfold Builtin.List.listLengthHint
  refine wpAny_bind (wpAny_specialOf hT PySem.F.slot_set_len.lookup ?_)
  generalize hid : ("set.__len__" : String) = id0
  wp_delta
  rw [show splitId id0 = some ("set", "__len__") from by subst hid; decide +kernel]
  subst hid
  refine wpAny_bind (wpAny_isInstance (T := "set") (b := true) hT (by rw [isSubtype_type]; kernel_rfl) ?_)
  refine wpAny_ite_split (fun hab => absurd hab (by decide)) (fun _ => ?_)
  refine wpAny_ite_split (fun _ => ?_) (fun hab => absurd (by decide +kernel) hab)
  refine wpAny_bind (wpAny_typeOf hT ?_)
  exact wpAny_pure h
theorem erase_perm {α : Type} : ∀ (l : List α) (i : Nat) (h : i < l.length), (l[i] :: l.eraseIdx i).Perm l
  | a :: l, 0, _ => .rfl
  | a :: l, i + 1, h => (List.Perm.swap ..).trans ((erase_perm l i (Nat.lt_of_succ_lt_succ h)).cons a)
/-- the order in which a set is walked -/
theorem pick_perm {α : Type} (next : Nat → Nat) (xs : Array α) : (pickOrder next xs).toList.Perm xs.toList := by
  have go : ∀ (n k : Nat) (l : List α) (out : Array α), l.length = n → (pickOrder.go next n k l out).toList.Perm (out.toList ++ l) := by
    intro n
    induction n with
    | zero =>
      intro k l out h
      rw [List.length_eq_zero_iff.mp h, List.append_nil]; exact .rfl
    | succ n ih =>
      intro k l out h
      unfold pickOrder.go
      have hlt : next k % l.length < l.length := Nat.mod_lt _ (by omega +splitDisjunctions)
      rw [List.getElem?_eq_getElem hlt]
      refine (ih (k + 1) _ _ (by rw [List.length_eraseIdx_of_lt hlt, h]; rfl)).trans ?_
      rw [Array.toList_push, List.append_assoc]
      refine List.Perm.append_left _ ?_
      exact erase_perm l _ hlt
  have := go xs.size 0 xs.toList #[] (by simp)
  simpa [pickOrder] using this
end
end Mine
end
section
open PySem PySem.W PyProof.Rows PySem.Spec PySem.Calls Builtin
set_option Elab.async false
set_option maxRecDepth 100000
set_option linter.unusedVariables false
namespace Mine
section
variable {w : World} {A : Around} {E : Value → Shared → Prop} {s : Shared} {r : Addr}
noncomputable def ordW (w : World) (a : Addr) (es : Array (Int × Value)) (ep : Nat) : Array (Int × Value) := match w.params.followText "set-order" with
  | true => pickOrder (w.params.setOrder a ep) es
  | false => es
theorem ord_perm (w : World) (a : Addr) (es : Array (Int × Value)) (ep : Nat) : (ordW w a es ep).toList.Perm es.toList := by
  unfold ordW
  cases w.params.followText "set-order" with
  | true => exact pick_perm _ _
  | false => exact .rfl
noncomputable abbrev itO (j : Nat) (i : Nat) (a : Addr) (n ep : Nat) : Obj := { cls := .type "set_iterator", dict := none, data := .fields #[.int j 0, .int i 0, .ref a, .int n 0, .int ep 0], slots := #[] }
variable {σ : List Int} {o : Obj} {es : Array (Int × Value)} {ep : Nat}
theorem set_iter {Q : Value → Shared → Prop} (ho : s.heap.get? r = some o) (hX : SetX w σ o es ep) (hQ : Q (.ref s.heap.objs.size) { s with heap := s.heap.push (itO 0 0 r es.size ep) }) : wpAny (model PG w) A (pyIter (.ref r)) Q E s := by
  have hd : o.data = .set es ep (lay (ledW w) σ) := by rw [hX.o]
  have hT : s.TypeIs (.ref r) "set" := ⟨o, ho, by rw [hX.o]⟩
  have hf := hX.fits
  obtain ⟨_, hg⟩ := Bool.and_eq_true_iff.mp hX.good
  obtain ⟨_, hg⟩ := Bool.and_eq_true_iff.mp hg
  obtain ⟨hp, _⟩ := Bool.and_eq_true_iff.mp hg
  refine wpAny_pyIter_slot hT sl_iter (wpAny_call_entry sl_iter hT en_iter ?_ (ar_iter _))
  unfold Builtin.«frozenset.__iter__»
  refine wpAny_bind (wpAny_pure (wpAny_bind (wpAny_bind (wpAny_setEntries_of ho hd hf (wpAny_pure ?_)))))
  refine wpAny_bind (wpAny_bind (wpAny_setState_of ho hd hf (wpAny_bind (wpAny_bind (wpAny_askSetting (wpAny_pure (wpAny_pure ?_)))))))
  refine wpAny_ite_split (fun h => ?_) (fun h => ?_)
  · obtain ⟨_, h⟩ := Bool.and_eq_true_iff.mp h
    obtain ⟨h, _⟩ := Bool.and_eq_true_iff.mp (show (!(lay (ledW w) σ).plain && _) = true from h)
    rw [hp] at h; cases h
  · refine wpAny_bind (wpAny_pure (wpAny_bind (wpAny_bind (wpAny_setState_of ho hd hf (wpAny_pure (wpAny_bind (wpAny_newObj_type (wpAny_pure ⟨_, rfl, "set_iterator", _, ⟨_, Heap.get?_push_size _ rfl, rfl⟩, sl_next.lookup, hQ⟩))))))))
theorem it_put {j i n : Nat} {it : Addr} {h : Heap} {k : Nat} {v : Nat} (hit : h.get? it = some (itO j i r n ep)) (hk : k < 2) : (h.update it (Obj.mapFields (·.setIfInBounds k (rawInt v)))).get? it = some (itO (if k = 0 then v else j) (if k = 0 then i else v) r n ep) := by
  rw [Heap.get?_update_self _ hit rfl]
  match k, hk with
  | 0, _ => rfl
  | 1, _ => rfl
theorem set_item {it : Addr} {i j : Nat} {e : Int × Value} {Q : Option Value → Shared → Prop} (hit : s.heap.get? it = some (itO j i r es.size ep)) (ho : s.heap.get? r = some o) (hX : SetX w σ o es ep) (hj : w.params.followText "set-order" = false → SetTable.below (lay (ledW w) σ).place j = i)
    (he : (ordW w r es ep)[i]? = some e) (hQ : ∀ h' j', Heap.SameBut it s.heap h' → h'.get? it = some (itO j' (i + 1) r es.size ep) → (w.params.followText "set-order" = false → SetTable.below (lay (ledW w) σ).place j' = i + 1) → Q (some e.2) { s with heap := h' }) :
    wpAny (model PG w) A (pyNext (.ref it)) Q E s := by
  have hd : o.data = .set es ep (lay (ledW w) σ) := by rw [hX.o]
  have hT : s.TypeIs (.ref it) "set_iterator" := ⟨_, hit, rfl⟩
  have hf := hX.fits
  obtain ⟨_, hg⟩ := Bool.and_eq_true_iff.mp hX.good
  obtain ⟨_, hg⟩ := Bool.and_eq_true_iff.mp hg
  obtain ⟨hp, hg⟩ := Bool.and_eq_true_iff.mp hg
  obtain ⟨hl, hg⟩ := Bool.and_eq_true_iff.mp hg
  obtain ⟨_, hg⟩ := Bool.and_eq_true_iff.mp hg
  unfold pyNext
  refine wpAny_bind (wpAny_attempt (wpAny_callSpecial?_slot (name := Str.ofString "__next__") hT sl_next (wpAny_call_entry sl_next hT en_next ?_ (ar_next _))))
  unfold Builtin.«set_iterator.__next__»
  refine wpAny_bind (wpAny_pure (wpAny_bind (wpAny_fieldsOf hit rfl ?_)))
  dsimp only
  refine wpAny_bind (wpAny_setEntries_of ho hd hf ?_)
  rw [if_neg (by simp)]
  refine wpAny_bind ?_
  unfold setNext
  refine wpAny_bind (wpAny_setState_of ho hd hf (wpAny_bind (wpAny_bind (wpAny_askSetting (wpAny_pure ?_)))))
  have two : ∀ (E' : Value → Shared → Prop) (x : Nat) (h1 : Heap), Heap.SameBut it s.heap h1 → h1.get? it = some (itO x i r es.size ep) → (w.params.followText "set-order" = false → SetTable.below (lay (ledW w) σ).place x = i + 1) →
      wpAny (model PG w) A.in1 (setField (.ref it) 1 (rawInt (i + 1)) >>= fun _ => ret e.2) (fun fin s' => ∃ v, fin = .done (.ret v) ∧ wpAny (model PG w) A (pure (some v)) Q E s') E' { s with heap := h1 } := fun E' x h1 hs1 hg1 hx => by
    refine wpAny_bind (wpAny_setField hg1 rfl (show 1 < 5 by decide) (wpAny_pure ⟨_, rfl, wpAny_pure (hQ _ x (hs1.trans (Heap.SameBut.update ..)) ?_ hx)⟩))
    have := it_put (k := 1) (v := i + 1) hg1 (by decide)
    exact this
  have one : ∀ (E' : Value → Shared → Prop) (x : Nat), (w.params.followText "set-order" = false → SetTable.below (lay (ledW w) σ).place x = i + 1) →
      wpAny (model PG w) A.in1 (setField (.ref it) 0 (rawInt x) >>= fun _ => setField (.ref it) 1 (rawInt (i + 1)) >>= fun _ => ret e.2) (fun fin s' => ∃ v, fin = .done (.ret v) ∧ wpAny (model PG w) A (pure (some v)) Q E s') E' s := fun E' x hx => by
    refine wpAny_bind (wpAny_setField hit rfl (show 0 < 5 by decide) (two E' x _ (Heap.SameBut.update ..) ?_ hx))
    have := it_put (k := 0) (v := x) hit (by decide)
    exact this
  refine wpAny_ite_split (fun hb => ?_) (fun hb => ?_)
  · have hb' : w.params.followText "set-order" = true := hb
    rw [if_neg (by simp)]
    unfold ordW at he
    rw [hb'] at he
    unfold setWalk
    refine wpAny_bind (wpAny_bind (wpAny_setState_of ho hd hf (wpAny_bind (wpAny_bind (wpAny_askSetting (wpAny_pure ?_))))))
    rw [if_pos hb]
    refine wpAny_bind (wpAny_askSetting (wpAny_pure (wpAny_pure ?_)))
    dsimp only [Int.toNat_natCast]
    rw [show (pickOrder ((model PG w).w.params.setOrder r ep) es)[i]? = some e from he]
    exact one _ j fun q => absurd q (by rw [hb']; exact Bool.noConfusion)
  · have hb' : w.params.followText "set-order" = false := Bool.eq_false_iff.mpr hb
    unfold ordW at he
    rw [hb'] at he
    obtain ⟨hlt, he2⟩ := Array.getElem?_eq_some_iff.mp he
    have hgi := List.all_eq_true.mp hg i (List.mem_range.mpr hlt)
    refine wpAny_ite_split (fun h => ?_) (fun h => ?_)
    · obtain ⟨h, _⟩ := Bool.and_eq_true_iff.mp (show (!(lay (ledW w) σ).plain && _) = true from h)
      rw [hp] at h; cases h
    refine wpAny_bind ?_
    show wpAny _ _ (if (!(lay (ledW w) σ).led && !es.isEmpty) = true then unsupported "set:maker-not-led" else pure ()) _ _ _
    refine wpAny_ite_split (fun h => ?_) (fun h => ?_)
    · obtain ⟨h, _⟩ := Bool.and_eq_true_iff.mp h
      rw [beq_iff_eq.mp hl] at h
      unfold ledW at h
      rw [hb'] at h; cases h
    refine wpAny_pure (wpAny_pure ?_)
    dsimp only [Int.toNat_natCast]
    rw [hj hb', Array.getElem?_eq_getElem hlt, he2]
    split at hgi
    · rename_i j' hj'
      rw [hj']
      exact one _ (j' + 1) fun _ => beq_iff_eq.mp hgi
    · cases hgi
theorem set_end {it : Addr} {j : Nat} {Q : Option Value → Shared → Prop} (hh : A.handled = none) (hit : s.heap.get? it = some (itO j es.size r es.size ep)) (ho : s.heap.get? r = some o) (hX : SetX w σ o es ep) (hj : w.params.followText "set-order" = false → SetTable.below (lay (ledW w) σ).place j = es.size)
    (hQ : ∀ h', Heap.ExtBut it s.heap h' → Q none { s with heap := h' }) :
    wpAny (model PG w) A (pyNext (.ref it)) Q E s := by
  have hd : o.data = .set es ep (lay (ledW w) σ) := by rw [hX.o]
  have hT : s.TypeIs (.ref it) "set_iterator" := ⟨_, hit, rfl⟩
  have hf := hX.fits
  obtain ⟨_, hg⟩ := Bool.and_eq_true_iff.mp hX.good
  obtain ⟨_, hg⟩ := Bool.and_eq_true_iff.mp hg
  obtain ⟨hp, hg⟩ := Bool.and_eq_true_iff.mp hg
  obtain ⟨hl, hg⟩ := Bool.and_eq_true_iff.mp hg
  unfold pyNext
  refine wpAny_bind (wpAny_attempt (wpAny_callSpecial?_slot (name := Str.ofString "__next__") hT sl_next (wpAny_call_entry sl_next hT en_next ?_ (ar_next _))))
  unfold Builtin.«set_iterator.__next__»
  refine wpAny_bind (wpAny_pure (wpAny_bind (wpAny_fieldsOf hit rfl ?_)))
  dsimp only
  refine wpAny_bind (wpAny_setEntries_of ho hd hf ?_)
  rw [if_neg (by simp)]
  refine wpAny_bind ?_
  unfold setNext
  refine wpAny_bind (wpAny_setState_of ho hd hf (wpAny_bind (wpAny_bind (wpAny_askSetting (wpAny_pure ?_)))))
  have fin : ∀ (E' : Value → Shared → Prop), (∀ (x : Addr) (h' : Heap), Heap.ExtBut it s.heap h' → (h'.get? x).map (·.cls) = some (.type "StopIteration") → E' (.ref x) { s with heap := h' }) →
      wpAny (model PG w) A.in1 (setField (.ref it) 2 .none >>= fun _ => newExc (.type "StopIteration") [] >>= fun e => (raiseNew e : Sem PySem.Fin)) (fun fin s' => ∃ v, fin = .done (.ret v) ∧ wpAny (model PG w) A (pure (some v)) Q E s') E' s := fun E' hE => by
    refine wpAny_bind (wpAny_setField hit rfl (show 2 < 5 by decide) ?_)
    refine wpAny_bind ?_
    simp only [newExc, newTuple]
    refine wpAny_bind (wpAny_newObj_type ?_ (by size_fits))
    refine wpAny_bind (m := firstArgMember _ _) (wpAny_of_eq (a := Value.none) (by first | rfl | (simp only [firstArgMember]; rfl)) ?_)
    refine wpAny_newObj_type ?_ (by size_fits)
    simp only [raiseNew]
    refine wpAny_bind (wpAny_handled ?_)
    rw [show A.in1.handled = none from hh]
    refine wpAny_bind (wpAny_pure (wpAny_throw (hE _ _ (((Heap.SameBut.update ..).extBut.push _).push _) ?_)))
    rw [Heap.get?_push_size _ rfl]; rfl
  have stop : ∀ (x : Addr) (h' : Heap), Heap.ExtBut it s.heap h' → (h'.get? x).map (·.cls) = some (.type "StopIteration") → wpAny (model PG w) A (do
        let b ← isInstance (.ref x) (Value.type "StopIteration")
        if b = true then pure none else throw (.ref x)) Q E { s with heap := h' } := fun x h' hk hc => by
    obtain ⟨ox, hx, hc⟩ := Option.map_eq_some_iff.mp hc
    refine wpAny_bind (wpAny_isInstance (T := "StopIteration") (b := true) ⟨_, hx, hc⟩ isSubtype_stop ?_)
    exact wpAny_pure (hQ _ hk)
  have hz : es[es.size]? = none := Array.getElem?_eq_none (Nat.le_refl _)
  refine wpAny_ite_split (fun hb => ?_) (fun hb => ?_)
  · rw [if_neg (by simp)]
    unfold setWalk
    refine wpAny_bind (wpAny_bind (wpAny_setState_of ho hd hf (wpAny_bind (wpAny_bind (wpAny_askSetting (wpAny_pure ?_))))))
    rw [if_pos hb]
    refine wpAny_bind (wpAny_askSetting (wpAny_pure (wpAny_pure ?_)))
    dsimp only [Int.toNat_natCast]
    have hz' : (pickOrder ((model PG w).w.params.setOrder r ep) es)[es.size]? = none := by
      refine Array.getElem?_eq_none ?_
      have := (pick_perm ((model PG w).w.params.setOrder r ep) es).length_eq
      rw [Array.length_toList, Array.length_toList] at this
      omega +splitDisjunctions
    rw [hz']
    exact fin _ stop
  · have hb' : w.params.followText "set-order" = false := Bool.eq_false_iff.mpr hb
    refine wpAny_ite_split (fun h => ?_) (fun h => ?_)
    · obtain ⟨h, _⟩ := Bool.and_eq_true_iff.mp (show (!(lay (ledW w) σ).plain && _) = true from h)
      rw [hp] at h; cases h
    refine wpAny_bind ?_
    show wpAny _ _ (if (!(lay (ledW w) σ).led && !es.isEmpty) = true then unsupported "set:maker-not-led" else pure ()) _ _ _
    refine wpAny_ite_split (fun h => ?_) (fun h => ?_)
    · obtain ⟨h, _⟩ := Bool.and_eq_true_iff.mp h
      rw [beq_iff_eq.mp hl] at h
      unfold ledW at h
      rw [hb'] at h; cases h
    refine wpAny_pure (wpAny_pure ?_)
    dsimp only [Int.toNat_natCast]
    rw [hj hb', hz]
    exact fin _ stop
theorem set_self {it : Addr} {j i n : Nat} {Q : Value → Shared → Prop} (hit : s.heap.get? it = some (itO j i r n ep)) (h : Q (.ref it) s) : wpAny (model PG w) A (pyIter (.ref it)) Q E s := by
  have hT : s.TypeIs (.ref it) "set_iterator" := ⟨_, hit, rfl⟩
  refine wpAny_pyIter_slot hT sl_self (wpAny_call_entry sl_self hT en_self ?_ (ar_self _))
  show wpAny _ _ (ret (.ref it)) _ _ s
  exact wpAny_pure ⟨_, rfl, "set_iterator", _, hT, sl_next.lookup, h⟩
theorem walks_set (hh : A.handled = none) (I a : Addr) (hne : a ≠ I) : Walks PG w A I [I, a] [I] es.size (fun i v => (ordW w a es ep)[i]?.map (·.2) = some v) (fun i h => (∃ j, h.get? I = some (itO j i a es.size ep) ∧ (w.params.followText "set-order" = false → SetTable.below (lay (ledW w) σ).place j = i)) ∧ ∃ o, h.get? a = some o ∧ SetX w σ o es ep) where
  sub := fun b hb => by simp at hb; simp [hb]
  frame := fun i h h' st hk => let ⟨⟨j, h1, h2⟩, o, h3, h4⟩ := st; ⟨⟨j, hk I (.head _) _ h1, h2⟩, o, hk a (.tail _ (.head _)) _ h3, h4⟩
  item := fun i s Q E hi st hQ => by
    obtain ⟨⟨j, h1, h2⟩, o, h3, h4⟩ := st
    have hs : (ordW w a es ep).size = es.size := by
      have := (ord_perm w a es ep).length_eq
      rwa [Array.length_toList, Array.length_toList] at this
    have he : (ordW w a es ep)[i]? = some (ordW w a es ep)[i] := Array.getElem?_eq_getElem (by omega +splitDisjunctions)
    refine set_item h1 h3 h4 h2 he fun h' j' hs' hg hj' => ?_
    exact hQ _ h' s.toks (by rw [he]; rfl) ⟨⟨j', hg, hj'⟩, o, hs'.extBut a o hne h3, h4⟩ fun b ob hb e => hs'.extBut b ob (fun h => hb (h ▸ .head _)) e
  done := fun s Q E st hQ => by
    obtain ⟨⟨j, h1, h2⟩, o, h3, h4⟩ := st
    exact set_end hh h1 h3 h4 h2 fun h' he' => hQ h' s.toks fun b ob hb e => he' b ob (fun h => hb (h ▸ .head _)) e
  self := fun i s Q E st hQ => let ⟨⟨j, h1, h2⟩, _⟩ := st; set_self h1 hQ
theorem kdl_set (a : Addr) : KdlSrc PG w "set" a a es.size (fun i v => (ordW w a es ep)[i]?.map (·.2) = some v) (fun h => ∃ o, h.get? a = some o ∧ SetX w σ o es ep) where
  type := fun _ hm => let ⟨o, ho, hX⟩ := hm; ⟨o, ho, by rw [hX.o]⟩
  there := fun _ hm => let ⟨o, ho, hX⟩ := hm; ⟨Heap.lt_size ho, Heap.lt_size ho⟩
  keep := fun _ _ hm hk => let ⟨o, ho, hX⟩ := hm; ⟨o, hk a (.inl rfl) o ho, hX⟩
  notList := by decide
  notTuple := by decide
  hint := fun _ _ _ _ hm hq => let ⟨o, ho, hX⟩ := hm; hint_set ⟨o, ho, by rw [hX.o]⟩ hq
  iter := fun A s hh hm => by
    obtain ⟨o, ho, hX⟩ := hm
    refine ⟨_, _, (fun _ _ hq => set_iter ho hX hq), walks_set (σ := σ) hh _ a (Nat.ne_of_lt (Heap.lt_size ho)), ⟨⟨0, Heap.get?_push_size _ rfl, fun _ => ?_⟩, o, Heap.get?_push_of_some _ ho, hX⟩⟩
    obtain ⟨_, hg⟩ := Bool.and_eq_true_iff.mp hX.good
    obtain ⟨_, hg⟩ := Bool.and_eq_true_iff.mp hg
    obtain ⟨_, hg⟩ := Bool.and_eq_true_iff.mp hg
    obtain ⟨_, hg⟩ := Bool.and_eq_true_iff.mp hg
    obtain ⟨hg, _⟩ := Bool.and_eq_true_iff.mp hg
    exact beq_iff_eq.mp hg
end
end Mine
end
section
open PySem PySem.W PyProof.Rows PySem.Spec PySem.Calls Builtin
set_option Elab.async false
set_option maxRecDepth 100000
set_option maxHeartbeats 4000000
set_option linter.unusedVariables false
namespace Mine
noncomputable def hts (ns : List Int) : List Int := ns.map fun x => (x.natAbs : Int)
theorem dedup_foldl (l : List Int) : ∀ acc : List Int, acc.Nodup → (l.foldl step_dedup acc).Nodup ∧ ∀ x, x ∈ l.foldl step_dedup acc ↔ x ∈ acc ∨ x ∈ l := by
  induction l with
  | nil => intro acc h; exact ⟨h, fun x => by simp⟩
  | cons k l ih =>
    intro acc h
    have e : (step_dedup acc k).Nodup ∧ ∀ x, x ∈ step_dedup acc k ↔ x ∈ acc ∨ x = k := by
      unfold step_dedup
      split
      · rename_i q
        obtain ⟨y, hy, e⟩ := List.any_eq_true.mp q
        exact ⟨h, fun x => ⟨.inl, fun z => z.elim id fun e' => by rw [e', ← beq_iff_eq.mp e]; exact hy⟩⟩
      · rename_i q
        refine ⟨List.nodup_append.mpr ⟨h, List.nodup_cons.mpr ⟨List.not_mem_nil, .nil⟩, fun a ha b hb e' => q ?_⟩, fun x => by simp⟩
        rw [List.mem_singleton.mp hb] at e'
        exact List.any_eq_true.mpr ⟨a, ha, beq_iff_eq.mpr e'⟩
    obtain ⟨e1, e2⟩ := e
    obtain ⟨i1, i2⟩ := ih _ e1
    refine ⟨i1, fun x => (i2 x).trans ?_⟩
    rw [e2 x, List.mem_cons, or_assoc]
theorem firstMet_list (ns : List Int) : (firstMet (fun i => ns.getD i 0) ns.length).Nodup ∧ ∀ x, x ∈ firstMet (fun i => ns.getD i 0) ns.length ↔ x ∈ ns := by
  have e : (List.range ns.length).map (fun i => ns.getD i 0) = ns := by
    refine List.ext_getElem (by simp) fun i h1 h2 => ?_
    simp [List.getElem?_eq_getElem h2]
  unfold firstMet
  rw [e]
  obtain ⟨a, b⟩ := dedup_foldl ns [] .nil
  exact ⟨a, fun x => by simpa using b x⟩
theorem inorder_iff {ns out : List Int} (hp : out.Perm (firstMet (fun i => (hts ns).getD i 0) (hts ns).length)) (hs : out.Pairwise (· ≤ ·)) : (0 ∉ hts ns ∧ hts ns = out) ↔ Tidy ns := by
  obtain ⟨nd, hm⟩ := firstMet_list (hts ns)
  have nd' : out.Nodup := hp.nodup_iff.mpr nd
  have z : 0 ∉ hts ns ↔ ∀ x ∈ ns, x ≠ 0 := by
    unfold hts
    constructor
    · intro h x hx q
      exact h (List.mem_map.mpr ⟨x, hx, by rw [q]; rfl⟩)
    · intro h q
      obtain ⟨x, hx, e⟩ := List.mem_map.mp q
      exact h x hx (by omega)
  unfold Tidy
  rw [z]
  refine and_congr_right fun _ => ⟨fun e => ?_, fun h => ?_⟩
  · have := hs.and nd'
    rw [← e] at this
    unfold hts at this
    rw [List.pairwise_map] at this
    exact this.imp fun h => by omega
  · have st : (hts ns).Pairwise (· < ·) := by unfold hts; rw [List.pairwise_map]; exact h.imp fun h => by omega
    have nh : (hts ns).Nodup := st.imp fun h => Int.ne_of_lt h
    have pm : (hts ns).Perm out := (List.perm_ext_iff_of_nodup nh nd').mpr fun x => ((hp.mem_iff).trans (hm x)).symm
    exact List.Perm.eq_of_pairwise (le := (· ≤ ·)) (fun a b _ _ h1 h2 => Int.le_antisymm h1 h2) (st.imp Int.le_of_lt) hs pm
section
variable {c : Fx} {sc : List (Str × NameKind)} {s : Shared} {σ : St} {P : Value → St → Prop}
theorem raw_set {l : Addr} {vs : List Value} {ns : List Int} (hA : c.A.handled = none) (hh : HasL c σ l vs) (hI : IntsAre vs ns) (h4 : ns.length ≤ 4) (hH : ∀ x ∈ ns, x ∈ hH)
    (h : ∀ a o es ep, NewAt a σ → SetX c.w (firstMet (fun i => ns.getD i 0) ns.length) o es ep → P (.ref a) (σ.addN a o)) : raw c (call (.type "set") [.ref l]) P σ := fun s r => by
  have hl := hI.length
  refine set_list hA (r.hasL hh) (ns := ns) (by simpa using hI) (by rw [List.size_toArray]; omega) (fun i hi => ?_) fun h' tk hS hk => ?_
  · rw [List.size_toArray, hl] at hi
    rw [List.getD_eq_getElem?_getD, List.getElem?_eq_getElem hi]
    exact hH _ (List.getElem_mem hi)
  · rw [List.size_toArray, hl] at hS
    obtain ⟨o, es, ep, ho, hX⟩ := hS
    obtain ⟨f1, f2, f3⟩ := fresh_own r (none_size s.heap)
    have r' := (r.grow (tk := tk) (h' := h') (.of (fun b o e _ => hk b o (Heap.lt_size e) e) fun x hx => (nomatch hx))).more ho f1 f2 f3
    exact pst r' (h _ _ _ _ f2 hX)
theorem raw_sortedS {d : Addr} {o : Obj} {σs : List Int} {es : Array (Int × Value)} {ep : Nat} (hA : c.A.handled = none) (hh : Has c σ d o) (hX : SetX c.w σs o es ep)
    (h : ∀ a o vs' ns', NewAt a σ → LstO o vs' → IntsAre vs' ns' → ns'.Perm σs → ns'.Pairwise (· ≤ ·) → P (.ref a) (σ.addN a o)) : raw c (call (.builtin "sorted") [.ref d]) P σ := fun s r => by
  have hsz := hX.size
  have h4 := hX.l4
  refine Calls.call_function_entry kind_sorted plain_sorted entry_sorted (args_sorted1 _) ?_
  unfold Builtin.«sorted»
  refine wpAny_bind (m := checkCount "sorted" 1 1 _) (wpAny_pure ?_)
  refine wpAny_bind (kdu_collect (A := c.A.in1) (kdl_set (w := c.w) (σ := σs) (es := es) (ep := ep) d) hA ⟨o, r.has hh, hX⟩ (by rw [sizeLine_eq]; omega) fun h' tk acc hk hacc => ?_)
  have hpo := ord_perm c.w d es ep
  have hlen := hpo.length_eq
  rw [Array.length_toList, Array.length_toList] at hlen
  have hl : acc.toList.length = es.size := by rw [Array.length_toList]; exact hacc.1
  have hav : acc.toList = (ordW c.w d es ep).toList.map (·.2) := by
    refine List.ext_getElem? fun i => ?_
    rw [List.getElem?_map, Array.getElem?_toList, Array.getElem?_toList]
    cases q : acc[i]? with
    | some v => exact (hacc.2 i v q).symm
    | none =>
      have := Array.getElem?_eq_none_iff.mp q
      rw [Array.getElem?_eq_none (by have := hacc.1; omega)]; rfl
  have hI : IntsAre acc.toList ((ordW c.w d es ep).toList.map kOf) := by
    rw [hav]
    have el : ∀ e ∈ (ordW c.w d es ep).toList, ∃ t, e.2 = .int (kOf e) t := fun e he => by
      obtain ⟨⟨k, hk, _⟩, _⟩ := hX.el e (hpo.mem_iff.mp he)
      rw [kOf_is hk]
      exact Value.isInt_shape hk
    revert el
    generalize (ordW c.w d es ep).toList = L
    intro el
    induction L with
    | nil => exact .nil
    | cons e L ih =>
      obtain ⟨t, ht⟩ := el e (.head _)
      rw [List.map_cons, List.map_cons, ht]
      exact .cons _ _ (ih fun e he => el e (.tail _ he))
  refine wpAny_bind (wpAny_newList ?_ (by rw [sizeLine_eq, hl]; omega))
  have hoL : (h'.push (seqObj "list" acc.toList.toArray 0)).get? h'.objs.size = some (seqObj "list" acc.toList.toArray 0) := Heap.get?_push_size _ rfl
  refine wpAny_bind (wpAny_holding (wpAny_call_entry slot_list_sort ⟨_, hoL, rfl⟩ entry_list_sort (list_sort_tree hoL hI (by rw [hl]; omega) fun out ns' a1 a2 a3 => ⟨_, rfl, ?_⟩) (args_list_sort _)))
  refine wpAny_pure ⟨_, rfl, ?_⟩
  have kp : ∀ b o, s.heap.get? b = some o → (sortedHeap (h'.push (seqObj "list" acc.toList.toArray 0)) h'.objs.size acc.toList out).get? b = some o := fun b o e => by
    have e1 := hk b o e
    rw [sortedHeap_old (Nat.ne_of_lt (Heap.lt_size e1)) (by rw [Heap.size_push]; exact Nat.lt_succ_of_lt (Heap.lt_size e1))]
    exact Heap.get?_push_of_some _ e1
  obtain ⟨e, he⟩ := sortedHeap_at (out := out) hoL
  have hn : s.heap.get? h'.objs.size = none := by
    cases q : s.heap.get? h'.objs.size with
    | none => rfl
    | some o => exact absurd (Heap.lt_size (hk _ _ q)) (Nat.lt_irrefl _)
  obtain ⟨f1, f2, f3⟩ := fresh_own r hn
  have r' := (r.grow (tk := tk) (.of (fun b o e _ => kp b o e) fun x hx => (nomatch hx))).more he f1 f2 f3
  exact pst r' (h _ _ out.toList ns' f2 ⟨rfl, ⟨e, by simp⟩, rfl⟩ a1 (a2.trans ((hpo.map kOf).trans hX.pm)) a3)
theorem inorder_ok {l : Addr} {vs : List Value} {ns : List Int} (a : Act sc c) (u : Up c 800) (hL : HasL c σ l vs) (hI : IntsAre vs ns) (hn : ns.length ≤ 4) (hl : ∀ x ∈ ns, Lit x)
    (h : ∀ b t', (b = true ↔ Tidy ns) → Le σ.t t' → P (.bool b) (σ.setT t')) : raw c (call (.ref 211) [.ref l]) P σ := by
  refine enter [] a u (by simp) .nil (by simp) (by k_is) (by k_is) (Nat.le_of_ble_eq_true rfl) (fun _ => BindsTo.of_eq rfl) (by rfl) (by exact .nil) (by rfl) (by rfl) (by rfl) ?_
  intro s c' tv r I QF hQ
  have hL' : ∀ σ', HasL c' σ' l vs := fun σ' => hL.enter r I List.not_mem_nil
  have fin : ∀ b m n k t, (b = true ↔ Tidy ns) → QF (.ret (.bool b)) ⟨m, n, k, t⟩ := fun b m n k t hb => hQ _ _ fun s' Z S N O V => by
    obtain ⟨r', l'⟩ := r.back0 Z S
    exact pst r' (h b _ hb l')
  refine raw_AssignComp [] I.a I.u (fun x => rfl) (fun s r => closure_cells r (by rfl)) (fun y hy => (nomatch hy)) (by rfl) (by decide) (by decide) ?_ (by rfl) (I.a.swaps (by rfl) (by rfl))
  obtain ⟨X, hIt, hX⟩ := src_sq (c := c') (σ := ⟨_, _, kc c'.L _ _, tv⟩) I.u.hh (.inl (hL' _)) (List.nil_sublist _)
  refine ⟨.refl _, vs.length, _, X, by rw [hI.length, sizeLine_eq]; omega, hIt, hX, fun i t acc => IntsAre acc (hts (ns.take i)), fun _ _ _ _ _ h => h, fun _ _ => .nil, ?_, ?_⟩
  · intro s c2 t i x acc J oJ D oD rr G a2 u2 hi hx hJ
    have hi' : i < ns.length := hI.length ▸ hi
    obtain ⟨t6, hx'⟩ := ints_at hI hi'
    rw [hx] at hx'; cases hx'
    refine raw_sto a2 ⟨fun _ => ⟨.bi _, raw_abs fun t7 => ⟨⟨.refl _, rfl⟩, ?_⟩⟩, fun q => (nomatch q)⟩
    show IntsAre _ (hts (ns.take (i + 1)))
    rw [take_succ' (d := 0) hi', show hts (ns.take i ++ [ns.getD i 0]) = hts (ns.take i) ++ hts [ns.getD i 0] from List.map_append]
    refine hJ.append ?_
    show IntsAre _ [((ns.getD i 0).natAbs : Int)]
    rw [show (if ns.getD i 0 < 0 then -ns.getD i 0 else ns.getD i 0) = ((ns.getD i 0).natAbs : Int) by split <;> omega]
    exact .cons _ _ .nil
  · intro t acc D oD hle hacc hlen' hLo hND
    rw [hI.length, List.take_length] at hacc
    have hHs : HasL c' ⟨[(Str.ofString "heights", .ref D), (Str.ofString "row", .ref l)], [(D, oD)], [], t⟩ D acc := hLo.hasL (.inr (.head _))
    intro t1
    refine raw_ninI I.u (by decide) (.inl (hLo.hasL (.inr (.head _)))) hacc fun b1 hb1 => ⟨fun q1 => ?_, fun q1 => ?_⟩
    · have hzn := hb1.mp q1
      have hHh : ∀ x ∈ hts ns, x ∈ hH := fun x hx => by
        obtain ⟨y, hy, rfl⟩ := List.mem_map.mp hx
        have := hl y hy
        unfold Lit H4 at this
        unfold hH
        simp only [List.mem_cons, List.not_mem_nil, or_false] at this ⊢
        omega
      refine ⟨.bi _, .ty _, raw_set I.u.hh (hLo.hasL (.inr (.head _))) hacc (by unfold hts; rw [List.length_map]; exact hn) hHh fun d o es ep hNd hXd => ?_⟩
      refine raw_sortedS I.u.hh (.inr (.head _)) hXd fun e oe ve out hNe hLe hIe hpe hse => ?_
      refine raw_eqL I.u (by decide) (hLo.hasL (.inr (.tail _ (.tail _ (.head _))))) (hLe.hasL (.inr (.head _))) (ints_dvs hacc) (ints_dvs hIe) (by rw [deps_i]; decide) fun b2 hb2 => ?_
      refine fin b2 _ _ _ _ ?_
      rw [← inorder_iff hpe hse, hb2]
      constructor
      · intro e; exact ⟨hzn, i_inj.mp e⟩
      · intro e; rw [e.2]
    · refine fin b1 _ _ _ _ ⟨fun e => (nomatch q1.symm.trans e), fun hT => ?_⟩
      refine hb1.mpr fun q => ?_
      obtain ⟨x, hx, e⟩ := List.mem_map.mp q
      exact hT.1 x hx (by omega)
end
end Mine
end
section
open PySem PySem.W PyProof.Rows PySem.Spec PySem.Calls Builtin
set_option Elab.async false
set_option maxRecDepth 100000
set_option maxHeartbeats 4000000
set_option linter.unusedVariables false
namespace Mine
theorem LoopEnd.cn {I : Addr} {o : Obj} {J : St → Prop} {Q : Flow → St → Prop} {m : List (Str × Value)} {n : List (Addr × Obj)} {k : List (Str × Addr × Option Value)} {t : Heap} (h : ∃ σ', Less σ' ⟨m, n, k, t⟩ ∧ J σ') : LoopEnd I o J Q .cont ⟨m, n ++ [(I, o)], k, t⟩ :=
  ⟨List.getLast?_concat, by show LoopGo J Q .cont ⟨m, (n ++ [(I, o)]).dropLast, k, t⟩; rw [List.dropLast_concat]; exact h⟩
theorem clash_comm {one other : List Int} {v : Int} : clash other one v ↔ clash one other v := by unfold clash; constructor <;> rintro (⟨a, b⟩ | ⟨a, b⟩) <;> first | exact .inr ⟨b, a⟩ | exact .inl ⟨b, a⟩
theorem resS_comm {one other : List Int} {v x : Int} : resS other one v x ↔ resS one other v x := by unfold resS; rw [or_comm]
noncomputable def lrD : LR → D
  | .pivot => .s (Str.ofString "pivot")
  | .always => .s (Str.ofString "always")
  | .cl ns => .t (ns.map .i)
theorem LV.dv {t : Heap} {v : Value} {r : LR} (h : LV t v r) : DV t (lrD r) v := by
  cases r with
  | pivot => obtain ⟨u, rfl⟩ := h; exact dvS
  | always => obtain ⟨u, rfl⟩ := h; exact dvS
  | cl ns => exact ct_iff.mp h
theorem lrD_dep (r : LR) : dep (lrD r) ≤ 9 := by
  cases r with
  | pivot => decide
  | always => decide
  | cl ns => show deps (ns.map .i) + 1 ≤ 9; rw [deps_i]; decide
noncomputable def oD : Option (List Int) → D
  | none => .n
  | some ns => .t (ns.map .i)
theorem OT.dv {t : Heap} {v : Value} {r : Option (List Int)} (h : OT t v r) : DV t (oD r) v := by
  cases r with
  | none => rw [show v = .none from h]; exact dvN
  | some ns => exact ct_iff.mp h
theorem oD_dep (r : Option (List Int)) : dep (oD r) ≤ 9 := by
  cases r with
  | none => decide
  | some ns => show deps (ns.map .i) + 1 ≤ 9; rw [deps_i]; decide
section
variable {c : Fx} {sc : List (Str × NameKind)} {s : Shared} {σ : St} {P : Value → St → Prop}
theorem Up.as {n : Nat} {E : Value → Shared → Prop} (u : Up c n) : Up (c.at c.A E) n := ⟨u.hA, u.hh, u.hd, u.hu, u.fS⟩
theorem raw_fstep {e d : Addr} {oe od : Obj} {k : Int} (a : Act sc c) (he : Has c σ e oe) (hd : Has c σ d od) (hx : ExO c.w k d oe od) (h : ∀ u, P (.int k u) σ) : raw c (getAttr (.ref e) (Str.ofString "step") true) P σ := fun s r => by
  obtain ⟨hc, hdi, ⟨vs, hf⟩, what, t1, t2, u, n, rfl⟩ := hx
  obtain ⟨h₀, g, dr, tk, os⟩ := s
  exact exc_step (a.X.keeps r.F.keep) (r.has he) hc hdi hf (r.has hd) (done r (h u) _)
theorem right_ok {l1 l2 : Addr} {vs1 vs2 : List Value} {one other : List Int} {v : Int} {t0 : Tok} (a : Act sc c) (u : Up c 690) (h1 : TupAt σ.t l1 vs1) (h2 : TupAt σ.t l2 vs2) (hI1 : IntsAre vs1 one) (hI2 : IntsAre vs2 other)
    (hC1 : Cl one) (hC2 : Cl other) (hv : 0 < v) (hvL : Lit v) (h : ∀ t', Le σ.t t' → P (.bool true) (σ.setT t')) : raw c (call (.ref 218) [.ref l1, .ref l2, .int v t0]) P σ := by
  refine enter [] a u (by simp) .nil (by simp) (by k_is) (by k_is) (Nat.le_of_ble_eq_true rfl) (fun _ => BindsTo.of_eq rfl) (by rfl) (by exact .nil) (by rfl) (by rfl) (by rfl) ?_
  intro s c' tv r I QF hQ
  have g1 := h1.up r I
  have g2 := h2.up r I
  have n1 := hC1.len
  have n2 := hC2.len
  have fin : ∀ m n k t, QF (.ret (.bool true)) ⟨m, n, k, t⟩ := fun m n k t => hQ _ _ fun s' Z S N O V => by
    obtain ⟨r', l'⟩ := r.back0 Z S
    exact pst r' (h _ l')
  refine ⟨.own (by k_is), ?_⟩
  refine left_ok I.a (I.u.le (by decide)) g1 g2 hI1 hI2 hC1.T hC2.T (by omega) (by omega) hv fun due res t1 hLP hLV hle1 => ?_
  refine raw_For I.a I.a.int I.p I.u.hh (fun x => rfl) ?_
  refine ⟨Nat.le_of_ble_eq_true rfl, fun pa t2 hle2 hpa => ?_⟩
  refine ⟨Nat.le_of_ble_eq_true rfl, fun pb t3 hle3 hpb => ?_⟩
  refine ⟨Nat.le_of_ble_eq_true rfl, fun pc t4 hle4 hpc => ?_⟩
  obtain ⟨X, hIt, hX⟩ := src_sq (c := c') (σ := ⟨[], [], [], t4⟩) (kk := []) I.u.hh (.inr (.of hpc)) (.refl _)
  obtain ⟨base, hbase⟩ : ∃ b : List (Str × Value), b = [(Str.ofString "due", due), (Str.ofString "var", .int v t0), (Str.ofString "other", .ref l2), (Str.ofString "one", .ref l1)] := ⟨_, rfl⟩
  have hle : Le tv t4 := ((hle1.trans hle2).trans hle3).trans hle4
  refine ⟨_, _, X, hIt, fun i σ => σ.m = base ∧ σ.n = [] ∧ σ.k = [] ∧ Le t4 σ.t, ⟨hbase.symm, rfl, rfl, Le.refl _⟩, ?_, ?_, ?_⟩
  · rintro i ⟨m, n, k, t⟩ s ⟨_, hn, hk, ht⟩ r
    cases hn; cases hk
    exact (hX s (r.less ⟨fun _ _ q => (nomatch q), .refl _, rfl, ht⟩)).1
  · rintro i y I0 oI ⟨m, n, k, t⟩ hi' hy ⟨hm, hn, hk, ht⟩ hnew
    cases hm; cases hn; cases hk
    dsimp only at hbase ht
    have hle' := hle.trans ht
    have hit : ∃ p la lb va vb ca cb, y = .ref p ∧ TupAt t p [.ref la, .ref lb] ∧ TupAt t la va ∧ TupAt t lb vb ∧ IntsAre va ca ∧ IntsAre vb cb ∧ Cl ca ∧ Cl cb ∧ (clash ca cb v ↔ clash one other v) ∧ ∀ x, resS ca cb v x ↔ resS one other v x := by
      match i, hi' with
      | 0, _ => cases hy; exact ⟨pa, l1, l2, vs1, vs2, one, other, rfl, ((TupAt.of hpa).le hle3).le (hle4.trans ht), g1.le hle', g2.le hle', hI1, hI2, hC1, hC2, .rfl, fun _ => .rfl⟩
      | 1, _ => cases hy; exact ⟨pb, l2, l1, vs2, vs1, other, one, rfl, (TupAt.of hpb).le (hle4.trans ht), g2.le hle', g1.le hle', hI2, hI1, hC2, hC1, clash_comm, fun _ => resS_comm⟩
      | n + 2, h => exact absurd h (by simp)
    obtain ⟨p, la, lb, va, vb, ca, cb, rfl, hp, hla, hlb, hIa, hIb, hCa, hCb, hcl, hrs⟩ := hit
    have m1 := hCa.len
    have m2 := hCb.len
    have hLV' : LV t due res := hLV.le (((hle2.trans hle3).trans hle4).trans ht)
    have hless : ∀ (mm : List (Str × Value)) (n : List (Addr × Obj)), (∀ x v, lk m x = some v → lk mm x = some v) → ∃ σ', Less σ' (⟨mm, n, [], t⟩ : St) ∧ (σ'.m = m ∧ σ'.n = [] ∧ σ'.k = [] ∧ Le t4 σ'.t) := fun mm n hm => ⟨⟨m, [], [], t⟩, ⟨hm, List.nil_sublist _, rfl, Le.refl _⟩, rfl, rfl, rfl, ht⟩
    refine raw_assignT I.u.hh hp (by rfl) (by rfl) (raw_inOrder (raw_sto I.a (raw_inOrder (raw_sto I.a (raw_inOrder0 ?_)))))
    have hsub : ∀ (mm : List (Str × Value)), lk mm (Str.ofString "due") = some due → lk mm (Str.ofString "var") = some (.int v t0) → lk mm (Str.ofString "other") = some (.ref l2) → lk mm (Str.ofString "one") = some (.ref l1) → ∀ x v, lk m x = some v → lk mm x = some v := fun mm e1 e2 e3 e4 => by
      rw [hbase]
      exact lk_sub (List.forall_mem_cons.mpr ⟨e1, List.forall_mem_cons.mpr ⟨e2, List.forall_mem_cons.mpr ⟨e3, List.forall_mem_singleton.mpr e4⟩⟩⟩)
    subst hbase
    refine raw_Try I.a I.u I.L ⟨_, I.S⟩ I.a.int (by rfl) (by rfl) (by rfl) (by rfl) (fun k σ' => k = -1 ∧ ¬ clash one other v ∧ σ' = ⟨(Str.ofString "second", .ref lb) :: (Str.ofString "first", .ref la) :: [(Str.ofString "due", due), (Str.ofString "var", .int v t0), (Str.ofString "other", .ref l2), (Str.ofString "one", .ref l1)], [(I0, oI)], [], t⟩) ?_ ?_
    · refine ⟨.own (by k_is), ?_⟩
      refine resolve_ok (I.a.as _ _) ((I.u.le (by decide)).as) hla hlb hIa hIb hCa.L hCb.L hCa.T hCb.T (by omega) (by omega) hvL.bd (fun hc w rr t5 hN hO hle5 => ?_) fun hc s e s2 r1 hz hE => ⟨e, -1, _, _, s, rfl, r1.un, hz, hE, rfl, (fun q => hc (hcl.mpr q)), rfl⟩
      have hc' := hcl.mp hc
      have eN : ∀ ro, Nrm (resS one other v) ro → rr = ro := fun ro h => Nrm.uniq hN h hrs
      have go : ∀ (Q' : Flow → St → Prop) mm, lk mm (Str.ofString "due") = some due → lk mm (Str.ofString "var") = some (.int v t0) → lk mm (Str.ofString "other") = some (.ref l2) → lk mm (Str.ofString "one") = some (.ref l1) → LoopEnd I0 oI (fun σ => σ.m = [(Str.ofString "due", due), (Str.ofString "var", .int v t0), (Str.ofString "other", .ref l2), (Str.ofString "one", .ref l1)] ∧ σ.n = [] ∧ σ.k = [] ∧ Le t4 σ.t) Q' .next ⟨mm, [] ++ [(I0, oI)], [], t5⟩ := fun Q' mm e1 e2 e3 e4 => LoopEnd.nx ⟨⟨[(Str.ofString "due", due), (Str.ofString "var", .int v t0), (Str.ofString "other", .ref l2), (Str.ofString "one", .ref l1)], [], [], t5⟩, ⟨hsub mm e1 e2 e3 e4, .refl _, rfl, Le.refl _⟩, rfl, rfl, rfl, ht.trans hle5⟩
      cases res with
      | pivot => exact absurd hc' hLP
      | always =>
        have := eN none hLP.2
        subst this
        obtain ⟨ud, rfl⟩ := hLV'
        cases (show w = .none from hO)
        intro t6
        refine raw_eqD I.u (by decide) dvS dvS (by decide) fun b hb => ⟨fun q => ?_, fun _ => ?_⟩
        · injection hb.mp q with e; exact absurd e (by decide)
        intro t7
        refine raw_eqD I.u (by decide) dvS dvS (by decide) fun b2 hb2 => ⟨fun _ => ?_, fun q => ?_⟩
        · refine raw_neD I.u (by decide) dvN dvN (by decide) fun b3 hb3 => ⟨fun q => absurd rfl (hb3.mp q), fun _ => ?_⟩
          refine go _ _ ?_ ?_ ?_ ?_ <;> rfl
        · exact (nomatch q.symm.trans (hb2.mpr rfl))
      | cl ns =>
        have := eN (some ns) hLP.2
        subst this
        have hLV5 := LV.le hLV' hle5
        have hd := LV.dv hLV5
        have hw := OT.dv hO
        obtain ⟨da, dvs, rfl, _, _⟩ := hLV'
        obtain ⟨wa, wvs, rfl, _, _⟩ := hO
        intro t6
        refine raw_eqD I.u (by decide) hd dvS (lrD_dep (.cl ns)) fun b hb => ⟨fun q => ?_, fun _ => ?_⟩
        · exact (nomatch (show D.t (ns.map .i) = .s (Str.ofString "pivot") from hb.mp q))
        intro t7
        refine raw_eqD I.u (by decide) hd dvS (lrD_dep (.cl ns)) fun b2 hb2 => ⟨fun q => ?_, fun _ => ?_⟩
        · exact (nomatch (show D.t (ns.map .i) = .s (Str.ofString "always") from hb2.mp q))
        refine raw_neD I.u (by decide) hw hd (oD_dep (some ns)) fun b3 hb3 => ⟨fun q => absurd rfl (hb3.mp q), fun _ => ?_⟩
        refine go _ _ ?_ ?_ ?_ ?_ <;> rfl
    · rintro k σ₁ e d oe od A E ⟨rfl, hnc, rfl⟩ hx hA hu
      have hu' : (c'.at A E).A.units ≤ 9000 := by show A.units ≤ 9000; rw [hu]; have := I.u.hu; omega
      have hres : res = .pivot := by cases res <;> first | rfl | exact absurd hLP.1 hnc
      subst hres
      obtain ⟨ud, rfl⟩ := hLV'
      intro t5
      refine raw_neDu hu' dvS dvS (by decide) fun b hb => ⟨fun q => absurd rfl (hb.mp q), fun _ => ?_⟩
      refine raw_fstep (I.a.as A E) (.inr (.head _)) (.inr (.tail _ (.head _))) hx fun u => ?_
      intro t6 t7
      refine ⟨fun q => absurd q (by decide), fun _ => ?_⟩
      exact LoopEnd.cn (n := [(e, oe), (d, od)]) (hless _ _ (hsub _ rfl rfl rfl rfl))
  · rintro ⟨m, n, k, t⟩ ⟨hm, hn, hk, ht⟩
    exact fin _ _ _ _
end
end Mine
end
section
open PySem PySem.W PyProof.Rows PySem.Spec PySem.Calls Builtin
set_option Elab.async false
set_option maxRecDepth 100000
set_option linter.unusedVariables false
namespace Mine
section
variable {c : Fx} {sc : List (Str × NameKind)} {s : Shared} {σ : St} {P : Value → St → Prop} {x dx ls ln : Addr} {od : Obj} {em : Int}
theorem raw_And3 {e₁ e₂ e₃ : Expr} {pos : Pos} (a : Act sc c) (h : vE c sc 40 e₁ (fun v σ₁ => vTr c v (fun b σ₂ => br b (vE c sc 40 (.BoolOp .And [e₂, e₃] pos) P σ₂) (P v σ₂)) σ₁) σ) : raw c (eval (.BoolOp .And [e₁, e₂, e₃] pos) c.env) P σ := fun s r => by
  refine BoolOp_and (seq_ ((vET_sound a 40).1 _ _ _ _ h r) fun v₁ σ₁ s₁ r₁ q₁ => seq_ (vTr_sound q₁ r₁) fun c σ₂ s₂ r₂ q₂ => ?_)
  cases c with
  | true => exact (vET_sound a 40).1 _ _ _ _ (q₂.1 rfl) r₂
  | false => exact pst r₂ (q₂.2 rfl)
/-- a method of the object, as a value -/
theorem raw_bound {name : Str} {f : Addr} (a : Act sc c) (J : Inst c σ x dx od ls ln em) (ha : findIn (hd.heap_1 c.w.params) (.ref 169) name = some (some (.ref f))) (hf : typeIn (hd.heap_1 c.w.params) (.ref f) = some (.type "function")) (hgf : specialIn (hd.heap_1 c.w.params) (.ref f) "__get__" = some (some (.builtin "function.__get__")))
    (ht : takesIn (hd.heap_1 c.w.params) (.ref f) = some false) (hc : copiedNames.contains name = false) (hs : lookIn name od = some none) (h : ∀ q, NewAt q σ → P (.ref q) (σ.addN q (methodObj (.ref f) (.ref x)))) : raw c (getAttr (.ref x) name true) P σ := fun s r => by
  have X := a.X.keeps r.F.keep
  refine get_bind X (J.at_ r) (S_ga c.w) (findObj_fn (S_hd c.w) ha hgf ht hc hs) (S_gb c.w) (wpAny_call (fn_get (s := { s with toks := s.toks + 1 }) X hf (handed_on rfl ?_)))
  obtain ⟨f1, f2, f3⟩ := fresh_own r (none_size s.heap)
  exact pst (((r.tk (s.toks + 1)).push (methodObj (.ref f) (.ref x))).more (Heap.get?_push_size _ rfl) f1 f2 f3) (h _ f2)
/-- a list of a list's or a tuple's items -/
theorem raw_listS {l : Addr} {ws : List Value} (hS : Sq c σ l ws) (hz : ws.length ≤ 1000) (h : ∀ b o, NewAt b σ → LstO o ws → P (.ref b) (σ.addN b o)) : raw c (call (.type "list") [.ref l]) P σ := fun s r => by
  have go : ∀ (h' : Heap) (c' : Nat), (∀ b o', s.heap.get? b = some o' → h'.get? b = some o') → h'.get? s.heap.objs.size = some { cls := .type "list", dict := none, data := .seq ws.toArray c', slots := #[] } → Post c P (.ref s.heap.objs.size) { s with heap := h' } := fun h' c' hk hg => by
    obtain ⟨f1, f2, f3⟩ := fresh_own r (none_size s.heap)
    exact pst ((r.grow (tk := s.toks) (.of (fun b o e _ => hk b o e) fun x hx => (nomatch hx))).more hg f1 f2 f3) (h _ _ f2 ⟨rfl, ⟨_, rfl⟩, rfl⟩)
  have hz' : ws.toArray.size ≤ sizeLine := by rw [List.size_toArray, sizeLine_eq]; omega +splitDisjunctions
  rcases hS with hS | hS
  · obtain ⟨o, n, hh, hc, hd⟩ := hS
    exact call_list_seq l (.inl rfl) (r.has hh) hc hd go hz'
  · obtain ⟨o, n, e, hc, hd⟩ := hS
    exact call_list_seq l (.inr rfl) (tups_get.mp (r.V _ _ e)).1 hc hd go hz'
/-- a bound method called with the items of a tuple; it does not come back -/
theorem raw_CallStar {x y : Str} {fp yp sp p : Pos} {b f x0 q : Addr} {args : List Value} {oc : Value} {odd : Option Addr} {fd : FuncData} {osl : Array (Option Value)} (a : Act sc c) (hf : (hd.heap_1 c.w.params).lookup f = some ⟨oc, odd, .func fd, osl⟩) (hz : args.length ≤ 1000)
    (h : vE c sc 40 (.Name x fp) (fun fv σ₁ => fv = .ref b ∧ vE c sc 40 (.Name y yp) (fun v σ₂ => v = .ref q ∧ TupAt σ₂.t q args ∧ Has c σ₂ b (methodObj (.ref f) (.ref x0)) ∧ rawC c (.ref f) (.ref x0 :: args) (fun _ _ => False) σ₂) σ₁) σ) :
    raw c (eval (.Call (.Name x fp) [.Starred (.Name y yp) sp] [] p) c.env) P σ := fun s r => by
  refine Call_ (seq_ ((vET_sound a 40).1 _ _ _ _ h r) fun fv σ₁ s₁ r₁ q₁ => ?_)
  obtain ⟨rfl, q₁⟩ := q₁
  refine ks_call (P := fun h => (hd.heap_1 c.w.params).In h ∧ h.get? b = some (methodObj (.ref f) (.ref x0))) rfl (fun h hm => ⟨.boundFrame, .inr (.inr rfl), meth_keeper hm.1 hf hm.2⟩) (ks_lone (seq_ ((vET_sound a 40).1 _ _ _ _ q₁ r₁) fun v σ₂ s₂ r₂ q₂ => ?_))
  obtain ⟨rfl, hq, hb, q₂⟩ := q₂
  obtain ⟨o, n, e, hc, hd⟩ := hq
  have D := (tups_get.mp (r₂.V _ _ e)).1
  have hT' : s₂.TypeIs (.ref q) "tuple" := ⟨o, D, hc⟩
  unfold StarOf notIterableAtAll
  refine wpAny_bind (wpAny_specialOf hT' PySem.F.slot_tuple_iter.lookup (wpAny_pure ⟨rfl, wpAny_collect_seq q (.inr rfl) D hc hd (fun h' hk => ?_) (by rw [List.size_toArray, sizeLine_eq]; omega +splitDisjunctions)⟩))
  have r' : R c σ₂ { s₂ with heap := h' } := r₂.grow (tk := s₂.toks) (.of (fun b o e _ => hk b o e) fun x hx => (nomatch hx))
  refine ⟨⟨a.X.keeps r'.F.keep, r'.has hb⟩, wpAny_call (method_call (r'.has hb) (codeAny_mono (q₂ _ r') fun z s' hz => ?_))⟩
  rcases z with e | (v | _ | _ | _) <;> first | exact hz | exact hz.elim | skip
  obtain ⟨_, _, hF⟩ := hz
  exact hF.elim
theorem refused_ok {b f p : Addr} {args : List Value} {k : Int} {t0 : Tok} {oc : Value} {odd : Option Addr} {fd : FuncData} {osl : Array (Option Value)} (a : Act sc c) (u : Up c 700) (hb : Has c σ b (methodObj (.ref f) (.ref x))) (hp : TupAt σ.t p args) (hz : args.length ≤ 1000)
    (hf : (hd.heap_1 c.w.params).lookup f = some ⟨oc, odd, .func fd, osl⟩)
    (H : ∀ (c₂ : Fx) (sc₂ : List (Str × NameKind)) (σ₂ : St) (s : Shared), R c σ s → Act sc₂ c₂ → Up c₂ 701 → c₂.w = c.w → (∀ x o, Has c σ x o → Has c₂ σ₂ x o) → Le (tups s.heap) σ₂.t → Flies c₂ σ₂ k → rawC c₂ (.ref f) (.ref x :: args) (fun _ _ => False) σ₂)
    (h : ∀ t', Le σ.t t' → P (.bool true) (σ.setT t')) : raw c (call (.ref 225) [.ref b, .ref p, .int k t0]) P σ := by
  refine enter [] a u (by simp) .nil (by simp) (by k_is) (by k_is) (Nat.le_of_ble_eq_true rfl) (fun _ => BindsTo.of_eq rfl) (by rfl) (by exact .nil) (by rfl) (by rfl) (by rfl) ?_
  intro s c' tv r I QF hQ
  have gp := hp.up r I
  have fin : ∀ b m n k t, b = true → QF (.ret (.bool b)) ⟨m, n, k, t⟩ := fun b m n k t hb => hQ _ _ fun s' Z S N O V => by
    subst hb
    obtain ⟨r', l'⟩ := r.back0 Z S
    exact pst r' (h _ l')
  refine raw_Try I.a I.u I.L ⟨_, I.S⟩ I.a.int (by rfl) (by rfl) (by rfl) (by rfl) (fun k' σ' => k' = k ∧ σ' = ⟨[(Str.ofString "step", .int k t0), (Str.ofString "some", .ref p), (Str.ofString "call", .ref b)], [], [], tv⟩) ?_ ?_
  · refine raw_CallStar (f := f) (x0 := x) (I.a.as _ _) (by rw [show (c'.at c'.A _).w = c.w from I.w]; exact hf) hz ⟨rfl, rfl, gp, (show Has c' _ b _ from hb.enter r I List.not_mem_nil), ?_⟩
    exact H _ _ _ s r (I.a.as _ _) I.u.as I.w (fun x o hx => show Has c' _ x o from hx.enter r I List.not_mem_nil) I.v fun s1 e s2 r1 hz hE => ⟨e, k, _, _, s1, rfl, r1.un, hz, hE, rfl, rfl⟩
  · rintro k' σ₁ e d oe od A E ⟨rfl, rfl⟩ hx hA hu
    refine raw_fstep (I.a.as A E) (.inr (.head _)) (.inr (.tail _ (.head _))) hx fun u => ?_
    exact fin _ _ _ _ _ (beq_self_eq_true k')
end
end Mine
end
section
open PySem PySem.W PyProof.Rows PySem.Spec PySem.Calls Builtin
set_option Elab.async false
set_option maxRecDepth 100000
set_option linter.unusedVariables false
namespace Mine
/-- displays of constants and of known ints -/
noncomputable def litL (g : Expr → Option D) : List Expr → Option (List D)
  | [] => some []
  | e :: r => match g e with
    | some d => (match litL g r with
      | some ds => some (d :: ds)
      | none => none)
    | none => none
noncomputable def litE (f : Str → Option Int) : Nat → Expr → Option D
  | 0, _ => none
  | n + 1, e => match e with
    | .Constant cn _ _ => (match cn with
      | .int i => some (.i i)
      | .str x => some (.s x)
      | _ => none)
    | .UnaryOp op x _ => (match op with
      | .USub => (match litE f n x with
        | some (.i k) => some (.i (-k))
        | _ => none)
      | _ => none)
    | .Name x _ => (match f x with
      | some i => some (.i i)
      | none => none)
    | .Tuple es _ _ => (match noStar es && Nat.ble es.length 100 with
      | true => (match litL (litE f n) es with
        | some ds => some (.t ds)
        | none => none)
      | false => none)
    | _ => none
theorem vThen_next {K : St → Prop} {Q : Flow → St → Prop} {σ : St} (h : K σ) : vThen K Q .next σ := h
section
variable {c : Fx} {sc : List (Str × NameKind)} {m : List (Str × Value)} {k : List (Str × Addr × Option Value)} {f : Str → Option Int}
noncomputable def LitOk (sc : List (Str × NameKind)) (m : List (Str × Value)) (k : List (Str × Addr × Option Value)) (f : Str → Option Int) : Prop := ∀ x i, f x = some i → sq x (Str.ofString "__debug__") = false ∧ ∃ t, ∀ n h, nm sc ⟨m, n, k, h⟩ x = some (.int i t)
theorem vEs_lit {n : Nat} (ih : ∀ e d, litE f n e = some d → ∀ (ns : List (Addr × Obj)) (t : Heap) (Q : Value → St → Prop), (∀ v t', Le t t' → DV t' d v → Q v ⟨m, ns, k, t'⟩) → vE c sc n e Q ⟨m, ns, k, t⟩) :
    ∀ es ds, litL (litE f n) es = some ds → ∀ (ns : List (Addr × Obj)) (t : Heap) (Q : List Value → St → Prop), (∀ vs t', Le t t' → DVs t' ds vs → Q vs ⟨m, ns, k, t'⟩) → vEs (vE c sc n) es Q ⟨m, ns, k, t⟩
  | [], ds, h, ns, t, Q, hQ => by cases h; exact hQ [] t (Le.refl _) dvs_nil
  | e :: r, ds, h, ns, t, Q, hQ => by
    unfold litL at h
    split at h
    · rename_i d hd
      split at h
      · rename_i ds' hds
        cases h
        exact ih e d hd ns t _ fun v t' hle hv => vEs_lit ih r ds' hds ns t' _ fun vs t2 hle2 hvs => hQ (v :: vs) t2 (hle.trans hle2) (dvs_cons (hv.le hle2) hvs)
      · cases h
    · cases h
theorem lit_len {g : Expr → Option D} : ∀ {es : List Expr} {ds : List D}, litL g es = some ds → ds.length = es.length
  | [], ds, h => by cases h; rfl
  | e :: r, ds, h => by
    unfold litL at h
    split at h
    · split at h
      · rename_i hds; cases h; rw [List.length_cons, List.length_cons, lit_len hds]
      · cases h
    · cases h
theorem vE_lit (hf : LitOk sc m k f) : ∀ (n : Nat) (e : Expr) (d : D), litE f n e = some d → ∀ (ns : List (Addr × Obj)) (t : Heap) (Q : Value → St → Prop), (∀ v t', Le t t' → DV t' d v → Q v ⟨m, ns, k, t'⟩) → vE c sc n e Q ⟨m, ns, k, t⟩
  | 0, e, d, h => by cases h
  | n + 1, e, d, h => fun ns t Q hQ => by
    have ih := vE_lit hf n
    unfold litE at h
    split at h
    · rename_i cn a b
      split at h
      · cases h; exact fun u => hQ _ t (Le.refl _) dvI
      · cases h; exact fun u => hQ _ t (Le.refl _) dvS
      · cases h
    · rename_i op x p
      split at h
      · split at h
        · rename_i k' hk
          cases h
          refine ih x _ hk ns t _ fun v t' hle hv => ?_
          unfold DV at hv
          obtain ⟨u, rfl⟩ := hv
          exact fun u' => hQ _ t' hle dvI
        · cases h
      · cases h
    · rename_i x p
      split at h
      · rename_i i hi
        cases h
        obtain ⟨h1, u, h2⟩ := hf x i hi
        show vName c sc x p Q _
        unfold vName
        rw [h1, h2]
        exact hQ _ t (Le.refl _) dvI
      · cases h
    · rename_i es kk p
      split at h
      · rename_i hs
        obtain ⟨hs1, hs2⟩ := Bool.and_eq_true_iff.mp hs
        split at h
        · rename_i ds hds
          cases h
          show vTupE c (vE c sc n) es kk p Q _
          unfold vTupE
          rw [hs1]
          refine vEs_lit ih es ds hds ns t _ fun vs t' hle hvs => ⟨?_, fun a t2 hle2 hget => hQ _ t2 (hle.trans hle2) (dv_tup (.of hget) (hvs.le hle2))⟩
          rw [hvs.length, lit_len hds, sizeLine_eq]
          have := Nat.le_of_ble_eq_true hs2
          omega +splitDisjunctions
        · cases h
      · cases h
    · cases h
variable {x y : Str} {p p' py pb pos : Pos} {es : List Expr} {ds : List D} {r : List Stmt} {n : Nat} {Q : Flow → St → Prop} {ns : List (Addr × Obj)} {t : Heap}
theorem vSs_litL (hf : LitOk sc m k f) (hx : lk sc x = some .local) (hs : (noStar es && Nat.ble es.length 100) = true) (h : litL (litE f 39) es = some ds)
    (hQ : ∀ a vs t', Le t t' → DVs t' ds vs → vSs c sc (n + 1) r Q ⟨(x, .ref a) :: m, (a, lstObj vs) :: ns, k, t'⟩) : vSs c sc (n + 2) (.Assign [.Name x p'] (.List es p) pos :: r) Q ⟨m, ns, k, t⟩ := by
  obtain ⟨hs1, hs2⟩ := Bool.and_eq_true_iff.mp hs
  have hl := Nat.le_of_ble_eq_true hs2
  show vLstE c (vE c sc 39) es p (fun v σ₁ => vSto c sc x v (fun _ => vThen (vSs c sc (n + 1) r Q) Q .next) σ₁) _
  unfold vLstE
  rw [hs1]
  refine vEs_lit (vE_lit hf 39) es ds h ns t _ fun vs t' hle hvs => ⟨?_, fun a ha => ?_⟩
  · rw [hvs.length, lit_len h, sizeLine_eq]; omega +splitDisjunctions
  · unfold vSto
    rw [hx]
    exact hQ a vs t' hle hvs
theorem vSs_litA {l : Addr} (hf : LitOk sc m k f) (hx : lk sc x = some .local) (hs : (noStar es && Nat.ble es.length 100) = true) (h : litL (litE f 38) es = some ds) (hd : sq y (Str.ofString "__debug__") = false) (hy : nm sc ⟨m, ns, k, t⟩ y = some (.ref l))
    (hQ : ∀ a vs t', Le t t' → DVs t' ds vs → raw c (binaryOp .Add (.ref l) (.ref a)) (fun v σ' => vSs c sc (n + 1) r Q (σ'.setM x v)) ⟨m, (a, lstObj vs) :: ns, k, t'⟩) : vSs c sc (n + 2) (.Assign [.Name x p'] (.BinOp (.Name y py) .Add (.List es p) pb) pos :: r) Q ⟨m, ns, k, t⟩ := by
  obtain ⟨hs1, hs2⟩ := Bool.and_eq_true_iff.mp hs
  have hl := Nat.le_of_ble_eq_true hs2
  show vName c sc y py (fun a σ₁ => vLstE c (vE c sc 38) es p (fun b σ₂ => vBin c .Add a b (fun v σ₁ => vSto c sc x v (fun _ => vThen (vSs c sc (n + 1) r Q) Q .next) σ₁) σ₂) σ₁) _
  unfold vName
  rw [hd, hy]
  show vLstE c (vE c sc 38) es p _ _
  unfold vLstE
  rw [hs1]
  refine vEs_lit (vE_lit hf 38) es ds h ns t _ fun vs t' hle hvs => ⟨?_, fun a ha => ?_⟩
  · rw [hvs.length, lit_len h, sizeLine_eq]; omega +splitDisjunctions
  · have := hQ a vs t' hle hvs
    unfold vSto
    rw [hx]
    exact this
end
end Mine
end
section
open PySem PySem.W PyProof.Rows PySem.Spec PySem.Calls Builtin
set_option Elab.async false
set_option maxRecDepth 100000
set_option maxHeartbeats 4000000
set_option linter.unusedVariables false
namespace Mine
noncomputable def badRows (n : Int) : List Row := [⟨Str.ofString "none", [1], [], .i 0⟩, ⟨Str.ofString "input", [2, 1], [], .i 0⟩, ⟨Str.ofString "input", [1, 1], [], .i 0⟩, ⟨Str.ofString "input", [-1, 1], [], .i 0⟩, ⟨Str.ofString "input", [0], [], .i 0⟩, ⟨Str.ofString "resolve", [1], [n], .t []⟩, ⟨Str.ofString "resolve", [1], [-1], .t []⟩]
theorem bad_no {n : Int} {r : Row} (h : r ∈ badRows n) : ¬ (D.s r.rn ∈ ruleDs ∧ Tidy r.cl ∧ ∀ p ∈ r.pr, 0 ≤ p ∧ p < n) := by
  rintro ⟨h1, h2, h3⟩
  simp only [badRows, List.mem_cons, List.not_mem_nil, or_false] at h
  rcases h with rfl | rfl | rfl | rfl | rfl | rfl | rfl
  · obtain ⟨x, hx, e⟩ := List.mem_map.mp h1
    injection e with e
    exact absurd e ((show ∀ x ∈ ruleNames, Str.ofString x ≠ Str.ofString "none" by decide) x hx)
  · exact absurd h2 (by unfold Tidy; decide)
  · exact absurd h2 (by unfold Tidy; decide)
  · exact absurd h2 (by unfold Tidy; decide)
  · exact absurd h2 (by unfold Tidy; decide)
  · exact Int.lt_irrefl _ (h3 n (.head _)).2
  · exact absurd (h3 (-1) (.head _)).1 (by decide)
theorem bad_sz {n : Int} (hn : n.natAbs < 10 ^ 100) {r : Row} (h : r ∈ badRows n) : r.rn.length ≤ 100 ∧ r.cl.length ≤ 100 ∧ r.pr.length ≤ 100 ∧ ∀ p ∈ r.pr, p.natAbs < 10 ^ 100 := by
  simp only [badRows, List.mem_cons, List.not_mem_nil, or_false] at h
  rcases h with rfl | rfl | rfl | rfl | rfl | rfl | rfl <;> refine ⟨Nat.le_of_ble_eq_true rfl, Nat.le_of_ble_eq_true rfl, Nat.le_of_ble_eq_true rfl, fun p hp => ?_⟩ <;> first | exact absurd hp List.not_mem_nil | (rw [List.mem_singleton.mp hp]; first | exact hn | decide)
theorem deps_le {n : Nat} : ∀ {ds : List D}, (∀ d ∈ ds, dep d ≤ n) → deps ds ≤ n
  | [], _ => Nat.zero_le _
  | d :: ds, h => by
    unfold deps
    exact Nat.max_le.mpr ⟨h d (.head _), deps_le fun x hx => h x (.tail _ hx)⟩
theorem deps_rows {rows : List Row} (h : ∀ r ∈ rows, dep r.nt ≤ 1) : deps (rows.map rowD) ≤ 9 := deps_le fun d hd => by
  obtain ⟨r, hr, rfl⟩ := List.mem_map.mp hd
  have := h r hr
  show deps [D.s r.rn, .t (r.cl.map .i), .t (r.pr.map .i), r.nt] + 1 ≤ 9
  have : deps [D.s r.rn, .t (r.cl.map .i), .t (r.pr.map .i), r.nt] ≤ 1 := deps_le fun d hd => by
    simp only [List.mem_cons, List.not_mem_nil, or_false] at hd
    rcases hd with rfl | rfl | rfl | rfl
    · exact Nat.zero_le _
    · show deps (r.cl.map .i) + 1 ≤ 1; rw [deps_i]; decide
    · show deps (r.pr.map .i) + 1 ≤ 1; rw [deps_i]; decide
    · exact this
  omega
theorem dv_row4 {t : Heap} {r : Row} {v : Value} (h : DV t (rowD r) v) : ∃ a rt lc lp nt cvs pvs, v = .ref a ∧ TupAt t a [.str r.rn rt, .ref lc, .ref lp, nt] ∧ TupAt t lc cvs ∧ IntsAre cvs r.cl ∧ TupAt t lp pvs ∧ IntsAre pvs r.pr := by
  obtain ⟨a, vs, rfl, hT, h⟩ := dv_tinv h
  obtain ⟨v0, q0, rfl, h0, h⟩ := dvs_inv h
  obtain ⟨v1, q1, rfl, h1, h⟩ := dvs_inv h
  obtain ⟨v2, q2, rfl, h2, h⟩ := dvs_inv h
  obtain ⟨v3, q3, rfl, h3, h⟩ := dvs_inv h
  cases dvs_inv0 h
  unfold DV at h0
  obtain ⟨rt, rfl⟩ := h0
  obtain ⟨lc, cvs, rfl, c1, c2⟩ := ct_iff.mpr h1
  obtain ⟨lp, pvs, rfl, p1, p2⟩ := ct_iff.mpr h2
  exact ⟨a, rt, lc, lp, v3, cvs, pvs, rfl, hT, c1, c2, p1, p2⟩
section
variable {c : Fx} {sc : List (Str × NameKind)} {s : Shared} {σ : St} {P : Value → St → Prop} {x dx ls ln : Addr} {od : Obj} {em : Int} {vs : List Value}
theorem off_cells {kk : List (Str × Addr × Option Value)} {l : Addr} {o : Obj} (r : R c σ s) (hk : kk.Sublist σ.k) (h : Has c σ l o) (hd : ∀ v, o.data ≠ .cell v) : l ∉ kk.map (·.2.1) := fun q => by
  obtain ⟨y, hy, e⟩ := List.mem_map.mp q
  obtain ⟨o', ho', hd'⟩ := (r.K y (hk.subset hy)).2.1
  rw [e, r.has h] at ho'; cases ho'
  exact hd _ hd'
theorem LstO.noCell {o : Obj} (h : LstO o vs) : ∀ v, o.data ≠ .cell v := fun v e => by
  obtain ⟨_, ⟨_, h⟩, _⟩ := h
  rw [h] at e; cases e
theorem Inst.gr {c' : Fx} {t : Heap} {σ' : St} {kk : List (Str × Addr × Option Value)} (J : Inst c σ x dx od ls ln em) (r : R c σ s) (hk : kk.Sublist σ.k) (G : Gr c s (kk.map (·.2.1)) c' t) : Inst c' σ' x dx od ls ln em :=
  ⟨J.i.gr r G (off_cells r hk J.i fun v e => (nomatch e)), J.d.gr r G (off_cells r hk J.d fun v e => by obtain ⟨_, _, _, _, _, rfl⟩ := J.o; cases e), G.w ▸ J.o⟩
theorem are_refused_ok {rows : List Row} {nns : List Int} {nvs pv : List Value} {lp : Addr} {ols oln : Obj} {tm : Tok} (a : Act sc c) (u : Up c 690) (J : Inst c σ x dx od ls ln em) (hls : Has c σ ls ols) (hL : LstO ols vs) (hR : DVs σ.t (rows.map rowD) vs) (hz : rows.length ≤ 400) (hnt : ∀ r ∈ rows, dep r.nt ≤ 1)
    (hln : Has c σ ln oln) (hN : LstO oln nvs) (hNI : IntsAre nvs nns) (hP : TupAt σ.t lp pv) (hpl : nvs.length = pv.length + 1) (hp4 : pv.length ≤ 4) (h : ∀ t', Le σ.t t' → P (.bool true) (σ.setT t')) :
    raw c (call (.ref 240) [.ref x, .ref lp, .int rows.length tm]) P σ := by
  refine enter [] a u (by simp) .nil (by simp) (by k_is) (by k_is) (Nat.le_of_ble_eq_true rfl) (fun _ => BindsTo.of_eq rfl) (by rfl) (by decide) (by rfl) (by rfl) (by rfl) ?_
  intro s c' tv r I QF hQ
  have gP := hP.up r I
  have gR : DVs tv (rows.map rowD) vs := (hR.le r.V).le I.v
  have hvl : vs.length = rows.length := by rw [hR.length, List.length_map]
  have Jx : ∀ σ', Inst c' σ' x dx od ls ln em := fun σ' => J.enter r I List.not_mem_nil List.not_mem_nil
  have Lx : ∀ σ', Has c' σ' ls ols := fun σ' => hls.enter r I List.not_mem_nil
  have Nx : ∀ σ', Has c' σ' ln oln := fun σ' => hln.enter r I List.not_mem_nil
  have fin : ∀ b m n k t, b = true → QF (.ret (.bool b)) ⟨m, n, k, t⟩ := fun b m n k t hb => hQ _ _ fun s' Z S N O V => by
    subst hb
    obtain ⟨r', l'⟩ := r.back0 Z S
    exact pst r' (h _ l')
  obtain ⟨ck, hck⟩ : ∃ k : List (Str × Addr × Option Value), k = [(Str.ofString "many", c'.L + 2, some (.int rows.length tm)), (Str.ofString "proof_now", c'.L + 1, some (.ref x))] := ⟨_, rfl⟩
  refine raw_AssignSwap I.a I.u.hh (by rfl) (by rfl) (by rfl) (by rfl) ?_
  refine ⟨.ty _, ?_⟩
  refine raw_steps I.a (Jx _) (raw_listS (.inl (hL.hasL (Lx _))) (by omega) fun b1 o1 hn1 hb1 => ?_)
  refine ⟨.ty _, ?_⟩
  refine raw_named I.a (Jx _) (raw_listS (.inl (hN.hasL (Nx _))) (by omega) fun b2 o2 hn2 hb2 => ?_)
  refine ⟨Nat.le_of_ble_eq_true rfl, fun tp t1 hle1 hget => ⟨tp, _, _, rfl, .of hget, ?_⟩⟩
  refine vThen_next ?_
  refine vSs_litL (f := fun _ => none) (ds := ((badRows rows.length).take 4).map rowD) (fun x i e => nomatch e) ?_ ?_ ?_ fun l1 v1 t2 hle2 hv1 => ?_
  · rfl
  · rfl
  · rfl
  refine vSs_litA (l := l1) (ds := ((badRows rows.length).drop 4).map rowD) (f := fun x => match sq x (Str.ofString "many") with | true => some (rows.length : Int) | false => none) (fun x i e => ?_) ?_ ?_ ?_ ?_ ?_ fun l2 v2 t3 hle3 hv2 => ?_
  rotate_left
  · rfl
  · rfl
  · rfl
  · rfl
  · rfl
  rotate_left
  · dsimp only at e
    cases q : sq x (Str.ofString "many") with
    | false => rw [q] at e; cases e
    | true =>
      rw [q] at e; cases e
      cases sq_iff.mp q
      exact ⟨rfl, tm, fun n h => rfl⟩
  have hb : DVs t3 ((badRows rows.length).map rowD) (v1 ++ v2) := (hv1.le hle3).app hv2
  have hbl : (v1 ++ v2).length = 7 := by rw [hb.length]; rfl
  refine raw_addL (lst_has (.inr (.tail _ (.head _)))) (lst_has (.inr (.head _))) (by rw [← List.length_append, hbl]; decide) fun d hNd => ?_
  obtain ⟨X, hIt, hX⟩ := src_sq (c := c') (σ := ⟨[], [(d, lstObj (v1 ++ v2))], [(Str.ofString "many", c'.L + 2, some (.int rows.length tm)), (Str.ofString "proof_now", c'.L + 1, some (.ref x))], t3⟩) (kk := [(Str.ofString "many", c'.L + 2, some (.int rows.length tm)), (Str.ofString "proof_now", c'.L + 1, some (.ref x))]) I.u.hh (.inl (lst_has (.inr (.head _)))) (.refl _)
  refine raw_comp [(Str.ofString "many", c'.L + 2, some (.int rows.length tm)), (Str.ofString "proof_now", c'.L + 1, some (.ref x))] I.a I.u (fun x => rfl) (fun s r => closure_cells r (by rfl)) (List.forall_mem_cons.mpr ⟨rfl, List.forall_mem_singleton.mpr rfl⟩) (by rfl) (by decide) (by decide) ?_
  refine ⟨.refl _, (v1 ++ v2).length, _, X, by rw [hbl, sizeLine_eq]; decide, hIt, fun s r => hX s (r.less ⟨fun _ _ q => (nomatch q), .cons_cons _ (List.nil_sublist _), rfl, Le.refl _⟩), fun i t acc => acc = [], fun _ _ _ _ _ h => h, fun _ _ => rfl, ?_, ?_⟩
  · intro s1 c2 t5 i y acc I2 oI2 D2 oD2 rr G a2 u2 hi hy hJ
    cases hJ
    have hi' : i < (badRows rows.length).length := by rw [hbl] at hi; exact hi
    obtain ⟨v, hv, hdv⟩ := dsAt (i := i) hb (d := rowD (badRows rows.length)[i]) (by rw [List.getElem?_map, List.getElem?_eq_getElem hi']; rfl)
    rw [hy] at hv; cases hv
    have hmem := List.getElem_mem hi'
    obtain ⟨ra, rt, lc, lp', nt, cvs, pvs, rfl, hT, hc1, hc2, hp1, hp2⟩ := dv_row4 hdv
    obtain ⟨z1, z2, z3, z4⟩ := bad_sz (n := rows.length) (by have : (rows.length : Int).natAbs = rows.length := Int.natAbs_natCast _; omega) hmem
    have J2 : ∀ σ', Inst c2 σ' x dx od ls ln em := fun σ' => (Jx _).gr rr (.refl _) G
    have L2 : ∀ σ', Has c2 σ' ls ols := fun σ' => (Lx _).gr rr G (off_cells rr (.refl _) (Lx _) hL.noCell)
    refine raw_sto a2 ⟨.own (by k_is), ?_⟩
    refine raw_bound a2 (J2 _) (by k_is) (by k_is) (by k_is) (by k_is) (by decide +kernel) (J.o.no fun _ _ _ _ _ _ _ => rfl) fun q hq => ?_
    refine refused_ok a2 (u2 _ (I.u.le (by decide))) (.inr (.head _)) (((hT.gr rr G))) (Nat.le_of_ble_eq_true rfl) (by k_is) (fun c₂ sc₂ σ₂ s r₂ a₂ u₂ hw hH hle hF => ?_) fun t6 hle6 => ⟨fun q => (nomatch q), fun _ => ⟨⟨.cons _ (.refl _), rfl⟩, rfl⟩⟩
    have gg : ∀ {l ws}, TupAt t3 l ws → TupAt σ₂.t l ws := fun hT => ((hT.gr rr G).le r₂.V).le hle
    refine add_gen [] 0 0 a₂ (u₂.le (by decide)) ⟨hH _ _ (J2 _).i, hH _ _ (J2 _).d, hw ▸ (J2 σ).o⟩ (hH _ _ (L2 _)) (.inl ⟨by rw [hvl]; exact bad_no hmem, rfl⟩) hL (by omega) (.inr (gg hc1)) hc2 z2 (.inr (gg hp1)) hp2 z3 z1 z4 (fun od' ols' row t' cv pv tk e1 e2 e3 => absurd ⟨e1, e2, by rw [hvl] at e3; exact e3⟩ (bad_no hmem)) fun _ => by rw [hvl]; exact hF
  intro t5 acc D2 oD2 hle5 hacc hlen5 hLo2 hND2
  cases hacc
  refine ⟨Nat.zero_le _, fun e1 he1 => ?_⟩
  refine raw_neL (ds := []) (es := []) I.u (by decide) (hLo2.hasL (.inr (.tail _ (.head _)))) (lst_has (.inr (.head _))) dvs_nil dvs_nil (Nat.zero_le _) fun b hq1 => ⟨fun q => absurd rfl (hq1.mp q), fun _ => ?_⟩
  have le5 : Le tv t5 := ((hle1.trans hle2).trans hle3).trans hle5
  refine raw_comp [(Str.ofString "proof_now", c'.L + 1, some (.ref x))] I.a I.u (fun x => rfl) (fun s r => closure_cells r (by rfl)) (List.forall_mem_singleton.mpr rfl) (by rfl) (by decide) (by decide) ?_
  intro w1
  refine ⟨.bi _, raw_lenS (.inr (gP.le le5)) (by omega) fun w2 => ?_⟩
  refine ⟨.bi _, raw_lenS (.inr (gP.le le5)) (by omega) fun w3 => ?_⟩
  intro w4 w5
  refine ⟨Nat.le_of_ble_eq_true rfl, fun tq t6 hle6 hget6 => ?_⟩
  obtain ⟨X6, hIt6, hX6⟩ := src_sq (c := c') (σ := ⟨[], [], [(Str.ofString "many", c'.L + 2, some (.int rows.length tm)), (Str.ofString "proof_now", c'.L + 1, some (.ref x))], t6⟩) (kk := [(Str.ofString "proof_now", c'.L + 1, some (.ref x))]) I.u.hh (.inr (.of hget6)) (.cons _ (.refl _))
  refine ⟨.cons _ (.refl _), _, _, X6, Nat.le_of_ble_eq_true rfl, hIt6, fun s r => hX6 s (r.less ⟨fun _ _ q => (nomatch q), List.nil_sublist _, rfl, Le.refl _⟩), fun i t acc => acc = [], fun _ _ _ _ _ h => h, fun _ _ => rfl, ?_, ?_⟩
  · intro s1 c2 t7 i y acc I2 oI2 D3 oD3 rr G a2 u2 hi hy hJ
    cases hJ
    have hit : ∃ kv tt, y = .int kv tt ∧ kv ≠ nvs.length ∧ kv.natAbs < 10 ^ 100 := by
      match i, hi, hy with
      | 0, _, hy => cases hy; exact ⟨_, _, rfl, by omega, by decide⟩
      | 1, _, hy => cases hy; exact ⟨_, _, rfl, by omega, by omega⟩
      | 2, _, hy => cases hy; exact ⟨_, _, rfl, by omega, by omega⟩
      | n + 3, h, _ => exact absurd h (by simp)
    obtain ⟨kv, tt, rfl, hkv, hkb⟩ := hit
    have J2 : ∀ σ', Inst c2 σ' x dx od ls ln em := fun σ' => (Jx _).gr rr (.cons _ (.refl _)) G
    have N2 : ∀ σ', Has c2 σ' ln oln := fun σ' => (Nx _).gr rr G (off_cells rr (.cons _ (.refl _)) (Nx _) hN.noCell)
    refine raw_sto a2 ⟨.own (by k_is), ?_⟩
    refine raw_bound a2 (J2 _) (by k_is) (by k_is) (by k_is) (by k_is) (by decide +kernel) (J.o.no fun _ _ _ _ _ _ _ => rfl) fun q hq => ?_
    intro w6
    refine ⟨Nat.le_of_ble_eq_true rfl, fun ta t8 hle8 hget8 => ?_⟩
    intro w7 w8
    refine refused_ok a2 (u2 _ (I.u.le (by decide))) (.inr (.head _)) (.of hget8) (Nat.le_of_ble_eq_true rfl) (by k_is) (fun c₂ sc₂ σ₂ s r₂ a₂ u₂ hw hH hle hF => ?_) fun t6 hle6 => ⟨fun q => (nomatch q), fun _ => ⟨⟨.cons _ (.refl _), rfl⟩, rfl⟩⟩
    exact name_gen [] 0 a₂ (u₂.le (by decide)) ⟨hH _ _ (J2 _).i, hH _ _ (J2 _).d, hw ▸ (J2 σ).o⟩ (hH _ _ (N2 _)) hN (by omega) hkb (.inl ⟨hkv, rfl⟩) (fun t' o' e => absurd e hkv) fun _ => hF
  intro t7 acc D3 oD3 hle7 hacc hlen7 hLo3 hND3
  cases hacc
  refine ⟨Nat.zero_le _, fun e2 he2 => ?_⟩
  refine raw_neL (ds := []) (es := []) I.u (by decide) (hLo3.hasL (.inr (.tail _ (.head _)))) (lst_has (.inr (.head _))) dvs_nil dvs_nil (Nat.zero_le _) fun b hq2 => ⟨fun q => absurd rfl (hq2.mp q), fun _ => ?_⟩
  have le7 : Le tv t7 := (le5.trans hle6).trans hle7
  refine raw_comp [(Str.ofString "proof_now", c'.L + 1, some (.ref x))] I.a I.u (fun x => rfl) (fun s r => closure_cells r (by rfl)) (List.forall_mem_singleton.mpr rfl) (by rfl) (by decide) (by decide) ?_
  intro w10 w11 w12
  refine ⟨.bi _, raw_lenS (.inr (gP.le le7)) (by omega) fun w13 => ?_⟩
  intro w14 w15
  refine ⟨Nat.le_of_ble_eq_true rfl, fun tq t8 hle8 hget8 => ?_⟩
  obtain ⟨X8, hIt8, hX8⟩ := src_sq (c := c') (σ := ⟨[], [], [(Str.ofString "many", c'.L + 2, some (.int rows.length tm)), (Str.ofString "proof_now", c'.L + 1, some (.ref x))], t8⟩) (kk := [(Str.ofString "proof_now", c'.L + 1, some (.ref x))]) I.u.hh (.inr (.of hget8)) (.cons _ (.refl _))
  refine ⟨.cons _ (.refl _), _, _, X8, Nat.le_of_ble_eq_true rfl, hIt8, fun s r => hX8 s (r.less ⟨fun _ _ q => (nomatch q), List.nil_sublist _, rfl, Le.refl _⟩), fun i t acc => acc = [], fun _ _ _ _ _ h => h, fun _ _ => rfl, ?_, ?_⟩
  · intro s1 c2 t9 i y acc I2 oI2 D4 oD4 rr G a2 u2 hi hy hJ
    cases hJ
    have hit : ∃ kv tt, y = .int kv tt ∧ ¬ (0 < kv ∧ kv < nvs.length) ∧ kv.natAbs < 10 ^ 100 := by
      match i, hi, hy with
      | 0, _, hy => cases hy; exact ⟨_, _, rfl, by omega, by decide⟩
      | 1, _, hy => cases hy; exact ⟨_, _, rfl, by omega, by decide⟩
      | 2, _, hy => cases hy; exact ⟨_, _, rfl, by omega, by omega⟩
      | n + 3, h, _ => exact absurd h (by simp)
    obtain ⟨kv, tt, rfl, hkv, hkb⟩ := hit
    have J2 : ∀ σ', Inst c2 σ' x dx od ls ln em := fun σ' => (Jx _).gr rr (.cons _ (.refl _)) G
    have N2 : ∀ σ', Has c2 σ' ln oln := fun σ' => (Nx _).gr rr G (off_cells rr (.cons _ (.refl _)) (Nx _) hN.noCell)
    refine raw_sto a2 ⟨.own (by k_is), ?_⟩
    refine raw_bound a2 (J2 _) (by k_is) (by k_is) (by k_is) (by k_is) (by decide +kernel) (J.o.no fun _ _ _ _ _ _ _ => rfl) fun q hq => ?_
    refine ⟨Nat.le_of_ble_eq_true rfl, fun ta t10 hle10 hget10 => ?_⟩
    intro w16 w17
    refine refused_ok a2 (u2 _ (I.u.le (by decide))) (.inr (.head _)) (.of hget10) (Nat.le_of_ble_eq_true rfl) (by k_is) (fun c₂ sc₂ σ₂ s r₂ a₂ u₂ hw hH hle hF => ?_) fun t6 hle6 => ⟨fun q => (nomatch q), fun _ => ⟨⟨.cons _ (.refl _), rfl⟩, rfl⟩⟩
    exact names_okC a₂ (u₂.le (by decide)) ⟨hH _ _ (J2 _).i, hH _ _ (J2 _).d, hw ▸ (J2 σ).o⟩ (hN.hasL (hH _ _ (N2 _))) (by omega) hkb (fun t' v e1 e2 => absurd ⟨e1, e2⟩ hkv) fun _ => hF
  intro t9 acc D4 oD4 hle9 hacc hlen9 hLo4 hND4
  cases hacc
  refine ⟨Nat.zero_le _, fun e3 he3 => ?_⟩
  refine raw_neL (ds := []) (es := []) I.u (by decide) (hLo4.hasL (.inr (.tail _ (.head _)))) (lst_has (.inr (.head _))) dvs_nil dvs_nil (Nat.zero_le _) fun b hb3 => ⟨fun q => absurd rfl (hb3.mp q), fun _ => ?_⟩
  have le9 : Le tv t9 := (le7.trans hle8).trans hle9
  refine raw_And3 I.a ?_
  refine raw_steps I.a (Jx _) ?_
  refine raw_eqL I.u (by decide) (hL.hasL (Lx _)) (hb1.hasL (.inr ?_)) (gR.le le9) (gR.le le9) (deps_rows hnt) fun b hq4 => ⟨fun _ => ?_, fun q => (nomatch q.symm.trans (hq4.mpr rfl))⟩
  · exact .tail _ (.tail _ (.tail _ (.tail _ (.tail _ (.tail _ (.tail _ (.tail _ (.tail _ (.tail _ (.head _))))))))))
  refine raw_named I.a (Jx _) ?_
  refine raw_eqL I.u (by decide) (hN.hasL (Nx _)) (hb2.hasL (.inr ?_)) (ints_dvs hNI) (ints_dvs hNI) (by rw [deps_i]; decide) fun b hq5 => ⟨fun _ => ?_, fun q => (nomatch q.symm.trans (hq5.mpr rfl))⟩
  · exact .tail _ (.tail _ (.tail _ (.tail _ (.tail _ (.tail _ (.tail _ (.tail _ (.tail _ (.head _)))))))))
  refine ⟨_, _, meth_steps I.a (Jx _) (by k_is) (by k_is) (by k_is) (J.o.no fun _ _ _ _ _ _ _ => rfl), ?_⟩
  refine size_ok I.a (I.u.le (by decide)) (Jx _) (hL.hasL (Lx _)) (by omega) fun t10 t11 hle11 => ?_
  rw [hvl]
  exact fin _ _ _ _ _ (beq_self_eq_true _)
end
end Mine
end
section
open PySem PySem.W PyProof.Rows PySem.Spec PySem.Calls Builtin
set_option Elab.async false
set_option maxRecDepth 100000
set_option maxHeartbeats 4000000
set_option linter.unusedVariables false
namespace Mine
/-- where the first empty clause stands -/
noncomputable def emp (cls : List (List Int)) : Int := match cls.findIdx? (·.isEmpty) with
  | some i => i
  | none => -1
theorem emp_add (cls : List (List Int)) (cl : List Int) : emp (cls ++ [cl]) = if cl = [] ∧ emp cls < 0 then (cls.length : Int) else emp cls := by
  unfold emp
  rw [List.findIdx?_append]
  cases h : cls.findIdx? (·.isEmpty) with
  | some i =>
    show (i : Int) = _
    rw [if_neg]
    rintro ⟨_, h⟩
    dsimp only at h
    omega
  | none =>
    cases cl with
    | nil => simp [List.findIdx?_cons]
    | cons a r => simp [List.findIdx?_cons]
/-- the clauses and the steps, side by side -/
structure Bk (w : World) (t : Heap) (ls ln : Addr) (ol od ols : Obj) (cls : List (List Int)) (cvs : List Value) (rows : List Row) (rvs : List Value) : Prop where
  l : LstO ol cvs
  d : DVs t (cls.map clD) cvs
  C : ∀ c ∈ cls, Cl c
  e : StO w od ls ln (emp cls)
  L : LstO ols rvs
  R : DVs t (rows.map rowD) rvs
  m : rows.map (·.cl) = cls
  n : ∀ r ∈ rows, dep r.nt ≤ 1
theorem Bk.le {w : World} {t t' : Heap} {ls ln : Addr} {ol od ols : Obj} {cls : List (List Int)} {cvs : List Value} {rows : List Row} {rvs : List Value} (h : Bk w t ls ln ol od ols cls cvs rows rvs) (l : Le t t') : Bk w t' ls ln ol od ols cls cvs rows rvs :=
  ⟨h.l, h.d.le l, h.C, h.e, h.L, h.R.le l, h.m, h.n⟩
theorem Bk.len {w : World} {t : Heap} {ls ln : Addr} {ol od ols : Obj} {cls : List (List Int)} {cvs : List Value} {rows : List Row} {rvs : List Value} (h : Bk w t ls ln ol od ols cls cvs rows rvs) : cvs.length = cls.length ∧ rows.length = cls.length ∧ rvs.length = cls.length := by
  have h1 := h.d.length
  have h2 := h.R.length
  have h3 := congrArg List.length h.m
  rw [List.length_map] at h1 h2 h3
  omega
theorem Bk.add {w : World} {t : Heap} {ls ln : Addr} {ol od ols ol' od' ols' : Obj} {cls : List (List Int)} {cvs : List Value} {rows : List Row} {rvs : List Value} (h : Bk w t ls ln ol od ols cls cvs rows rvs) {cl : List Int} {cv rv : Value} {r : Row}
    (h1 : LstO ol' (cvs ++ [cv])) (h2 : CT t cv cl) (h3 : Cl cl) (h4 : StO w od' ls ln (if cl = [] ∧ emp cls < 0 then (rvs.length : Int) else emp cls)) (h5 : LstO ols' (rvs ++ [rv])) (h6 : DV t (rowD r) rv) (h7 : r.cl = cl) (h8 : dep r.nt ≤ 1) :
    Bk w t ls ln ol' od' ols' (cls ++ [cl]) (cvs ++ [cv]) (rows ++ [r]) (rvs ++ [rv]) := by
  refine ⟨h1, ?_, fun c hc => ?_, ?_, h5, ?_, ?_, fun q hq => ?_⟩
  · rw [List.map_append]; exact h.d.app (DVs.one (ct_iff.mp h2))
  · rcases List.mem_append.mp hc with q | q
    · exact h.C c q
    · rw [List.mem_singleton.mp q]; exact h3
  · rw [emp_add, ← h.len.2.2]; exact h4
  · rw [List.map_append]; exact h.R.app (DVs.one h6)
  · rw [List.map_append, h.m, ← h7]; rfl
  · rcases List.mem_append.mp hq with z | z
    · exact h.n q z
    · rw [List.mem_singleton.mp z]; exact h8
noncomputable abbrev Alt := Nat × Addr × Obj × Obj
noncomputable def altN (U : List Alt) (n : List (Addr × Obj)) : List (Addr × Obj) := U.foldl (fun n u => n.set u.1 (u.2.1, u.2.2.2)) n
theorem altN_map : ∀ (U : List Alt) (n : List (Addr × Obj)), (∀ u ∈ U, (n.map (·.1))[u.1]? = some u.2.1) → (altN U n).map (·.1) = n.map (·.1)
  | [], n, _ => rfl
  | u :: U, n, h => by
    have e : (n.set u.1 (u.2.1, u.2.2.2)).map (·.1) = n.map (·.1) := by
      rw [List.map_set]
      refine List.ext_getElem? fun j => ?_
      rw [List.getElem?_set]
      split
      · rename_i q
        subst q
        have := h u (.head _)
        rw [this]
        obtain ⟨hl, _⟩ := List.getElem?_eq_some_iff.mp this
        rw [if_pos hl]
      · rfl
    show (altN U (n.set u.1 (u.2.1, u.2.2.2))).map (·.1) = _
    rw [altN_map U _ fun v hv => by rw [e]; exact h v (.tail _ hv), e]
theorem altN_at : ∀ (U : List Alt) (n : List (Addr × Obj)) (q : Nat) (p : Addr × Obj), (altN U n)[q]? = some p → (∃ u ∈ U, p = (u.2.1, u.2.2.2)) ∨ (n[q]? = some p ∧ ∀ u ∈ U, u.1 ≠ q)
  | [], n, q, p, h => .inr ⟨h, fun _ h => nomatch h⟩
  | u :: U, n, q, p, h => by
    rcases altN_at U (n.set u.1 (u.2.1, u.2.2.2)) q p h with ⟨v, hv, e⟩ | ⟨h1, h2⟩
    · exact .inl ⟨v, .tail _ hv, e⟩
    · rw [List.getElem?_set] at h1
      split at h1
      · split at h1
        · cases h1; exact .inl ⟨u, .head _, rfl⟩
        · cases h1
      · rename_i ne
        exact .inr ⟨h1, fun v hv => by rcases List.mem_cons.mp hv with rfl | hv; exact ne; exact h2 v hv⟩
section
variable {c : Fx} {s s' : Shared} {σ : St}
theorem R.backs (r : R c σ s) (U : List Alt) (hU : ∀ u ∈ U, σ.n[u.1]? = some (u.2.1, u.2.2.1)) (ht : ∀ u ∈ U, isT u.2.2.1 = false) (hz : Lift s s') (g : GF s.heap s'.heap (U.map (·.2.1)) (frs c.S)) (hg : ∀ u ∈ U, s'.heap.get? u.2.1 = some u.2.2.2) :
    R c ⟨σ.m, altN U σ.n, σ.k, tups s'.heap⟩ s' ∧ Le σ.t (tups s'.heap) := by
  refine r.back (U.map (·.2.1)) (altN U σ.n) hz g (fun x hx => ?_) (altN_map U _ fun u hu => by rw [List.getElem?_map, hU u hu]; rfl) fun p hp => ?_
  · obtain ⟨u, hu, rfl⟩ := List.mem_map.mp hx
    exact ⟨_, List.mem_of_getElem? (hU u hu), ht u hu⟩
  · obtain ⟨q, hq⟩ := List.mem_iff_getElem?.mp hp
    rcases altN_at U _ q p hq with ⟨u, hu, rfl⟩ | ⟨h1, h2⟩
    · exact .inr (hg u hu)
    · refine .inl ⟨List.mem_of_getElem? h1, fun w => ?_⟩
      obtain ⟨u, hu, e⟩ := List.mem_map.mp w
      obtain ⟨b, ob⟩ := p
      dsimp only at e
      subst e
      exact h2 u hu (nd_at _ (List.nodup_append.mp r.D).1 _ _ (hU u hu) h1)
theorem R.apart {i j : Nat} {a b : Addr} {oa ob : Obj} (r : R c σ s) (hi : σ.n[i]? = some (a, oa)) (hj : σ.n[j]? = some (b, ob)) (hn : i ≠ j) : a ≠ b := fun e => by
  subst e
  exact hn (nd_at _ (List.nodup_append.mp r.D).1 _ _ hi hj)
end
end Mine
end
section
open PySem PySem.W PyProof.Rows PySem.Spec PySem.Calls Builtin
set_option Elab.async false
set_option maxRecDepth 100000
set_option maxHeartbeats 4000000
set_option linter.unusedVariables false
namespace Mine
section
variable {c : Fx} {sc : List (Str × NameKind)} {s : Shared} {σ : St} {P : Value → St → Prop} {x dx ls ln : Addr} {od : Obj} {em : Int}
theorem raw_eqDu {v w : Value} {d e : D} (u : c.A.units ≤ 9000) (hx : DV σ.t d v) (hy : DV σ.t e w) (hd : dep d ≤ 9) (h : ∀ b, (b = true ↔ d = e) → P (.bool b) σ) : raw c (compareOp .Eq v w) P σ := fun s r => by
  obtain ⟨b, h1, h2, _⟩ := DV.rc (A := c.A) (s := s) r.V hx hy (by show _ < 9900; omega)
  exact h2 _ _ _ _ (pst r (h b h1))
theorem chained_ok {fd lc lp lcl : Addr} {o ol ols : Obj} {k : Int} {vs pv cvs rvs : List Value} {ns ps : List Int} {cls : List (List Int)} {rows : List Row} (i1 i2 i3 i4 : Nat) (a : Act sc c) (u : Up c 670)
    (h1 : σ.n[i1]? = some (fd, o)) (h2 : σ.n[i2]? = some (lcl, ol)) (h3 : σ.n[i3]? = some (dx, od)) (h4 : σ.n[i4]? = some (ls, ols)) (hnd : [i1, i2, i3, i4].Nodup) (hx : Has c σ x (instObj 169 dx))
    (hF : FeedO c.w o lc k) (hL : HasL c σ lc vs) (hI : IntsAre vs ns) (hn : ns.length ≤ 48) (h0 : 0 ≤ k) (hk : k ≤ 700) (hP : Pool σ.t lp pv ps) (hB : Bk c.w σ.t ls ln ol od ols cls cvs rows rvs) (hc0 : 0 < cls.length) (hc20 : cls.length ≤ 19) (hlc : lc ≠ lcl ∧ lc ≠ ls)
    (h : ∀ o' ol' od' ols' k' cls' cvs' rows' rvs' t', FeedO c.w o' lc k' → k ≤ k' → k' ≤ k + 14 → Bk c.w t' ls ln ol' od' ols' cls' cvs' rows' rvs' → cls.length ≤ cls'.length → cls'.length ≤ cls.length + 1 → Le σ.t t' → P (.bool true) ⟨σ.m, altN [(i1, fd, o, o'), (i2, lcl, ol, ol'), (i3, dx, od, od'), (i4, ls, ols, ols')] σ.n, σ.k, t'⟩) :
    raw c (call (.ref 235) [.ref fd, .ref x, .ref lcl, .ref lp]) P σ := by
  have hd := hF
  obtain ⟨t00, hd⟩ := hd
  have m1 := List.mem_of_getElem? h1
  have m2 := List.mem_of_getElem? h2
  have m3 := List.mem_of_getElem? h3
  have m4 := List.mem_of_getElem? h4
  have J0 : Inst c σ x dx od ls ln (emp cls) := ⟨hx, .inr m3, hB.e⟩
  simp only [List.nodup_cons, List.mem_cons, List.not_mem_nil, or_false, not_or, not_false_eq_true, List.nodup_nil, and_true] at hnd
  obtain ⟨⟨d12, d13, d14⟩, ⟨d23, d24⟩, d34⟩ := hnd
  refine raw_know (φ := (fd ≠ lcl ∧ fd ≠ dx ∧ fd ≠ ls ∧ lcl ≠ dx ∧ lcl ≠ ls ∧ dx ≠ ls) ∧ x ≠ fd ∧ x ≠ lcl ∧ x ≠ dx ∧ x ≠ ls) (fun s r => ⟨⟨r.apart h1 h2 d12, r.apart h1 h3 d13, r.apart h1 h4 d14, r.apart h2 h3 d23, r.apart h2 h4 d24, r.apart h3 h4 d34⟩, fun q => ?_, (J0.off r (.inr m2) hB.l).1, J0.ne r, (J0.off r (.inr m4) hB.L).1⟩) fun hne => ?_
  · have e := r.has hx
    rw [q, (r.N _ m1).1] at e; cases e
    obtain ⟨_, _, _, e, _⟩ := hd
    cases e
  obtain ⟨⟨e12, e13, e14, e23, e24, e34⟩, x1, x2, x3, x4⟩ := hne
  refine enter [(fd, o), (lcl, ol), (dx, od), (ls, ols)] a u (List.forall_mem_cons.mpr ⟨m1, List.forall_mem_cons.mpr ⟨m2, List.forall_mem_cons.mpr ⟨m3, List.forall_mem_singleton.mpr m4⟩⟩⟩)
    (by show [fd, lcl, dx, ls].Nodup; simp [e12, e13, e14, e23, e24, e34]) (List.forall_mem_cons.mpr ⟨dict_notT hd, List.forall_mem_cons.mpr ⟨lst_notT hB.l, List.forall_mem_cons.mpr ⟨hB.e.notT, List.forall_mem_singleton.mpr (lst_notT hB.L)⟩⟩⟩) (by k_is) (by k_is) (Nat.le_of_ble_eq_true rfl) (fun _ => BindsTo.of_eq rfl) (by rfl) (by exact .nil) (by rfl) (by rfl) (by rfl) ?_
  intro s c' tv r I QF hQ
  have hW : adr [(fd, o), (lcl, ol), (dx, od), (ls, ols)] = [fd, lcl, dx, ls] := rfl
  have hxW : x ∉ adr [(fd, o), (lcl, ol), (dx, od), (ls, ols)] := by rw [hW]; simp [x1, x2, x3, x4]
  have hx' : ∀ σ', Has c' σ' x (instObj 169 dx) := fun σ' => hx.enter r I hxW
  have gP : Pool tv lp pv ps := (hP.le r.V).le I.v
  have gB : Bk c'.w tv ls ln ol od ols cls cvs rows rvs := I.w ▸ (hB.le r.V).le I.v
  obtain ⟨len1, len2, len3⟩ := gB.len
  have hL' : ∀ σ', HasL c' σ' lc vs := fun σ' => hL.enter r I fun q => by
    have q1 := hL.ne r (.inr m1) hd
    obtain ⟨oc, nc, hh, hc, hdc⟩ := hL
    have e := r.has hh
    rw [hW] at q
    simp only [List.mem_cons, List.not_mem_nil, or_false] at q
    rcases q with q | q | q | q
    · exact q1 (by rw [q]; exact .head _)
    · exact hlc.1 q
    · rw [q, (r.N _ m3).1] at e; cases e
      obtain ⟨_, _, _, _, _, e⟩ := hB.e
      rw [e] at hc
      exact absurd (show Value.type "dict" = Value.type "list" from hc) (by simp)
    · exact hlc.2 q
  have fin : ∀ o' ol' od' ols' k' cls' cvs' rows' rvs' m n kk t, (fd, o') ∈ n → (lcl, ol') ∈ n → (dx, od') ∈ n → (ls, ols') ∈ n → FeedO c'.w o' lc k' → k ≤ k' → k' ≤ k + 14 → Bk c'.w t ls ln ol' od' ols' cls' cvs' rows' rvs' → cls.length ≤ cls'.length → cls'.length ≤ cls.length + 1 → ∀ b, b = true → QF (.ret (.bool b)) ⟨m, n, kk, t⟩ := fun o' ol' od' ols' k' cls' cvs' rows' rvs' m n kk t n1 n2 n3 n4 f1 f2 f3 f4 f5 f6 b hb => hQ _ _ fun s' Z S N O V => by
    subst hb
    obtain ⟨r', l'⟩ := r.backs [(i1, fd, o, o'), (i2, lcl, ol, ol'), (i3, dx, od, od'), (i4, ls, ols, ols')] (List.forall_mem_cons.mpr ⟨h1, List.forall_mem_cons.mpr ⟨h2, List.forall_mem_cons.mpr ⟨h3, List.forall_mem_singleton.mpr h4⟩⟩⟩)
      (List.forall_mem_cons.mpr ⟨dict_notT hd, List.forall_mem_cons.mpr ⟨lst_notT hB.l, List.forall_mem_cons.mpr ⟨hB.e.notT, List.forall_mem_singleton.mpr (lst_notT hB.L)⟩⟩⟩) Z S (List.forall_mem_cons.mpr ⟨(N _ n1).1, List.forall_mem_cons.mpr ⟨(N _ n2).1, List.forall_mem_cons.mpr ⟨(N _ n3).1, List.forall_mem_singleton.mpr (N _ n4).1⟩⟩⟩)
    exact pst r' (h o' ol' od' ols' k' cls' cvs' rows' rvs' _ (I.w ▸ f1) f2 f3 (I.w ▸ f4.le V) f5 f6 l')
  refine ⟨.own (by k_is), ⟨.bi _, raw_len_list (gB.l.hasL (.inr (.tail _ (.head _)))) (by rw [len1, sizeLine_eq]; omega) fun w1 => ?_⟩⟩
  refine next_ok (ns := ns) 0 I.a (I.u.le (by decide)) rfl (I.w ▸ hF) (hL' _) hI hn h0 (by omega) (by omega) fun f ft o1 t1 hf0 hf1 hF1 le1 => ?_
  have hfl : f < cls.length := by rw [← len1]; exact hf1
  refine raw_AssignTup I.a (by rfl) (by rfl) ?_
  refine ⟨.own (by k_is), ?_⟩
  refine links_ok (ns := ns) (cls := cls) 0 I.a (I.u.le (by decide)) rfl hF1 (hL' _) hI hn (by omega) (by omega) (gP.le le1) (gB.l.hasL (.inr (.tail _ (.head _)))) (Ne.symm e12) (gB.d.le le1) gB.C (by omega) ⟨hf0, hfl⟩ fun ta lk olk lv sv links res o2 k2 t2 hNlk hta hLk hLd hl3 hlok hrun hLV hres hF2 hk1 hk2 le2 => ?_
  refine raw_assignT I.u.hh hta (by rfl) (by rfl) (raw_inOrder (raw_sto I.a (raw_inOrder (raw_sto I.a (raw_inOrder0 ?_)))))
  have le02 : Le tv t2 := le1.trans le2
  have gB2 := gB.le le02
  refine ⟨.ty _, ?_⟩
  refine raw_steps I.a ⟨hx' _, .inr (.tail _ (.tail _ (.tail _ (.head _)))), gB2.e⟩ (raw_listS (.inl (gB2.L.hasL (.inr (.tail _ (.tail _ (.tail _ (.tail _ (.head _)))))))) (by rw [len3]; omega) fun bf obf hNbf hbf => ?_)
  have gJ : ∀ (A : Around) (E : Value → Shared → Prop) (σ' : St), (dx, od) ∈ σ'.n → Inst (c'.at A E) σ' x dx od ls ln (emp cls) := fun A E σ' m => ⟨hx' σ', .inr m, gB.e⟩
  have hrun' : Run (rows.map (·.cl)) ((rows.map (·.cl)).getD f.toNat []) links res := by rw [gB.m]; exact hrun
  have hCr : ∀ r ∈ rows, Cl r.cl := fun r hr => gB.C _ (by rw [← gB.m]; exact List.mem_map_of_mem hr)
  have hlkv : lv.length = links.length := by rw [hLd.length, List.length_map]
  refine raw_Try I.a I.u I.L ⟨_, I.S⟩ I.a.int (by rfl) (by rfl) (by rfl) (by rfl) (fun kk σ' => (res = .pivot ∧ kk = -1 ∨ res = .always ∧ kk = rvs.length) ∧ σ' = ⟨[(Str.ofString "before", .ref bf), (Str.ofString "due", sv), (Str.ofString "links", .ref lk), (Str.ofString "first", .int f ft), (Str.ofString "pool", .ref lp), (Str.ofString "clauses", .ref lcl), (Str.ofString "proof_now", .ref x), (Str.ofString "feed", .ref fd)], [(bf, obf), (lk, olk), (fd, o2), (lcl, ol), (dx, od), (ls, ols)], [], t2⟩) ?_ ?_
  · refine ⟨_, _, meth_steps (I.a.as _ _) (gJ _ _ _ (.tail _ (.tail _ (.tail _ (.tail _ (.head _)))))) (by k_is) (by k_is) (by k_is) (gB.e.no fun _ _ _ _ _ _ _ => rfl), ?_⟩
    refine chain_ok 4 5 (I.a.as _ _) ((I.u.le (by decide)).as) (gJ _ _ _ (.tail _ (.tail _ (.tail _ (.tail _ (.head _)))))) rfl rfl gB2.L gB2.R (by omega) hCr (hLk.hasL (.inr (.tail _ (.head _)))) ?_ hLd hl3 (fun p hp => ?_) ⟨hf0, by omega⟩ hrun' (fun hr s e s2 r1 hz hE => ⟨e, _, _, _, s, rfl, r1.un, hz, hE, .inl ⟨hr, rfl⟩, rfl⟩) (fun hr s e s2 r1 hz hE => ⟨e, _, _, _, s, rfl, r1.un, hz, hE, .inr ⟨hr, rfl⟩, rfl⟩) (fun st tk t3 hres0 hnil hle3 => ?_) fun st od' ols' row t3 tk hres0 hnn hO' hL' hrow hle3 => ?_
    · exact fun q => hNlk (q ▸ List.mem_append_left _ (.tail _ (.tail _ (.tail _ (.head _)))))
    · have := hlok p hp
      exact ⟨this.1, this.2.1, this.2.2.1, by rw [len2]; exact this.2.2.2⟩
    · subst hres0
      have gB3 := gB2.le hle3
      refine ⟨.bi _, raw_isStr (hLV.le hle3) (fun q => by rcases q with q | q <;> cases q) fun st' _ => ⟨(fun q => nomatch q), fun _ => ?_⟩⟩
      refine ⟨Nat.zero_le _, fun ee hee => ?_⟩
      refine raw_eqL (ds := links.map pairD) (es := []) I.u (by decide) (hLk.hasL (.inr (.tail _ (.tail _ (.head _))))) (lst_has (.inr (.head _))) (hLd.le hle3) dvs_nil (by rw [hnil]; exact Nat.zero_le _) fun b hb => ⟨fun _ => ⟨fun _ => ?_, fun q => ?_⟩, fun q => ?_⟩
      · refine raw_steps I.a (gJ c'.A c'.E _ (.tail _ (.tail _ (.tail _ (.tail _ (.tail _ (.head _))))))) ?_
        refine raw_eqL I.u (by decide) (gB3.L.hasL (.inr (.tail _ (.tail _ (.tail _ (.tail _ (.tail _ (.tail _ (.head _))))))))) (hbf.hasL (.inr (.tail _ (.head _)))) gB3.R gB3.R (deps_rows gB.n) fun b2 hb2 => ?_
        exact fin o2 ol od ols k2 cls cvs rows rvs _ _ _ _ (.tail _ (.tail _ (.tail _ (.head _)))) (.tail _ (.tail _ (.tail _ (.tail _ (.head _))))) (.tail _ (.tail _ (.tail _ (.tail _ (.tail _ (.head _)))))) (.tail _ (.tail _ (.tail _ (.tail _ (.tail _ (.tail _ (.head _))))))) hF2 (by omega) (by omega) gB3 (Nat.le_refl _) (Nat.le_succ _) _ (hb2.mpr rfl)
      · exact (nomatch q.symm.trans (beq_self_eq_true f))
      · exact (nomatch q.symm.trans (hb.mpr (by rw [hnil]; rfl)))
    · subst hres0
      have gB3 := gB2.le hle3
      obtain ⟨sa, svs, rfl, hsT, hsI⟩ := hLV
      have hst := hres st rfl
      refine ⟨.bi _, raw_isStr (res := .cl st) ⟨sa, svs, rfl, hsT.le hle3, hsI⟩ (fun q => by rcases q with q | q <;> cases q) fun st' _ => ⟨(fun q => nomatch q), fun _ => ?_⟩⟩
      refine ⟨Nat.zero_le _, fun ee hee => ?_⟩
      refine raw_eqL (ds := links.map pairD) (es := []) I.u (by decide) (hLk.hasL (.inr (.tail _ (.tail _ (.head _))))) (lst_has (.inr (.head _))) (hLd.le hle3) dvs_nil (deps_le fun d hd => by
        obtain ⟨p, _, rfl⟩ := List.mem_map.mp hd
        show deps [D.i p.1, .i p.2] + 1 ≤ 9; exact Nat.le_of_ble_eq_true rfl) fun b hb => ⟨fun q => absurd (List.map_eq_nil_iff.mp (hb.mp q)) hnn, fun _ => ?_⟩
      refine ⟨_, _, meth_list (.inr (.tail _ (.tail _ (.tail _ (.tail _ (.head _)))))) gB.l PySem.F.slot_list_append PySem.F.type_list_append, ?_⟩
      refine raw_append 4 rfl gB.l (by rw [len1, sizeLine_eq]; omega) fun ol' hol' => ?_
      have pairAt : ∀ (i : Nat) (hil : i < links.length) (y : Value), lv[i]? = some y → ∃ pa tx ty, y = .ref pa ∧ TupAt t2 pa [.int links[i].1 tx, .int links[i].2 ty] := fun i hil y hy => by
        obtain ⟨y', hy', hyd⟩ := dsAt (i := i) (d := pairD links[i]) hLd (by rw [List.getElem?_map, List.getElem?_eq_getElem hil]; rfl)
        rw [hy] at hy'; cases hy'
        exact dv_pair hyd
      have nxt : ∀ (g : Int × Int → Int) (acc : List Value) (i : Nat) (hil : i < links.length) (tz : Tok), IntsAre acc ((links.take i).map g) → IntsAre (acc ++ [.int (g links[i]) tz]) ((links.take (i + 1)).map g) := fun g acc i hil tz h => by
        rw [List.take_add_one, List.getElem?_eq_getElem hil, List.map_append]
        exact h.append (.cons _ _ .nil)
      intro w2
      refine ⟨Nat.le_of_ble_eq_true rfl, fun ta t4 hle4 hta => ?_⟩
      refine ⟨.ty _, ?_⟩
      refine raw_comp [] I.a I.u (fun x => rfl) (fun s r => closure_cells r (by rfl)) (fun y hy => (nomatch hy)) (by rfl) (by decide) (by decide) ?_
      obtain ⟨X, hIt, hX⟩ := src_sq (c := c') (σ := ⟨[], [(lk, olk)], [], t4⟩) (kk := []) I.u.hh (.inl (hLk.hasL (.inr (.head _)))) (.refl _)
      have sub1 : ∀ {n : List (Addr × Obj)}, (lk, olk) ∈ n → [(lk, olk)].Sublist n := fun m => List.singleton_sublist.mpr m
      refine ⟨.refl _, lv.length, _, X, by rw [hlkv, sizeLine_eq]; omega, hIt, fun s r => hX s (r.less ⟨fun _ _ q => (nomatch q), sub1 (.tail _ (.tail _ (.head _))), rfl, Le.refl _⟩), fun i t acc => IntsAre acc ((links.take i).map (fun p : Int × Int => p.2)), fun _ _ _ _ _ h => h, fun _ _ => .nil, ?_, ?_⟩
      · intro s c2 t5 i y acc J0 oJ D oD rr G a2 u2 hi hy hJ
        have hil : i < links.length := hlkv ▸ hi
        obtain ⟨pa, tx, ty, rfl, hpT⟩ := pairAt i hil y hy
        refine raw_assignT (u2 _ I.u).hh ((((hpT.le hle3).le hle4).le rr.V).le G.v) (by rfl) (by rfl) ?_
        refine raw_inOrder (raw_sto a2 (raw_inOrder (raw_sto a2 (raw_inOrder0 ?_))))
        exact ⟨fun _ => ⟨⟨.refl _, rfl⟩, nxt (·.2) acc i hil ty hJ⟩, fun q => (nomatch q)⟩
      intro t5 acc D1 oD1 hle5 hacc hlen5 hLo1 hND1
      rw [hlkv, List.take_length] at hacc
      have hal1 := hacc.length
      rw [List.length_map] at hal1
      refine raw_tupleL (vs := acc) (hLo1.hasL (.inr (.head _))) (by rw [hal1, sizeLine_eq]; omega) fun tb t6 hle6 htb => ?_
      refine raw_addT (((TupAt.of hta).le hle5).le hle6) (.of htb) (by rw [hal1]; simp; omega) fun tc t7 htc hle7 => ?_
      refine ⟨.ty _, ?_⟩
      refine raw_comp [] I.a I.u (fun x => rfl) (fun s r => closure_cells r (by rfl)) (fun y hy => (nomatch hy)) (by rfl) (by decide) (by decide) ?_
      obtain ⟨X2, hIt2, hX2⟩ := src_sq (c := c') (σ := ⟨[], [(lk, olk)], [], t7⟩) (kk := []) I.u.hh (.inl (hLk.hasL (.inr (.head _)))) (.refl _)
      have le47 : Le t4 t7 := (hle5.trans hle6).trans hle7
      refine ⟨.refl _, lv.length, _, X2, by rw [hlkv, sizeLine_eq]; omega, hIt2, fun s r => hX2 s (r.less ⟨fun _ _ q => (nomatch q), sub1 (.tail _ (.tail _ (.tail _ (.head _)))), rfl, Le.refl _⟩), fun i t acc => IntsAre acc ((links.take i).map (fun p : Int × Int => p.1)), fun _ _ _ _ _ h => h, fun _ _ => .nil, ?_, ?_⟩
      · intro s c2 t8 i y acc J0 oJ D oD rr G a2 u2 hi hy hJ
        have hil : i < links.length := hlkv ▸ hi
        obtain ⟨pa, tx, ty, rfl, hpT⟩ := pairAt i hil y hy
        refine raw_assignT (u2 _ I.u).hh (((((hpT.le hle3).le hle4).le le47).le rr.V).le G.v) (by rfl) (by rfl) ?_
        refine raw_inOrder (raw_sto a2 (raw_inOrder (raw_sto a2 (raw_inOrder0 ?_))))
        exact ⟨fun _ => ⟨⟨.refl _, rfl⟩, nxt (·.1) acc i hil tx hJ⟩, fun q => (nomatch q)⟩
      intro t8 acc2 D2 oD2 hle8 hacc2 hlen8 hLo2 hND2
      rw [hlkv, List.take_length] at hacc2
      have hal2 := hacc2.length
      rw [List.length_map] at hal2
      refine raw_tupleL (vs := acc2) (hLo2.hasL (.inr (.head _))) (by rw [hal2, sizeLine_eq]; omega) fun td t9 hle9 htd => ?_
      refine ⟨Nat.le_of_ble_eq_true rfl, fun tr t10 hle10 htr => ?_⟩
      have le710 : Le t7 t10 := (hle8.trans hle9).trans hle10
      have le310 : Le t3 t10 := (hle4.trans le47).trans le710
      have hnew : DV t10 (rowD ⟨Str.ofString "resolve", st, f :: links.map (·.2), .t ((links.map (·.1)).map .i)⟩) (.ref tr) := by
        refine dv_tup (.of htr) (dvs_cons dvS (dvs_cons (dv_tup ((hsT.le hle3).le le310) (ints_dvs hsI)) (dvs_cons (dv_tup (htc.le le710) ?_) (dvs_cons (dv_tup ((TupAt.of htd).le hle10) (ints_dvs hacc2)) dvs_nil))))
        exact dvs_cons dvI (ints_dvs hacc)
      have gB4 : Bk c'.w t10 ls ln ol' od' ols' (cls ++ [st]) (cvs ++ [.ref sa]) (rows ++ [_]) (rvs ++ [.ref row]) := (gB3.le le310).add hol' ⟨sa, svs, rfl, (hsT.le hle3).le le310, hsI⟩ hst hO' hL' (hrow.le le310) rfl (by show deps _ + 1 ≤ 1; rw [deps_i]; decide)
      refine ⟨.bi _, raw_len_list (hbf.hasL (.inr ?_)) (by rw [len3, sizeLine_eq]; omega) fun w3 => ⟨fun _ => ?_, fun q => (nomatch q.symm.trans (beq_self_eq_true (rvs.length : Int)))⟩⟩
      · exact .tail _ (.tail _ (.tail _ (.head _)))
      refine raw_steps I.a (em := _) ⟨hx' _, .inr (.tail _ (.tail _ (.tail _ (.tail _ (.tail _ (.tail _ (.tail _ (.head _)))))))), hO'⟩ ?_
      refine ⟨Nat.le_of_ble_eq_true rfl, fun e5 he5 => ?_⟩
      refine raw_addL (hbf.hasL (.inr (.tail _ (.tail _ (.tail _ (.tail _ (.head _))))))) (lst_has (.inr (.head _))) (by rw [len3]; show _ + 1 ≤ _; omega) fun e6 he6 => ?_
      refine raw_eqL (ds := (rows ++ [(⟨Str.ofString "resolve", st, f :: links.map (·.2), .t ((links.map (·.1)).map .i)⟩ : Row)]).map rowD) (es := (rows ++ [(⟨Str.ofString "resolve", st, f :: links.map (·.2), .t ((links.map (·.1)).map .i)⟩ : Row)]).map rowD) I.u (by decide) (hL'.hasL (.inr (.tail _ (.tail _ (.tail _ (.tail _ (.tail _ (.tail _ (.tail _ (.tail _ (.tail _ (.tail _ (.head _))))))))))))) (lst_has (.inr (.head _))) gB4.R (by rw [List.map_append]; exact (gB3.le le310).R.app (DVs.one hnew)) (deps_rows gB4.n) fun b2 hb2 => ?_
      exact fin o2 ol' od' ols' k2 (cls ++ [st]) _ _ _ _ _ _ _ (.tail _ (.tail _ (.tail _ (.tail _ (.tail _ (.tail _ (.tail _ (.head _)))))))) (.tail _ (.tail _ (.tail _ (.tail _ (.tail _ (.tail _ (.tail _ (.tail _ (.head _))))))))) (.tail _ (.tail _ (.tail _ (.tail _ (.tail _ (.tail _ (.tail _ (.tail _ (.tail _ (.head _)))))))))) (.tail _ (.tail _ (.tail _ (.tail _ (.tail _ (.tail _ (.tail _ (.tail _ (.tail _ (.tail _ (.head _))))))))))) hF2 (by omega) (by omega) gB4 (by rw [List.length_append]; exact Nat.le_add_right _ _) (by rw [List.length_append]; exact Nat.le_refl _) _ (hb2.mpr rfl)
  · rintro kk σ₁ e d oe odE A E ⟨hk', rfl⟩ hx hA hu
    have hu' : (c'.at A E).A.units ≤ 9000 := by show A.units ≤ 9000; rw [hu]; have := I.u.hu; omega
    rcases hk' with ⟨rfl, rfl⟩ | ⟨rfl, rfl⟩
    · obtain ⟨ud, rfl⟩ := hLV
      intro w2
      refine raw_eqDu hu' dvS dvS (by decide) fun b hb => ⟨fun _ => ?_, fun q => (nomatch q.symm.trans (hb.mpr rfl))⟩
      intro w3 w4
      refine raw_And3 (I.a.as A E) ?_
      intro w5 w6
      refine ⟨Nat.le_of_ble_eq_true rfl, fun tq t3 hle3 hget3 => ?_⟩
      refine raw_inDu (ds := [.s (Str.ofString "pivot"), .s (Str.ofString "always")]) hu' (.inr (.of hget3)) (dvs_cons dvS (dvs_cons dvS dvs_nil)) dvS (by decide) fun b2 hb2 => ⟨fun _ => ?_, fun q => (nomatch q.symm.trans (hb2.mpr (.head _)))⟩
      refine raw_fstep (I.a.as A E) (.inr (.head _)) (.inr (.tail _ (.head _))) hx fun u => ⟨fun _ => ?_, fun q => (nomatch q.symm.trans (show ((-1 : Int) == -1) = true from rfl))⟩
      refine raw_steps (I.a.as A E) (gJ A E _ (.tail _ (.tail _ (.tail _ (.tail _ (.tail _ (.tail _ (.head _)))))))) ?_
      have gB3 := gB2.le hle3
      refine raw_eqLu hu' (gB3.L.hasL (.inr (.tail _ (.tail _ (.tail _ (.tail _ (.tail _ (.tail _ (.tail _ (.head _)))))))))) (hbf.hasL (.inr (.tail _ (.tail _ (.head _))))) gB3.R gB3.R (deps_rows gB.n) fun b3 hb3 => ?_
      exact fin o2 ol od ols k2 cls cvs rows rvs _ _ _ _ (.tail _ (.tail _ (.tail _ (.tail _ (.head _))))) (.tail _ (.tail _ (.tail _ (.tail _ (.tail _ (.head _)))))) (.tail _ (.tail _ (.tail _ (.tail _ (.tail _ (.tail _ (.head _))))))) (.tail _ (.tail _ (.tail _ (.tail _ (.tail _ (.tail _ (.tail _ (.head _)))))))) hF2 (by omega) (by omega) gB3 (Nat.le_refl _) (Nat.le_succ _) _ (hb3.mpr rfl)
    · obtain ⟨ud, rfl⟩ := hLV
      intro w2
      refine raw_eqDu hu' dvS dvS (by decide) fun b hb => ⟨fun q => ?_, fun _ => ?_⟩
      · injection hb.mp q with e; exact absurd e (by decide)
      refine ⟨.bi _, raw_len_list (hbf.hasL (.inr (.tail _ (.tail _ (.head _))))) (by rw [len3, sizeLine_eq]; omega) fun w3 => ?_⟩
      refine raw_And3 (I.a.as A E) ?_
      intro w5 w6
      refine ⟨Nat.le_of_ble_eq_true rfl, fun tq t3 hle3 hget3 => ?_⟩
      refine raw_inDu (ds := [.s (Str.ofString "pivot"), .s (Str.ofString "always")]) hu' (.inr (.of hget3)) (dvs_cons dvS (dvs_cons dvS dvs_nil)) dvS (by decide) fun b2 hb2 => ⟨fun _ => ?_, fun q => (nomatch q.symm.trans (hb2.mpr (.tail _ (.head _))))⟩
      refine raw_fstep (I.a.as A E) (.inr (.head _)) (.inr (.tail _ (.head _))) hx fun u => ⟨fun _ => ?_, fun q => (nomatch q.symm.trans (beq_self_eq_true (rvs.length : Int)))⟩
      refine raw_steps (I.a.as A E) (gJ A E _ (.tail _ (.tail _ (.tail _ (.tail _ (.tail _ (.tail _ (.head _)))))))) ?_
      have gB3 := gB2.le hle3
      refine raw_eqLu hu' (gB3.L.hasL (.inr (.tail _ (.tail _ (.tail _ (.tail _ (.tail _ (.tail _ (.tail _ (.head _)))))))))) (hbf.hasL (.inr (.tail _ (.tail _ (.head _))))) gB3.R gB3.R (deps_rows gB.n) fun b3 hb3 => ?_
      exact fin o2 ol od ols k2 cls cvs rows rvs _ _ _ _ (.tail _ (.tail _ (.tail _ (.tail _ (.head _))))) (.tail _ (.tail _ (.tail _ (.tail _ (.tail _ (.head _)))))) (.tail _ (.tail _ (.tail _ (.tail _ (.tail _ (.tail _ (.head _))))))) (.tail _ (.tail _ (.tail _ (.tail _ (.tail _ (.tail _ (.tail _ (.head _)))))))) hF2 (by omega) (by omega) gB3 (Nat.le_refl _) (Nat.le_succ _) _ (hb3.mpr rfl)
end
end Mine
end
section
open PySem PySem.W PyProof.Rows PySem.Spec PySem.Calls Builtin
set_option Elab.async false
set_option maxRecDepth 100000
set_option maxHeartbeats 4000000
set_option linter.unusedVariables false
namespace Mine
noncomputable def slLo (k1 k2 : Option Int) (n : Nat) : Int := (Builtin.Slice.sliceAdjust k1 k2 1 n).1
noncomputable def slN (k1 k2 : Option Int) (n : Nat) : Nat := Builtin.Slice.slicePlaces (Builtin.Slice.sliceAdjust k1 k2 1 n).1 (Builtin.Slice.sliceAdjust k1 k2 1 n).2 1
noncomputable def slPick (vs : List Value) (k1 k2 : Option Int) : List Value := (List.range (slN k1 k2 vs.length)).filterMap fun (k : Nat) => vs.toArray[(slLo k1 k2 vs.length + (k : Int) * 1).toNat]?
section
variable {w : World} {A : Around} {E : Value → Shared → Prop} {s : Shared}
theorem slicePart_ {v : Value} {k : Option Int} {Q : Option Int → Shared → Prop} (hv : IsPart v k) (h : Q k s) : wpAny (model PG w) A (Builtin.Slice.slicePartIndex v) Q E s := by
  cases hv with
  | none => exact slicePart_none h
  | int i t => exact slicePart_int h
theorem getItem_tupS {t sl : Addr} {vs : List Value} {vl vu : Value} {k1 k2 : Option Int} {Q : Value → Shared → Prop} (ht : IsTup s.heap t vs.toArray) (hs : s.heap.IsSliceOf sl vl vu .none) (pl : IsPart vl k1) (pu : IsPart vu k2) (hz : (slPick vs k1 k2).length ≤ 1000)
    (h1 : Q (.ref s.heap.objs.size) { s with heap := s.heap.push (tupObj (slPick vs k1 k2)) }) (h0 : slPick vs k1 k2 = vs → Q (.ref t) s) : wpAny (model PG w) A (getItem (.ref t) (.ref sl)) Q E s := by
  obtain ⟨os, hos, hcs, hds⟩ := id hs
  have hTs : s.TypeIs (.ref sl) "slice" := ⟨os, hos, hcs⟩
  unfold getItem
  try with_reducible refine wpAny_holding ?_
  first | refine wpAny_bind (wpAny_pure ?_) | skip
  refine wpAny_bind (wpAny_sequenceKey ht.typeIs (by decide) ?_)
  refine wpAny_bind (wpAny_callSpecial?_slot (name := Str.ofString "__getitem__") ht.typeIs PyProof.Rows.slot_tuple_getitem
    (wpAny_call_entry PyProof.Rows.slot_tuple_getitem ht.typeIs PyProof.Rows.entry_tuple_getitem ?_ (PyProof.Rows.args_tuple_getitem _ _)))
  show wpAny _ _ (Builtin.Tuple.tupleItemsOf (.ref t) >>= _) _ _ s
  refine wpAny_bind (tupleItemsOf_ ht ?_)
  refine wpAny_bind (wpAny_typeOf hTs ?_)
  rw [if_pos (by decide)]
  have ap : ∀ {Q : Int × Int × Nat → Shared → Prop}, Q (slLo k1 k2 vs.length, 1, slN k1 k2 vs.length) s → wpAny (model PG w) A.in1 (Builtin.Slice.sliceApplied (.ref sl) (pure (vs.toArray.size : Int))) Q E s := fun {Q} h => by
    unfold Builtin.Slice.sliceApplied Builtin.Slice.sliceFields
    refine wpAny_bind (wpAny_bind (wpAny_field hos hds (x := vl) rfl (wpAny_bind (wpAny_field hos hds (x := vu) rfl (wpAny_bind (wpAny_field hos hds (x := .none) rfl (wpAny_pure ?_)))))))
    refine wpAny_bind (slicePart_none ?_)
    show wpAny _ _ (if ((1 : Int) == 0) = true then _ else _) _ _ s
    rw [if_neg (by decide)]
    refine wpAny_bind (slicePart_ pl (wpAny_bind (slicePart_ pu (wpAny_bind (wpAny_pure ?_)))))
    rw [List.size_toArray]
    exact wpAny_pure h
  refine wpAny_bind (ap ?_)
  show wpAny _ _ (if (slLo k1 k2 vs.length == 0 && (1 : Int) == 1 && slN k1 k2 vs.length == vs.toArray.size) = true then _ else _) _ _ s
  refine wpAny_ite_split (fun hc => ?_) (fun hc => ?_)
  · obtain ⟨hc1, hc2⟩ := Bool.and_eq_true_iff.mp hc
    obtain ⟨hc1, _⟩ := Bool.and_eq_true_iff.mp hc1
    have e1 := beq_iff_eq.mp hc1
    have e2 := beq_iff_eq.mp hc2
    have hw : slPick vs k1 k2 = vs := by
      unfold slPick
      rw [e1, e2, List.size_toArray]
      have e : (fun (k : Nat) => vs.toArray[((0 : Int) + (k : Int) * 1).toNat]?) = fun k => vs[k]? := by
        funext k
        have : ((0 : Int) + (k : Int) * 1).toNat = k := by omega
        rw [this]; simp
      rw [e]
      exact List.filterMap_getElem?_range_length vs
    unfold Builtin.Tuple.tupleIsExact
    refine wpAny_bind (wpAny_bind (wpAny_typeOf ht.typeIs (wpAny_pure ?_)))
    rw [if_pos (by decide)]
    exact wpAny_bind (wpAny_rule (wpAny_pure ⟨_, rfl, wpAny_pure (h0 hw)⟩))
  · have hz' : sizeOk (.seq (slPick vs k1 k2).toArray) := by
      show (slPick vs k1 k2).toArray.size ≤ sizeLine
      rw [List.size_toArray, sizeLine_eq]; omega
    first
      | exact wpAny_bind (m := Builtin.Tuple.tupleExact _) (wpAny_newObj_type (wpAny_pure ⟨_, rfl, wpAny_pure h1⟩) hz')
      | exact wpAny_bind (m := Builtin.Tuple.tupleExact _) (wpAny_newObj_type (wpAny_bind (wpAny_pure (wpAny_pure ⟨_, rfl, wpAny_pure h1⟩))) hz')
      | exact wpAny_bind (wpAny_bind (m := Builtin.Tuple.tupleExact _) (wpAny_newObj_type (wpAny_pure (wpAny_pure ⟨_, rfl, wpAny_pure h1⟩)) hz'))
      | exact wpAny_bind (wpAny_bind (m := Builtin.Tuple.tupleExact _) (wpAny_newObj_type (wpAny_pure ⟨_, rfl, wpAny_pure h1⟩) hz'))
end
section
variable {c : Fx} {sc : List (Str × NameKind)} {s : Shared} {σ : St} {P : Value → St → Prop}
noncomputable def vPart (c : Fx) (sc : List (Str × NameKind)) (e : Option Expr) (Q : Value → St → Prop) (σ : St) : Prop := match e with
  | none => Q .none σ
  | some e => vE c sc 40 e Q σ
theorem vPart_sound {e : Option Expr} (a : Act sc c) (h : vPart c sc e P σ) (r : R c σ s) : wpAny (model PG c.w) c.A (evalPart e c.env) (Post c P) c.E s := by
  cases e with
  | none => exact wpAny_pure (pst r h)
  | some e => exact (vET_sound a 40).1 _ _ _ _ h r
theorem raw_sliceT {v : Expr} {lower upper : Option Expr} {p pos : Pos} (a : Act sc c)
    (h : vE c sc 40 v (fun o σ₁ => vPart c sc lower (fun vl σ₂ => vPart c sc upper (fun vu σ₃ => ∃ t vs k1 k2, o = .ref t ∧ TupAt σ₃.t t vs ∧ IsPart vl k1 ∧ IsPart vu k2 ∧ (slPick vs k1 k2).length ≤ 1000 ∧ ∀ b t', Le σ₃.t t' → TupAt t' b (slPick vs k1 k2) → P (.ref b) (σ₃.setT t')) σ₂) σ₁) σ) :
    raw c (eval (.Subscript v (.Slice lower upper none p) pos) c.env) P σ := fun s r => by
  refine Subscript_ (seq_ ((vET_sound a 40).1 _ _ _ _ h r) fun o σ₁ s₁ r₁ q₁ => ?_)
  refine wpAny_Slice (seq_ (vPart_sound a q₁ r₁) fun vl σ₂ s₂ r₂ q₂ => seq_ (vPart_sound a q₂ r₂) fun vu σ₃ s₃ r₃ q₃ => ?_)
  obtain ⟨t, vs, k1, k2, rfl, hT, pl, pu, hz, hP⟩ := q₃
  rw [evalPart_none]
  refine wpAny_pure ?_
  have r₄ := r₃.push { cls := .type "slice", data := .fields #[vl, vu, .none] }
  have hT4 := r₄.tup hT
  refine PyProof.Rows.tail_any (ops := [.ref s₃.heap.objs.size, .ref t]) hT4.typeIs PyProof.Rows.slot_tuple_getitem.lookup (getItem_tupS hT4 (Heap.IsSliceOf.new ..) pl pu hz ?_ fun e => ?_) (by rfl)
  · have r₅ := r₄.push (tupObj (slPick vs k1 k2))
    exact pst r₅.top (hP _ _ r₅.V (.of (tups_get.mpr ⟨Heap.get?_push_size _ rfl, rfl⟩)))
  · exact pst r₄.top (hP _ _ r₄.V (by rw [e]; exact hT.le r₄.V))
theorem raw_sliceL {v : Expr} {lower upper : Option Expr} {p pos : Pos} (a : Act sc c) (hg : ∀ o r, letTemporaryGo v o r = pure ())
    (h : vE c sc 40 v (fun o σ₁ => vPart c sc lower (fun vl σ₂ => vPart c sc upper (fun vu σ₃ => ∃ l vs k1 k2, o = .ref l ∧ HasL c σ₃ l vs ∧ vs.length ≤ sizeLine ∧ IsPart vl k1 ∧ IsPart vu k2 ∧ ∀ b, NewAt b σ₃ → P (.ref b) (σ₃.addN b (lstObj (slicePick vs.toArray k1 k2 none).toList))) σ₂) σ₁) σ) :
    raw c (eval (.Subscript v (.Slice lower upper none p) pos) c.env) P σ := fun s r => by
  refine wpAny_Subscript_list_slice (seq_ ((vET_sound a 40).1 _ _ _ _ h r) fun o σ₁ s₁ r₁ q₁ => seq_ (vPart_sound a q₁ r₁) fun vl σ₂ s₂ r₂ q₂ => seq_ (vPart_sound a q₂ r₂) fun vu σ₃ s₃ r₃ q₃ => ?_) hg
  obtain ⟨l, vs, k1, k2, rfl, hL, hz, pl, pu, hP⟩ := q₃
  refine ⟨l, vs.toArray, k1, k2, rfl, r₃.hasL hL, by rw [List.size_toArray]; exact hz, pl, pu, ?_⟩
  have r₄ := (r₃.push { cls := .type "slice", data := .fields #[vl, vu, .none] }).push (lstObj (slicePick vs.toArray k1 k2 none).toList)
  obtain ⟨f1, f2, f3⟩ := fresh_own r₃ (b := s₃.heap.objs.size + 1) (Heap.get?_none_of_le (Nat.le_succ _))
  have hg4 : ((s₃.heap.push { cls := .type "slice", data := .fields #[vl, vu, .none] }).push (lstObj (slicePick vs.toArray k1 k2 none).toList)).get? (s₃.heap.objs.size + 1) = some (lstObj (slicePick vs.toArray k1 k2 none).toList) := by heap_get
  have := pst (r₄.more hg4 f1 f2 f3) (hP _ f2)
  exact this
theorem raw_pow {x y : Int} {t u : Tok} (h1 : (y ≥ 0 ∧ ¬ (y == 0) = true ∧ ¬ (x == 0 || x == 1) = true ∧ ¬ (x == -1) = true) ∧ ¬ Builtin.Int.intTooBig (((Builtin.Int.intBits x : Nat) : Int) * y) = true) (h : ∀ t, P (.int (x ^ y.toNat) t) σ) : raw c (binaryOp .Pow (.int x t) (.int y u)) P σ := fun s r =>
  PySem.AutoIntOps.pow_4 h1.1.1 h1.1.2.1 h1.1.2.2.1 h1.1.2.2.2 h1.2 (done r (h _) _)
theorem raw_isNotB {a b : Bool} (h : P (.bool (!(a == b))) σ) : raw c (compareOp .IsNot (.bool a) (.bool b)) P σ := fun s r => by
  refine wpAny_isNot_plain rfl ?_
  have e : (Value.bool a == Value.bool b) = (a == b) := by cases a <;> cases b <;> rfl
  rw [e]
  exact pst r h
theorem raw_index {n : Nat} {l : Addr} {o : Obj} {vs : List Value} {ds : List D} {x : Value} {d : D} {j : Nat} (u : Up c n) (hn : n ≤ 900) (hm : Has c σ l o) (hL : LstO o vs) (hv : DVs σ.t ds vs) (hx : DV σ.t d x) (hd : deps ds ≤ 9) (hz : ds.length ≤ 1000) (hj : ds[j]? = some d) (hno : ∀ m, m < j → ds[m]? ≠ some d)
    (h : ∀ t, P (.int j t) σ) : raw c (call (.builtin "list.index") [.ref l, x]) P σ := fun s r => by
  have key : ∀ y, ∃ b, y ∈ vs → (b = true ↔ DV σ.t d y) ∧ SeqAt.EqAt c.A.in1 s y x b := fun y => by
    by_cases hy : y ∈ vs
    · obtain ⟨i, hi, rfl⟩ := List.getElem_of_mem hy
      have hi' : i < ds.length := hv.length ▸ hi
      have hd' := hv.at_ i hi' hi
      have := dep_mem hi'
      obtain ⟨b, b1, b2⟩ := hd'.eq r.V hx (A := c.A.in1) (by have := u.hu; show c.A.units + 1 + _ < 9900; omega)
      exact ⟨b, fun _ => ⟨b1.trans ⟨fun q => q ▸ hd', fun q => hd'.fun q⟩, b2⟩⟩
    · exact ⟨true, fun q => absurd q hy⟩
  have hl := hv.length
  obtain ⟨hj1, hj2⟩ := List.getElem?_eq_some_iff.mp hj
  have ho := r.has hm
  obtain ⟨oc, od, oda, osl⟩ := o
  obtain ⟨hc, ⟨n', hdat⟩, _⟩ := hL
  cases hc; cases hdat
  refine call_meets PySem.F.slot_list_index ⟨_, ho, rfl⟩ PySem.F.entry_list_index (PySem.F.args_list_index_2 _ _) (SeqAt.list_indexAt l vs.toArray n' od osl x (fun y => (key y).choose) j (by rw [List.size_toArray]; omega) (by omega) ?_ fun m hm1 hm2 => ?_) ⟨ho, fun y hy => ((key y).choose_spec (by simpa using hy)).2, ?_⟩
  · have hjv : j < vs.length := by omega
    refine ((key _).choose_spec (List.getElem_mem hjv)).1.mpr ?_
    have := hv.at_ j hj1 hjv
    rwa [hj2] at this
  · have hmv : m < vs.length := by omega
    have hmd : m < ds.length := by omega
    cases q : (key (vs[m])).choose with
    | false => rfl
    | true =>
      have h1 := ((key _).choose_spec (List.getElem_mem hmv)).1.mp q
      have := h1.fun (hv.at_ m hmd hmv)
      exact absurd (by rw [List.getElem?_eq_getElem hmd, this]) (hno m hm2)
  · exact done r (h _) _
end
end Mine
end
section
open PySem PySem.W PyProof.Rows PySem.Spec PySem.Calls Builtin
set_option Elab.async false
set_option maxRecDepth 100000
set_option maxHeartbeats 4000000
set_option linter.unusedVariables false
namespace Mine
theorem sl_of {vs : List Value} {k1 k2 : Option Int} {lo : Int} {n : Nat} (h1 : slLo k1 k2 vs.length = lo) (h2 : slN k1 k2 vs.length = n) : slPick vs k1 k2 = (List.range n).filterMap fun (k : Nat) => vs.toArray[(lo + (k : Int) * 1).toNat]? := by
  unfold slPick; rw [h1, h2]
theorem sl4 (a b c d : Value) : slPick [a, b, c, d] (some (-2 - 0)) none = [c, d] ∧ slPick [a, b, c, d] (some (-2 - 1)) none = [b, c, d] ∧ slPick [a, b, c, d] (some (-2 - 2)) none = [a, b, c, d] :=
  ⟨(sl_of (lo := 2) (n := 2) (show slLo (some (-2 - 0)) none 4 = 2 by decide) (show slN (some (-2 - 0)) none 4 = 2 by decide)).trans rfl, (sl_of (lo := 1) (n := 3) (show slLo (some (-2 - 1)) none 4 = 1 by decide) (show slN (some (-2 - 1)) none 4 = 3 by decide)).trans rfl, (sl_of (lo := 0) (n := 4) (show slLo (some (-2 - 2)) none 4 = 0 by decide) (show slN (some (-2 - 2)) none 4 = 4 by decide)).trans rfl⟩
theorem sl1 (a b : Value) (r : List Value) : slPick (a :: b :: r) none (some 1) = [a] := by
  have h : Builtin.Slice.sliceAdjust none (some 1) 1 ((a :: b :: r).length : Int) = (0, 1) := by
    simp only [Builtin.Slice.sliceAdjust, List.length_cons]
    have : min (1 : Int) ((r.length + 1 + 1 : Nat) : Int) = 1 := by omega
    simp
    omega
  refine (sl_of (lo := 0) (n := 1) ?_ ?_).trans rfl
  · unfold slLo; rw [h]
  · unfold slN; rw [h]; rfl
section
variable {c : Fx} {sc : List (Str × NameKind)} {s : Shared} {σ : St} {P : Value → St → Prop}
theorem raw_Dict2 {k1 k2 v1 v2 : Expr} {pos : Pos} (a : Act sc c) (h : ∀ d, NewAt d σ → vE c sc 40 k1 (fun a1 σ₁ => vE c sc 40 v1 (fun b1 σ₂ => vE c sc 40 k2 (fun a2 σ₃ => vE c sc 40 v2 (fun b2 σ₄ => ∃ x1 t1 x2 t2 i, a1 = .str x1 t1 ∧ a2 = .str x2 t2 ∧ x1 ≠ x2 ∧ σ₄.n[i]? = some (d, emptyDict) ∧
      ∀ o, o.IsDictOf (PySem.strKind PG c.w) [(x1, b1), (x2, b2)] → P (.ref d) (σ₄.setN i d o)) σ₃) σ₂) σ₁) (σ.addN d emptyDict)) : raw c (eval (.Dict [some k1, some k2] [v1, v2] pos) c.env) P σ := fun s r => by
  obtain ⟨f1, f2, f3⟩ := fresh_own r (none_size s.heap)
  have r1 := (r.push emptyDict).more (Heap.get?_push_size _ rfl) f1 f2 f3
  have sd := fun {e : Expr} {Q : Value → St → Prop} {σ : St} {s : Shared} (h : vE c sc 40 e Q σ) (r : R c σ s) => (vET_sound a 40).1 e Q σ s h r
  refine wpAny_Dict_walk (knd := PySem.strKind PG c.w) rfl rfl (by simp) (by show 2 ≤ 15; decide) ?_
  refine pairTrees_cons_walk (seq_ (sd (h _ f2) r1) fun a1 σ₁ s₁ r₁ q₁ => seq_ (sd q₁ r₁) fun b1 σ₂ s₂ r₂ q₂ => ?_)
  refine pairTrees_cons_walk (seq_ (sd q₂ r₂) fun a2 σ₃ s₃ r₃ q₃ => seq_ (sd q₃ r₃) fun b2 σ₄ s₄ r₄ q₄ => ?_)
  obtain ⟨x1, t1, x2, t2, i, rfl, rfl, hne, hi, hP⟩ := q₄
  refine pairTrees_nil_walk ⟨[(x1, b1), (x2, b2)], ⟨strKind_is _ _ _ _, rfl, strKind_is _ _ _ _, rfl, trivial⟩, ?_, fun h' hd hs => ?_⟩
  · exact Heap.dictOf_iff.mpr ⟨_, r₄.has (.inr (List.mem_of_getElem? hi)), ⟨#[], 0, ⟨rfl, rfl, rfl⟩, rfl, fun e he => (by simp at he), .nil, .nil⟩⟩
  · obtain ⟨o, ho, hd⟩ := Heap.dictOf_iff.mp hd
    have e : merged [] [(x1, b1), (x2, b2)] = [(x1, b1), (x2, b2)] := by simp [merged, stored, hne]
    rw [e] at hd
    exact pst (r₄.upd (tk := s₄.toks + 2) hi hs ho rfl) (hP o hd)
end
end Mine
end
section
open PySem PySem.W PyProof.Rows PySem.Spec PySem.Calls
set_option Elab.async false
set_option maxRecDepth 100000
set_option linter.unusedVariables false
namespace Mine
/-- what a body called by the claim's own caller knows -/
structure TopIn (w : World) (s : Shared) (sc : List (Str × NameKind)) (c' : Fx) (n : Nat) : Prop where
  a : Act sc c'
  u : Up c' n
  p : PassesOwn (model PG c'.w) c'.A c'.env c'.E
  w : c'.w = w
  g : ∀ b o, s.heap.get? b = some o → c'.h.get? b = some o
  S : c'.S = [c'.env]
  L : c'.env.frame = some c'.L
theorem enterTop {w : World} {s : Shared} {RR : Result → Shared → Prop} {mean : ExcName → Option Value} {mg mb : Str → Option Value} {f : Addr} {args : List Value} {name qual : Str} {params : Arguments} {body : List Stmt} {scope : Scope} {dV kV doc pm cdv ct oc : Value} {an od : Option Addr} {osl : Array (Option Value)} {binds : List (Str × Value)}
    (X : (hd.heap_1 w.params).In s.heap) (T : Top view (looseW view []) mean mg mb s.heap)
    (ho : (hd.heap_1 w.params).lookup f = some ⟨oc, od, .func (fnOf name qual params body scope dV kV doc pm an cdv ct), osl⟩) (hcd : codeIn (hd.heap_1 w.params) cdv qual = true)
    (hbind : ∀ s, BindsTo s (fnOf name qual params body scope dV kV doc pm an cdv ct) ⟨args, []⟩ binds)
    (hkind : (binds.all fun y => scope.names.lookup y.1 == some .local || scope.names.lookup y.1 == some .cell) = true) (hcn : ((cellsFrom 0 scope.names []).map (·.1)).Nodup)
    (hco : scope.isCoroutine = false) (hgen : scope.isGenerator = false) (hk : scope.kind = .function)
    (h : ∀ (c' : Fx) t, TopIn w s scope.names c' 302 → ∀ QF : Flow → St → Prop, (∀ fl σ, (∀ s', Lift s s' → (∀ b o, s.heap.get? b = some o → s'.heap.get? b = some o) → RR (.ok (.ret (retv fl))) s') → QF fl σ) → raw c' (execs body c'.env) QF ⟨ml scope.names binds [], [], kc c'.L scope.names binds, t⟩) :
    codeAny (model PG w) callerA (.call (.ref f) ⟨args, []⟩) RR s := by
  refine codeAny_call_function (by decide +kernel) (X _ _ ho) rfl hco hgen rfl (codeRec_of X hcd) (hbind s _ _ _ _ ?_)
  refine wpAny_newFunctionEnv_cells hk (kindsX hkind _) fun env' he s₁ x => ?_
  refine ⟨T.nolimit.keeps x.toInCall.keep, codeAny_func ?_⟩
  obtain ⟨h₁, tk, rfl, _⟩ := x.done
  have hk₁ : ∀ b o, s.heap.get? b = some o → h₁.get? b = some o := x.toInCall.keep
  have hl : env'.locals = s.heap.objs.size := by rw [he]; rfl
  have hcl : env'.cells = cellsFrom (s.heap.objs.size + 1) scope.names [] := by rw [he]; rfl
  have hkf : ∀ y, env'.kindOf y = lk scope.names y := fun y => by rw [he]; exact lk_eq.symm
  have cnd : ((cellsFrom (s.heap.objs.size + 1) scope.names []).map (·.1)).Nodup := cellsFrom_names scope.names 0 (s.heap.objs.size + 1) [] [] rfl ▸ hcn
  let A' := At env' [] 302
  let c' : Fx := ⟨w, A', env', s.heap, s.heap.objs.size, fun e s' => wpAny (model PG w) A' (leaving env' e) (fun _ s'' => RR (.error e) s'') (fun e' s'' => RR (.error e') s'') s', [env'], s.heap, s⟩
  have hkd : env'.scope.kind = .function := by rw [he]; exact hk
  have a' : Act scope.names c' := ⟨hkd, (by rw [he]; rfl : env'.globals = mainGlobals), (by rw [he]; rfl : env'.builtins = builtinsNs), hl, (by rw [he]; rfl : env'.scope.names = scope.names), X, _, _, _, T⟩
  have fr' : env'.frame = some s.heap.objs.size := by rw [he]; rfl
  have u' : Up c' 302 := ⟨rfl, rfl, Nat.le_refl _, Nat.le_refl _, fun e he' => by
    rw [List.mem_singleton.mp he']
    exact ⟨by rw [hkd]; exact fun q => (nomatch q), _, fr'⟩⟩
  have fs : frs c'.S = [s.heap.objs.size] := by show [env'].filterMap _ = _; rw [List.filterMap_cons, fr']; rfl
  have kmem : ∀ y ∈ kc s.heap.objs.size scope.names binds, env'.cells.lookup y.1 = some y.2.1 ∧ h₁.IsCell y.2.1 y.2.2 ∧ s.heap.objs.size < y.2.1 := fun y hy => by
    obtain ⟨p, hp, rfl⟩ := List.mem_map.mp hy
    have e1 := lookup_of_mem_nodup cnd hp
    rw [← hcl] at e1
    have e2 := x.cell _ _ e1
    rw [show bindC env'.kindOf binds (fun _ => none) = _ from bindC_eq hkf binds []] at e2
    exact ⟨e1, e2, (hl ▸ x.above p.1 p.2 (hcl ▸ hp) : s.heap.objs.size < p.2)⟩
  have r' : R c' ⟨ml scope.names binds [], [], kc s.heap.objs.size scope.names binds, tups h₁⟩ { s with heap := h₁, toks := tk } := by
    refine ⟨⟨⟨_, ?_, fun _ _ q => q⟩, hk₁, Nat.le_refl _⟩, fun p hp => (nomatch hp), fun y hy => ?_, ?_, fun b hb => ?_, Le.refl _, fun b hb n => ?_, fun b hb => ?_, ⟨h₁, tk, rfl⟩⟩
    · have e := x.toInCall.ns
      rw [hl, show bindL env'.kindOf binds (fun _ => none) = _ from bindL_eq hkf binds []] at e
      exact e
    · obtain ⟨k1, k2, k3⟩ := kmem y hy
      exact ⟨k1, k2, Nat.ne_of_gt k3, Heap.get?_none_of_le (Nat.le_of_lt k3)⟩
    · have : (kc s.heap.objs.size scope.names binds).map (·.2.1) = (cellsFrom (s.heap.objs.size + 1) scope.names []).map (·.2) := by
        unfold kc; rw [List.map_map]; rfl
      show ((kc s.heap.objs.size scope.names binds).map (·.2.1)).Nodup
      rw [this]
      exact List.pairwise_map.mpr (hcl ▸ x.apart)
    · rw [fs]
      intro q
      obtain ⟨y, hy, rfl⟩ := List.mem_map.mp (show b ∈ (kc s.heap.objs.size scope.names binds).map (·.2.1) from hb)
      have k3 := (kmem y hy).2.2
      exact absurd k3 (List.mem_singleton.mp q ▸ Nat.lt_irrefl _)
    · rw [fs] at hb
      exact absurd (List.mem_singleton.mp hb) n
    · rw [fs] at hb
      rw [List.mem_singleton.mp hb]
      exact Heap.get?_none_of_le (Nat.le_refl _)
  have I : TopIn w s scope.names c' 302 := ⟨a', u', PassesOwn.leaving, rfl, fun b o e => e, rfl, fr'⟩
  have sd := h c' (tups h₁) I _ (fun _ _ x => x) _ r'
  have up : ∀ {α : Type} {t : Sem α} {Q : α → Shared → Prop} {E : Value → Shared → Prop} {s : Shared}, wpAny (model PG w) A' t Q E s → wpAny (model PG w) (callerA.deeper env') t Q E s := fun {α t Q E s} z =>
    wp_up z rfl (by show callerA.depth + 1 ≤ 302; decide +kernel) rfl rfl (by show 4 + 3 ≤ 10 * 302; decide)
  refine wpAny_mono (up sd) (fun fl x p => ?_) fun _ _ e => up e
  obtain ⟨σ', r'', q⟩ := p
  exact q x r''.Z r''.F.keep
end Mine
end
section
open PySem PySem.W PyProof.Rows PySem.Spec PySem.Calls Builtin
set_option Elab.async false
set_option maxRecDepth 100000
set_option maxHeartbeats 4000000
set_option linter.unusedVariables false
namespace Mine
/-- what the law's body holds from the names on -/
structure LX where
  (l fd lcl lp x dx ls ln lc : Addr)
  (olc oln : Obj)
  (cv pv nv : List Value)
  (ns ps : List Int)
noncomputable def named (n : Nat) : List Int := (List.range (n + 1)).map fun (j : Nat) => (5 * (j : Int))
noncomputable def LX.m (X : LX) : List (Str × Value) := [(Str.ofString "pool", .ref X.lp), (Str.ofString "clauses", .ref X.lcl), (Str.ofString "feed", .ref X.fd), (Str.ofString "script", .ref X.l)]
noncomputable def LX.n (X : LX) (ol od ols o : Obj) : List (Addr × Obj) := [(X.ln, X.oln), (X.ls, ols), (X.x, instObj 169 X.dx), (X.dx, od), (X.lcl, ol), (X.lc, X.olc), (X.fd, o)]
noncomputable def LX.k (X : LX) (L : Addr) : List (Str × Addr × Option Value) := [(Str.ofString "proof_now", L + 1, some (.ref X.x))]
structure LX.ok (X : LX) (t : Heap) : Prop where
  P : Pool t X.lp X.pv X.ps
  p2 : 2 ≤ X.ps.length
  c : LstO X.olc X.cv
  ci : IntsAre X.cv X.ns
  cn : X.ns.length ≤ 48
  n : LstO X.oln X.nv
  ni : IntsAre X.nv (named X.ps.length)
theorem LX.ok.le {X : LX} {t t' : Heap} (h : X.ok t) (l : Le t t') : X.ok t' := ⟨h.P.le l, h.p2, h.c, h.ci, h.cn, h.n, h.ni⟩
/-- a place between two statements of the law -/
inductive Stg (w : World) (L : Addr) (X : LX) (K : Int) (lo hi : Nat) (σ : St) : Prop
  | mk (ol od ols o : Obj) (k : Int) (cls : List (List Int)) (cvs : List Value) (rows : List Row) (rvs : List Value) (t : Heap) (le : Less ⟨X.m, X.n ol od ols o, X.k L, t⟩ σ) (ok : X.ok t) (B : Bk w t X.ls X.ln ol od ols cls cvs rows rvs) (F : FeedO w o X.lc k) (k0 : 0 ≤ k) (k1 : k ≤ K) (c0 : lo ≤ cls.length) (c1 : cls.length ≤ hi)
/-- the loops' invariants -/
structure LY where
  (l fd lcl lp x dx ls ln lc : Addr)
  (olc od o1 : Obj)
noncomputable def LY.m (Y : LY) : List (Str × Value) := [(Str.ofString "pool", .ref Y.lp), (Str.ofString "clauses", .ref Y.lcl), (Str.ofString "feed", .ref Y.fd), (Str.ofString "script", .ref Y.l)]
noncomputable def LY.n (Y : LY) (o : Obj) : List (Addr × Obj) := [(Y.ln, o), (Y.ls, lstObj []), (Y.x, instObj 169 Y.dx), (Y.dx, Y.od), (Y.lcl, lstObj []), (Y.lc, Y.olc), (Y.fd, Y.o1)]
noncomputable def LY.k (Y : LY) (L : Addr) : List (Str × Addr × Option Value) := [(Str.ofString "proof_now", L + 1, some (.ref Y.x))]
inductive MName (L : Addr) (Y : LY) (t5 : Heap) (n : Nat) (σ : St) : Prop
  | mk (oln : Obj) (nv : List Value) (t6 : Heap) (le : Less ⟨Y.m, Y.n oln, Y.k L, t6⟩ σ) (hl : LstO oln nv) (hni : IntsAre nv (named n)) (ht : Le t5 t6)
inductive JName (L : Addr) (Y : LY) (rg : Addr) (orr : Obj) (t5 : Heap) (i : Nat) : St → Prop
  | mk (oln : Obj) (nv : List Value) (t : Heap) (ht : Le t5 t) (hl : LstO oln nv) (hni : IntsAre nv (named i)) : JName L Y rg orr t5 i ⟨Y.m, (rg, orr) :: Y.n oln, Y.k L, t⟩
inductive JIn (w : World) (L : Addr) (X : LX) (rg : Addr) (orr : Obj) (K M : Int) (lo hi : Nat) (i : Nat) : St → Prop
  | mk (ol od ols o : Obj) (k : Int) (cls : List (List Int)) (cvs : List Value) (rows : List Row) (rvs : List Value) (t : Heap) (ok : X.ok t) (B : Bk w t X.ls X.ln ol od ols cls cvs rows rvs) (F : FeedO w o X.lc k) (k0 : 0 ≤ k) (k1 : k ≤ K + M * i) (c0 : lo ≤ cls.length) (c1 : cls.length ≤ hi + i) : JIn w L X rg orr K M lo hi i ⟨X.m, (rg, orr) :: X.n ol od ols o, X.k L, t⟩
inductive JRes (w : World) (L : Addr) (X : LX) (rg : Addr) (orr ol od ols : Obj) (t : Heap) (i : Nat) : St → Prop
  | mk (o : Obj) (k : Int) (t' : Heap) (ht : Le t t') (F : FeedO w o X.lc k) (k0 : 0 ≤ k) (k1 : k ≤ 27 + 3 * i) : JRes w L X rg orr ol od ols t i ⟨X.m, (rg, orr) :: X.n ol od ols o, X.k L, t'⟩
theorem m_sub {a b c d : Str × Value} {m : List (Str × Value)} (ha : lk m a.1 = some a.2) (hb : lk m b.1 = some b.2) (hc : lk m c.1 = some c.2) (hd : lk m d.1 = some d.2) : ∀ x v, lk [a, b, c, d] x = some v → lk m x = some v :=
  lk_sub (List.forall_mem_cons.mpr ⟨ha, List.forall_mem_cons.mpr ⟨hb, List.forall_mem_cons.mpr ⟨hc, List.forall_mem_singleton.mpr hd⟩⟩⟩)
section
variable {c : Fx} {sc : List (Str × NameKind)} {s : Shared} {σ : St} {P : Value → St → Prop}
theorem enterX {n : Nat} {f : Addr} {args : List Value} (W : List (Addr × Obj)) {name qual : Str} {params : Arguments} {body : List Stmt} {scope : Scope} {dV kV doc pm cdv ct oc : Value} {an od : Option Addr} {osl : Array (Option Value)} {binds : List (Str × Value)}
    (a : Act sc c) (u : Up c n) (hW : ∀ p ∈ W, p ∈ σ.n) (hnd : (adr W).Nodup) (hnt : ∀ p ∈ W, isT p.2 = false)
    (ho : (hd.heap_1 c.w.params).lookup f = some ⟨oc, od, .func (fnOf name qual params body scope dV kV doc pm an cdv ct), osl⟩) (hcd : codeIn (hd.heap_1 c.w.params) cdv qual = true) (hroom : n < recursionLimit)
    (hbind : ∀ s, BindsTo s (fnOf name qual params body scope dV kV doc pm an cdv ct) ⟨args, []⟩ binds)
    (hkind : (binds.all fun y => scope.names.lookup y.1 == some .local || scope.names.lookup y.1 == some .cell) = true) (hcn : ((cellsFrom 0 scope.names []).map (·.1)).Nodup)
    (hco : scope.isCoroutine = false) (hgen : scope.isGenerator = false) (hk : scope.kind = .function)
    (h : ∀ s (c' : Fx) t, R c σ s → In c scope.names s (adr W) c' (n + 1) t → ∀ QF, (∀ fl σ, Fin c s (adr W) c' P fl σ → QF fl σ) → raw c' (execs body c'.env) QF ⟨ml scope.names binds [], W, kc c'.L scope.names binds, t⟩) :
    raw c (call (.ref f) args) P σ := fun s r => wpAny_call (enterB W r a u hW hnd hnt ho hcd hroom hbind hkind hcn hco hgen hk h)
theorem raw_Next {st : Stmt} {r : List Stmt} {Q : Flow → St → Prop} (a : Act sc c) (hint : interactive c.env = false) (h : vS c sc 60 st (vThen (raw c (execs r c.env) Q) Q) σ) : raw c (execs (st :: r) c.env) Q σ := raw_step (raw_go1 a hint h)
theorem raw_nil {Q : Flow → St → Prop} (h : Q .next σ) : raw c (execs [] c.env) Q σ := fun s r => wpAny_execs_nil (pst r h)
theorem vCmp_raw {op : CmpOp} {v w : Value} {Q : Value → St → Prop} (hv : ∀ x t, v ≠ .int x t) (h : raw c (compareOp op v w) Q σ) : vCmp c op v w Q σ := by
  unfold vCmp twoI
  split
  · exact absurd rfl (hv _ _)
  · exact h
theorem ot_int {t : Heap} {v : Value} {r : Option (List Int)} (h : OT t v r) : ∀ x u, v ≠ .int x u := fun x u e => by
  cases r with
  | none => rw [show v = .none from h] at e; cases e
  | some cl => obtain ⟨_, _, e', _⟩ := h; rw [e'] at e; cases e
theorem OT.le {t t' : Heap} {v : Value} {r : Option (List Int)} (h : OT t v r) (l : Le t t') : OT t' v r := by
  cases r with
  | none => exact h
  | some cl => exact CT.le h l
theorem deps_cl (cls : List (List Int)) : deps (cls.map clD) ≤ 9 := deps_le fun d hd => by
  obtain ⟨cl, _, rfl⟩ := List.mem_map.mp hd
  show deps (cl.map .i) + 1 ≤ 9
  rw [deps_i]; decide
theorem named_at {n i : Nat} (h : i < n) : (named n).getD (i + 1) 0 = 5 * (1 + (i : Int)) := by
  unfold named
  rw [List.getD_eq_getElem?_getD, List.getElem?_map, List.getElem?_range (by omega)]
  show 5 * (((i + 1 : Nat) : Int)) = _
  push_cast; omega
theorem emp_some {cls : List (List Int)} (h : [] ∈ cls) : ∃ j : Nat, emp cls = j ∧ cls[j]? = some [] ∧ ∀ m, m < j → cls[m]? ≠ some [] := by
  unfold emp
  cases q : cls.findIdx? (·.isEmpty) with
  | none =>
    have := List.findIdx?_eq_none_iff.mp q [] h
    cases this
  | some j =>
    obtain ⟨hj, hp, hn⟩ := List.findIdx?_eq_some_iff_getElem.mp q
    refine ⟨j, rfl, by rw [List.getElem?_eq_getElem hj, List.isEmpty_iff.mp hp], fun m hm e => ?_⟩
    obtain ⟨hm', e⟩ := List.getElem?_eq_some_iff.mp e
    exact hn m hm (by rw [e]; rfl)
theorem emp_none {cls : List (List Int)} (h : [] ∉ cls) : emp cls = -1 := by
  unfold emp
  cases q : cls.findIdx? (·.isEmpty) with
  | none => rfl
  | some j =>
    obtain ⟨hj, hp, _⟩ := List.findIdx?_eq_some_iff_getElem.mp q
    exact absurd (by rw [← List.isEmpty_iff.mp hp]; exact List.getElem_mem hj) h
theorem clD_nil {cls : List (List Int)} : D.t [] ∈ cls.map clD ↔ [] ∈ cls := by
  rw [List.mem_map]
  constructor
  · rintro ⟨cl, hc, e⟩
    injection e with e
    rwa [List.map_eq_nil_iff.mp e] at hc
  · intro h; exact ⟨[], h, rfl⟩
theorem law_top {w : World} {s : Shared} {RR : Result → Shared → Prop} {mean : ExcName → Option Value} {mg mb : Str → Option Value} {l : Addr} {vs : List Value} {ns : List Int} (X₀ : (hd.heap_1 w.params).In s.heap) (T₀ : Top view (looseW view []) mean mg mb s.heap) (hS : s.heap.IsList l vs.toArray) (hI : IntsAre vs ns) (hz : vs.length ≤ sizeLine)
    (h : ∀ s', Lift s s' → (∀ b o, s.heap.get? b = some o → s'.heap.get? b = some o) → RR (.ok (.ret (.bool true))) s') : codeAny (model PG w) callerA (.call (.ref 245) ⟨[.ref l], []⟩) RR s := by
  refine enterTop X₀ T₀ (by k_is) (by k_is) (fun _ => BindsTo.of_eq rfl) (by rfl) (by decide) (by rfl) (by rfl) (by rfl) ?_
  intro c' tv I QF hQ
  have hS' : ∀ σ', HasL c' σ' l vs := fun σ' => let ⟨o, ho, hc, n, hd⟩ := hS; ⟨o, n, .inl (I.g _ _ ho), hc, hd⟩
  have fin : ∀ b m n k t, b = true → QF (.ret (.bool b)) ⟨m, n, k, t⟩ := fun b m n k t hb => hQ _ _ fun s' Z S => by
    subst hb
    exact h s' Z S
  -- feed, clauses
  refine raw_step (raw_AssignSwap I.a I.u.hh (by rfl) (by rfl) (by rfl) (by rfl) ?_)
  refine raw_Dict2 I.a fun fd hfd => ?_
  intro w1
  refine ⟨.ty _, ?_⟩
  refine raw_sliceL I.a (fun o r => rfl) ?_
  intro w2
  refine ⟨l, vs, none, some 48, rfl, hS' _, hz, .none, .int _ _, fun lb hlb => ?_⟩
  have hcI := slice_ints_uptoW hI (y := 48) (by decide)
  have hc48 : (ns.take (48 : Int).toNat).length ≤ 48 := List.length_take_le ..
  refine raw_listS (.inl (lst_has (.inr (.head _)))) (by rw [hcI.length]; omega) fun lc olc hlc hLc => ?_
  intro w3 w4
  refine ⟨_, _, _, _, 2, rfl, rfl, by decide, rfl, fun o ho => ?_⟩
  refine ⟨Nat.zero_le _, fun lcl hlcl => ?_⟩
  refine ⟨Nat.le_of_ble_eq_true rfl, fun tp t1 hle1 hget => ⟨tp, _, _, rfl, .of hget, ?_⟩⟩
  have hF : FeedO c'.w o lc 0 := ⟨_, ho⟩
  -- pool
  refine raw_Next I.a I.a.int ?_
  refine raw_sliceT I.a ?_
  intro w5 w6 w7 w8 w9
  refine raw_pow (by decide +kernel) fun w10 => ?_
  intro w11 w12
  refine ⟨Nat.le_of_ble_eq_true rfl, fun tq t2 hle2 hget2 => ?_⟩
  intro w13 w14
  refine ⟨.own (by k_is), ?_⟩
  intro w15
  refine next_ok (ns := ns.take (48 : Int).toNat) 3 I.a (I.u.le (by decide)) rfl hF (hLc.hasL (.inr (.tail _ (.head _)))) hcI hc48 (by decide) (by decide) (by decide) fun r0 w16 o1 t3 hr0 hr3 hF1 hle3 => ?_
  intro w17
  have hpool : ∃ pv ps, slPick [.int 1 w5, .int 2 w6, .int 3 w7, .int (10 ^ (30 : Int).toNat + 7) w12] (some (-2 - r0)) none = pv ∧ IntsAre pv ps ∧ 2 ≤ ps.length ∧ ps.length ≤ 4 ∧ ∀ p ∈ ps, 0 < p ∧ Lit p := by
    have q1 : (0 : Int) < 10 ^ (30 : Int).toNat + 7 ∧ Lit (10 ^ (30 : Int).toNat + 7) := by unfold Lit; decide +kernel
    have q2 : (0 : Int) < 3 ∧ Lit 3 := by unfold Lit; decide
    have q3 : (0 : Int) < 2 ∧ Lit 2 := by unfold Lit; decide
    have q4 : (0 : Int) < 1 ∧ Lit 1 := by unfold Lit; decide
    obtain rfl | rfl | rfl : r0 = 0 ∨ r0 = 1 ∨ r0 = 2 := by omega
    · exact ⟨[.int 3 w7, .int (10 ^ (30 : Int).toNat + 7) w12], [3, 10 ^ (30 : Int).toNat + 7], (sl4 _ _ _ _).1, .cons _ _ (.cons _ _ .nil), by simp, by simp, List.forall_mem_cons.mpr ⟨q2, List.forall_mem_singleton.mpr q1⟩⟩
    · exact ⟨[.int 2 w6, .int 3 w7, .int (10 ^ (30 : Int).toNat + 7) w12], [2, 3, 10 ^ (30 : Int).toNat + 7], (sl4 _ _ _ _).2.1, .cons _ _ (.cons _ _ (.cons _ _ .nil)), by simp, by simp, List.forall_mem_cons.mpr ⟨q3, List.forall_mem_cons.mpr ⟨q2, List.forall_mem_singleton.mpr q1⟩⟩⟩
    · exact ⟨[.int 1 w5, .int 2 w6, .int 3 w7, .int (10 ^ (30 : Int).toNat + 7) w12], [1, 2, 3, 10 ^ (30 : Int).toNat + 7], (sl4 _ _ _ _).2.2, .cons _ _ (.cons _ _ (.cons _ _ (.cons _ _ .nil))), by simp, by simp, List.forall_mem_cons.mpr ⟨q4, List.forall_mem_cons.mpr ⟨q3, List.forall_mem_cons.mpr ⟨q2, List.forall_mem_singleton.mpr q1⟩⟩⟩⟩
  obtain ⟨pv, ps, hpick, hpI, hp2, hp4, hpok⟩ := hpool
  have hpl := hpI.length
  refine ⟨tq, _, some (-2 - r0), none, rfl, (TupAt.of hget2).le hle3, .int _ _, .none, by rw [hpick]; omega, fun lp t4 hle4 hlp => ?_⟩
  rw [hpick] at hlp
  -- proof_now
  refine raw_Next I.a I.a.int ?_
  refine ⟨.own (by k_is), made_ok I.a (I.u.le (by decide)) fun x dx ls ln od t5 w18 hnx hndx hnls hnln hO hle5 => ?_⟩
  have hpT : TupAt t5 lp pv := hlp.le hle5
  obtain ⟨Y, hY⟩ : ∃ Y : LY, Y = ⟨l, fd, lcl, lp, x, dx, ls, ln, lc, olc, od, o1⟩ := ⟨_, rfl⟩
  refine raw_cut (M := MName c'.L Y t5 ps.length) ?_ ?_
  · refine raw_weak (σ' := ⟨Y.m, Y.n (lstObj [.int 0 w18]), Y.k c'.L, t5⟩) (by rw [hY]; exact ⟨m_sub rfl rfl rfl rfl, .cons_cons _ (.cons_cons _ (.cons_cons _ (.cons_cons _ (.cons_cons _ (.cons_cons _ (.cons _ (.refl _))))))), rfl, Le.refl _⟩) ?_
    have hOY : StO c'.w Y.od Y.ls Y.ln (-1) := by rw [hY]; exact hO
    have hpY : TupAt t5 Y.lp pv := by rw [hY]; exact hpT
    clear hY hO
    refine raw_For I.a I.a.int I.p I.u.hh (fun x => rfl) ?_
    refine ⟨.ty _, ?_⟩
    intro w20
    refine ⟨.bi _, raw_lenS (.inr hpY) (by omega) fun w21 => ?_⟩
    intro w22 w23
    refine raw_range2 fun rg u1 u2 u3 hrg => ?_
    refine ⟨ps.length, _, _, iter_rg (a := 1) (b := pv.length + 1) (t := u1) (u := u2) (v := u3) I.u.hh rg (by decide) (by omega) (by split <;> omega) (by decide) (by omega), JName c'.L Y rg (rgO 1 (pv.length + 1) u1 u2 u3) t5, ⟨_, _, _, Le.refl _, ⟨rfl, ⟨_, rfl⟩, rfl⟩, .cons 0 w18 .nil⟩, ?_, ?_, ?_⟩
    · rintro i σ s ⟨oln, nv, t⟩ r
      exact (r.N _ (.head _)).1
    · rintro i y I0 oI σ hi hy ⟨oln, nv, t, ht, hl, hni⟩ hnew
      obtain ⟨w24, rfl⟩ := hy
      have hnl : nv.length = i + 1 := by rw [hni.length]; unfold named; simp
      have Jx : ∀ σ' : St, (Y.x, instObj 169 Y.dx) ∈ σ'.n → (Y.dx, Y.od) ∈ σ'.n → Inst c' σ' Y.x Y.dx Y.od Y.ls Y.ln (-1) := fun σ' m1 m2 => ⟨.inr m1, .inr m2, hOY⟩
      have i4 : i < 4 := Nat.lt_of_lt_of_le hi hp4
      refine raw_sto I.a ?_
      refine ⟨_, _, meth_steps I.a (Jx _ (.tail _ (.tail _ (.tail _ (.head _)))) (.tail _ (.tail _ (.tail _ (.tail _ (.head _)))))) (by k_is) (by k_is) (by k_is) (hOY.no fun _ _ _ _ _ _ _ => rfl), ?_⟩
      intro w25
      refine ⟨IntMulOk.of_left (intBits_le_64 (by decide) (by decide)), fun w26 => ?_⟩
      refine name_ok 1 I.a (I.u.le (by decide)) (Jx _ (.tail _ (.tail _ (.tail _ (.head _)))) (.tail _ (.tail _ (.tail _ (.tail _ (.head _)))))) rfl hl (by omega) (Nat.lt_of_lt_of_le (show (1 + (i : Int)).natAbs < 10 by omega) (by decide +kernel)) (fun t' o' hk hl' hle => ?_) fun hne => absurd (show (1 + (i : Int)) = nv.length by omega) hne
      refine LoopEnd.nx (n := (rg, rgO 1 (pv.length + 1) u1 u2 u3) :: Y.n o') ⟨⟨Y.m, (rg, rgO 1 (pv.length + 1) u1 u2 u3) :: Y.n o', Y.k c'.L, t'⟩, ⟨m_sub rfl rfl rfl rfl, .refl _, rfl, Le.refl _⟩, ⟨o', _, t', ht.trans hle, hl', ?_⟩⟩
      have e : named (i + 1) = named i ++ [5 * (1 + (i : Int))] := by
        unfold named
        rw [List.range_succ (n := i + 1), List.map_append, List.map_singleton]
        congr 2
        push_cast
        omega
      rw [e]
      exact hni.append (.cons _ _ .nil)
    · rintro σ ⟨oln, nv, t, ht, hl, hni⟩
      exact ⟨rfl, oln, nv, t, ⟨fun _ _ q => q, .cons _ (.refl _), rfl, Le.refl _⟩, hl, hni, ht⟩
  rintro σ' ⟨oln, nv, t6, hless, hLn, hNi, hle6⟩
  obtain ⟨X, hX⟩ : ∃ X : LX, X = ⟨l, fd, lcl, lp, x, dx, ls, ln, lc, olc, oln, (slicePick vs.toArray none (some 48) none).toList, pv, nv, ns.take (48 : Int).toNat, ps⟩ := ⟨_, rfl⟩
  have stg0 : Stg c'.w c'.L X 1 0 0 σ' := by
    rw [hY] at hless
    rw [hX]
    exact ⟨lstObj [], od, lstObj [], o1, 1, [], [], [], [], t6, hless, ⟨⟨hpT.le hle6, hpI, Nat.lt_of_lt_of_le (by decide) hp2, hp4, hpok⟩, hp2, hLc, hcI, hc48, hLn, hNi⟩, ⟨⟨rfl, ⟨_, rfl⟩, rfl⟩, dvs_nil, (fun _ h => nomatch h), hO, ⟨rfl, ⟨_, rfl⟩, rfl⟩, dvs_nil, rfl, (fun _ h => nomatch h)⟩, hF1, by decide, by decide, Nat.le_refl _, Nat.le_refl _⟩
  clear hless
  -- the input clauses
  refine raw_cut (M := Stg c'.w c'.L X 27 0 5) ?_ ?_
  · obtain ⟨ol, od, ols, o, k, cls, cvs, rows, rvs, t, hless, ok, hB, hF, hk0, hk1, hc0, hc1⟩ := stg0
    refine raw_weak hless ?_
    refine raw_ForR I.a I.p I.u.hh (fun x => rfl) ?_
    refine ⟨.ty _, ?_⟩
    intro w1
    refine ⟨.own (by k_is), ?_⟩
    intro w2
    refine next_ok (ns := X.ns) 6 I.a (I.u.le (by decide)) rfl hF (ok.c.hasL (.inr (.tail _ (.tail _ (.tail _ (.tail _ (.tail _ (.head _)))))))) ok.ci ok.cn hk0 (by omega) (by decide) fun r1 w3 o1 t1 hr0 hr4 hF1 hle1 => ?_
    intro w4
    refine raw_range fun rg u1 u2 u3 hrg => ?_
    refine ⟨(2 + r1).toNat, _, _, iter_rg (a := 0) (b := 2 + r1) (t := u1) (u := u2) (v := u3) I.u.hh rg (by decide) (by omega) (by split <;> omega) (by decide) (by omega), JIn c'.w c'.L X rg (rgO 0 (2 + r1) u1 u2 u3) 2 5 0 0, ⟨ol, od, ols, o1, k + 1, cls, cvs, rows, rvs, _, ok.le hle1, hB.le hle1, hF1, by omega, by omega, Nat.zero_le _, by omega⟩, ?_, ?_, ?_⟩
    · rintro i σ s ⟨_⟩ r
      exact (r.N _ (.head _)).1
    · rintro i y I0 oI σ hi hy ⟨ol, od, ols, o, k', cls, cvs, rows, rvs, t, ok, hB, hF, hk0, hk1, _, hc⟩ hnew
      obtain ⟨w5, rfl⟩ := hy
      refine raw_sto I.a ?_
      have i6 : i < 6 := by omega
      obtain ⟨len1, len2, len3⟩ := hB.len
      refine raw_Next I.a I.a.int ?_
      refine ⟨.own (by k_is), ?_⟩
      refine literals_ok (ns := X.ns) (ps := X.ps) 7 I.a (I.u.le (by decide)) rfl hF (ok.c.hasL (.inr (.tail _ (.tail _ (.tail _ (.tail _ (.tail _ (.tail _ (.head _))))))))) ok.ci ok.cn hk0 (by omega) ok.P.T ok.P.I ok.P.l0 ok.P.l4 fun la ola o2 lav lits k2 t2 hNla hLla hla hl4 hLits hF2 hk2 hk2' hle2 => ?_
      have hLit : ∀ x ∈ lits, Lit x := fun x hx => by
        obtain ⟨p, hp, e⟩ := hLits x hx
        have := (ok.P.ok p hp).2
        unfold Lit at this ⊢
        rcases e with rfl | rfl
        · exact this
        · rwa [Int.natAbs_neg]
      have hlav := hla.length
      obtain ⟨tb1, tb2⟩ := tabOf_has fun x hx => (hLit x hx).ne
      have tlen : (tabOf lits).length < 64 := by have := foldl_tab_len lits []; unfold tabOf; simp at this; omega
      refine raw_Next I.a I.a.int ?_
      refine ⟨.own (by k_is), ⟨.own (by k_is), ?_⟩⟩
      refine table_ok I.a (I.u.le (by decide)) (.inl (hLla.hasL (.inr (.head _)))) hla (by omega) fun d odd t3 hNd hlow hTab hle3 => ?_
      refine clause_ok I.a (I.u.le (by decide)) (.inr (.head _)) hTab hlow tb1 tlen fun due rr t4 hNrm hOT hle4 => ?_
      refine raw_Next I.a I.a.int ?_
      refine ⟨.own (by k_is), ⟨.ty _, raw_listS (.inl (hLla.hasL (.inr (.tail _ (.head _))))) (by omega) fun lb olb hNb hLb => ?_⟩⟩
      refine tidy_ok I.a (I.u.le (by decide)) (hLb.hasL (.inr (.head _))) hla (by omega) hLit fun w2 r2 t5 hN2 hO2 hle5 => ?_
      have e2 : r2 = rr := Nrm.uniq hN2 hNrm fun x => (tb2 x).symm
      subst e2
      refine vCmp_raw (ot_int hO2) (raw_neD I.u (by decide) (OT.dv hO2) (OT.dv (OT.le hOT hle5)) (oD_dep _) fun b hb => ⟨fun q => absurd rfl (hb.mp q), fun _ => ?_⟩)
      refine ⟨.own (by k_is), ⟨.ty _, raw_tupleL (hLla.hasL (.inr (.tail _ (.tail _ (.head _))))) (by rw [hlav, sizeLine_eq]; omega) fun tb t6 hle6 htb => ?_⟩⟩
      refine tidyq_ok I.a (I.u.le (by decide)) (.inr (.of htb)) hla (by omega) fun b1 t7 hb1 hle7 => ?_
      refine ⟨.own (by k_is), ?_⟩
      refine inorder_ok I.a (I.u.le (by decide)) (hLla.hasL (.inr (.tail _ (.tail _ (.head _))))) hla hl4 hLit fun b2 t8 hb2 hle8 => ?_
      have eb : b1 = b2 := Bool.eq_iff_iff.mpr ((hb1.trans tidyP_iff).trans hb2.symm)
      refine raw_isNotB ⟨fun q => absurd q (by rw [eb]; simp), fun _ => ?_⟩
      have le28 : Le t t8 := (((((hle2.trans hle3).trans hle4).trans hle5).trans hle6).trans hle7).trans hle8
      have le48 : Le t4 t8 := ((hle5.trans hle6).trans hle7).trans hle8
      refine raw_Next I.a I.a.int ?_
      refine vCmp_raw (ot_int hOT) (raw_isnN (fun hno => ⟨(fun q => nomatch q), fun _ => ?_⟩) fun hsome => ⟨fun _ => ?_, fun q => (nomatch q)⟩)
      · refine raw_nil ?_
        refine LoopEnd.nx (n := (lb, olb) :: (d, odd) :: (la, ola) :: (rg, rgO 0 (2 + r1) u1 u2 u3) :: X.n ol od ols o2) ?_
        exact ⟨⟨X.m, (rg, rgO 0 (2 + r1) u1 u2 u3) :: X.n ol od ols o2, X.k c'.L, t8⟩, ⟨m_sub rfl rfl rfl rfl, .cons _ (.cons _ (.cons _ (.refl _))), rfl, Le.refl _⟩, ⟨ol, od, ols, o2, k2, cls, cvs, rows, rvs, t8, ok.le le28, hB.le le28, hF2, by omega, by omega, Nat.zero_le _, by omega⟩⟩
      · obtain ⟨cl, rfl⟩ : ∃ cl, r2 = some cl := by
          cases r2 with
          | none => exact absurd hOT hsome
          | some cl => exact ⟨cl, rfl⟩
        have hcl : Cl cl := ⟨hNrm.2.1, fun x hx => hLit x ((tb2 x).mp ((hNrm.2.2 x).mp hx))⟩
        have hcl4 := hcl.len
        obtain ⟨ca, cav, rfl, hcT, hcI⟩ := hOT
        have hcal := hcI.length
        have Jx : ∀ σ' : St, (X.x, instObj 169 X.dx) ∈ σ'.n → (X.dx, od) ∈ σ'.n → Inst c' σ' X.x X.dx od X.ls X.ln (emp cls) := fun σ' m1 m2 => ⟨.inr m1, .inr m2, hB.e⟩
        refine ⟨_, _, meth_steps I.a (Jx _ (.tail _ (.tail _ (.tail _ (.tail _ (.tail _ (.tail _ (.head _))))))) (.tail _ (.tail _ (.tail _ (.tail _ (.tail _ (.tail _ (.tail _ (.head _))))))))) (by k_is) (by k_is) (by k_is) (hB.e.no fun _ _ _ _ _ _ _ => rfl), ?_⟩
        intro w6
        refine ⟨.ty _, raw_listS (.inr (hcT.le le48)) (by omega) fun lg olg hNg hLg => ?_⟩
        refine ⟨Nat.zero_le _, fun pr hpr => ?_⟩
        refine add_ok (pr := []) (cl := cl) 9 7 I.a (I.u.le (by decide)) (Jx _ (.tail _ (.tail _ (.tail _ (.tail _ (.tail _ (.tail _ (.tail _ (.tail _ (.head _))))))))) (.tail _ (.tail _ (.tail _ (.tail _ (.tail _ (.tail _ (.tail _ (.tail _ (.tail _ (.head _))))))))))) rfl rfl hB.L (by omega) (.inl ⟨hLg.hasL (.inr (.tail _ (.head _))), fun q => hNg (q ▸ List.mem_append_left _ (.tail _ (.tail _ (.tail _ (.tail _ (.tail _ (.head _)))))))⟩) hcI (by omega) (.inl ⟨lst_has (.inr (.head _)), fun q => hpr (q ▸ List.mem_append_left _ (.tail _ (.tail _ (.tail _ (.tail _ (.tail _ (.tail _ (.head _))))))))⟩) .nil (by decide) (by decide) (fun p hp => nomatch hp) (fun od' ols' row t9 cv pv tk hr1 hr2 hr3 hO' hL' hrow hcv hpv hle9 => ?_) fun hno => ?_
        · refine ⟨.bi _, raw_len_list (hB.l.hasL (.inr (.tail _ (.tail _ (.tail _ (.tail _ (.tail _ (.tail _ (.tail _ (.tail _ (.tail _ (.tail _ (.head _))))))))))))) (by rw [len1, sizeLine_eq]; omega) fun w7 => ⟨fun q => ?_, fun _ => ?_⟩⟩
          · rw [len3, len1] at q
            simp at q
          · refine ⟨_, _, meth_list (.inr (.tail _ (.tail _ (.tail _ (.tail _ (.tail _ (.tail _ (.tail _ (.tail _ (.tail _ (.tail _ (.head _)))))))))))) hB.l PySem.F.slot_list_append PySem.F.type_list_append, ?_⟩
            refine raw_append 10 rfl hB.l (by rw [len1, sizeLine_eq]; omega) fun ol' hol' => ?_
            have le9 : Le t t9 := le28.trans hle9
            refine raw_nil ?_
            refine LoopEnd.nx (n := (pr, lstObj []) :: (lg, olg) :: (lb, olb) :: (d, odd) :: (la, ola) :: (rg, rgO 0 (2 + r1) u1 u2 u3) :: X.n ol' od' ols' o2) ?_
            refine ⟨⟨X.m, (rg, rgO 0 (2 + r1) u1 u2 u3) :: X.n ol' od' ols' o2, X.k c'.L, t9⟩, ⟨m_sub rfl rfl rfl rfl, .cons _ (.cons _ (.cons _ (.cons _ (.cons _ (.refl _))))), rfl, Le.refl _⟩, ⟨ol', od', ols', o2, k2, cls ++ [cl], _, _, _, t9, ok.le le9, (hB.le le9).add (r := ⟨Str.ofString "input", cl, [], .i (0 + i)⟩) hol' ⟨ca, cav, rfl, (hcT.le le48).le hle9, hcI⟩ hcl hO' hL' ?_ rfl (Nat.zero_le _), hF2, by omega, by omega, Nat.zero_le _, by rw [List.length_append]; show _ + 1 ≤ _; omega⟩⟩
            exact dv_tup hrow (dvs_cons dvS (dvs_cons (ct_iff.mp hcv) (dvs_cons (ct_iff.mp hpv) (dvs_cons dvI dvs_nil))))
        · exact absurd ⟨by unfold ruleDs ruleNames; simp, hcl.T, fun p hp => nomatch hp⟩ hno
    · rintro σ ⟨ol, od, ols, o, k', cls, cvs, rows, rvs, t, ok, hB, hF, hk0, hk1, _, hc⟩
      exact ⟨rfl, ol, od, ols, o, k', cls, cvs, rows, rvs, t, ⟨fun _ _ q => q, .cons _ (.refl _), rfl, Le.refl _⟩, ok, hB, hF, hk0, by omega, Nat.zero_le _, by omega⟩
  clear stg0
  intro σ1 stg1
  -- if there is none
  refine raw_cut (M := Stg c'.w c'.L X 27 1 5) ?_ ?_
  · obtain ⟨ol, od, ols, o, k, cls, cvs, rows, rvs, t, hless, ok, hB, hF, hk0, hk1, hc0, hc1⟩ := stg1
    refine raw_weak hless ?_
    obtain ⟨len1, len2, len3⟩ := hB.len
    refine raw_go1 I.a I.a.int ?_
    refine ⟨Nat.zero_le _, fun em hem => ?_⟩
    refine raw_eqL (ds := cls.map clD) (es := []) I.u (by decide) (hB.l.hasL (.inr (.tail _ (.tail _ (.tail _ (.tail _ (.tail _ (.head _)))))))) (lst_has (.inr (.head _))) hB.d dvs_nil (deps_cl cls) fun b hb => ⟨fun q => ?_, fun q => ?_⟩
    · have hnil : cls = [] := List.map_eq_nil_iff.mp (hb.mp q)
      subst hnil
      obtain ⟨p1, p2, pr, hps⟩ : ∃ p1 p2 pr, X.ps = p1 :: p2 :: pr := by
        have := ok.p2
        match h : X.ps, this with
        | p1 :: p2 :: pr, _ => exact ⟨p1, p2, pr, rfl⟩
      obtain ⟨v1, v2, vr, hpv⟩ : ∃ v1 v2 vr, X.pv = v1 :: v2 :: vr := by
        have h1 := ok.P.I.length
        rw [hps] at h1
        match h : X.pv, h1 with
        | v1 :: v2 :: vr, _ => exact ⟨v1, v2, vr, rfl⟩
      have hI1 : IntsAre [v1] [p1] := by
        have := ok.P.I
        rw [hps, hpv] at this
        cases this with
        | cons n t h => exact .cons _ _ .nil
      have hp1 := ok.P.ok p1 (by rw [hps]; exact .head _)
      have hcl : Cl [p1] := ⟨⟨fun x hx => by rw [List.mem_singleton.mp hx]; omega, List.pairwise_singleton ..⟩, fun x hx => by rw [List.mem_singleton.mp hx]; exact hp1.2⟩
      have gT := ok.P.T
      rw [hpv] at gT
      have hsl : slPick (v1 :: v2 :: vr) none (some 1) = [v1] := sl1 v1 v2 vr
      refine ⟨_, _, meth_list (.inr (.tail _ (.tail _ (.tail _ (.tail _ (.tail _ (.head _))))))) hB.l PySem.F.slot_list_append PySem.F.type_list_append, ?_⟩
      refine raw_sliceT I.a ?_
      intro w1
      refine ⟨X.lp, _, none, some 1, rfl, gT, .none, .int _ _, by rw [hsl]; exact Nat.le_of_ble_eq_true rfl, fun ta t1 hle1 hta => ?_⟩
      rw [hsl] at hta
      refine raw_append 5 rfl hB.l (by rw [len1, sizeLine_eq]; decide) fun ol' hol' => ?_
      have Jx : ∀ σ' : St, (X.x, instObj 169 X.dx) ∈ σ'.n → (X.dx, od) ∈ σ'.n → Inst c' σ' X.x X.dx od X.ls X.ln (emp []) := fun σ' m1 m2 => ⟨.inr m1, .inr m2, hB.e⟩
      refine ⟨_, _, meth_steps I.a (Jx _ (.tail _ (.tail _ (.tail _ (.head _)))) (.tail _ (.tail _ (.tail _ (.tail _ (.head _)))))) (by k_is) (by k_is) (by k_is) (hB.e.no fun _ _ _ _ _ _ _ => rfl), ?_⟩
      intro w2
      refine raw_sliceT I.a ?_
      intro w3
      refine ⟨X.lp, _, none, some 1, rfl, gT.le hle1, .none, .int _ _, by rw [hsl]; exact Nat.le_of_ble_eq_true rfl, fun tb t2 hle2 htb => ?_⟩
      rw [hsl] at htb
      refine ⟨Nat.le_of_ble_eq_true rfl, fun tc t3 hle3 htc => ?_⟩
      intro w4
      refine add_ok (pr := []) (cl := [p1]) 4 2 I.a (I.u.le (by decide)) (Jx _ (.tail _ (.tail _ (.tail _ (.head _)))) (.tail _ (.tail _ (.tail _ (.tail _ (.head _)))))) rfl rfl hB.L (by rw [len3]; decide) (.inr (htb.le hle3)) hI1 (Nat.le_of_ble_eq_true rfl) (.inr (.of htc)) .nil (by decide) (by decide) (fun p hp => nomatch hp) (fun od' ols' row t4 cv pv tk hr1 hr2 hr3 hO' hL' hrow hcv hpv' hle4 => ?_) fun hno => ?_
      · have le4 : Le t t4 := ((hle1.trans hle2).trans hle3).trans hle4
        refine ⟨rfl, ol', od', ols', o, k, [] ++ [[p1]], _, _, _, t4, ⟨fun _ _ q => q, .cons _ (.refl _), rfl, Le.refl _⟩, ok.le le4, (hB.le le4).add (r := ⟨Str.ofString "input", [p1], [], .i 0⟩) hol' ⟨ta, [v1], rfl, hta.le ((hle2.trans hle3).trans hle4), hI1⟩ hcl hO' hL' ?_ rfl (Nat.zero_le _), hF, hk0, hk1, Nat.le_refl _, Nat.le_of_ble_eq_true rfl⟩
        exact dv_tup hrow (dvs_cons dvS (dvs_cons (ct_iff.mp hcv) (dvs_cons (ct_iff.mp hpv') (dvs_cons dvI dvs_nil))))
      · exact absurd ⟨by unfold ruleDs ruleNames; simp, hcl.T, fun p hp => nomatch hp⟩ hno
    · have hne : cls ≠ [] := fun e => (nomatch q.symm.trans (hb.mpr (by rw [e]; rfl)))
      exact ⟨rfl, ol, od, ols, o, k, cls, cvs, rows, rvs, t, ⟨fun _ _ q => q, .cons _ (.refl _), rfl, Le.refl _⟩, ok, hB, hF, hk0, hk1, List.length_pos_iff.mpr hne, hc1⟩
  clear stg1 
  intro σ2 stg2
  -- the resolvents
  refine raw_cut (M := Stg c'.w c'.L X 33 1 5) ?_ ?_
  · obtain ⟨ol, od, ols, o, k, cls, cvs, rows, rvs, t, hless, ok, hB, hF, hk0, hk1, hc0, hc1⟩ := stg2
    refine raw_weak hless ?_
    obtain ⟨len1, len2, len3⟩ := hB.len
    refine raw_For I.a I.a.int I.p I.u.hh (fun x => rfl) ?_
    refine ⟨.ty _, ?_⟩
    intro w1
    refine raw_range fun rg u1 u2 u3 hrg => ?_
    refine ⟨2, _, _, iter_rg (a := 0) (b := 2) (t := u1) (u := u2) (v := u3) I.u.hh rg (by decide) (by decide) (by decide) (by decide) (by decide), JRes c'.w c'.L X rg (rgO 0 2 u1 u2 u3) ol od ols t, ⟨o, k, _, Le.refl _, hF, hk0, by omega⟩, ?_, ?_, ?_⟩
    · rintro i σ s ⟨_⟩ r
      exact (r.N _ (.head _)).1
    · rintro i y I0 oI σ hi hy ⟨o, k', t', ht, hF, hk0, hk1⟩ hnew
      obtain ⟨w5, rfl⟩ := hy
      refine raw_sto I.a ?_
      refine raw_AssignSwap I.a I.u.hh (by rfl) (by rfl) (by rfl) (by rfl) ?_
      refine ⟨.own (by k_is), ⟨.bi _, raw_len_list (hB.l.hasL (.inr (.tail _ (.tail _ (.tail _ (.tail _ (.tail _ (.head _)))))))) (by rw [len1, sizeLine_eq]; omega) fun w6 => ?_⟩⟩
      refine next_ok (ns := X.ns) 7 I.a (I.u.le (by decide)) rfl hF (ok.c.hasL (.inr (.tail _ (.tail _ (.tail _ (.tail _ (.tail _ (.tail _ (.head _))))))))) ok.ci ok.cn hk0 (by omega) (by omega) fun r1 w7 o1 t1 hr10 hr11 hF1 hle1 => ?_
      obtain ⟨c1, cv1, hv1, hT1, hI1, hC1⟩ := clsAt hB.d hB.C hr10 (by rw [← len1]; exact hr11)
      refine raw_getlist (hB.l.hasL (.inr (.tail _ (.tail _ (.tail _ (.tail _ (.tail _ (.head _)))))))) hr10 (by omega) hv1 ?_ rfl
      refine ⟨.own (by k_is), ⟨.bi _, raw_len_list (hB.l.hasL (.inr (.tail _ (.tail _ (.tail _ (.tail _ (.tail _ (.head _)))))))) (by rw [len1, sizeLine_eq]; omega) fun w8 => ?_⟩⟩
      refine next_ok (ns := X.ns) 7 I.a (I.u.le (by decide)) rfl hF1 (ok.c.hasL (.inr (.tail _ (.tail _ (.tail _ (.tail _ (.tail _ (.tail _ (.head _))))))))) ok.ci ok.cn (by omega) (by omega) (by omega) fun r2 w9 o2 t2 hr20 hr21 hF2 hle2 => ?_
      obtain ⟨c2, cv2, hv2, hT2, hI2, hC2⟩ := clsAt hB.d hB.C hr20 (by rw [← len1]; exact hr21)
      refine raw_getlist (hB.l.hasL (.inr (.tail _ (.tail _ (.tail _ (.tail _ (.tail _ (.head _)))))))) hr20 (by omega) hv2 ?_ rfl
      refine ⟨Nat.le_of_ble_eq_true rfl, fun tp t3 hle3 hget => ⟨tp, _, _, rfl, .of hget, ?_⟩⟩
      refine ⟨.own (by k_is), ?_⟩
      have lt3 : Le t t3 := ((ht.trans hle1).trans hle2).trans hle3
      have hpl := ok.P.I.length
      have hp4 := ok.P.l4
      have hp0 := ok.P.l0
      refine ⟨.own (by k_is), ⟨.bi _, raw_lenS (.inr (ok.P.T.le lt3)) (by omega) fun w10 => ?_⟩⟩
      refine next_ok (ns := X.ns) 7 I.a (I.u.le (by decide)) rfl hF2 (ok.c.hasL (.inr (.tail _ (.tail _ (.tail _ (.tail _ (.tail _ (.tail _ (.head _))))))))) ok.ci ok.cn (by omega) (by omega) (by omega) fun r3 w11 o3 t4 hr30 hr31 hF3 hle4 => ?_
      have hr3 : r3.toNat < X.ps.length := by omega
      obtain ⟨u3', hu3, hpp, hpl'⟩ := ok.P.at_ hr3
      refine raw_get (t₀ := t) (.inr ok.P.T) (lt3.trans hle4) hr30 (by omega) hu3 ?_ rfl
      refine right_ok I.a (I.u.le (by decide)) (hT1.le (lt3.trans hle4)) (hT2.le (lt3.trans hle4)) hI1 hI2 hC1 hC2 hpp hpl' fun t5 hle5 => ⟨fun q => (nomatch q), fun _ => ?_⟩
      refine LoopEnd.nx (n := (rg, rgO 0 2 u1 u2 u3) :: X.n ol od ols o3) ?_
      exact ⟨⟨X.m, (rg, rgO 0 2 u1 u2 u3) :: X.n ol od ols o3, X.k c'.L, t5⟩, ⟨m_sub rfl rfl rfl rfl, .refl _, rfl, Le.refl _⟩, ⟨o3, k' + 1 + 1 + 1, t5, (lt3.trans hle4).trans hle5, hF3, by omega, by omega⟩⟩
    · rintro σ ⟨o, k', t', ht, hF, hk0, hk1⟩
      exact ⟨rfl, ol, od, ols, o, k', cls, cvs, rows, rvs, t', ⟨fun _ _ q => q, .cons _ (.refl _), rfl, Le.refl _⟩, ok.le ht, hB.le ht, hF, hk0, by omega, hc0, hc1⟩
  clear stg2
  intro σ3 stg3
  -- the chains
  refine raw_cut (M := Stg c'.w c'.L X 90 1 9) ?_ ?_
  · obtain ⟨ol, od, ols, o, k, cls, cvs, rows, rvs, t, hless, ok, hB, hF, hk0, hk1, hc0, hc1⟩ := stg3
    refine raw_weak hless ?_
    refine raw_For I.a I.a.int I.p I.u.hh (fun x => rfl) ?_
    refine ⟨.ty _, ?_⟩
    intro w1
    refine ⟨.own (by k_is), ?_⟩
    intro w2
    refine next_ok (ns := X.ns) 6 I.a (I.u.le (by decide)) rfl hF (ok.c.hasL (.inr (.tail _ (.tail _ (.tail _ (.tail _ (.tail _ (.head _)))))))) ok.ci ok.cn hk0 (by omega) (by decide) fun r1 w3 o1 t1 hr0 hr4 hF1 hle1 => ?_
    intro w4
    refine raw_range fun rg u1 u2 u3 hrg => ?_
    refine ⟨(1 + r1).toNat, _, _, iter_rg (a := 0) (b := 1 + r1) (t := u1) (u := u2) (v := u3) I.u.hh rg (by decide) (by omega) (by split <;> omega) (by decide) (by omega), JIn c'.w c'.L X rg (rgO 0 (1 + r1) u1 u2 u3) 34 14 1 5, ⟨ol, od, ols, o1, k + 1, cls, cvs, rows, rvs, _, ok.le hle1, hB.le hle1, hF1, by omega, by omega, hc0, by omega⟩, ?_, ?_, ?_⟩
    · rintro i σ s ⟨_⟩ r
      exact (r.N _ (.head _)).1
    · rintro i y I0 oI σ hi hy ⟨ol, od, ols, o, k', cls, cvs, rows, rvs, t, ok, hB, hF, hk0, hk1, hc0, hc1⟩ hnew
      obtain ⟨w5, rfl⟩ := hy
      refine raw_sto I.a ?_
      refine ⟨.own (by k_is), ?_⟩
      refine raw_know (φ := X.lc ≠ X.lcl ∧ X.lc ≠ X.ls) (fun s r => ⟨r.apart (i := 6) (j := 5) rfl rfl (by decide), r.apart (i := 6) (j := 2) rfl rfl (by decide)⟩) fun hlc => ?_
      refine chained_ok (ns := X.ns) (ps := X.ps) (cls := cls) (rows := rows) 7 5 4 2 I.a (I.u.le (by decide)) rfl rfl rfl rfl (by decide) (.inr (.tail _ (.tail _ (.tail _ (.head _))))) hF (ok.c.hasL (.inr (.tail _ (.tail _ (.tail _ (.tail _ (.tail _ (.tail _ (.head _))))))))) ok.ci ok.cn hk0 (by omega) ok.P hB hc0 (by omega) hlc fun o' ol' od' ols' k2 cls' cvs' rows' rvs' t' hF' hk2 hk2' hB' hl1 hl2 hle' => ⟨fun q => (nomatch q), fun _ => ?_⟩
      refine LoopEnd.nx (n := (rg, rgO 0 (1 + r1) u1 u2 u3) :: X.n ol' od' ols' o') ?_
      exact ⟨⟨X.m, (rg, rgO 0 (1 + r1) u1 u2 u3) :: X.n ol' od' ols' o', X.k c'.L, t'⟩, ⟨m_sub rfl rfl rfl rfl, .refl _, rfl, Le.refl _⟩, ⟨ol', od', ols', o', k2, cls', cvs', rows', rvs', t', ok.le hle', hB', hF', by omega, by omega, by omega, by omega⟩⟩
    · rintro σ ⟨ol, od, ols, o, k', cls, cvs, rows, rvs, t, ok, hB, hF, hk0, hk1, hc0, hc1⟩
      exact ⟨rfl, ol, od, ols, o, k', cls, cvs, rows, rvs, t, ⟨fun _ _ q => q, .cons _ (.refl _), rfl, Le.refl _⟩, ok, hB, hF, hk0, by omega, hc0, by omega⟩
  clear stg3
  intro σ4 stg4
  obtain ⟨ol, od, ols, o, k, cls, cvs, rows, rvs, t, hless, ok, hB, hF, hk0, hk1, hc0, hc1⟩ := stg4
  refine raw_weak hless ?_
  obtain ⟨len1, len2, len3⟩ := hB.len
  have hpl := ok.P.I.length
  have hp4 := ok.P.l4
  have hp2 := ok.p2
  have hnl : X.nv.length = X.ps.length + 1 := by rw [ok.ni.length]; unfold named; simp
  have rkeep : ∀ {rg : Addr} {a b : Int} {t u v : Tok} {n : List (Addr × Obj)} {k : List (Str × Addr × Option Value)} {m : List (Str × Value)} {tt : Heap} {kk : List (Str × Addr × Option Value)} (hk : kk.Sublist k) (s : Shared), R c' ⟨m, (rg, rgO a b t u v) :: n, k, tt⟩ s → IsRange s.heap rg a b 1 t u v ∧ ∀ h' : Heap, (∀ b o, s.heap.get? b = some o → b ∉ kk.map (·.2.1) → b ∉ frs c'.S → h'.get? b = some o) → IsRange h' rg a b 1 t u v := fun hk s r =>
    ⟨(r.N _ (.head _)).1, fun h' kp => kp _ _ (r.N _ (.head _)).1 (off_cells r hk (.inr (.head _)) fun v e => nomatch e) (r.O _ (List.mem_append_left _ (.head _)))⟩
  -- the steps' clauses
  refine raw_Next I.a I.a.int ?_
  refine raw_comp [(Str.ofString "proof_now", c'.L + 1, some (.ref X.x))] I.a I.u (fun x => rfl) (fun s r => closure_cells r (by rfl)) (List.forall_mem_singleton.mpr rfl) (by rfl) (by decide) (by decide) ?_
  refine ⟨.ty _, ⟨.bi _, raw_len_list (hB.l.hasL (.inr (.tail _ (.tail _ (.tail _ (.tail _ (.head _))))))) (by rw [len1, sizeLine_eq]; omega) fun w1 => raw_range fun rg u1 u2 u3 hrg => ?_⟩⟩
  refine ⟨.refl _, cvs.length, _, _, by rw [len1, sizeLine_eq]; omega, iter_rg (a := 0) (b := cvs.length) (t := u1) (u := u2) (v := u3) I.u.hh rg (by decide) (by omega) (by split <;> omega) (by decide) (by omega), fun s r => rkeep (.refl _) s r, fun i t acc => DVs t ((cls.take i).map clD) acc, fun i t t' acc l h => h.le l, fun _ _ => dvs_nil, ?_, ?_⟩
  · intro s1 c2 t2 i y acc I2 oI2 D2 oD2 rr G a2 u2 hi hy hJ
    obtain ⟨w2, rfl⟩ := hy
    have hic : i < cls.length := by omega
    have hir : i < rows.length := by omega
    have J2 : ∀ σ', Inst c2 σ' X.x X.dx od X.ls X.ln (emp cls) := fun σ' => Inst.gr ⟨.inr (.tail _ (.tail _ (.tail _ (.head _)))), .inr (.tail _ (.tail _ (.tail _ (.tail _ (.head _))))), hB.e⟩ rr (.refl _) G
    have L2 : ∀ σ', HasL c2 σ' X.ls rvs := fun σ' => hB.L.hasL (Has.gr (.inr (.tail _ (.tail _ (.head _)))) rr G (off_cells rr (.refl _) (.inr (.tail _ (.tail _ (.head _)))) hB.L.noCell))
    obtain ⟨rv, hrv, hrd⟩ := dsAt (i := i) (d := rowD rows[i]) hB.R (by rw [List.getElem?_map, List.getElem?_eq_getElem hir]; rfl)
    obtain ⟨ra, r0, cv, p0, n0, rfl, hrT, hcv⟩ := dv_row hrd
    refine raw_sto a2 ⟨fun _ => ?_, fun q => (nomatch q)⟩
    refine ⟨_, _, meth_steps a2 (J2 _) (by k_is) (by k_is) (by k_is) (hB.e.no fun _ _ _ _ _ _ _ => rfl), ?_⟩
    refine clause_at_ok (k := 0 + i) a2 (u2 _ (I.u.le (by decide))) (J2 _) (L2 _) (by omega) (by omega) (by rw [show (0 + (i : Int)).toNat = i by omega]; exact hrv) ((hrT.le rr.V).le G.v) fun t3 hle3 => ⟨⟨.refl _, rfl⟩, ?_⟩
    have ecl : rows[i].cl = cls[i] := by
      have := congrArg (·[i]?) hB.m
      simp only [List.getElem?_map, List.getElem?_eq_getElem hir, List.getElem?_eq_getElem hic, Option.map_some, Option.some.injEq] at this
      exact this
    show DVs t3 ((cls.take (i + 1)).map clD) _
    rw [List.take_add_one, List.getElem?_eq_getElem hic, List.map_append]
    refine (DVs.le hle3 hJ).app (DVs.one ?_)
    rw [← ecl]
    exact ct_iff.mp (CT.le (CT.le (CT.le hcv rr.V) G.v) hle3)
  intro t2 acc D2 oD2 hle2 hacc hlen2 hLo2 hND2
  rw [len1, List.take_length] at hacc
  refine raw_neL (ds := cls.map clD) (es := cls.map clD) I.u (by decide) (hLo2.hasL (.inr (.head _))) (hB.l.hasL (.inr (.tail _ (.tail _ (.tail _ (.tail _ (.tail _ (.tail _ (.head _))))))))) hacc (hB.d.le hle2) (deps_cl cls) fun b hb => ⟨fun q => absurd rfl (hb.mp q), fun _ => ?_⟩
  -- the refusals
  refine raw_Next I.a I.a.int ?_
  refine ⟨.own (by k_is), ⟨.bi _, raw_len_list (hB.l.hasL (.inr (.tail _ (.tail _ (.tail _ (.tail _ (.tail _ (.tail _ (.head _))))))))) (by rw [len1, sizeLine_eq]; omega) fun w3 => ?_⟩⟩
  rw [show (cvs.length : Int) = rows.length by omega]
  refine are_refused_ok (rows := rows) I.a (I.u.le (by decide)) ⟨.inr (.tail _ (.tail _ (.tail _ (.tail _ (.head _))))), .inr (.tail _ (.tail _ (.tail _ (.tail _ (.tail _ (.head _)))))), hB.e⟩ (.inr (.tail _ (.tail _ (.tail _ (.head _))))) hB.L (hB.R.le hle2) (by omega) hB.n (.inr (.tail _ (.tail _ (.head _)))) ok.n ok.ni (ok.P.T.le hle2) (by omega) (by omega) fun t3 hle3 => ⟨fun q => (nomatch q), fun _ => ?_⟩
  -- the names
  refine raw_Next I.a I.a.int ?_
  have le3 : Le t t3 := Le.trans hle2 hle3
  have gPT : TupAt t3 X.lp X.pv := ok.P.T.le le3
  refine raw_comp [(Str.ofString "proof_now", c'.L + 1, some (.ref X.x))] I.a I.u (fun x => rfl) (fun s r => closure_cells r (by rfl)) (List.forall_mem_singleton.mpr rfl) (by rfl) (by decide) (by decide) ?_
  refine ⟨.ty _, ?_⟩
  intro w4
  refine ⟨.bi _, raw_lenS (.inr gPT) (by omega) fun w5 => ?_⟩
  intro w6 w7
  refine raw_range2 fun rg2 v1 v2 v3 hrg2 => ?_
  refine ⟨.refl _, X.pv.length, _, _, by rw [hpl, sizeLine_eq]; omega, iter_rg (a := 1) (b := X.pv.length + 1) (t := v1) (u := v2) (v := v3) I.u.hh rg2 (by decide) (by omega) (by split <;> omega) (by decide) (by omega), fun s r => rkeep (.refl _) s r, fun i t acc => IntsAre acc ((List.range i).map fun (j : Nat) => 5 * (1 + (j : Int))), fun _ _ _ _ _ h => h, fun _ _ => .nil, ?_, ?_⟩
  · intro s1 c2 t4 i y acc I2 oI2 D3 oD3 rr G a2 u2 hi hy hJ
    obtain ⟨w8, rfl⟩ := hy
    have J2 : ∀ σ', Inst c2 σ' X.x X.dx od X.ls X.ln (emp cls) := fun σ' => Inst.gr ⟨.inr (.tail _ (.tail _ (.tail _ (.tail _ (.tail _ (.head _)))))), .inr (.tail _ (.tail _ (.tail _ (.tail _ (.tail _ (.tail _ (.head _))))))), hB.e⟩ rr (.refl _) G
    have N2 : ∀ σ', HasL c2 σ' X.ln X.nv := fun σ' => ok.n.hasL (Has.gr (.inr (.tail _ (.tail _ (.tail _ (.head _))))) rr G (off_cells rr (.refl _) (.inr (.tail _ (.tail _ (.tail _ (.head _))))) ok.n.noCell))
    refine raw_sto a2 ⟨fun _ => ?_, fun q => (nomatch q)⟩
    refine ⟨_, _, meth_steps a2 (J2 _) (by k_is) (by k_is) (by k_is) (hB.e.no fun _ _ _ _ _ _ _ => rfl), ?_⟩
    refine names_ok a2 (u2 _ (I.u.le (by decide))) (J2 _) (N2 _) (by omega) (Nat.lt_of_lt_of_le (show (1 + (i : Int)).natAbs < 10 by omega) (by decide +kernel)) (fun t5 v h1 h2 hv hle5 => ⟨⟨.refl _, rfl⟩, ?_⟩) fun hno => absurd ⟨by omega, by omega⟩ hno
    have hi1 : i + 1 < (named X.ps.length).length := by unfold named; simp; omega
    obtain ⟨tv', hv'⟩ := ints_at ok.ni hi1
    rw [show (1 + (i : Int)).toNat = i + 1 by omega, hv'] at hv
    cases hv
    show IntsAre _ ((List.range (i + 1)).map fun (j : Nat) => 5 * (1 + (j : Int)))
    rw [List.range_succ, List.map_append, List.map_singleton]
    refine hJ.append ?_
    have e : (named X.ps.length).getD (i + 1) 0 = 5 * (1 + (i : Int)) := named_at (by omega)
    rw [e]
    exact .cons _ _ .nil
  intro t4 acc D3 oD3 hle4 hacc3 hlen3 hLo3 hND3
  refine raw_comp [] I.a I.u (fun x => rfl) (fun s r => closure_cells r (by rfl)) (fun y hy => (nomatch hy)) (by rfl) (by decide) (by decide) ?_
  refine ⟨.ty _, ?_⟩
  intro w9
  refine ⟨.bi _, raw_lenS (.inr (gPT.le hle4)) (by omega) fun w10 => ?_⟩
  intro w11 w12
  refine raw_range2 fun rg3 x1 x2 x3 hrg3 => ?_
  refine ⟨List.nil_sublist _, X.pv.length, _, _, by rw [hpl, sizeLine_eq]; omega, iter_rg (a := 1) (b := X.pv.length + 1) (t := x1) (u := x2) (v := x3) I.u.hh rg3 (by decide) (by omega) (by split <;> omega) (by decide) (by omega), fun s r => rkeep (List.nil_sublist _) s r, fun i t acc => IntsAre acc ((List.range i).map fun (j : Nat) => 5 * (1 + (j : Int))), fun _ _ _ _ _ h => h, fun _ _ => .nil, ?_, ?_⟩
  · intro s1 c2 t5 i y acc I2 oI2 D4 oD4 rr G a2 u2 hi hy hJ
    obtain ⟨w13, rfl⟩ := hy
    refine raw_sto a2 ⟨fun _ => ?_, fun q => (nomatch q)⟩
    intro w14
    refine ⟨IntMulOk.of_left (intBits_le_64 (by decide) (by decide)), fun w15 => ⟨⟨.refl _, rfl⟩, ?_⟩⟩
    show IntsAre _ ((List.range (i + 1)).map fun (j : Nat) => 5 * (1 + (j : Int)))
    rw [List.range_succ, List.map_append, List.map_singleton]
    exact hJ.append (.cons _ _ .nil)
  intro t5 acc4 D4 oD4 hle5 hacc4 hlen4 hLo4 hND4
  refine raw_neL I.u (by decide) (hLo3.hasL (.inr (.tail _ (.tail _ (.head _))))) (hLo4.hasL (.inr (.head _))) (ints_dvs hacc3) (ints_dvs hacc4) (by rw [deps_i]; decide) fun b hb => ⟨fun q => absurd rfl (hb.mp q), fun _ => ?_⟩
  -- the end
  refine raw_Next I.a I.a.int ?_
  have Jx : ∀ σ' : St, (X.x, instObj 169 X.dx) ∈ σ'.n → (X.dx, od) ∈ σ'.n → Inst c' σ' X.x X.dx od X.ls X.ln (emp cls) := fun σ' m1 m2 => ⟨.inr m1, .inr m2, hB.e⟩
  have le5 : Le t t5 := (le3.trans hle4).trans hle5
  refine raw_empty I.a (Jx _ (.tail _ (.tail _ (.tail _ (.tail _ (.tail _ (.tail _ (.tail _ (.tail _ (.head _))))))))) (.tail _ (.tail _ (.tail _ (.tail _ (.tail _ (.tail _ (.tail _ (.tail _ (.tail _ (.head _))))))))))) fun w16 => ?_
  refine ⟨Nat.le_of_ble_eq_true rfl, fun te t6 hle6 hte => ?_⟩
  refine raw_inD (d := .t []) I.u (by decide) (.inl (hB.l.hasL (.inr (.tail _ (.tail _ (.tail _ (.tail _ (.tail _ (.tail _ (.tail _ (.tail _ (.tail _ (.tail _ (.head _)))))))))))))) (hB.d.le (le5.trans hle6)) (dv_tup (.of hte) dvs_nil) (deps_cl cls) fun b hb => ⟨fun q => ?_, fun q => ?_⟩
  · obtain ⟨j, ej, hj1, hj2⟩ := emp_some (clD_nil.mp (hb.mp q))
    refine ⟨_, _, meth_list (.inr (.tail _ (.tail _ (.tail _ (.tail _ (.tail _ (.tail _ (.tail _ (.tail _ (.tail _ (.tail _ (.head _)))))))))))) hB.l PySem.F.slot_list_index PySem.F.type_list_index, ?_⟩
    refine ⟨Nat.le_of_ble_eq_true rfl, fun tf t7 hle7 htf => ?_⟩
    refine raw_index (d := .t []) (j := j) I.u (by decide) (.inr (.tail _ (.tail _ (.tail _ (.tail _ (.tail _ (.tail _ (.tail _ (.tail _ (.tail _ (.tail _ (.head _)))))))))))) hB.l (hB.d.le ((le5.trans hle6).trans hle7)) (dv_tup (.of htf) dvs_nil) (deps_cl cls) (by rw [List.length_map]; omega) (by rw [List.getElem?_map, hj1]; rfl) (fun m hm e => ?_) fun w17 => ⟨fun _ => ?_, fun q => (nomatch q.symm.trans (beq_iff_eq.mpr ej))⟩
    · rw [List.getElem?_map] at e
      obtain ⟨cl, hcl, e⟩ := Option.map_eq_some_iff.mp e
      injection e with e
      rw [List.map_eq_nil_iff.mp e] at hcl
      exact hj2 m hm hcl
    · refine ⟨_, _, meth_steps I.a (Jx _ (.tail _ (.tail _ (.tail _ (.tail _ (.tail _ (.tail _ (.tail _ (.tail _ (.head _))))))))) (.tail _ (.tail _ (.tail _ (.tail _ (.tail _ (.tail _ (.tail _ (.tail _ (.tail _ (.head _))))))))))) (by k_is) (by k_is) (by k_is) (hB.e.no fun _ _ _ _ _ _ _ => rfl), ?_⟩
      refine count_ok I.a (I.u.le (by decide)) (Jx _ (.tail _ (.tail _ (.tail _ (.tail _ (.tail _ (.tail _ (.tail _ (.tail _ (.head _))))))))) (.tail _ (.tail _ (.tail _ (.tail _ (.tail _ (.tail _ (.tail _ (.tail _ (.tail _ (.head _))))))))))) (ok.n.hasL (.inr (.tail _ (.tail _ (.tail _ (.tail _ (.tail _ (.tail _ (.head _))))))))) (by omega) fun w18 t8 hle8 => ?_
      refine ⟨.bi _, raw_lenS (.inr (gPT.le ((((hle4.trans hle5).trans hle6).trans hle7).trans hle8))) (by omega) fun w19 => ?_⟩
      exact fin _ _ _ _ _ (beq_iff_eq.mpr (by omega))
  · have en : emp cls = -1 := emp_none fun h => (nomatch q.symm.trans (hb.mpr (clD_nil.mpr h)))
    intro w17 w20
    refine ⟨fun _ => ?_, fun q => (nomatch q.symm.trans (beq_iff_eq.mpr en))⟩
    refine ⟨_, _, meth_steps I.a (Jx _ (.tail _ (.tail _ (.tail _ (.tail _ (.tail _ (.tail _ (.tail _ (.tail _ (.head _))))))))) (.tail _ (.tail _ (.tail _ (.tail _ (.tail _ (.tail _ (.tail _ (.tail _ (.tail _ (.head _))))))))))) (by k_is) (by k_is) (by k_is) (hB.e.no fun _ _ _ _ _ _ _ => rfl), ?_⟩
    refine count_ok I.a (I.u.le (by decide)) (Jx _ (.tail _ (.tail _ (.tail _ (.tail _ (.tail _ (.tail _ (.tail _ (.tail _ (.head _))))))))) (.tail _ (.tail _ (.tail _ (.tail _ (.tail _ (.tail _ (.tail _ (.tail _ (.tail _ (.head _))))))))))) (ok.n.hasL (.inr (.tail _ (.tail _ (.tail _ (.tail _ (.tail _ (.tail _ (.head _))))))))) (by omega) fun w18 t8 hle8 => ?_
    refine ⟨.bi _, raw_lenS (.inr (gPT.le (((hle4.trans hle5).trans hle6).trans hle8))) (by omega) fun w19 => ?_⟩
    exact fin _ _ _ _ _ (beq_iff_eq.mpr (by omega))
end
end Mine
end
section
open PySem PySem.W PyProof.Rows
set_option Elab.async false
set_option maxRecDepth 100000
set_option maxHeartbeats 8000000
namespace Mine
theorem said_ok : PySem.Challenge.rw_nz0136_01.wellSaid = true := by
  rw [PySem.W.Fast.te9446332074065402090]
  kernel_rfl
theorem the_law : PySem.Challenge.rw_nz0136_01.Holds := by
  w_on
  refine holds_law said_ok fun said => ?_
  first
    | refine holds_open (q := view) (loose := []) (Xt := fun s => xlAt view [] s && recOk (RowW.records PySem.Challenge.rw_nz0136_01.row.toRowW) s) (XP := XL view []) (Yf := HH.obs) (Ya := HH.val) (YP := HH.says) (N := 3258) left HH.of HH.keeps (fun s e => xl_of s (Bool.and_eq_true_iff.mp e).1) XL.keeps (by rfl) (by rfl) (by rfl) (fun s e => recFacts_of (Bool.and_eq_true_iff.mp e).2) (by rfl) (by first | assumption | decide +kernel) (by decide +kernel) ⟨rfl, rfl, rfl, rfl, rfl, by decide +kernel⟩ ?hw ?hc
    | refine holds_openC (q := view) (loose := []) (Xt := fun s => xlAt view [] s && recOk (RowW.records PySem.Challenge.rw_nz0136_01.row.toRowW) s) (XP := XL view []) (Yf := HH.obs) (Ya := HH.val) (YP := HH.says) (N := 3258) left HH.of HH.keeps (fun s e => xl_of s (Bool.and_eq_true_iff.mp e).1) XL.keeps (by rfl) (by rfl) (by rfl) (fun s e => recFacts_of (Bool.and_eq_true_iff.mp e).2) (by rfl) (by first | assumption | decide +kernel) (by decide +kernel) ⟨rfl, rfl, rfl, rfl, rfl, by decide +kernel⟩ ?hw ?hc
  case hw => w_witness2
  case hc =>
    intro w s₀ s₁ mg mb G Y fa o pm cd doc dV kV ho hd hcd hD hmg hg args vals as hpre hlay hrd hwl hlo
    have KX := kIn_of Y
    have X := (Ground.X G).1
    have V := (Ground.X G).2
    refine Ground.open G ?_
    intro T B D TE TW
    obtain ⟨_, _, M⟩ := bmod_of_top T
    have TA := at_of_top T
    clear hd ho hcd hD Y
    wrow_args hpre hlay hrd hwl hlo
    all_goals (first | refine callC_kw (enter_call ?_) | refine enter_call ?_ | refine callC_kw (enter_callW ?_) | refine enter_callW ?_ | w_how)
    all_goals (w_top on)
    all_goals (try refine codeAny_mono ?_ (fun _ _ g => GoodW.toG g))
    rename_i hL' _ _ _ hI' _ hlen _
    have efa : (some (Value.ref fa)) = some (.ref 245) := hmg.symm.trans (mg_of KX T.g (by k_is))
    cases efa
    have hz : _ ≤ sizeLine := Nat.le_trans (Nat.le_of_eq hI'.length) (show _ ≤ sizeLine by rw [sizeLine_eq]; omega +splitDisjunctions)
    refine Mine.law_top KX T hL' hI' hz fun s' Z S => ?_
    obtain ⟨h', tk, rfl⟩ := Z
    refine ⟨.inl ⟨.bool true, ofPy (.bool true), [], rfl, fun _ => ?g1, ?g2, ?g3, fun q => ?g4⟩, S, rfl, hg⟩
    case g1 => rfl
    case g2 => exact .bool _
    case g3 => first | kernel_rfl | (show (WShape.has _ _ _ && _) = true; refine Bool.and_eq_true_iff.mpr ⟨by first | rfl | kernel_rfl | simp [WShape.has, ofPy], by first | rfl | kernel_rfl | simp [WTm.holds, WTm.value]⟩)
    case g4 => exact ⟨.nil, fun a ha => nomatch ha⟩
end Mine
end
theorem PySem.Challenge.cw_nz0136_01_holds : PySem.Challenge.rw_nz0136_01.Holds := by
  exact Mine.the_law
