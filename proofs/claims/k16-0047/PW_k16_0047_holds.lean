import PyProof.Rows.All
import Wide.All
import OpenK.AllK
import Wide.FinOn
import PySem.Challenge.RW_k16_0047
set_option Elab.async false
set_option maxRecDepth 100000
set_option linter.unusedVariables false
namespace Mine
open PySem PySem.Calls PyProof.Rows

/-- plain data of the program's -/
inductive D where
  | none
  | bool (b : Bool)
  | int (i : Int)
  | flt (b : UInt64)
  | str (s : Str)
  | list (xs : List D)
  | tup (xs : List D)

/-- no list is longer than this -/
abbrev cap : Nat := 1048576

/-- the ledger of objects that will not change any more -/
abbrev Led := Addr → Option Obj

abbrev listO (vs : List Value) (n : Nat) : Obj := { cls := .type "list", data := .seq vs.toArray n }
abbrev tupO (vs : List Value) (n : Nat) : Obj := { cls := .type "tuple", data := .seq vs.toArray n }

mutual
inductive Rp (M : Led) : Value → D → Prop
  | none : Rp M .none .none
  | bool (b : Bool) : Rp M (.bool b) (.bool b)
  | int (i : Int) (t : Tok) : Rp M (.int i t) (.int i)
  | flt (b : UInt64) (t : Tok) : Rp M (.float b t) (.flt b)
  | str (s : Str) (t : Tok) : Rp M (.str s t) (.str s)
  | list {a : Addr} {vs : List Value} {n : Nat} {ds : List D} : M a = some (listO vs n) → RpL M vs ds → ds.length ≤ cap → Rp M (.ref a) (.list ds)
  | tup {a : Addr} {vs : List Value} {n : Nat} {ds : List D} : M a = some (tupO vs n) → RpL M vs ds → Rp M (.ref a) (.tup ds)
inductive RpL (M : Led) : List Value → List D → Prop
  | nil : RpL M [] []
  | cons {v : Value} {vs : List Value} {d : D} {ds : List D} : Rp M v d → RpL M vs ds → RpL M (v :: vs) (d :: ds)
end

def LedLe (M M' : Led) : Prop := ∀ a o, M a = some o → M' a = some o
theorem LedLe.refl (M : Led) : LedLe M M := fun _ _ h => h
theorem LedLe.trans {M M' M'' : Led} (h : LedLe M M') (h' : LedLe M' M'') : LedLe M M'' := fun a o e => h' a o (h a o e)

mutual
theorem Rp.mono {M M' : Led} (hs : LedLe M M') : ∀ {v : Value} {d : D}, Rp M v d → Rp M' v d
  | _, _, .none => .none
  | _, _, .bool b => .bool b
  | _, _, .int i t => .int i t
  | _, _, .flt b t => .flt b t
  | _, _, .str s t => .str s t
  | _, _, .list h r c => .list (hs _ _ h) (RpL.mono hs r) c
  | _, _, .tup h r => .tup (hs _ _ h) (RpL.mono hs r)
theorem RpL.mono {M M' : Led} (hs : LedLe M M') : ∀ {vs : List Value} {ds : List D}, RpL M vs ds → RpL M' vs ds
  | _, _, .nil => .nil
  | _, _, .cons h r => .cons (Rp.mono hs h) (RpL.mono hs r)
end

theorem RpL.length {M : Led} : ∀ {vs : List Value} {ds : List D}, RpL M vs ds → vs.length = ds.length
  | _, _, .nil => rfl
  | _, _, .cons _ r => by simp [r.length]
theorem RpL.append {M : Led} : ∀ {vs ws : List Value} {ds es : List D}, RpL M vs ds → RpL M ws es → RpL M (vs ++ ws) (ds ++ es)
  | _, _, _, _, .nil, k => k
  | _, _, _, _, .cons h r, k => .cons h (r.append k)
theorem RpL.get {M : Led} : ∀ {vs : List Value} {ds : List D} {k : Nat} {d : D}, RpL M vs ds → ds[k]? = some d → ∃ v, vs[k]? = some v ∧ Rp M v d
  | _, _, k, _, .nil, h => by simp at h
  | _, _, 0, _, .cons h r, e => by simp at e; subst e; exact ⟨_, by simp, h⟩
  | _, _, k + 1, _, .cons h r, e => by simp at e; obtain ⟨v, a, b⟩ := r.get e; exact ⟨v, by simpa using a, b⟩
theorem RpL.get' {M : Led} : ∀ {vs : List Value} {ds : List D} {k : Nat} {v : Value}, RpL M vs ds → vs[k]? = some v → ∃ d, ds[k]? = some d ∧ Rp M v d
  | _, _, k, _, .nil, h => by simp at h
  | _, _, 0, _, .cons h r, e => by simp at e; subst e; exact ⟨_, by simp, h⟩
  | _, _, k + 1, _, .cons h r, e => by simp at e; obtain ⟨v, a, b⟩ := r.get' e; exact ⟨v, by simpa using a, b⟩
theorem RpL.take {M : Led} : ∀ {vs : List Value} {ds : List D} (k : Nat), RpL M vs ds → RpL M (vs.take k) (ds.take k)
  | _, _, 0, _ => by simp; exact .nil
  | _, _, k + 1, .nil => by simp; exact .nil
  | _, _, k + 1, .cons h r => by simp; exact .cons h (r.take k)
theorem RpL.drop {M : Led} : ∀ {vs : List Value} {ds : List D} (k : Nat), RpL M vs ds → RpL M (vs.drop k) (ds.drop k)
  | _, _, 0, h => by simpa using h
  | _, _, k + 1, .nil => by simp; exact .nil
  | _, _, k + 1, .cons h r => by simp; exact r.drop k
theorem RpL.set {M : Led} : ∀ {vs : List Value} {ds : List D} (k : Nat) {v : Value} {d : D}, RpL M vs ds → Rp M v d → RpL M (vs.set k v) (ds.set k d)
  | _, _, _, _, _, .nil, _ => by simp; exact .nil
  | _, _, 0, _, _, .cons h r, e => by simp; exact .cons e r
  | _, _, k + 1, _, _, .cons h r, e => by simp; exact .cons h (r.set k e)

/-- a function of the text -/
structure Fn where
  name : Str
  params : Arguments
  body : List Stmt
  scope : Scope

/-- what is fixed through a run -/
structure Cx where
  prog : Program
  w : World
  mg : Str → Option Value
  mb : Str → Option Value
  fns : List Fn
/-- the built-in names that the texts use -/
def stdBis : List (Str × Value) := [("len", .builtin "len"), ("list", .type "list"), ("range", .type "range"), ("abs", .builtin "abs"), ("type", .type "type"), ("int", .type "int"), ("isinstance", .builtin "isinstance"), ("bool", .type "bool"), ("iter", .builtin "iter")]

structure Cx.Ok (X : Cx) (h : Heap) : Prop where
  g : h.Ns mainGlobals X.mg
  b : h.Ns builtinsNs X.mb
  nolimit : h.NoLimit
  fn : ∀ d ∈ X.fns, ∃ a o pm code doc, X.mg d.name = some (.ref a) ∧ h.get? a = some o ∧ o.data = .func (docDef d.name d.params d.body d.scope pm code doc) ∧ h.CodeRec code d.name
  bi : ∀ p ∈ stdBis, X.mg p.1 = none ∧ X.mb p.1 = some p.2

def Keeps (h h' : Heap) : Prop := ∀ b o, h.get? b = some o → h'.get? b = some o
theorem Keeps.refl (h : Heap) : Keeps h h := fun _ _ e => e
theorem Keeps.trans {h h' h'' : Heap} (x : Keeps h h') (y : Keeps h' h'') : Keeps h h'' := fun b o e => y b o (x b o e)
theorem Keeps.push (h : Heap) (o : Obj) : Keeps h (h.push o) := fun _ _ e => Heap.get?_push_of_some o e

theorem Cx.Ok.keeps {X : Cx} {h h' : Heap} (O : X.Ok h) (hk : Keeps h h') : X.Ok h' where
  g := O.g.keeps hk
  b := O.b.keeps hk
  nolimit := O.nolimit.keeps hk
  fn := fun d hd => let ⟨a, o, pm, code, doc, h1, h2, h3, h4⟩ := O.fn d hd; ⟨a, o, pm, code, doc, h1, hk _ _ h2, h3, h4.keeps hk⟩
  bi := O.bi

/-- the heap went from h to h', the ledger from M to M' -/
structure Ext (h : Heap) (M : Led) (h' : Heap) (M' : Led) : Prop where
  keep : Keeps h h'
  le : LedLe M M'
  new : ∀ a o, h.get? a = some o → M a = none → M' a = none
theorem Ext.refl (h : Heap) (M : Led) : Ext h M h M := ⟨Keeps.refl h, LedLe.refl M, fun _ _ _ e => e⟩
theorem Ext.trans {h h' h'' : Heap} {M M' M'' : Led} (x : Ext h M h' M') (y : Ext h' M' h'' M'') : Ext h M h'' M'' :=
  ⟨x.keep.trans y.keep, x.le.trans y.le, fun a o l e => y.new a o (x.keep _ _ l) (x.new a o l e)⟩
theorem ne_size {h : Heap} {a : Addr} {o : Obj} (e : h.get? a = some o) : a ≠ h.objs.size := Nat.ne_of_lt (Heap.lt_size e)
theorem size_free (h : Heap) : h.get? h.objs.size = none := by
  cases e : h.get? h.objs.size with
  | none => rfl
  | some o => exact absurd rfl (ne_size e)

def LedIn (M : Led) (h : Heap) : Prop := ∀ a o, M a = some o → h.get? a = some o
theorem LedIn.keeps {M : Led} {h h' : Heap} (x : LedIn M h) (k : Keeps h h') : LedIn M h' := fun a o e => k a o (x a o e)

/-- the ledger with one more entry -/
def Led.put (M : Led) (a : Addr) (o : Obj) : Led := fun b => if b = a then some o else M b
theorem Led.put_le {M : Led} {a : Addr} {o : Obj} (h : M a = none) : LedLe M (M.put a o) := fun b o' e => by
  unfold Led.put
  by_cases hb : b = a
  · subst hb; rw [h] at e; cases e
  · rw [if_neg hb]; exact e
theorem Led.put_self (M : Led) (a : Addr) (o : Obj) : M.put a o a = some o := by simp [Led.put]
theorem LedIn.size_none {M : Led} {h : Heap} (x : LedIn M h) : M h.objs.size = none := by
  cases e : M h.objs.size with
  | none => rfl
  | some o => exact absurd (Heap.lt_size (x _ _ e)) (Nat.lt_irrefl _)

structure St (X : Cx) (h₀ : Heap) (M₀ : Led) (W : List (Addr × Obj)) (L : Addr) (M : Led) (m : Str → Option Value) (h : Heap) : Prop where
  ok : X.Ok h₀
  fr : Fr h₀ L h m
  inh : LedIn M h
  ml : M L = none
  m0 : LedLe M₀ M
  mf : ∀ a o, h₀.get? a = some o → M₀ a = none → M a = none
  wd : ∀ q ∈ W, h.get? q.1 = some q.2 ∧ q.1 ≠ L ∧ M q.1 = none

theorem St.okh {X : Cx} {h₀ : Heap} {M₀ : Led} {W : List (Addr × Obj)} {L : Addr} {M : Led} {m : Str → Option Value} {h : Heap} (S : St X h₀ M₀ W L M m h) : X.Ok h := S.ok.keeps S.fr.keep

theorem St.ext {X : Cx} {h₀ : Heap} {M₀ : Led} {W : List (Addr × Obj)} {L : Addr} {M M' : Led} {m : Str → Option Value} {h h' : Heap} (S : St X h₀ M₀ W L M m h) (x : Ext h M h' M') (i : LedIn M' h') :
    St X h₀ M₀ W L M' m h' where
  ok := S.ok
  fr := ⟨S.fr.ns.keeps x.keep, fun b o e => x.keep b o (S.fr.keep b o e), S.fr.above⟩
  inh := i
  ml := let ⟨o, _, _, e, _⟩ := S.fr.ns; x.new L o e S.ml
  m0 := S.m0.trans x.le
  mf := fun a o l e => x.new a o (S.fr.keep _ _ l) (S.mf a o l e)
  wd := fun q hq => ⟨x.keep _ _ (S.wd q hq).1, (S.wd q hq).2.1, x.new _ _ (S.wd q hq).1 (S.wd q hq).2.2⟩

/-- one object more, entered in the ledger -/
theorem Ext.put {h : Heap} {M : Led} (i : LedIn M h) (o : Obj) : Ext h M (h.push o) (M.put h.objs.size o) :=
  ⟨Keeps.push h o, Led.put_le i.size_none, fun a o l e => by unfold Led.put; rw [if_neg (ne_size l)]; exact e⟩
theorem LedIn.put {h : Heap} {M : Led} (i : LedIn M h) (o : Obj) (hf : o.isFreed = false := by rfl) : LedIn (M.put h.objs.size o) (h.push o) := fun a o' e => by
  unfold Led.put at e
  by_cases ha : a = h.objs.size
  · subst ha; rw [if_pos rfl] at e; cases e; exact Heap.get?_push_size _ hf
  · rw [if_neg ha] at e; exact Heap.get?_push_of_some o (i a o' e)
/-- one object more, not in the ledger -/
theorem Ext.push {h : Heap} {M : Led} (o : Obj) : Ext h M (h.push o) M :=
  ⟨Keeps.push h o, LedLe.refl M, fun _ _ _ e => e⟩
/-- the heap grew (keeps), an object at the old end entered -/
theorem Ext.put' {h h' : Heap} {M : Led} {o : Obj} (i : LedIn M h) (k : Keeps h h') (hn : h'.get? h.objs.size = some o) : Ext h M h' (M.put h.objs.size o) ∧ LedIn (M.put h.objs.size o) h' :=
  ⟨⟨k, Led.put_le i.size_none, fun a o l e => by unfold Led.put; rw [if_neg (ne_size l)]; exact e⟩, fun a o' e => by
    unfold Led.put at e
    by_cases ha : a = h.objs.size
    · subst ha; rw [if_pos rfl] at e; cases e; exact hn
    · rw [if_neg ha] at e; exact k _ _ (i a o' e)⟩

inductive B where
  | val (d : D)
  | own (ds : List D)
abbrev Rho := List (Str × B)

def OwnAt (M : Led) (h₀ : Heap) (W : List (Addr × Obj)) (L : Addr) (h : Heap) (a : Addr) (ds : List D) : Prop :=
  ∃ vs n, h.get? a = some (listO vs n) ∧ RpL M vs ds ∧ ds.length ≤ cap ∧ M a = none ∧ a ≠ L ∧ h₀.get? a = none ∧ ∀ q ∈ W, q.1 ≠ a

structure Loc (h₀ : Heap) (W : List (Addr × Obj)) (L : Addr) (M : Led) (m : Str → Option Value) (ρ : Rho) (h : Heap) : Prop where
  vals : ∀ x d, (x, .val d) ∈ ρ → ∃ v, m x = some v ∧ Rp M v d
  owns : ∀ x ds, (x, .own ds) ∈ ρ → ∃ a, m x = some (.ref a) ∧ OwnAt M h₀ W L h a ds
  dist : ∀ x y ds es a, (x, .own ds) ∈ ρ → (y, .own es) ∈ ρ → m x = some (.ref a) → m y = some (.ref a) → x = y

theorem Loc.ext {h₀ : Heap} {W : List (Addr × Obj)} {L : Addr} {M M' : Led} {m : Str → Option Value} {ρ : Rho} {h h' : Heap} (l : Loc h₀ W L M m ρ h) (x : Ext h M h' M') : Loc h₀ W L M' m ρ h' where
  vals := fun y d hy => let ⟨v, a, b⟩ := l.vals y d hy; ⟨v, a, b.mono x.le⟩
  owns := fun y ds hy => let ⟨a, e, vs, n, hg, r, hc, hM, q⟩ := l.owns y ds hy; ⟨a, e, vs, n, x.keep _ _ hg, r.mono x.le, hc, x.new a _ hg hM, q⟩
  dist := l.dist
theorem Loc.sub {h₀ : Heap} {W : List (Addr × Obj)} {L : Addr} {M : Led} {m : Str → Option Value} {ρ ρ' : Rho} {h : Heap} (l : Loc h₀ W L M m ρ h) (s : ∀ q ∈ ρ', q ∈ ρ) : Loc h₀ W L M m ρ' h where
  vals := fun y d hy => l.vals y d (s _ hy)
  owns := fun y ds hy => l.owns y ds (s _ hy)
  dist := fun x y ds es a hx hy => l.dist x y ds es a (s _ hx) (s _ hy)

/-- room for n calls more, one in the other -/
structure Room (A : Around) (n : Nat) : Prop where
  hh : A.handled = none
  depth : A.depth + n < recursionLimit
  units : A.units + 8 * n + 200 < cLine

/-- ρ without x -/
inductive Drop (x : Str) : Rho → Rho → Prop
  | nil : Drop x [] []
  | same {b : B} {r r' : Rho} : Drop x r r' → Drop x ((x, b) :: r) r'
  | ne {y : Str} {b : B} {r r' : Rho} : (y == x) = false → Drop x r r' → Drop x ((y, b) :: r) ((y, b) :: r')
theorem Drop.sub {x : Str} : ∀ {ρ ρ' : Rho}, Drop x ρ ρ' → ∀ q ∈ ρ', q ∈ ρ
  | _, _, .nil, _, h => h
  | _, _, .same r, q, h => List.mem_cons_of_mem _ (r.sub q h)
  | _, _, .ne _ r, q, h => by
    rcases List.mem_cons.mp h with h | h
    · rw [h]; exact List.mem_cons_self
    · exact List.mem_cons_of_mem _ (r.sub q h)
theorem Drop.not {x : Str} : ∀ {ρ ρ' : Rho}, Drop x ρ ρ' → ∀ q ∈ ρ', q.1 ≠ x
  | _, _, .nil, _, h => nomatch h
  | _, _, .same r, q, h => r.not q h
  | _, _, .ne e r, q, h => by
    rcases List.mem_cons.mp h with h | h
    · rw [h]; intro e'; dsimp only at e'; rw [e'] at e; simp at e
    · exact r.not q h
/-- ρ' is a part of ρ without x -/
structure Dr (x : Str) (ρ ρ' : Rho) : Prop where
  sub : ∀ q ∈ ρ', q ∈ ρ
  not : ∀ q ∈ ρ', q.1 ≠ x
theorem Drop.dr {x : Str} {ρ ρ' : Rho} (d : Drop x ρ ρ') : Dr x ρ ρ' := ⟨d.sub, d.not⟩
theorem Dr.of {x : Str} {ρ₀ ρ ρ' : Rho} (h : ∀ q ∈ ρ, q ∈ ρ₀) (d : Drop x ρ ρ') : Dr x ρ₀ ρ' := ⟨fun q hq => h q (d.sub q hq), d.not⟩
end Mine

namespace Mine
open PySem PySem.Calls PyProof.Rows PySem.Spec

/-- the frame at hand -/
structure Fc where
  h₀ : Heap
  M₀ : Led
  W : List (Addr × Obj)
  L : Addr
  m : Str → Option Value
  name : Str
  a : Addr
  cd : Value
abbrev Fc.env (c : Fc) (sc : Scope) : Env := envOf c.name sc c.L c.a c.cd

/-- the names of ρ are locals of a def -/
structure Nm (sc : Scope) (ρ : Rho) : Prop where
  fk : sc.kind = .function
  nm : ∀ q ∈ ρ, sc.names.lookup q.1 = some .local ∧ (q.1 == ("__debug__" : Str)) = false

structure At (X : Cx) (sc : Scope) (c : Fc) (ρ : Rho) (M : Led) (h : Heap) : Prop where
  st : St X c.h₀ c.M₀ c.W c.L M c.m h
  lo : Loc c.h₀ c.W c.L M c.m ρ h
  nm : Nm sc ρ
theorem At.ext {X : Cx} {sc : Scope} {c : Fc} {ρ : Rho} {M M' : Led} {h h' : Heap} (T : At X sc c ρ M h) (x : Ext h M h' M') (i : LedIn M' h') : At X sc c ρ M' h' := ⟨T.st.ext x i, T.lo.ext x, T.nm⟩

/-- t from any state of the frame gives a value v with R M v, and changes nothing that stood -/
def WpM (X : Cx) (n : Nat) (sc : Scope) (c : Fc) (ρ : Rho) (M : Led) {α : Type} (t : Sem α) (R : Led → α → Prop) : Prop :=
  ∀ (A : Around) (E : Value → Shared → Prop) (s : Shared) (Q : α → Shared → Prop), At X sc c ρ M s.heap → Room A n →
    (∀ v h' tk M', LedIn M' h' → Ext s.heap M h' M' → R M' v → Q v { s with heap := h', toks := tk }) →
    wpAny (model X.prog X.w) A t Q E s

def Ev (X : Cx) (n : Nat) (sc : Scope) (ρ : Rho) (e : Expr) (d : D) : Prop := ∀ c M, WpM X n sc c ρ M (eval e (c.env sc)) (fun M v => Rp M v d)
def EvL (X : Cx) (n : Nat) (sc : Scope) (ρ : Rho) (es : List Expr) (ds : List D) : Prop := ∀ c M pos, WpM X n sc c ρ M (spliced (backTo pos (starEach es (c.env sc)))) (fun M vs => RpL M vs ds)
def Tr (X : Cx) (n : Nat) (sc : Scope) (ρ : Rho) (e : Expr) (b : Bool) : Prop := ∀ c M, WpM X n sc c ρ M (isTrue e (c.env sc) (eval e (c.env sc))) (fun _ v => v = b)

section
variable {X : Cx} {n : Nat} {c : Fc} {ρ : Rho} {M : Led} {sc : Scope}

/-- nothing changes but the tokens -/
theorem WpM.here {α : Type} {t : Sem α} {R : Led → α → Prop} (h : ∀ A E s Q, At X sc c ρ M s.heap → Room A n → (∀ v tk, R M v → Q v { s with toks := tk }) → wpAny (model X.prog X.w) A t Q E s) : WpM X n sc c ρ M t R :=
  fun A E s Q T r q => h A E s Q T r fun v tk hv => q v s.heap tk M T.st.inh (Ext.refl _ _) hv

theorem two {α β γ : Type} {R1 : Led → α → Prop} {R2 : Led → β → Prop} {R : Led → γ → Prop} {l : Sem α} {r : α → Sem β} {o : α → β → Sem γ} {A : Around} {E : Value → Shared → Prop} {s : Shared} {Q : γ → Shared → Prop}
    (hl : WpM X n sc c ρ M l R1) (hr : ∀ M' v, LedLe M M' → R1 M' v → WpM X n sc c ρ M' (r v) R2) (mono : ∀ M M' v, LedLe M M' → R1 M v → R1 M' v)
    (ho : ∀ M' a b, LedLe M M' → R1 M' a → R2 M' b → WpM X n sc c ρ M' (o a b) R)
    (T : At X sc c ρ M s.heap) (rm : Room A n) (q : ∀ v h' tk M', LedIn M' h' → Ext s.heap M h' M' → R M' v → Q v { s with heap := h', toks := tk }) :
    wpAny (model X.prog X.w) A l (fun a s₁ => wpAny (model X.prog X.w) A (r a) (fun b s₂ => wpAny (model X.prog X.w) A (o a b) Q E s₂) E s₁) E s := by
  refine hl A E s _ T rm fun v1 h1 tk1 M1 i1 x1 r1 => ?_
  refine hr M1 v1 x1.le r1 A E _ _ (T.ext x1 i1) rm fun v2 h2 tk2 M2 i2 x2 r2 => ?_
  refine ho M2 v1 v2 (x1.le.trans x2.le) (mono _ _ _ x2.le r1) r2 A E _ _ ((T.ext x1 i1).ext x2 i2) rm fun v3 h3 tk3 M3 i3 x3 r3 => ?_
  exact q v3 h3 tk3 M3 i3 ((x1.trans x2).trans x3) r3
theorem one {α β : Type} {R1 : Led → α → Prop} {R : Led → β → Prop} {l : Sem α} {r : α → Sem β} {A : Around} {E : Value → Shared → Prop} {s : Shared} {Q : β → Shared → Prop}
    (hl : WpM X n sc c ρ M l R1) (hr : ∀ M' v, LedLe M M' → R1 M' v → WpM X n sc c ρ M' (r v) R)
    (T : At X sc c ρ M s.heap) (rm : Room A n) (q : ∀ v h' tk M', LedIn M' h' → Ext s.heap M h' M' → R M' v → Q v { s with heap := h', toks := tk }) :
    wpAny (model X.prog X.w) A l (fun a s₁ => wpAny (model X.prog X.w) A (r a) Q E s₁) E s := by
  refine hl A E s _ T rm fun v1 h1 tk1 M1 i1 x1 r1 => ?_
  refine hr M1 v1 x1.le r1 A E _ _ (T.ext x1 i1) rm fun v3 h3 tk3 M3 i3 x3 r3 => ?_
  exact q v3 h3 tk3 M3 i3 (x1.trans x3) r3

theorem Ev.name {x : Str} {pos : Pos} {d : D} (hx : (x, B.val d) ∈ ρ) : Ev X n sc ρ (.Name x pos) d :=
  fun c M => .here fun A E s Q T _ q => by
    obtain ⟨v, hv, r⟩ := T.lo.vals x d hx
    have hn := T.nm.nm _ hx
    exact ld (h₀ := c.h₀) T.st.fr hv (q v s.toks r) T.nm.fk hn.1 hn.2
theorem Ev.cint {i : Int} {k pos} : Ev X n sc ρ (.Constant (.int i) k pos) (.int i) := fun c M => .here fun A E s Q T _ q => wpAny_Constant_int (q _ _ (.int i _))
theorem Ev.cnone {k pos} : Ev X n sc ρ (.Constant .none k pos) .none := fun c M => .here fun A E s Q T _ q => wpAny_Constant_none (q _ _ .none)
theorem Ev.cbool {b k pos} : Ev X n sc ρ (.Constant (.bool b) k pos) (.bool b) := fun c M => .here fun A E s Q T _ q => wpAny_Constant_bool (q _ _ (.bool b))
theorem Ev.cstr {x : Str} {k pos} : Ev X n sc ρ (.Constant (.str x) k pos) (.str x) := fun c M => .here fun A E s Q T _ q => wpAny_Constant_str (q _ _ (.str x _))

theorem rpmono {d : D} : ∀ (M M' : Led) (v : Value), LedLe M M' → Rp M v d → Rp M' v d := fun _ _ _ l r => r.mono l

/-- what an operator gives -/
def Op2 (o : Value → Value → Sem Value) (d1 d2 d : D) : Prop := ∀ (X : Cx) (n : Nat) (sc : Scope) (c : Fc) (ρ : Rho) (M : Led) (a b : Value), Rp M a d1 → Rp M b d2 → WpM X n sc c ρ M (o a b) (fun M v => Rp M v d)

theorem Ev.binop {l r : Expr} {op : Operator} {pos : Pos} {d1 d2 d : D} (hl : Ev X n sc ρ l d1) (hr : Ev X n sc ρ r d2) (ho : Op2 (binaryOp op) d1 d2 d) : Ev X n sc ρ (.BinOp l op r pos) d :=
  fun c M A E s Q T rm q => wpAny_BinOp (two (hl c M) (fun M' _ _ _ => hr c M') rpmono (fun M' a b _ ra rb => ho X n sc c ρ M' a b ra rb) T rm q)
theorem Ev.cmp {l r : Expr} {op : CmpOp} {pos : Pos} {d1 d2 d : D} (hl : Ev X n sc ρ l d1) (hr : Ev X n sc ρ r d2) (ho : Op2 (compareOp op) d1 d2 d) (hm : behindInMarks op r = false) : Ev X n sc ρ (.Compare l [op] [r] pos) d :=
  fun c M A E s Q T rm q => wpAny_Compare1 (two (hl c M) (fun M' _ _ _ => hr c M') rpmono (fun M' a b _ ra rb => ho X n sc c ρ M' a b ra rb) T rm q) hm
theorem Tr.cmp {l r : Expr} {op : CmpOp} {pos : Pos} {d1 d2 : D} {b : Bool} (hl : Ev X n sc ρ l d1) (hr : Ev X n sc ρ r d2) (ho : Op2 (compareOp op) d1 d2 (.bool b)) (hm : behindInMarks op r = false) : Tr X n sc ρ (.Compare l [op] [r] pos) b :=
  fun c M A E s Q T rm q => wpAny_isTrue_Compare1 (two (hl c M) (fun M' _ _ _ => hr c M') rpmono (fun M' a b _ ra rb => ho X n sc c ρ M' a b ra rb) T rm fun v h' tk M' i x r => by
    cases r; exact wpAny_truthy_bool (q _ _ _ _ i x rfl)) hm

theorem op_add_int {i j : Int} : Op2 (binaryOp .Add) (.int i) (.int j) (.int (i + j)) := fun X n sc c ρ M a b ra rb => by
  cases ra; cases rb; exact .here fun A E s Q T _ q => P.add_int (q _ _ (.int _ _))
theorem op_sub_int {i j : Int} : Op2 (binaryOp .Sub) (.int i) (.int j) (.int (i - j)) := fun X n sc c ρ M a b ra rb => by
  cases ra; cases rb; exact .here fun A E s Q T _ q => P.sub_int (q _ _ (.int _ _))
theorem op_mul_int {i j : Int} (h : IntMulOk i j) : Op2 (binaryOp .Mult) (.int i) (.int j) (.int (i * j)) := fun X n sc c ρ M a b ra rb => by
  cases ra; cases rb; exact .here fun A E s Q T _ q => P.mul_int (q _ _ (.int _ _)) h
theorem op_eq_int {i j : Int} : Op2 (compareOp .Eq) (.int i) (.int j) (.bool (i == j)) := fun X n sc c ρ M a b ra rb => by
  cases ra; cases rb; exact .here fun A E s Q T _ q => P.eq_int (q _ _ (.bool _))
theorem op_ne_int {i j : Int} : Op2 (compareOp .NotEq) (.int i) (.int j) (.bool (i != j)) := fun X n sc c ρ M a b ra rb => by
  cases ra; cases rb; exact .here fun A E s Q T _ q => P.ne_int (q _ _ (.bool _))
theorem op_lt_int {i j : Int} : Op2 (compareOp .Lt) (.int i) (.int j) (.bool (decide (i < j))) := fun X n sc c ρ M a b ra rb => by
  cases ra; cases rb; exact .here fun A E s Q T _ q => P.lt_int (q _ _ (.bool _))
theorem op_le_int {i j : Int} : Op2 (compareOp .LtE) (.int i) (.int j) (.bool (decide (i ≤ j))) := fun X n sc c ρ M a b ra rb => by
  cases ra; cases rb; exact .here fun A E s Q T _ q => P.le_int (q _ _ (.bool _))
theorem op_gt_int {i j : Int} : Op2 (compareOp .Gt) (.int i) (.int j) (.bool (decide (i > j))) := fun X n sc c ρ M a b ra rb => by
  cases ra; cases rb; exact .here fun A E s Q T _ q => P.gt_int (q _ _ (.bool _))
theorem op_ge_int {i j : Int} : Op2 (compareOp .GtE) (.int i) (.int j) (.bool (decide (i ≥ j))) := fun X n sc c ρ M a b ra rb => by
  cases ra; cases rb; exact .here fun A E s Q T _ q => P.ge_int (q _ _ (.bool _))
theorem capLine : cap ≤ sizeLine := by decide +kernel
theorem op_add_list {xs ys : List D} (hc : xs.length + ys.length ≤ cap) : Op2 (binaryOp .Add) (.list xs) (.list ys) (.list (xs ++ ys)) := fun X n sc c ρ M a b ra rb => by
  cases ra with
  | list ha r1 c1 =>
    cases rb with
    | list hb r2 c2 =>
      intro A E s Q T rm q
      refine P.add_list (T.st.inh _ _ ha) (T.st.inh _ _ hb) ?_ (by rw [List.size_toArray, List.size_toArray, r1.length, r2.length]; exact Nat.le_trans hc capLine)
      rw [List.append_toArray]
      exact q _ _ s.toks _ (T.st.inh.put _) (Ext.put T.st.inh _) (.list (Led.put_self ..) ((r1.append r2).mono (Led.put_le T.st.inh.size_none)) (by rw [List.length_append]; exact hc))

theorem EvL.nil : EvL X n sc ρ [] [] := fun c M pos => .here fun A E s Q T _ q => args_nil (q _ s.toks .nil)
theorem EvL.cons {e : Expr} {es : List Expr} {d : D} {ds : List D} (h : Ev X n sc ρ e d) (hs : EvL X n sc ρ es ds) (he : ∀ env, starEach (e :: es) env = (false, eval e env) :: starEach es env) : EvL X n sc ρ (e :: es) (d :: ds) :=
  fun c M pos A E s Q T rm q => args_cons (h c M A E s _ T rm fun v h' tk M' i x r => hs c M' pos A E _ _ (T.ext x i) rm fun vs h2 tk2 M2 i2 x2 r2 => q _ _ _ _ i2 (x.trans x2) (.cons (r.mono x2.le) r2)) (he _)

theorem wp_newTuple {vs : List Value} {ds : List D} (r : RpL M vs ds) (hc : ds.length ≤ cap) : WpM X n sc c ρ M (newTuple vs) (fun M v => Rp M v (.tup ds)) := fun A E s Q T rm q => by
  refine wpAny_newObj_type ?_ (by show vs.toArray.size ≤ sizeLine; rw [List.size_toArray, r.length]; exact Nat.le_trans hc capLine)
  exact q _ _ s.toks _ (T.st.inh.put _) (Ext.put T.st.inh _) (.tup (Led.put_self ..) (r.mono (Led.put_le T.st.inh.size_none)))
theorem wp_newList {vs : List Value} {ds : List D} (r : RpL M vs ds) (hc : ds.length ≤ cap) : WpM X n sc c ρ M (newList vs) (fun M v => Rp M v (.list ds)) := fun A E s Q T rm q => by
  refine wpAny_newObj_type ?_ (by show vs.toArray.size ≤ sizeLine; rw [List.size_toArray, r.length]; exact Nat.le_trans hc capLine)
  exact q _ _ s.toks _ (T.st.inh.put _) (Ext.put T.st.inh _) (.list (Led.put_self ..) (r.mono (Led.put_le T.st.inh.size_none)) hc)
theorem Ev.tuple {es : List Expr} {ds : List D} {k : Nat} {pos : Pos} (h : EvL X n sc ρ es ds) (hc : ds.length ≤ cap) : Ev X n sc ρ (.Tuple es k pos) (.tup ds) :=
  fun c M A E s Q T rm q => Tuple_ (one (h c M pos) (fun M' v _ r => wp_newTuple r hc) T rm q)
theorem Ev.list {es : List Expr} {ds : List D} {pos : Pos} (h : EvL X n sc ρ es ds) (hc : ds.length ≤ cap) : Ev X n sc ρ (.List es pos) (.list ds) :=
  fun c M A E s Q T rm q => List_ (one (h c M pos) (fun M' v _ r => wp_newList r hc) T rm q)

theorem lt_of_get {α : Type} {xs : List α} {k : Nat} {d : α} (h : xs[k]? = some d) : k < xs.length := by
  rcases Nat.lt_or_ge k xs.length with h' | h'
  · exact h'
  · rw [List.getElem?_eq_none h'] at h; cases h

/-- slices that are no Slice -/
abbrev PlainIx (slice : Expr) : Prop := ∀ o i', subscripted slice false o i' = operate [o, i'] (getItem o i')

theorem op_item_tup {value slice : Expr} {ds : List D} {i : Int} {d : D} (h0 : 0 ≤ i) (hi : i < 1048576) (hd : ds[i.toNat]? = some d) (hs : PlainIx slice) : Op2 (subscriptTail value slice) (.tup ds) (.int i) d := fun X n sc c ρ M a b ra rb => by
  cases ra with
  | tup ha r =>
    cases rb
    refine .here fun A E s Q T _ q => ?_
    obtain ⟨v, hv, rv⟩ := r.get hd
    have hlt := lt_of_get hd
    exact item_tupleT (j := i.toNat) ⟨_, T.st.inh _ _ ha, rfl, _, rfl⟩ (by omega) (by omega) (by rw [r.length]; exact seqIndex_of h0 (by omega)) hv (q v s.toks rv) (hs _ _)
theorem op_item_list {value slice : Expr} {ds : List D} {i : Int} {d : D} (h0 : 0 ≤ i) (hd : ds[i.toNat]? = some d) (hs : PlainIx slice) : Op2 (subscriptTail value slice) (.list ds) (.int i) d := fun X n sc c ρ M a b ra rb => by
  cases ra with
  | list ha r hc =>
    cases rb
    refine .here fun A E s Q T _ q => ?_
    obtain ⟨v, hv, rv⟩ := r.get hd
    have hlt := lt_of_get hd
    have hL : s.heap.IsList _ _ := ⟨_, T.st.inh _ _ ha, rfl, _, rfl⟩
    have hc' : ds.length ≤ 1048576 := hc
    exact tail_any hL.typeIs slot_list_getitem.lookup (wpAny_getItem_list hL h0 (by omega) (by simpa using hv) (q v s.toks rv)) (hs _ _)
theorem Ev.item {value slice : Expr} {pos : Pos} {d1 d2 d : D} (hl : Ev X n sc ρ value d1) (hr : Ev X n sc ρ slice d2) (ho : Op2 (subscriptTail value slice) d1 d2 d) : Ev X n sc ρ (.Subscript value slice pos) d :=
  fun c M A E s Q T rm q => Subscript_ (two (hl c M) (fun M' _ _ _ => hr c M') rpmono (fun M' a b _ ra rb => ho X n sc c ρ M' a b ra rb) T rm q)

/-- a slice's part -/
def EvO (X : Cx) (n : Nat) (sc : Scope) (ρ : Rho) : Option Expr → Option Int → Prop
  | none, none => True
  | some e, some i => Ev X n sc ρ e (.int i)
  | _, _ => False
theorem EvO.wp {o : Option Expr} {i : Option Int} (h : EvO X n sc ρ o i) (c : Fc) (M : Led) : WpM X n sc c ρ M (evalPart o (c.env sc)) (fun _ v => IsPart v i) := by
  intro A E s Q T rm q
  match o, i, h with
  | none, none, _ => exact wpAny_pure (q _ _ s.toks M T.st.inh (Ext.refl _ _) .none)
  | some e, some i, h => exact h c M A E s _ T rm fun v h' tk M' i x r => by cases r; exact q _ _ _ _ i x (.int _ _)

def sliceL (lo hi : Option Int) (xs : List D) : List D := (xs.drop (lo.elim 0 (clipAt xs.length))).take (hi.elim xs.length (clipAt xs.length) - lo.elim 0 (clipAt xs.length))
theorem Ev.slice {value : Expr} {lower upper : Option Expr} {p pos : Pos} {xs : List D} {lo hi : Option Int} (hv : Ev X n sc ρ value (.list xs)) (hl : EvO X n sc ρ lower lo) (hh : EvO X n sc ρ upper hi) :
    Ev X n sc ρ (.Subscript value (.Slice lower upper none p) pos) (.list (sliceL lo hi xs)) := fun c M A E s Q T rm q => by
  refine Subscript_ (hv c M A E s _ T rm fun v h1 tk1 M1 i1 x1 r1 => ?_)
  have T1 := T.ext x1 i1
  refine wpAny_Slice (hl.wp c M1 A E _ _ T1 rm fun vl h2 tk2 M2 i2 x2 pl => ?_)
  have T2 := T1.ext x2 i2
  refine hh.wp c M2 A E _ _ T2 rm fun vu h3 tk3 M3 i3 x3 pu => ?_
  have T3 := T2.ext x3 i3
  rw [evalPart_none]
  refine wpAny_pure ?_
  have r3 := r1.mono (x2.le.trans x3.le)
  cases r3 with
  | list ha r hc =>
    have hL : h3.IsList _ _ := ⟨_, T3.st.inh _ _ ha, rfl, _, rfl⟩
    refine tail_any (s := { s with heap := h3.push { cls := .type "slice", data := .fields #[vl, vu, .none] }, toks := tk3 }) (hL.push _).typeIs slot_list_getitem.lookup (wpAny_getItem_list_slice (hL.push _) (Heap.IsSliceOf.new ..) pl pu .none (by simp) ?_ (by rw [List.size_toArray, r.length]; exact Nat.le_trans hc capLine)) rfl
    have i4 : LedIn M3 (h3.push { cls := .type "slice", data := .fields #[vl, vu, .none] }) := i3.keeps (Keeps.push _ _)
    rw [slicePick_plain]
    refine q _ _ tk3 _ (i4.put _) (((x1.trans x2).trans x3).trans ((Ext.push _).trans (Ext.put i4 _))) (.list (Led.put_self ..) (RpL.mono (Led.put_le i4.size_none) ?_) ?_)
    · rw [List.size_toArray, r.length]; exact (r.drop _).take _
    · unfold sliceL; rw [List.length_take, List.length_drop]; omega

/-- a built-in's name -/
theorem wp_builtin {x : Str} {pos : Pos} {b : Value} (hx : (x, b) ∈ stdBis) (hl : sc.names.lookup x = some .globalImplicit) (hd : (x == ("__debug__" : Str)) = false) :
    WpM X n sc c ρ M (eval (.Name x pos) (c.env sc)) (fun _ v => v = b) := .here fun A E s Q T _ q =>
  let ⟨h1, h2⟩ := T.st.ok.bi _ hx
  ld_builtin_at T.st.fr T.st.ok.g h1 T.st.ok.b h2 (q b s.toks rfl) T.nm.fk hl hd

theorem bi_len : (Str.ofString "len", Value.builtin "len") ∈ stdBis := by simp [stdBis]
theorem bi_list : (Str.ofString "list", Value.type "list") ∈ stdBis := by simp [stdBis]
theorem bi_range : (Str.ofString "range", Value.type "range") ∈ stdBis := by simp [stdBis]
theorem nd_len : (Str.ofString "len" == ("__debug__" : Str)) = false := by decide +kernel
theorem nd_list : (Str.ofString "list" == ("__debug__" : Str)) = false := by decide +kernel
theorem nd_range : (Str.ofString "range" == ("__debug__" : Str)) = false := by decide +kernel
theorem Ev.len {p pos : Pos} {e : Expr} {xs : List D} (he : Ev X n sc ρ e (.list xs)) (hl : sc.names.lookup (Str.ofString "len") = some .globalImplicit)
    (h1 : ∀ env, starEach [e] env = (false, eval e env) :: starEach [] env) : Ev X n sc ρ (.Call (.Name (Str.ofString "len") p) [e] [] pos) (.int xs.length) := fun c M A E s Q T rm q => by
  refine Call_ (wp_builtin bi_len hl nd_len A E s _ T rm fun f h' tk M' i x' hf => ?_)
  subst hf
  refine callWith_builtin1 (args_cons (he c M' A E _ _ (T.ext x' i) rm fun v h2 tk2 M2 i2 x2 r => args_nil ?_) (h1 _)) (h1 _)
  cases r with
  | list ha r hc =>
    have hL : h2.IsList _ _ := ⟨_, i2 _ _ ha, rfl, _, rfl⟩
    have hc' : xs.length ≤ 1048576 := hc
    refine call_len_list (s := { s with heap := h2, toks := tk2 }) hL (by rw [List.size_toArray, r.length]; omega) ?_
    rw [List.size_toArray, r.length]
    exact q _ _ _ _ i2 (x'.trans x2) (.int _ _)

/-- a function of the text, called with data ds, gives d -/
def CallOk (X : Cx) (n : Nat) (f : Str) (ds : List D) (d : D) : Prop :=
  f ∈ X.fns.map (·.name) ∧ ∀ (A : Around) (E : Value → Shared → Prop) (s : Shared) (M : Led) (fa : Addr) (vs : List Value) (Q : Value → Shared → Prop), X.Ok s.heap → LedIn M s.heap → RpL M vs ds → Room A n → X.mg f = some (.ref fa) →
    (∀ v h' tk M', LedIn M' h' → Ext s.heap M h' M' → Rp M' v d → Q v { s with heap := h', toks := tk }) → wpAny (model X.prog X.w) A (call (.ref fa) vs) Q E s

theorem Ev.call {f : Str} {p pos : Pos} {e : Expr} {es : List Expr} {ds : List D} {d : D} (he : EvL X n sc ρ (e :: es) ds) (hc : CallOk X n f ds d) (hl : sc.names.lookup f = some .globalImplicit)
    (hd : (f == ("__debug__" : Str)) = false) (h1 : ∀ env, starEach (e :: es) env = (false, eval e env) :: starEach es env) : Ev X n sc ρ (.Call (.Name f p) (e :: es) [] pos) d := fun c M A E s Q T rm q => by
  obtain ⟨fd, hfd, rfl⟩ := List.mem_map.mp hc.1
  obtain ⟨fa, o, pm, code, doc, g1, g2, g3, g4⟩ := T.st.okh.fn fd hfd
  refine Call_ (ld_global_at T.st.fr T.st.ok.g g1 ?_ T.nm.fk hl hd)
  refine callWith_def g3 (he c M pos A E s _ T rm fun vs h' tk M' i x r => ⟨x.keep _ _ g2, ?_⟩) (h1 _)
  exact hc.2 A E _ M' fa vs Q (T.ext x i).st.okh i r rm g1 fun v h2 tk2 M2 i2 x2 r2 => q _ _ _ _ i2 (x.trans x2) r2
end
end Mine

namespace Mine
open PySem PySem.Calls PyProof.Rows PySem.Spec

/-- how a block ends -/
inductive PF where
  | next
  | brk
  | cont
  | ret (d : D)

def FlowR (M : Led) : Flow → PF → Prop
  | .next, .next => True
  | .brk, .brk => True
  | .cont, .cont => True
  | .ret v, .ret d => Rp M v d
  | _, _ => False
theorem FlowR.mono {M M' : Led} (l : LedLe M M') : ∀ {f : Flow} {p : PF}, FlowR M f p → FlowR M' f p
  | .next, .next, _ => trivial
  | .brk, .brk, _ => trivial
  | .cont, .cont, _ => trivial
  | .ret v, .ret d, h => Rp.mono l h

abbrev Fc.at (c : Fc) (m : Str → Option Value) : Fc := { c with m := m }

/-- t, a tree of the frame's, ends as Φ says -/
def ExT (X : Cx) (n : Nat) (sc : Scope) (ρ : Rho) (t : Env → Sem Flow) (Φ : PF → Rho → Prop) : Prop :=
  ∀ (c : Fc) (M : Led) (A : Around) (E : Value → Shared → Prop) (s : Shared) (Q : Flow → Shared → Prop), At X sc c ρ M s.heap → Room A n →
    (∀ f fl ρ' m' h' tk M', At X sc (c.at m') ρ' M' h' → LedLe M M' → FlowR M' f fl → Φ fl ρ' → Q f { s with heap := h', toks := tk }) →
    wpAny (model X.prog X.w) A (t (c.env sc)) Q E s
abbrev ExS (X : Cx) (n : Nat) (sc : Scope) (ρ : Rho) (ss : List Stmt) (Φ : PF → Rho → Prop) : Prop := ExT X n sc ρ (execs ss) Φ
abbrev Ex1 (X : Cx) (n : Nat) (sc : Scope) (ρ : Rho) (st : Stmt) (Φ : PF → Rho → Prop) : Prop := ExT X n sc ρ (exec st) Φ

/-- behind a block: go on with rest -/
def Then (X : Cx) (n : Nat) (sc : Scope) (rest : List Stmt) (Φ : PF → Rho → Prop) : PF → Rho → Prop := fun fl ρ => match fl with
  | .next => ExS X n sc ρ rest Φ
  | fl => Φ fl ρ

section
variable {X : Cx} {n : Nat} {ρ ρ' : Rho} {sc : Scope} {Φ : PF → Rho → Prop} {rest : List Stmt}

theorem ExS.nil (h : Φ .next ρ) : ExS X n sc ρ [] Φ := fun c M A E s Q T rm q => wpAny_execs_nil (q _ .next ρ c.m s.heap s.toks M T (LedLe.refl M) trivial h)
theorem ExS.seq {st : Stmt} (h : Ex1 X n sc ρ st (Then X n sc rest Φ)) : ExS X n sc ρ (st :: rest) Φ := fun c M A E s Q T rm q => by
  refine wpAny_execs_cons (h c M A E s _ T rm fun f fl ρ1 m1 h1 tk1 M1 T1 l1 r1 p1 => ?_)
  cases fl with
  | next =>
    cases f <;> first | exact r1.elim | skip
    exact p1 (c.at m1) M1 A E _ Q T1 rm fun f fl ρ2 m2 h2 tk2 M2 T2 l2 r2 p2 => q f fl ρ2 m2 h2 tk2 M2 T2 (l1.trans l2) r2 p2
  | brk => cases f <;> first | exact r1.elim | exact q _ .brk ρ1 m1 h1 tk1 M1 T1 l1 r1 p1
  | cont => cases f <;> first | exact r1.elim | exact q _ .cont ρ1 m1 h1 tk1 M1 T1 l1 r1 p1
  | ret d => cases f <;> first | exact r1.elim | exact q _ (.ret d) ρ1 m1 h1 tk1 M1 T1 l1 r1 p1
theorem ExT.mono {t : Env → Sem Flow} {Ψ : PF → Rho → Prop} (h : ExT X n sc ρ t Ψ) (hm : ∀ fl ρ, Ψ fl ρ → Φ fl ρ) : ExT X n sc ρ t Φ := fun c M A E s Q T rm q =>
  h c M A E s Q T rm fun f fl ρ1 m1 h1 tk1 M1 T1 l1 r1 p1 => q f fl ρ1 m1 h1 tk1 M1 T1 l1 r1 (hm _ _ p1)
theorem ExT.sub {t : Env → Sem Flow} (s : ∀ q ∈ ρ', q ∈ ρ) (h : ExT X n sc ρ' t Φ) : ExT X n sc ρ t Φ := fun c M A E s' Q T rm q => h c M A E s' Q ⟨T.st, T.lo.sub s, T.nm.fk, fun q hq => T.nm.nm q (s q hq)⟩ rm q

theorem Nm.store {x : Str} {b : B} (N : Nm sc ρ) (dr : Dr x ρ ρ') (hl : sc.names.lookup x = some .local) (hd : (x == ("__debug__" : Str)) = false) : Nm sc ((x, b) :: ρ') :=
  ⟨N.fk, fun q hq => (List.mem_cons.mp hq).elim (fun e => by rw [e]; exact ⟨hl, hd⟩) fun h => N.nm q (dr.sub q h)⟩
/-- a store into the frame -/
theorem At.store {c : Fc} {M : Led} {h h' : Heap} {x : Str} {v : Value} {d : D} (T : At X sc c ρ M h) (dr : Dr x ρ ρ') (hn : h'.Ns c.L (fun y => if y = x then some v else c.m y)) (hs : Heap.SameBut c.L h h') (r : Rp M v d) (hl : sc.names.lookup x = some .local) (hd : (x == ("__debug__" : Str)) = false) :
    At X sc (c.at fun y => if y = x then some v else c.m y) ((x, .val d) :: ρ') M h' where
  st := ⟨T.st.ok, T.st.fr.set hn hs, fun a o e => (hs.2 a (fun e' => by rw [e', T.st.ml] at e; cases e)).trans (T.st.inh a o e), T.st.ml, T.st.m0, T.st.mf, fun q hq => ⟨(hs.2 _ (T.st.wd q hq).2.1).trans (T.st.wd q hq).1, (T.st.wd q hq).2⟩⟩
  lo := by
    refine ⟨fun y d' hy => ?_, fun y ds hy => ?_, fun y z ds es a hy hz ey ez => ?_⟩
    · rcases List.mem_cons.mp hy with hy | hy
      · cases hy; exact ⟨v, by simp, r⟩
      · have := dr.not _ hy
        obtain ⟨w, e, rw'⟩ := T.lo.vals y d' (dr.sub _ hy)
        exact ⟨w, by simpa [this] using e, rw'⟩
    · rcases List.mem_cons.mp hy with hy | hy
      · cases hy
      · have := dr.not _ hy
        obtain ⟨a, e, vs, k, g, q⟩ := T.lo.owns y ds (dr.sub _ hy)
        exact ⟨a, by simpa [this] using e, vs, k, (hs.2 a q.2.2.2.1).trans g, q⟩
    · rcases List.mem_cons.mp hy with hy | hy
      · cases hy
      · rcases List.mem_cons.mp hz with hz | hz
        · cases hz
        · have h1 := dr.not _ hy
          have h2 := dr.not _ hz
          exact T.lo.dist y z ds es a (dr.sub _ hy) (dr.sub _ hz) (by simpa [h1] using ey) (by simpa [h2] using ez)
  nm := T.nm.store dr hl hd
theorem At.storeN {c : Fc} {M M' : Led} {h h' h'' : Heap} {x : Str} {a : Addr} {vs : List Value} {k : Nat} {ds : List D} (T : At X sc c ρ M h) (xt : Ext h M h' M') (i : LedIn M' h') (dr : Dr x ρ ρ') (hn : h''.Ns c.L (fun y => if y = x then some (.ref a) else c.m y)) (hs : Heap.SameBut c.L h' h'')
    (g : h'.get? a = some (listO vs k)) (r : RpL M' vs ds) (hc : ds.length ≤ cap) (hM : M' a = none) (hf : h.get? a = none) (hl : sc.names.lookup x = some .local) (hd : (x == ("__debug__" : Str)) = false) : At X sc (c.at fun y => if y = x then some (.ref a) else c.m y) ((x, .own ds) :: ρ') M' h'' where
  st := by
    have T' := (T.ext xt i).st
    exact ⟨T'.ok, T'.fr.set hn hs, fun a o e => (hs.2 a (fun e' => by rw [e', T'.ml] at e; cases e)).trans (T'.inh a o e), T'.ml, T'.m0, T'.mf, fun q hq => ⟨(hs.2 _ (T'.wd q hq).2.1).trans (T'.wd q hq).1, (T'.wd q hq).2⟩⟩
  lo := by
    have T' := T.ext xt i
    have aL : a ≠ c.L := by
      obtain ⟨o, _, _, e, _⟩ := T.st.fr.ns
      intro e'; rw [e', e] at hf; cases hf
    refine ⟨fun y d' hy => ?_, fun y es hy => ?_, fun y z es es' b hy hz ey ez => ?_⟩
    · rcases List.mem_cons.mp hy with hy | hy
      · cases hy
      · have := dr.not _ hy
        obtain ⟨w, e, rw'⟩ := T'.lo.vals y d' (dr.sub _ hy)
        exact ⟨w, by simpa [this] using e, rw'⟩
    · rcases List.mem_cons.mp hy with hy | hy
      · cases hy
        refine ⟨a, by simp, vs, k, (hs.2 a aL).trans g, r, hc, hM, aL, ?_, fun q hq e' => ?_⟩
        · cases e : c.h₀.get? a with
          | none => rfl
          | some o => rw [T.st.fr.keep _ _ e] at hf; cases hf
        · have := (T.st.wd q hq).1
          rw [e', hf] at this; cases this
      · have := dr.not _ hy
        obtain ⟨b, e, vs', k', g', q⟩ := T'.lo.owns y es (dr.sub _ hy)
        exact ⟨b, by simpa [this] using e, vs', k', (hs.2 b q.2.2.2.1).trans g', q⟩
    · have old : ∀ y es b, (y, B.own es) ∈ ρ' → (if y = x then some (Value.ref a) else c.m y) = some (.ref b) → b ≠ a := by
        intro y es b hy ey e
        have := dr.not _ hy
        rw [if_neg this] at ey
        obtain ⟨b', e', vs', k', g', q⟩ := T.lo.owns y es (dr.sub _ hy)
        rw [ey] at e'; cases e'
        rw [e, hf] at g'; cases g'
      rcases List.mem_cons.mp hy with hy | hy
      · cases hy
        rcases List.mem_cons.mp hz with hz | hz
        · cases hz; rfl
        · simp at ey; exact absurd ey.symm (old z es' b hz ez)
      · rcases List.mem_cons.mp hz with hz | hz
        · cases hz; simp at ez; exact absurd ez.symm (old y es b hy ey)
        · have h1 := dr.not _ hy
          have h2 := dr.not _ hz
          exact T.lo.dist y z es es' b (dr.sub _ hy) (dr.sub _ hz) (by simpa [h1] using ey) (by simpa [h2] using ez)
  nm := T.nm.store dr hl hd

abbrev fnScope (sc : Scope) : Prop := sc.kind = .function
theorem storeOk {sc : Scope} (hk : sc.kind = .function) {c : Fc} : ((c.env sc).scope.kind == .class || ((c.env sc).scope.kind == .module && (c.env sc).locals != (c.env sc).globals)) = false := by
  show (sc.kind == .class || (sc.kind == .module && c.L != mainGlobals)) = false
  rw [hk]; rfl

theorem ExS.assign {x : Str} {p pos : Pos} {e : Expr} {d : D} (he : Ev X n sc ρ e d) (dr : Drop x ρ ρ') (h : ExS X n sc ((x, .val d) :: ρ') rest Φ) (hl : sc.names.lookup x = some .local) (hd : (x == ("__debug__" : Str)) = false)
    (hs : ∀ env, swapsWith e (some (.Name x p)) pos.line env = pure false) : ExS X n sc ρ (.Assign [.Name x p] e pos :: rest) Φ := .seq fun c M A E s Q T rm q =>
  wpAny_Assign_Name (he c M A E s _ T rm fun v h1 tk1 M1 i1 x1 r1 => wpAny_storeName_local hl (T.ext x1 i1).st.fr.ns (fun h2 hn hb => q .next .next _ _ h2 _ M1 ((T.ext x1 i1).store dr.dr hn hb r1 hl hd) x1.le trivial h) (storeOk T.nm.fk)) (hs _)

/-- an expression that makes a new list, kept by nobody -/
def EvN (X : Cx) (n : Nat) (sc : Scope) (ρ : Rho) (e : Expr) (ds : List D) : Prop :=
  ∀ (c : Fc) (M : Led) (A : Around) (E : Value → Shared → Prop) (s : Shared) (Q : Value → Shared → Prop), At X sc c ρ M s.heap → Room A n →
    (∀ a vs k h' tk M', LedIn M' h' → Ext s.heap M h' M' → h'.get? a = some (listO vs k) → RpL M' vs ds → ds.length ≤ cap → M' a = none → s.heap.get? a = none → Q (.ref a) { s with heap := h', toks := tk }) →
    wpAny (model X.prog X.w) A (eval e (c.env sc)) Q E s
theorem EvN.ev {e : Expr} {ds : List D} (h : EvN X n sc ρ e ds) : Ev X n sc ρ e (.list ds) := fun c M A E s Q T rm q => h c M A E s Q T rm fun a vs k h' tk M' i x g r hc hM hf => by
  refine q (.ref a) h' tk (M'.put a (listO vs k)) (fun b o e => ?_) ⟨x.keep, x.le.trans (Led.put_le hM), fun b o gb e => ?_⟩ (.list (Led.put_self ..) (r.mono (Led.put_le hM)) hc)
  · unfold Led.put at e
    by_cases hb : b = a
    · rw [if_pos hb] at e; cases e; rw [hb]; exact g
    · rw [if_neg hb] at e; exact i b o e
  · unfold Led.put
    rw [if_neg (fun e' => by rw [e', hf] at gb; cases gb)]
    exact x.new b o gb e
theorem EvN.disp {es : List Expr} {ds : List D} {pos : Pos} (h : EvL X n sc ρ es ds) (hc : ds.length ≤ cap) : EvN X n sc ρ (.List es pos) ds := fun c M A E s Q T rm q =>
  List_ (h c M pos A E s _ T rm fun vs h' tk M' i x r => by
    refine wpAny_newObj_type (s := { s with heap := h', toks := tk }) ?_ (by show vs.toArray.size ≤ sizeLine; rw [List.size_toArray, r.length]; exact Nat.le_trans hc capLine)
    refine q _ vs 0 _ tk M' (i.keeps (Keeps.push _ _)) (x.trans (Ext.push _)) (Heap.get?_push_size _ rfl) r hc i.size_none ?_
    cases e : s.heap.get? h'.objs.size with
    | none => rfl
    | some o => exact absurd rfl (ne_size (x.keep _ _ e)))
theorem ExS.assignN {x : Str} {p pos : Pos} {e : Expr} {ds : List D} (he : EvN X n sc ρ e ds) (dr : Drop x ρ ρ') (h : ExS X n sc ((x, .own ds) :: ρ') rest Φ) (hl : sc.names.lookup x = some .local) (hd : (x == ("__debug__" : Str)) = false)
    (hs : ∀ env, swapsWith e (some (.Name x p)) pos.line env = pure false) : ExS X n sc ρ (.Assign [.Name x p] e pos :: rest) Φ := .seq fun c M A E s Q T rm q =>
  wpAny_Assign_Name (he c M A E s _ T rm fun a vs k h1 tk1 M1 i1 x1 g r hc hM hf => wpAny_storeName_local hl (T.ext x1 i1).st.fr.ns (fun h2 hn hb => q .next .next _ _ h2 _ M1 (T.storeN x1 i1 dr.dr hn hb g r hc hM hf hl hd) x1.le trivial h) (storeOk T.nm.fk)) (hs _)

/-- from now on the list of x does not change -/
theorem ExS.freeze {x : Str} {ds : List D} (hx : (x, B.own ds) ∈ ρ) (dr : Drop x ρ ρ') (h : ExS X n sc ((x, .val (.list ds)) :: ρ') rest Φ) : ExS X n sc ρ rest Φ := fun c M A E s Q T rm q => by
  obtain ⟨a, ex, vs, k, g, r, hc, hM, aL, a0, aW⟩ := T.lo.owns x ds hx
  refine h c (M.put a (listO vs k)) A E s Q ?_ rm fun f fl ρ2 m2 h2 tk2 M2 T2 l2 r2 p2 => q f fl ρ2 m2 h2 tk2 M2 T2 ((Led.put_le hM).trans l2) r2 p2
  refine ⟨⟨T.st.ok, T.st.fr, fun b o e => ?_, ?_, T.st.m0.trans (Led.put_le hM), fun b o l e => ?_, fun q hq => ⟨(T.st.wd q hq).1, (T.st.wd q hq).2.1, by unfold Led.put; rw [if_neg (aW q hq)]; exact (T.st.wd q hq).2.2⟩⟩, ⟨fun y d hy => ?_, fun y es hy => ?_, fun y z es es' b hy hz ey ez => ?_⟩, T.nm.store dr.dr (T.nm.nm _ hx).1 (T.nm.nm _ hx).2⟩
  · unfold Led.put at e
    by_cases hb : b = a
    · rw [if_pos hb] at e; cases e; rw [hb]; exact g
    · rw [if_neg hb] at e; exact T.st.inh b o e
  · unfold Led.put; rw [if_neg (Ne.symm aL)]; exact T.st.ml
  · unfold Led.put; rw [if_neg (fun e' => by rw [e', a0] at l; cases l)]; exact T.st.mf b o l e
  · rcases List.mem_cons.mp hy with hy | hy
    · cases hy; exact ⟨.ref a, ex, .list (Led.put_self ..) (r.mono (Led.put_le hM)) hc⟩
    · obtain ⟨w, e, rw'⟩ := T.lo.vals y d (dr.sub _ hy)
      exact ⟨w, e, rw'.mono (Led.put_le hM)⟩
  · rcases List.mem_cons.mp hy with hy | hy
    · cases hy
    · obtain ⟨b, e, vs', k', g', r', hc', hM', q⟩ := T.lo.owns y es (dr.sub _ hy)
      refine ⟨b, e, vs', k', g', r'.mono (Led.put_le hM), hc', ?_, q⟩
      unfold Led.put
      rw [if_neg (fun e' : b = a => dr.not _ hy (T.lo.dist y x es ds a (dr.sub _ hy) hx (by rw [← e']; exact e) ex))]; exact hM'
  · rcases List.mem_cons.mp hy with hy | hy
    · cases hy
    · rcases List.mem_cons.mp hz with hz | hz
      · cases hz
      · exact T.lo.dist y z es es' b (dr.sub _ hy) (dr.sub _ hz) ey ez

theorem ExS.iff {test : Expr} {body orelse : List Stmt} {pos : Pos} {b : Bool} (ht : Tr X n sc ρ test b) (h1 : b = true → ExS X n sc ρ body (Then X n sc rest Φ)) (h0 : b = false → ExS X n sc ρ orelse (Then X n sc rest Φ)) :
    ExS X n sc ρ (.If test body orelse pos :: rest) Φ := .seq fun c M A E s Q T rm q => wpAny_If (ht c M A E s _ T rm fun v h1' tk1 M1 i1 x1 r1 => by
      subst r1
      cases v with
      | true => exact h1 rfl c M1 A E _ Q (T.ext x1 i1) rm fun f fl ρ2 m2 h2 tk2 M2 T2 l2 r2 p2 => q f fl ρ2 m2 h2 tk2 M2 T2 (x1.le.trans l2) r2 p2
      | false => exact h0 rfl c M1 A E _ Q (T.ext x1 i1) rm fun f fl ρ2 m2 h2 tk2 M2 T2 l2 r2 p2 => q f fl ρ2 m2 h2 tk2 M2 T2 (x1.le.trans l2) r2 p2)
theorem ExS.ret {e : Expr} {pos : Pos} {d : D} (he : Ev X n sc ρ e d) (h : Φ (.ret d) ρ) : ExS X n sc ρ (.Return (some e) pos :: rest) Φ := .seq fun c M A E s Q T rm q =>
  wpAny_Return_some (he c M A E s _ T rm fun v h1 tk1 M1 i1 x1 r1 => q (.ret v) (.ret d) ρ c.m h1 tk1 M1 (T.ext x1 i1) x1.le r1 h)
theorem ExS.brk {pos : Pos} (h : Φ .brk ρ) : ExS X n sc ρ (.Break pos :: rest) Φ := .seq fun c M A E s Q T rm q =>
  wpAny_Break (q .brk .brk ρ c.m s.heap s.toks M T (LedLe.refl M) trivial h)
end
end Mine

namespace Mine
open PySem PySem.Calls PyProof.Rows PySem.Spec

abbrev Fc.ward (c : Fc) (q : Addr × Obj) : Fc := { c with W := q :: c.W }

section
variable {X : Cx} {n : Nat} {c : Fc} {ρ ρ' : Rho} {M : Led} {sc : Scope} {h h' : Heap}

/-- a new object, watched over -/
theorem At.watch (T : At X sc c ρ M h) {o : Obj} (hf : o.isFreed = false) : At X sc (c.ward (h.objs.size, o)) ρ M (h.push o) where
  st := by
    have T' := (T.ext (Ext.push o) (T.st.inh.keeps (Keeps.push h o))).st
    refine ⟨T'.ok, T'.fr, T'.inh, T'.ml, T'.m0, T'.mf, fun q hq => ?_⟩
    rcases List.mem_cons.mp hq with rfl | hq
    · exact ⟨Heap.get?_push_size _ hf, (let ⟨_, _, _, e, _⟩ := T.st.fr.ns; (ne_size e).symm), T.st.inh.size_none⟩
    · exact T'.wd q hq
  lo := by
    have T' := (T.ext (Ext.push o) (T.st.inh.keeps (Keeps.push h o))).lo
    refine ⟨T'.vals, fun x ds hx => ?_, T'.dist⟩
    obtain ⟨a, e, vs, k, g, r, hc, hM, aL, a0, aW⟩ := T.lo.owns x ds hx
    refine ⟨a, e, vs, k, Heap.get?_push_of_some _ g, r, hc, hM, aL, a0, fun q hq => ?_⟩
    rcases List.mem_cons.mp hq with rfl | hq
    · exact (ne_size g).symm
    · exact aW q hq
  nm := T.nm
/-- the watched object turns -/
theorem At.turn {I : Addr} {o o' : Obj} (T : At X sc (c.ward (I, o)) ρ M h) (hW : ∀ q ∈ c.W, q.1 ≠ I) (h0 : c.h₀.get? I = none) (hs : Heap.SameBut I h h') (g : h'.get? I = some o') : At X sc (c.ward (I, o')) ρ M h' where
  st := by
    have w := T.st.wd (I, o) List.mem_cons_self
    refine ⟨T.st.ok, ⟨T.st.fr.ns.sameBut hs (Ne.symm w.2.1), fun b o e => (hs.2 b (fun e' => by rw [e', h0] at e; cases e)).trans (T.st.fr.keep b o e), T.st.fr.above⟩, fun a o e => (hs.2 a (fun e' => by rw [e', w.2.2] at e; cases e)).trans (T.st.inh a o e), T.st.ml, T.st.m0, T.st.mf, fun q hq => ?_⟩
    rcases List.mem_cons.mp hq with rfl | hq
    · exact ⟨g, w.2⟩
    · have := T.st.wd q (List.mem_cons_of_mem _ hq)
      exact ⟨(hs.2 _ (hW q hq)).trans this.1, this.2⟩
  lo := by
    refine ⟨T.lo.vals, fun x ds hx => ?_, T.lo.dist⟩
    obtain ⟨a, e, vs, k, g', r, hc, hM, aL, a0, aW⟩ := T.lo.owns x ds hx
    have ne : I ≠ a := aW (I, o) List.mem_cons_self
    refine ⟨a, e, vs, k, (hs.2 a (Ne.symm ne)).trans g', r, hc, hM, aL, a0, fun q hq => ?_⟩
    rcases List.mem_cons.mp hq with rfl | hq
    · exact ne
    · exact aW q (List.mem_cons_of_mem _ hq)
  nm := T.nm
/-- no more watched -/
theorem At.unwatch {q : Addr × Obj} (T : At X sc (c.ward q) ρ M h) : At X sc c ρ M h where
  st := ⟨T.st.ok, T.st.fr, T.st.inh, T.st.ml, T.st.m0, T.st.mf, fun p hp => T.st.wd p (List.mem_cons_of_mem _ hp)⟩
  lo := ⟨T.lo.vals, fun x ds hx => let ⟨a, e, vs, k, g, r, hc, hM, aL, a0, aW⟩ := T.lo.owns x ds hx; ⟨a, e, vs, k, g, r, hc, hM, aL, a0, fun p hp => aW p (List.mem_cons_of_mem _ hp)⟩, T.lo.dist⟩
  nm := T.nm
/-- the watched object is forgotten, all else stands -/
theorem At.leave {I : Addr} {o : Obj} (T : At X sc (c.ward (I, o)) ρ M h) (hW : ∀ q ∈ c.W, q.1 ≠ I) (h0 : c.h₀.get? I = none) (hs : Heap.ExtBut I h h') : At X sc c ρ M h' where
  st := by
    have w := T.st.wd (I, o) List.mem_cons_self
    refine ⟨T.st.ok, ⟨T.st.fr.ns.extBut hs (Ne.symm w.2.1), fun b o e => hs b o (fun e' => by rw [e', h0] at e; cases e) (T.st.fr.keep b o e), T.st.fr.above⟩, fun a o e => hs a o (fun e' => by rw [e', w.2.2] at e; cases e) (T.st.inh a o e), T.st.ml, T.st.m0, T.st.mf, fun q hq => ?_⟩
    have := T.st.wd q (List.mem_cons_of_mem _ hq)
    exact ⟨hs _ _ (hW q hq) this.1, this.2⟩
  lo := by
    refine ⟨T.lo.vals, fun x ds hx => ?_, T.lo.dist⟩
    obtain ⟨a, e, vs, k, g', r, hc, hM, aL, a0, aW⟩ := T.lo.owns x ds hx
    exact ⟨a, e, vs, k, hs a _ (Ne.symm (aW (I, o) List.mem_cons_self)) g', r, hc, hM, aL, a0, fun q hq => aW q (List.mem_cons_of_mem _ hq)⟩
  nm := T.nm

/-- list(e) -/
theorem EvN.listOf {p pos : Pos} {e : Expr} {xs : List D} (he : Ev X n sc ρ e (.list xs)) (hl : sc.names.lookup (Str.ofString "list") = some .globalImplicit)
    (h1 : ∀ env, starEach [e] env = (false, eval e env) :: starEach [] env) : EvN X n sc ρ (.Call (.Name (Str.ofString "list") p) [e] [] pos) xs := fun c M A E s Q T rm q => by
  refine Call_ (wp_builtin bi_list hl nd_list A E s _ T rm fun f h' tk M' i x' hf => ?_)
  subst hf
  refine PyProof.Rows.callWith_type1 (args_cons (he c M' A E _ _ (T.ext x' i) rm fun v h2 tk2 M2 i2 x2 r => args_nil ?_) (h1 _)) (h1 _)
  cases r with
  | list ha r hc =>
    refine call_list_seq (s := { s with heap := h2, toks := tk2 }) _ (.inl rfl) (i2 _ _ ha) rfl rfl (fun h3 k kp g => ?_) (by rw [List.size_toArray, r.length]; exact Nat.le_trans hc capLine)
    refine q _ _ k h3 tk2 M2 (i2.keeps kp) ((x'.trans x2).trans ⟨kp, LedLe.refl _, fun _ _ _ e => e⟩) g r hc i2.size_none ?_
    cases e : s.heap.get? h2.objs.size with
    | none => rfl
    | some o => exact absurd rfl (ne_size ((x'.trans x2).keep _ _ e))

/-- an expression that makes a range by ones -/
def EvR (X : Cx) (n : Nat) (sc : Scope) (ρ : Rho) (e : Expr) (lo hi : Int) : Prop :=
  ∀ (c : Fc) (M : Led) (A : Around) (E : Value → Shared → Prop) (s : Shared) (Q : Value → Shared → Prop), At X sc c ρ M s.heap → Room A n →
    (∀ r t u v h' tk M', LedIn M' h' → Ext s.heap M h' M' → IsRange h' r lo hi 1 t u v → Q (.ref r) { s with heap := h', toks := tk }) →
    wpAny (model X.prog X.w) A (eval e (c.env sc)) Q E s
theorem EvR.one {p pos : Pos} {e : Expr} {hi : Int} (he : Ev X n sc ρ e (.int hi)) (hl : sc.names.lookup (Str.ofString "range") = some .globalImplicit)
    (h1 : ∀ env, starEach [e] env = (false, eval e env) :: starEach [] env) : EvR X n sc ρ (.Call (.Name (Str.ofString "range") p) [e] [] pos) 0 hi := fun c M A E s Q T rm q => by
  refine Call_ (wp_builtin bi_range hl nd_range A E s _ T rm fun f h' tk M' i x' hf => ?_)
  subst hf
  refine PyProof.Rows.callWith_type1 (args_cons (he c M' A E _ _ (T.ext x' i) rm fun v h2 tk2 M2 i2 x2 r => args_nil ?_) (h1 _)) (h1 _)
  cases r
  refine call_range_1 (s := { s with heap := h2, toks := tk2 }) ?_
  exact q _ _ _ _ _ _ M2 (i2.keeps (Keeps.push _ _)) ((x'.trans x2).trans (Ext.push _)) (IsRange.new ..)
theorem EvR.two {p pos : Pos} {e e' : Expr} {lo hi : Int} (he : Ev X n sc ρ e (.int lo)) (he' : Ev X n sc ρ e' (.int hi)) (hl : sc.names.lookup (Str.ofString "range") = some .globalImplicit)
    (h1 : ∀ env, starEach [e, e'] env = (false, eval e env) :: starEach [e'] env) (h2 : ∀ env, starEach [e'] env = (false, eval e' env) :: starEach [] env) : EvR X n sc ρ (.Call (.Name (Str.ofString "range") p) [e, e'] [] pos) lo hi := fun c M A E s Q T rm q => by
  refine Call_ (wp_builtin bi_range hl nd_range A E s _ T rm fun f h' tk M' i x' hf => ?_)
  subst hf
  refine PyProof.Rows.callWith_type1 (EvL.cons he (EvL.cons he' EvL.nil h2) h1 c M' pos A E _ _ (T.ext x' i) rm fun vs h2 tk2 M2 i2 x2 r => ?_) (h1 _) (by rw [h2]; rfl)
  cases r with
  | cons r1 r =>
    cases r with
    | cons r2 r =>
      cases r; cases r1; cases r2
      refine call_range_2 (s := { s with heap := h2, toks := tk2 }) ?_
      exact q _ _ _ _ _ _ M2 (i2.keeps (Keeps.push _ _)) ((x'.trans x2).trans (Ext.push _)) (IsRange.new ..)

variable {Φ : PF → Rho → Prop} {rest : List Stmt}
/-- how a turn of a loop ends -/
def Turn (X : Cx) (n : Nat) (sc : Scope) (rest : List Stmt) (Φ : PF → Rho → Prop) (I : Rho → Prop) : PF → Rho → Prop := fun fl ρ => match fl with
  | .next => I ρ
  | .cont => I ρ
  | .brk => ExS X n sc ρ rest Φ
  | .ret d => Φ (.ret d) ρ

abbrev rangeIt (a b c : Int) : Obj := { cls := .type "range_iterator", data := .fields #[rawInt a, rawInt b, rawInt c] }
theorem rangeIt_is {h : Heap} {I : Addr} {a b c : Int} : IsRangeIter h I a b c ↔ h.get? I = some (rangeIt a b c) := Iff.rfl

theorem ExS.forRange {x : Str} {px pos : Pos} {iter : Expr} {body : List Stmt} {lo hi : Int} (I : Nat → Rho → Prop) (hi' : EvR X n sc ρ iter lo hi) (hlo : -(2 ^ 62) ≤ lo) (hlo' : lo < 2 ^ 62) (hhi : -(2 ^ 62) ≤ hi) (hhi' : hi < 2 ^ 62)
    (h0 : I 0 ρ)
    (turn : ∀ i ρ1, i < (hi - lo).toNat → I i ρ1 → ∃ ρ2, Dr x ρ1 ρ2 ∧ ExS X n sc ((x, .val (.int (lo + i))) :: ρ2) body (Turn X n sc rest Φ (I (i + 1))))
    (done : ∀ ρ1, I (hi - lo).toNat ρ1 → ExS X n sc ρ1 rest Φ)
    (hl : sc.names.lookup x = some .local) (hd : (x == ("__debug__" : Str)) = false) (hs : ∀ env v, foldedSetIterable iter env v = pure v) :
    ExS X n sc ρ (.For (.Name x px) iter body [] pos :: rest) Φ := .seq fun c M A E s Q T rm q => by
  refine wpAny_For (hi' c M A E s _ T rm fun r t u v h1 tk1 M1 i1 x1 hr => ?_) (hs _)
  have T1 := T.ext x1 i1
  refine wpAny_pyIter_range (s := { s with heap := h1, toks := tk1 }) hr (small_one hlo hlo' hhi hhi') ?_
  have hN : Builtin.Range.rangeSize lo hi 1 = (((hi - lo).toNat : Nat) : Int) := by rw [rangeSize_one]; split <;> omega
  rw [hN]
  generalize hNN : (hi - lo).toNat = N at *
  have hW : ∀ q ∈ c.W, q.1 ≠ h1.objs.size := fun q hq => ne_size (T1.st.wd q hq).1
  have h00 : c.h₀.get? h1.objs.size = none := by
    cases e : c.h₀.get? h1.objs.size with
    | none => rfl
    | some o => exact absurd rfl (ne_size (T1.st.fr.keep _ _ e))
  refine codeAny_forLoop (fun k s' => ∃ i m' ρ' M' h' tk, s' = { s with heap := h', toks := tk } ∧ At X sc ((c.at m').ward (h1.objs.size, rangeIt (lo + (i : Nat)) ((N : Int) - (i : Nat)) 1)) ρ' M' h' ∧ LedLe M M' ∧ I i ρ' ∧ i ≤ N ∧ k = N + 1 - i) ?_ (N + 1)
    ⟨0, c.m, ρ, M1, _, tk1, rfl, by simpa using T1.watch (o := rangeIt lo N 1) rfl, x1.le, h0, Nat.zero_le _, rfl⟩
  rintro k s' ⟨i, m', ρ', M', h', tk, rfl, T', l', hI, hiN, rfl⟩
  have hit := (T'.st.wd _ List.mem_cons_self).1
  by_cases hlt : i < N
  · refine wpAny_pyNext_range_item (s := { s with heap := h', toks := tk }) (rangeIt_is.mpr hit) (by omega) fun h2 hit2 hs2 => ?_
    have T2 := T'.turn hW h00 hs2 (rangeIt_is.mp hit2)
    refine wpAny_assign_Name (wpAny_storeName_local hl T2.st.fr.ns (fun h3 hn hb => ?_) (storeOk T.nm.fk))
    obtain ⟨ρ2, dr, ex⟩ := turn i ρ' hlt hI
    have T3 := T2.store dr hn hb (.int _ _) hl hd
    refine ex (Fc.at (Fc.ward (c.at m') _) _) M' A _ _ _ T3 rm fun f fl ρ4 m4 h4 tk4 M4 T4 l4 r4 p4 => ?_
    have e1 : lo + ((i + 1 : Nat) : Int) = lo + (i : Int) + 1 := by push_cast; omega
    have e2 : (N : Int) - ((i + 1 : Nat) : Int) = (N : Int) - (i : Int) - 1 := by push_cast; omega
    have goon : I (i + 1) ρ4 → ∃ m, m < N + 1 - i ∧ ∃ i m' ρ' M' h' tk, ({ s with heap := h4, toks := tk4 } : Shared) = { s with heap := h', toks := tk } ∧ At X sc ((c.at m').ward (h1.objs.size, rangeIt (lo + (i : Nat)) ((N : Int) - (i : Nat)) 1)) ρ' M' h' ∧ LedLe M M' ∧ I i ρ' ∧ i ≤ N ∧ m = N + 1 - i :=
      fun p => ⟨N + 1 - (i + 1), by omega, i + 1, m4, ρ4, M4, h4, tk4, rfl, by rw [e1, e2]; exact T4, l'.trans l4, p, hlt, rfl⟩
    cases fl with
    | next => cases f <;> first | exact r4.elim | exact goon p4
    | cont => cases f <;> first | exact r4.elim | exact goon p4
    | brk =>
      cases f <;> first | exact r4.elim | skip
      exact q .next .next ρ4 m4 h4 tk4 M4 T4.unwatch (l'.trans l4) trivial p4
    | ret d =>
      cases f <;> first | exact r4.elim | skip
      exact q (.ret _) (.ret d) ρ4 m4 h4 tk4 M4 T4.unwatch (l'.trans l4) r4 p4
  · have hin : i = N := by omega
    subst hin
    refine wpAny_pyNext_range_end (s := { s with heap := h', toks := tk }) rm.hh (rangeIt_is.mpr hit) (by omega) fun h2 he2 => wpAny_execs_nil ?_
    exact q .next .next ρ' m' h2 tk M' (T'.leave hW h00 he2) l' trivial (done _ hI)

theorem ExS.forList {x : Str} {px pos : Pos} {iter : Expr} {body : List Stmt} {ds : List D} (I : Nat → Rho → Prop) (hi' : Ev X n sc ρ iter (.list ds))
    (h0 : I 0 ρ)
    (turn : ∀ i d ρ1, ds[i]? = some d → I i ρ1 → ∃ ρ2, Dr x ρ1 ρ2 ∧ ExS X n sc ((x, .val d) :: ρ2) body (Turn X n sc rest Φ (I (i + 1))))
    (done : ∀ ρ1, I ds.length ρ1 → ExS X n sc ρ1 rest Φ)
    (hl : sc.names.lookup x = some .local) (hd : (x == ("__debug__" : Str)) = false) (hs : ∀ env v, foldedSetIterable iter env v = pure v) :
    ExS X n sc ρ (.For (.Name x px) iter body [] pos :: rest) Φ := .seq fun c M A E s Q T rm q => by
  refine wpAny_For (hi' c M A E s _ T rm fun v h1 tk1 M1 i1 x1 hr => ?_) (hs _)
  have T1 := T.ext x1 i1
  cases hr with
  | list ha r hc =>
  rename_i l vs kk
  have hL : ∀ M' h', LedLe M1 M' → LedIn M' h' → h'.IsList l vs.toArray := fun M' h' le i => ⟨_, i _ _ (le _ _ ha), rfl, kk, rfl⟩
  refine wpAny_pyIter_list (s := { s with heap := h1, toks := tk1 }) (hL M1 h1 (LedLe.refl _) i1) ?_
  have hW : ∀ q ∈ c.W, q.1 ≠ h1.objs.size := fun q hq => ne_size (T1.st.wd q hq).1
  have h00 : c.h₀.get? h1.objs.size = none := by
    cases e : c.h₀.get? h1.objs.size with
    | none => rfl
    | some o => exact absurd rfl (ne_size (T1.st.fr.keep _ _ e))
  refine codeAny_forLoop (fun k s' => ∃ i m' ρ' M' h' tk o, s' = { s with heap := h', toks := tk } ∧ At X sc ((c.at m').ward (h1.objs.size, o)) ρ' M' h' ∧ h'.IsListIter h1.objs.size l i ∧ LedLe M M' ∧ LedLe M1 M' ∧ I i ρ' ∧ i ≤ ds.length ∧ k = ds.length + 1 - i) ?_ (ds.length + 1)
    ⟨0, c.m, ρ, M1, _, tk1, _, rfl, T1.watch (o := { cls := .type "list_iterator", data := .fields #[.ref l, .int 0 0] }) rfl, ⟨_, Heap.get?_push_size _ rfl, rfl, rfl⟩, x1.le, LedLe.refl _, h0, Nat.zero_le _, rfl⟩
  rintro k s' ⟨i, m', ρ', M', h', tk, o, rfl, T', hit, l', l1, hI, hiN, rfl⟩
  by_cases hlt : i < ds.length
  · obtain ⟨v, hv, rv⟩ := r.get (List.getElem?_eq_getElem hlt)
    refine wpAny_pyNext_list_item (s := { s with heap := h', toks := tk }) hit (hL M' h' l1 T'.st.inh) (by simpa using hv) fun h2 hit2 hs2 => ?_
    obtain ⟨o2, g2, _⟩ := id hit2
    have T2 := T'.turn hW h00 hs2 g2
    refine wpAny_assign_Name (wpAny_storeName_local hl T2.st.fr.ns (fun h3 hn hb => ?_) (storeOk T.nm.fk))
    obtain ⟨ρ2, dr, ex⟩ := turn i ds[i] ρ' (List.getElem?_eq_getElem hlt) hI
    have T3 := T2.store dr hn hb (rv.mono l1) hl hd
    refine ex (Fc.at (Fc.ward (c.at m') _) _) M' A _ _ _ T3 rm fun f fl ρ4 m4 h4 tk4 M4 T4 l4 r4 p4 => ?_
    have goon : I (i + 1) ρ4 → ∃ m, m < ds.length + 1 - i ∧ ∃ i m' ρ' M' h' tk o, ({ s with heap := h4, toks := tk4 } : Shared) = { s with heap := h', toks := tk } ∧ At X sc ((c.at m').ward (h1.objs.size, o)) ρ' M' h' ∧ h'.IsListIter h1.objs.size l i ∧ LedLe M M' ∧ LedLe M1 M' ∧ I i ρ' ∧ i ≤ ds.length ∧ m = ds.length + 1 - i :=
      fun p => ⟨ds.length + 1 - (i + 1), by omega, i + 1, m4, ρ4, M4, h4, tk4, o2, rfl, T4, by
        obtain ⟨o3, g3, q3⟩ := hit2
        rw [g2] at g3; cases g3
        exact ⟨o2, (T4.st.wd _ List.mem_cons_self).1, q3⟩, l'.trans l4, l1.trans l4, p, hlt, rfl⟩
    cases fl with
    | next => cases f <;> first | exact r4.elim | exact goon p4
    | cont => cases f <;> first | exact r4.elim | exact goon p4
    | brk =>
      cases f <;> first | exact r4.elim | skip
      exact q .next .next ρ4 m4 h4 tk4 M4 T4.unwatch (l'.trans l4) trivial p4
    | ret d =>
      cases f <;> first | exact r4.elim | skip
      exact q (.ret _) (.ret d) ρ4 m4 h4 tk4 M4 T4.unwatch (l'.trans l4) r4 p4
  · have hin : i = ds.length := by omega
    subst hin
    refine wpAny_pyNext_list_end (s := { s with heap := h', toks := tk }) rm.hh hit (hL M' h' l1 T'.st.inh) (by rw [List.getElem?_toArray]; exact List.getElem?_eq_none (by rw [r.length]; exact Nat.le_refl _)) fun h2 he2 => wpAny_execs_nil ?_
    exact q .next .next ρ' m' h2 tk M' (T'.leave hW h00 he2) l' trivial (done _ hI)
end
end Mine

namespace Mine
open PySem PySem.Calls PyProof.Rows PySem.Spec

section
variable {X : Cx} {n : Nat} {ρ ρ' : Rho} {sc : Scope} {Φ : PF → Rho → Prop} {rest : List Stmt}

/-! tests -/
/-- the truth of a datum -/
def truth : D → Option Bool
  | .bool b => some b
  | .none => some false
  | .int i => some (i != 0)
  | _ => none
theorem truth_wp {c : Fc} {M : Led} {v : Value} {d : D} {b : Bool} (r : Rp M v d) (h : truth d = some b) : WpM X n sc c ρ M (truthy v) (fun _ x => x = b) := .here fun A E s Q T rm q => by
  cases r <;> simp only [truth, Option.some.injEq, reduceCtorEq] at h
  · exact fun _ _ _ => q _ s.toks h
  · exact wpAny_truthy_bool (q _ s.toks h)
  · exact P.truthy_int (q _ s.toks h)
theorem Tr.val {e : Expr} {d : D} {b : Bool} (he : Ev X n sc ρ e d) (h : truth d = some b) (hs : ∀ env whole, isTrue e env whole = (do let v ← whole; standAt e.pos; holding [v] (truthy v))) : Tr X n sc ρ e b := fun c M A E s Q T rm q => by
  rw [hs]
  exact wpAny_bind (he c M A E s _ T rm fun v h' tk M' i x r => wpAny_bind (wpAny_standAt (wpAny_holding (truth_wp r h A E _ _ (T.ext x i) rm fun v2 h2 tk2 M2 i2 x2 r2 => q _ _ _ _ i2 (x.trans x2) r2))))
theorem Tr.not {e : Expr} {pos : Pos} {b : Bool} (he : Tr X n sc ρ e b) : Tr X n sc ρ (.UnaryOp .Not e pos) (!b) := fun c M A E s Q T rm q =>
  wpAny_isTrue_Not (he c M A E s _ T rm fun v h' tk M' i x r => q _ _ _ _ i x (by rw [r]))
theorem Tr.and2 {e e' : Expr} {pos : Pos} {b b' : Bool} (he : Tr X n sc ρ e b) (he' : b = true → Tr X n sc ρ e' b') : Tr X n sc ρ (.BoolOp .And [e, e'] pos) (b && b') := fun c M A E s Q T rm q => by
  refine wpAny_isTrue_BoolOp (wpAny_allTrue_And_cons (he c M A E s _ T rm fun v h' tk M' i x r => ?_))
  subst r
  cases v with
  | false => exact q _ _ _ _ i x rfl
  | true => exact wpAny_allTrue_And_cons (he' rfl c M' A E _ _ (T.ext x i) rm fun v2 h2 tk2 M2 i2 x2 r2 => by
      subst r2
      cases v2 with
      | false => exact q _ _ _ _ i2 (x.trans x2) rfl
      | true => exact wpAny_allTrue_And_nil (q _ _ _ _ i2 (x.trans x2) rfl))
theorem Tr.or2 {e e' : Expr} {pos : Pos} {b b' : Bool} (he : Tr X n sc ρ e b) (he' : b = false → Tr X n sc ρ e' b') : Tr X n sc ρ (.BoolOp .Or [e, e'] pos) (b || b') := fun c M A E s Q T rm q => by
  refine wpAny_isTrue_BoolOp (wpAny_allTrue_Or_cons (he c M A E s _ T rm fun v h' tk M' i x r => ?_))
  subst r
  cases v with
  | true => exact q _ _ _ _ i x rfl
  | false => exact wpAny_allTrue_Or_cons (he' rfl c M' A E _ _ (T.ext x i) rm fun v2 h2 tk2 M2 i2 x2 r2 => by
      subst r2
      cases v2 with
      | true => exact q _ _ _ _ i2 (x.trans x2) rfl
      | false => exact wpAny_allTrue_Or_nil (q _ _ _ _ i2 (x.trans x2) rfl))
/-- a and b, as a value; both bools -/
theorem Ev.and2 {e e' : Expr} {pos : Pos} {b b' : Bool} (he : Ev X n sc ρ e (.bool b)) (he' : b = true → Ev X n sc ρ e' (.bool b')) : Ev X n sc ρ (.BoolOp .And [e, e'] pos) (.bool (b && b')) := fun c M A E s Q T rm q => by
  refine wpAny_And2 (he c M A E s _ T rm fun v h' tk M' i x r => ?_)
  cases r
  refine wpAny_truthy_bool ?_
  cases b with
  | false => exact q _ _ _ _ i x (.bool _)
  | true => exact he' rfl c M' A E _ _ (T.ext x i) rm fun v2 h2 tk2 M2 i2 x2 r2 => q _ _ _ _ i2 (x.trans x2) r2
theorem boolOp_and {pos : Pos} {x : Sem Value} {y : Sem Value} {r : List (Sem Value)} {M : Model} {A : Around} {E : Value → Shared → Prop} {s : Shared} {Q : Value → Shared → Prop}
    (h : wpAny M A x (fun v s₁ => wpAny M A (truthy v) (fun t s₂ => if t then wpAny M A (boolOp pos .And (y :: r)) Q E s₂ else Q v s₂) E s₁) E s) : wpAny M A (boolOp pos .And (x :: y :: r)) Q E s := by
  unfold boolOp
  refine wpAny_bind (wpAny_mono h (fun v s₁ h₁ => wpAny_bind (wpAny_standAt (wpAny_bind (wpAny_holding (wpAny_mono h₁ (fun t s₂ h₂ => ?_) fun _ _ x => x))))) fun _ _ x => x)
  cases t with
  | false => exact wpAny_pure h₂
  | true => exact h₂
theorem Ev.and3 {e e' e'' : Expr} {pos : Pos} {b b' b'' : Bool} (he : Ev X n sc ρ e (.bool b)) (he' : b = true → Ev X n sc ρ e' (.bool b')) (he'' : b = true → b' = true → Ev X n sc ρ e'' (.bool b'')) : Ev X n sc ρ (.BoolOp .And [e, e', e''] pos) (.bool (b && b' && b'')) := fun c M A E s Q T rm q => by
  show wpAny _ _ (boolOp pos .And [eval e (c.env sc), eval e' (c.env sc), eval e'' (c.env sc)]) _ _ _
  refine boolOp_and (he c M A E s _ T rm fun v h' tk M' i x r => ?_)
  cases r
  refine wpAny_truthy_bool ?_
  cases b with
  | false => exact q _ _ _ _ i x (.bool _)
  | true =>
    refine boolOp_and (he' rfl c M' A E _ _ (T.ext x i) rm fun v2 h2 tk2 M2 i2 x2 r2 => ?_)
    cases r2
    refine wpAny_truthy_bool ?_
    cases b' with
    | false => exact q _ _ _ _ i2 (x.trans x2) (.bool _)
    | true => exact he'' rfl rfl c M2 A E _ _ ((T.ext x i).ext x2 i2) rm fun v3 h3 tk3 M3 i3 x3 r3 => q _ _ _ _ i3 ((x.trans x2).trans x3) r3
theorem Ev.not {e : Expr} {pos : Pos} {d : D} {b : Bool} (he : Ev X n sc ρ e d) (h : truth d = some b) : Ev X n sc ρ (.UnaryOp .Not e pos) (.bool (!b)) := fun c M A E s Q T rm q =>
  wpAny_UnaryOp (he c M A E s _ T rm fun v h' tk M' i x r => not_value (truth_wp r h A E _ _ (T.ext x i) rm fun v2 h2 tk2 M2 i2 x2 r2 => q _ _ _ _ i2 (x.trans x2) (by subst r2; exact .bool _)))
theorem Ev.neg {e : Expr} {pos : Pos} {k : Int} (he : Ev X n sc ρ e (.int k)) : Ev X n sc ρ (.UnaryOp .USub e pos) (.int (-k)) := fun c M A E s Q T rm q =>
  wpAny_UnaryOp (he c M A E s _ T rm fun v h' tk M' i x r => by cases r; exact P.neg_int (q _ _ _ _ i x (.int _ _)))
theorem Ev.ifExp {t e e' : Expr} {pos : Pos} {b : Bool} {d : D} (ht : Tr X n sc ρ t b) (h1 : b = true → Ev X n sc ρ e d) (h0 : b = false → Ev X n sc ρ e' d) : Ev X n sc ρ (.IfExp t e e' pos) d := fun c M A E s Q T rm q => by
  refine wpAny_IfExp (ht c M A E s _ T rm fun v h' tk M' i x r => ?_)
  subst r
  cases v with
  | true => exact h1 rfl c M' A E _ _ (T.ext x i) rm fun v2 h2 tk2 M2 i2 x2 r2 => q _ _ _ _ i2 (x.trans x2) r2
  | false => exact h0 rfl c M' A E _ _ (T.ext x i) rm fun v2 h2 tk2 M2 i2 x2 r2 => q _ _ _ _ i2 (x.trans x2) r2

theorem op_fdiv_int {i j : Int} (h0 : j ≠ 0) (h : j.natAbs < 1073741824) : Op2 (binaryOp .FloorDiv) (.int i) (.int j) (.int (i.fdiv j)) := fun X n sc c ρ M a b ra rb => by
  cases ra; cases rb; exact .here fun A E s Q T _ q => floordiv_int h0 (q _ _ (.int _ _)) (.inl (PyProof.noPylong_small h))
theorem op_mod_int {i j : Int} (h0 : j ≠ 0) : Op2 (binaryOp .Mod) (.int i) (.int j) (.int (i.fmod j)) := fun X n sc c ρ M a b ra rb => by
  cases ra; cases rb; exact .here fun A E s Q T _ q => mod_int' h0 (q _ _ (.int _ _))

/-! is None -/
def isNone : D → Bool
  | .none => true
  | _ => false
theorem op_is_none {d : D} : Op2 (compareOp .Is) d .none (.bool (isNone d)) := fun X n sc c ρ M a b ra rb => by
  cases rb
  refine .here fun A E s Q T _ q => is_none ?_
  have : (a == Value.none) = isNone d := by cases ra <;> rfl
  rw [this]; exact q _ s.toks (.bool _)
theorem op_isNot_none {d : D} : Op2 (compareOp .IsNot) d .none (.bool (!isNone d)) := fun X n sc c ρ M a b ra rb => by
  cases rb
  refine .here fun A E s Q T _ q => isNot_none ?_
  have : (a == Value.none) = isNone d := by cases ra <;> rfl
  rw [this]; exact q _ s.toks (.bool _)

/-! a list against [] -/
theorem op_eq_nil {xs : List D} : Op2 (compareOp .Eq) (.list xs) (.list []) (.bool xs.isEmpty) := fun X n sc c ρ M a b ra rb => by
  cases ra with
  | list ha r hc =>
    cases rb with
    | list hb r2 hc2 =>
      cases r2
      refine .here fun A E s Q T rm q => ?_
      have hu : A.units < cLine := by have := rm.units; omega
      cases r with
      | nil => exact P.eq_list (e := fun _ => true) (T.st.inh _ _ ha) (T.st.inh _ _ hb) rfl (fun j h1 => absurd h1 (Nat.not_lt_zero _)) hu (q _ s.toks (.bool _))
      | cons r1 r => exact P.eq_list_lengths (T.st.inh _ _ ha) (T.st.inh _ _ hb) (by simp) hu (q _ s.toks (.bool _))

/-! the frame of a def -/
theorem lookup_zip_rev {α : Type} : ∀ {xs : List Str} {vs : List α} {x : Str} {v : α}, xs.Nodup → (x, v) ∈ xs.zip vs → (xs.zip vs).reverse.lookup x = some v := by
  intro xs
  induction xs with
  | nil => intro vs x v _ h; simp at h
  | cons y xs ih =>
    intro vs x v nd h
    cases vs with
    | nil => simp at h
    | cons w vs =>
      simp only [List.zip_cons_cons, List.reverse_cons]
      rw [List.lookup_append]
      have nd' := (List.nodup_cons.mp nd)
      simp only [List.zip_cons_cons, List.mem_cons] at h
      rcases h with h | h
      · obtain ⟨e1, e2⟩ := Prod.mk.inj h
        rw [← e1] at nd'
        rw [← e1, ← e2]
        have : (xs.zip vs).reverse.lookup x = none := by
          cases e : (xs.zip vs).reverse.lookup x with
          | none => rfl
          | some u =>
            have hm : (x, u) ∈ (xs.zip vs).reverse := by
              have : ∀ (l : List (Str × α)), l.lookup x = some u → (x, u) ∈ l := by
                intro l
                induction l with
                | nil => intro h; cases h
                | cons p l ih =>
                  intro h
                  obtain ⟨a, b⟩ := p
                  rw [List.lookup_cons] at h
                  by_cases hx : x = a
                  · subst hx; simp at h; subst h; exact List.mem_cons_self
                  · have : (x == a) = false := by simpa using hx
                    rw [this] at h; exact List.mem_cons_of_mem _ (ih h)
              exact this _ e
            exact absurd (List.of_mem_zip (List.mem_reverse.mp hm)).1 nd'.1
        rw [this]; simp
      · rw [ih nd'.2 h]; rfl
theorem RpL.zip {M : Led} : ∀ {xs : List Str} {vs : List Value} {ds : List D} {x : Str} {d : D}, RpL M vs ds → (x, d) ∈ xs.zip ds → ∃ v, (x, v) ∈ xs.zip vs ∧ Rp M v d
  | [], _, _, _, _, _, h => by simp at h
  | _ :: _, _, _, _, _, .nil, h => by simp at h
  | y :: xs, _, _, x, d, .cons h0 r, h => by
    simp only [List.zip_cons_cons, List.mem_cons] at h
    rcases h with h | h
    · cases h; exact ⟨_, List.mem_cons_self, h0⟩
    · obtain ⟨v, hv, rv⟩ := r.zip h
      exact ⟨v, List.mem_cons_of_mem _ hv, rv⟩

/-- a def's contract by its body -/
theorem callOk_of {fd : Fn} {xs : List Str} {ds : List D} {d : D} (hfd : fd ∈ X.fns) (nd : xs.Nodup)
    (hb : ∀ pm cd doc vs, vs.length = ds.length → bindArgs (docDef fd.name fd.params fd.body fd.scope pm cd doc) ⟨vs, []⟩ = pure (xs.zip vs))
    (hloc : ∀ x ∈ xs, fd.scope.names.lookup x = some .local ∧ (x == ("__debug__" : Str)) = false)
    (body : ExS X n fd.scope (xs.zip (ds.map .val)) fd.body (fun fl _ => fl = .ret d ∨ (fl = .next ∧ d = .none)))
    (hco : fd.scope.isCoroutine = false) (hgen : fd.scope.isGenerator = false) (hk : fd.scope.kind = .function) (hcell : ∀ x ∈ fd.scope.names, x.2 ≠ .cell) : CallOk X (n + 1) fd.name ds d := by
  refine ⟨List.mem_map.mpr ⟨fd, hfd, rfl⟩, ?_⟩
  intro A E s M fa vs Q ok i r rm hfa q
  obtain ⟨fa', o, pm, code, doc, g1, g2, g3, g4⟩ := ok.fn fd hfd
  rw [hfa] at g1; cases g1
  have hu := rm.units
  have hdp := rm.depth
  refine wpAny_call (call_plain_ret (by omega) g2 g3 ok.nolimit g4 (hb pm code doc vs r.length) (fun x hx => (hloc x.1 (List.of_mem_zip hx).1).1) (fun h1 F => ?_) hco hgen hk hcell)
  refine body ⟨s.heap, M, [], s.heap.objs.size, fun x => (xs.zip vs).reverse.lookup x, fd.name, fa, code⟩ M _ _ _ _ ?_ ⟨rm.hh, ?_, ?_⟩ fun f fl ρ2 m2 h2 tk2 M2 T2 l2 r2 p2 => ?_
  · refine ⟨⟨ok, F, i.keeps F.keep, i.size_none, LedLe.refl M, fun _ _ _ e => e, fun _ h => nomatch h⟩, ⟨fun x d' hx => ?_, fun x es hx => ?_, fun x y es es' b hx => ?_⟩, hk, fun q hq => hloc q.1 (List.of_mem_zip hq).1⟩
    · have hx' : (x, d') ∈ xs.zip ds := by
        rw [List.zip_map_right] at hx
        obtain ⟨p, hp, e⟩ := List.mem_map.mp hx
        obtain ⟨p1, p2⟩ := p
        cases e; exact hp
      obtain ⟨v, hv, rv⟩ := r.zip hx'
      exact ⟨v, lookup_zip_rev nd hv, rv⟩
    · rw [List.zip_map_right] at hx
      obtain ⟨p, hp, e⟩ := List.mem_map.mp hx
      cases e
    · rw [List.zip_map_right] at hx
      obtain ⟨p, hp, e⟩ := List.mem_map.mp hx
      cases e
  · show A.depth + 1 + n < recursionLimit; omega
  · show A.units + 3 + 8 * n + 200 < cLine; omega
  · have xt : Ext s.heap M h2 M2 := ⟨T2.st.fr.keep, T2.st.m0, T2.st.mf⟩
    rcases p2 with rfl | ⟨rfl, rfl⟩
    · cases f <;> first | exact r2.elim | skip
      exact q _ _ _ _ T2.st.inh xt r2
    · cases f <;> first | exact r2.elim | skip
      exact q _ _ _ _ T2.st.inh xt .none
end
end Mine

namespace Mine
open PySem PySem.Calls PyProof.Rows PySem.Spec

section
variable {X : Cx} {n : Nat} {ρ ρ' : Rho} {sc : Scope} {Φ : PF → Rho → Prop} {rest : List Stmt}

/-- an owned list turns -/
theorem At.own {c : Fc} {M : Led} {h h' : Heap} {x : Str} {a : Addr} {vs : List Value} {k : Nat} {ds ds' : List D} (T : At X sc c ρ M h) (hx : (x, B.own ds) ∈ ρ) (ex : c.m x = some (.ref a)) (dr : Dr x ρ ρ') (hs : Heap.SameBut a h h')
    (g : h'.get? a = some (listO vs k)) (r : RpL M vs ds') (hc : ds'.length ≤ cap) : At X sc c ((x, .own ds') :: ρ') M h' := by
  obtain ⟨a', e', vs', k', g', r', hc', hM, aL, a0, aW⟩ := T.lo.owns x ds hx
  rw [ex] at e'; cases e'
  refine ⟨⟨T.st.ok, ⟨T.st.fr.ns.sameBut hs (Ne.symm aL), fun b o e => (hs.2 b (fun e' => by rw [e', a0] at e; cases e)).trans (T.st.fr.keep b o e), T.st.fr.above⟩, fun b o e => (hs.2 b (fun e' => by rw [e', hM] at e; cases e)).trans (T.st.inh b o e), T.st.ml, T.st.m0, T.st.mf,
    fun q hq => ⟨(hs.2 _ (aW q hq)).trans (T.st.wd q hq).1, (T.st.wd q hq).2⟩⟩, ⟨fun y d hy => ?_, fun y es hy => ?_, fun y z es es' b hy hz ey ez => ?_⟩, T.nm.store dr (T.nm.nm _ hx).1 (T.nm.nm _ hx).2⟩
  · rcases List.mem_cons.mp hy with hy | hy
    · cases hy
    · exact T.lo.vals y d (dr.sub _ hy)
  · rcases List.mem_cons.mp hy with hy | hy
    · cases hy; exact ⟨a, ex, vs, k, g, r, hc, hM, aL, a0, aW⟩
    · obtain ⟨b, e, vs2, k2, g2, q⟩ := T.lo.owns y es (dr.sub _ hy)
      exact ⟨b, e, vs2, k2, (hs.2 b (fun e' => dr.not _ hy (T.lo.dist y x es ds a (dr.sub _ hy) hx (by rw [← e']; exact e) ex))).trans g2, q⟩
  · rcases List.mem_cons.mp hy with hy | hy
    · cases hy
      rcases List.mem_cons.mp hz with hz | hz
      · cases hz; rfl
      · exact T.lo.dist x z ds es' b hx (dr.sub _ hz) ey ez
    · rcases List.mem_cons.mp hz with hz | hz
      · cases hz; exact T.lo.dist y x es ds b (dr.sub _ hy) hx ey ez
      · exact T.lo.dist y z es es' b (dr.sub _ hy) (dr.sub _ hz) ey ez

theorem ExS.setItem {x : Str} {p p' pos : Pos} {ie ve : Expr} {ds : List D} {k : Int} {d : D} (hx : (x, B.own ds) ∈ ρ) (hv : Ev X n sc ρ ve d) (hi : Ev X n sc ρ ie (.int k)) (h0 : 0 ≤ k) (h1 : k < ds.length) (dr : Drop x ρ ρ')
    (h : ExS X n sc ((x, .own (ds.set k.toNat d)) :: ρ') rest Φ) (hs : ∀ env, swapsWith ve (some (.Subscript (.Name x p) ie p')) pos.line env = pure false) : ExS X n sc ρ (.Assign [.Subscript (.Name x p) ie p'] ve pos :: rest) Φ := .seq fun c M A E s Q T rm q => by
  refine wpAny_Assign_Subscript (hv c M A E s _ T rm fun v h1' tk1 M1 i1 x1 r1 => ?_) (hs _)
  have T1 := T.ext x1 i1
  obtain ⟨a, ex, _⟩ := T1.lo.owns x ds hx
  have hn := T.nm.nm _ hx
  refine ld (h₀ := c.h₀) (s := { s with heap := h1', toks := tk1 }) T1.st.fr ex ?_ T.nm.fk hn.1 hn.2
  refine hi c M1 A E _ _ T1 rm fun iv h2 tk2 M2 i2 x2 r2 => ?_
  have T2 := T1.ext x2 i2
  cases r2
  obtain ⟨a', ex', vs, kk, g, r, hc, hM, _⟩ := T2.lo.owns x ds hx
  rw [ex] at ex'; cases ex'
  have hc' : ds.length ≤ 1048576 := hc
  refine PySem.W.ki_setAt (s := { s with heap := h2, toks := tk2 }) g h0 (by omega) (by rw [List.size_toArray, r.length]; exact h1) ?_
  have gs := Heap.get?_update_self (Obj.mapSeq (·.setIfInBounds k.toNat v)) g rfl
  have e : Obj.mapSeq (·.setIfInBounds k.toNat v) (listO vs kk) = listO (vs.set k.toNat v) kk := by
    show Obj.mapSeq _ ⟨_, _, .seq vs.toArray kk, _⟩ = _
    simp only [Obj.mapSeq, List.setIfInBounds_toArray, List.size_toArray, List.length_set, beq_self_eq_true, if_true]
  rw [e] at gs
  exact q .next .next _ c.m _ tk2 M2 (T2.own hx ex dr.dr (Heap.SameBut.update ..) gs (r.set k.toNat (r1.mono x2.le)) (by rw [List.length_set]; exact hc)) (x1.le.trans x2.le) trivial h

theorem ExS.append {x : Str} {p ap cp pos : Pos} {ve : Expr} {ds : List D} {d : D} (hx : (x, B.own ds) ∈ ρ) (hv : Ev X n sc ρ ve d) (hcap : ds.length < cap) (dr : Drop x ρ ρ') (h : ExS X n sc ((x, .own (ds ++ [d])) :: ρ') rest Φ)
    (hbase : ∀ env, attributeBase (.Name x p) "append" env (eval (.Name x p) env) = eval (.Name x p) env)
    (hst : ∀ env, starEach [ve] env = [(false, eval ve env)]) (hline : (ap.endLine == cp.line) = true)
    (hi : ∀ c : Fc, interactive (c.env sc) = false) (hs : ∀ env, swapsWith (.Call (.Attribute (.Name x p) "append" ap) [ve] [] cp) none pos.line env = pure false) :
    ExS X n sc ρ (.Expr (.Call (.Attribute (.Name x p) "append" ap) [ve] [] cp) pos :: rest) Φ := .seq fun c M A E s Q T rm q => by
  have hb : ∀ env, backTo cp (starEach [ve] env) = [(false, eval ve env)] := fun env => by rw [hst]; rfl
  refine wpAny_Expr (wpAny_Call_append (hbase _) (by rw [hb]; rfl) hline ?_ ?_) (hi c) (hs _)
  · exact hb _
  · obtain ⟨a, ex, vs0, kk0, g0, _⟩ := T.lo.owns x ds hx
    have hn := T.nm.nm _ hx
    refine ld (h₀ := c.h₀) T.st.fr ex ?_ T.nm.fk hn.1 hn.2
    refine ⟨a, _, rfl, ⟨_, _, g0, rfl, rfl, rfl⟩, ?_⟩
    refine hv c M A E _ _ T rm fun v h1 tk1 M1 i1 x1 r1 => ?_
    have T1 := T.ext x1 i1
    obtain ⟨a', ex', vs, kk, g, r, hc, hM, _⟩ := T1.lo.owns x ds hx
    rw [ex] at ex'; cases ex'
    have hc' : ds.length < 1048576 := hcap
    have hsz : vs.toArray.size ≤ sizeLine := by rw [List.size_toArray, r.length]; exact Nat.le_trans hc capLine
    refine call_meets (s := { s with heap := h1, toks := tk1 }) F.slot_list_append ⟨_, g, rfl⟩ F.entry_list_append (F.args_list_append_2 _ _) (list_append a vs.toArray kk v hsz) ⟨g, ?_⟩
    have gs := Heap.get?_update_self (Obj.mapSeq (fun xs => xs.push v)) g rfl
    have e : Obj.mapSeq (fun xs => xs.push v) (listO vs kk) = listO (vs ++ [v]) (kk + 1) := by
      show Obj.mapSeq _ ⟨_, _, .seq vs.toArray kk, _⟩ = _
      simp [Obj.mapSeq]
    rw [e] at gs
    exact q .next .next _ c.m _ tk1 M1 (T1.own hx ex dr.dr (Heap.SameBut.update ..) gs (r.append (.cons r1 .nil)) (by rw [List.length_append]; exact hcap)) x1.le trivial h

theorem clipAt_pos (n : Nat) {k : Int} (h : 0 ≤ k) : clipAt n k = min k.toNat n := by
  obtain ⟨j, rfl⟩ := Int.eq_ofNat_of_zero_le h
  exact clipAt_nat n j
theorem Ev.sliceTo {value e : Expr} {p pos : Pos} {xs : List D} {k : Int} (hv : Ev X n sc ρ value (.list xs)) (he : Ev X n sc ρ e (.int k)) (h0 : 0 ≤ k) : Ev X n sc ρ (.Subscript value (.Slice none (some e) none p) pos) (.list (xs.take k.toNat)) := by
  have := Ev.slice (lower := none) (upper := some e) (lo := none) (hi := some k) (p := p) (pos := pos) hv trivial he
  have e' : sliceL none (some k) xs = xs.take k.toNat := by
    unfold sliceL
    simp only [Option.elim, List.drop_zero, Nat.sub_zero, clipAt_pos _ h0]
    rw [List.take_eq_take_iff]; omega
  rw [e'] at this; exact this
theorem Ev.sliceFrom {value e : Expr} {p pos : Pos} {xs : List D} {k : Int} (hv : Ev X n sc ρ value (.list xs)) (he : Ev X n sc ρ e (.int k)) (h0 : 0 ≤ k) : Ev X n sc ρ (.Subscript value (.Slice (some e) none none p) pos) (.list (xs.drop k.toNat)) := by
  have := Ev.slice (lower := some e) (upper := none) (lo := some k) (hi := none) (p := p) (pos := pos) hv he trivial
  have e' : sliceL (some k) none xs = xs.drop k.toNat := by
    unfold sliceL
    simp only [Option.elim, clipAt_pos _ h0]
    rw [List.take_of_length_le (by rw [List.length_drop]; omega)]
    rcases Nat.le_total k.toNat xs.length with h | h
    · rw [Nat.min_eq_left h]
    · rw [Nat.min_eq_right h, List.drop_length, List.drop_eq_nil_of_le h]
  rw [e'] at this; exact this
theorem CallOk.mono {n n' : Nat} {f : Str} {ds : List D} {d : D} (h : CallOk X n f ds d) (l : n ≤ n') : CallOk X n' f ds d :=
  ⟨h.1, fun A E s M fa vs Q ok i r rm => h.2 A E s M fa vs Q ok i r ⟨rm.hh, by have := rm.depth; omega, by have := rm.units; omega⟩⟩
/-- a call without arguments -/
theorem Ev.call0 {f : Str} {p pos : Pos} {d : D} (hc : CallOk X n f [] d) (hl : sc.names.lookup f = some .globalImplicit) (hd : (f == ("__debug__" : Str)) = false) : Ev X n sc ρ (.Call (.Name f p) [] [] pos) d := fun c M A E s Q T rm q => by
  obtain ⟨fd, hfd, rfl⟩ := List.mem_map.mp hc.1
  obtain ⟨fa, o, pm, code, doc, g1, g2, g3, g4⟩ := T.st.okh.fn fd hfd
  refine Call_ (ld_global_at T.st.fr T.st.ok.g g1 ?_ T.nm.fk hl hd)
  refine callWith_function (o := o) (fd := docDef fd.name fd.params fd.body fd.scope pm code doc) ?_
  refine PyProof.Rows.evalArgs_nil3 ⟨⟨g2, g3⟩, ?_⟩
  exact hc.2 A E _ M fa [] Q T.st.okh T.st.inh .nil rm g1 fun v h2 tk2 M2 i2 x2 r2 => q _ _ _ _ i2 x2 r2

/-- a join behind a test: J holds of what the frame then knows -/
def Join (Φ : PF → Rho → Prop) (J : Rho → Prop) : PF → Rho → Prop := fun fl ρ => match fl with
  | .next => J ρ
  | fl => Φ fl ρ
theorem ExS.ifJoin {test : Expr} {body orelse : List Stmt} {pos : Pos} {b : Bool} (J : Rho → Prop) (ht : Tr X n sc ρ test b) (h1 : b = true → ExS X n sc ρ body (Join Φ J)) (h0 : b = false → ExS X n sc ρ orelse (Join Φ J))
    (k : ∀ ρ', J ρ' → ExS X n sc ρ' rest Φ) : ExS X n sc ρ (.If test body orelse pos :: rest) Φ := by
  have hm : ∀ fl ρ', Join Φ J fl ρ' → Then X n sc rest Φ fl ρ' := fun fl ρ' h => by cases fl <;> first | exact k _ h | exact h
  exact .iff ht (fun hb => (h1 hb).mono hm) (fun hb => (h0 hb).mono hm)
theorem Ev.listOf {p pos : Pos} {e : Expr} {xs : List D} (he : Ev X n sc ρ e (.list xs)) (hl : sc.names.lookup (Str.ofString "list") = some .globalImplicit)
    (h1 : ∀ env, starEach [e] env = (false, eval e env) :: starEach [] env) : Ev X n sc ρ (.Call (.Name (Str.ofString "list") p) [e] [] pos) (.list xs) := EvN.ev (EvN.listOf he hl h1)
end
end Mine

namespace Mine
open PySem PySem.Calls PyProof.Rows PySem.Spec

section
variable {X : Cx} {n : Nat} {ρ ρ' : Rho} {sc : Scope} {Φ : PF → Rho → Prop} {rest : List Stmt}
theorem bi_abs : (Str.ofString "abs", Value.builtin "abs") ∈ stdBis := by simp [stdBis]
theorem bi_type : (Str.ofString "type", Value.type "type") ∈ stdBis := by simp [stdBis]
theorem bi_int : (Str.ofString "int", Value.type "int") ∈ stdBis := by simp [stdBis]
theorem nd_abs : (Str.ofString "abs" == ("__debug__" : Str)) = false := by decide +kernel
theorem nd_type : (Str.ofString "type" == ("__debug__" : Str)) = false := by decide +kernel
theorem nd_int : (Str.ofString "int" == ("__debug__" : Str)) = false := by decide +kernel
theorem Ev.abs {p pos : Pos} {e : Expr} {k : Int} (he : Ev X n sc ρ e (.int k)) (hl : sc.names.lookup (Str.ofString "abs") = some .globalImplicit)
    (h1 : ∀ env, starEach [e] env = (false, eval e env) :: starEach [] env) : Ev X n sc ρ (.Call (.Name (Str.ofString "abs") p) [e] [] pos) (.int (if k < 0 then -k else k)) := fun c M A E s Q T rm q => by
  refine Call_ (wp_builtin bi_abs hl nd_abs A E s _ T rm fun f h' tk M' i x' hf => ?_)
  subst hf
  refine callWith_builtin1 (args_cons (he c M' A E _ _ (T.ext x' i) rm fun v h2 tk2 M2 i2 x2 r => args_nil ?_) (h1 _)) (h1 _)
  cases r
  exact call_abs_int fun u tk => q _ _ _ _ i2 (x'.trans x2) (.int _ _)
/-- type(e) is int, e an int -/
theorem Tr.typeIsInt {p p' pos pos' : Pos} {e : Expr} {k : Int} (he : Ev X n sc ρ e (.int k)) (hl : sc.names.lookup (Str.ofString "type") = some .globalImplicit) (hl' : sc.names.lookup (Str.ofString "int") = some .globalImplicit)
    (h1 : ∀ env, starEach [e] env = (false, eval e env) :: starEach [] env) : Tr X n sc ρ (.Compare (.Call (.Name (Str.ofString "type") p) [e] [] pos) [.Is] [.Name (Str.ofString "int") p'] pos') true := fun c M A E s Q T rm q => by
  refine wpAny_isTrue_Compare1 (Call_ (wp_builtin bi_type hl nd_type A E s _ T rm fun f h' tk M' i x' hf => ?_)) rfl
  subst hf
  refine PyProof.Rows.callWith_type1 (args_cons (he c M' A E _ _ (T.ext x' i) rm fun v h2 tk2 M2 i2 x2 r => args_nil ?_) (h1 _)) (h1 _)
  cases r
  refine call_type_of (typeIs_int _ _ _) (by decide) ?_
  refine wp_builtin bi_int hl' nd_int A E _ _ ((T.ext x' i).ext x2 i2) rm fun f h3 tk3 M3 i3 x3 hf => ?_
  subst hf
  exact wpAny_is_self (by decide) (wpAny_truthy_bool (q _ _ _ _ i3 ((x'.trans x2).trans x3) rfl))
/-- `is` on two bools -/
theorem op_is_bool {a b : Bool} : Op2 (compareOp .Is) (.bool a) (.bool b) (.bool (a == b)) := fun X n sc c ρ M a b ra rb => by
  cases ra; cases rb; exact .here fun A E s Q T _ q => is_bool (q _ s.toks (.bool _))
end

/-! the head: from what the row's head hands on to a call of the law -/
open PySem.W
def toFn (d : DefRec) : Fn := ⟨d.name, d.params, d.body, d.scope⟩
def topCx (prog : Program) (w : World) (mg mb : Str → Option Value) (q : Program) : Cx := ⟨prog, w, mg, mb, (recsOf q).map toFn⟩
def biOk (q : Program) (loose : List Str) : Bool := stdBis.all fun p => !startupNames.contains p.1 && !loose.contains p.1 && !((recsOf q).map (·.name)).contains p.1 && !((litsOf q).map (·.1)).contains p.1 && !((clssOf q loose).map (·.name)).contains p.1 && (p.1 != ("__name__" : Str)) && bootBuiltins p.1 == some p.2
theorem topCx_ok {prog q : Program} {w : World} {mg mb : Str → Option Value} {loose : List Str} {mean : ExcName → Option Value} {h : Heap} (T : Top q loose mean mg mb h) (hb : biOk q loose = true) : (topCx prog w mg mb q).Ok h where
  g := T.g
  b := T.b
  nolimit := T.nolimit
  fn := fun d hd => by
    obtain ⟨d', hd', rfl⟩ := List.mem_map.mp hd
    exact T.fn d' hd'
  bi := fun p hp => by
    have := List.all_eq_true.mp hb p hp
    simp only [Bool.and_eq_true, Bool.not_eq_true', beq_iff_eq, bne_iff_ne, ne_eq, List.contains_eq_mem, decide_eq_false_iff_not] at this
    obtain ⟨⟨⟨⟨⟨⟨a, b⟩, c⟩, d⟩, e⟩, f⟩, g⟩ := this
    exact ⟨T.free p.1 a b c d e, (T.builtins p.1 f).trans g⟩
theorem mem_fns {prog q : Program} {w : World} {mg mb : Str → Option Value} {r : Option Fn} {f : Fn → Bool} {fd : Fn} (h : ((recsOf q).map toFn).find? f = r) (hg : r = some fd) : fd ∈ (topCx prog w mg mb q).fns :=
  List.mem_of_find?_eq_some (h.trans hg)

theorem rpl_ints {M : Led} : ∀ {vs : List Value} {ns : List Int}, IntsAre vs ns → RpL M vs (ns.map .int)
  | _, _, .nil => .nil
  | _, _, .cons i t h => .cons (.int i t) (rpl_ints h)
theorem well_list {P : Params} {h : Heap} {l : Addr} {xs : List WData} {vs : List Value} (W : Well P h (.ref l) (.list xs)) (hL : h.IsList l vs.toArray) : h.get? l = some (listO vs 0) := by
  cases W with
  | list g _ =>
    obtain ⟨o, ho, _, n, hd⟩ := hL
    rw [g] at ho; cases ho
    cases hd
    exact g
theorem ledIn_one {h : Heap} {l : Addr} {o : Obj} (g : h.get? l = some o) : LedIn (fun a => if a = l then some o else none) h := fun a o' e => by
  dsimp only at e
  by_cases ha : a = l
  · rw [if_pos ha] at e; cases e; rw [ha]; exact g
  · rw [if_neg ha] at e; cases e
/-- the law's call, by its contract -/
theorem law_call {X : Cx} {n : Nat} {name : Str} {ns : List Int} {vs : List Value} {l fa : Addr} {s : Shared} {E : Value → Shared → Prop} {Q : Value → Shared → Prop} {P : Params} {xs : List WData}
    (C : CallOk X n name [.list (ns.map .int)] (.bool true)) (ok : X.Ok s.heap) (W : Well P s.heap (.ref l) (.list xs)) (hL : s.heap.IsList l vs.toArray) (hI : IntsAre vs ns) (hn : ns.length ≤ 1048576) (hfa : X.mg name = some (.ref fa)) (hr : n ≤ 500)
    (q : ∀ h' tk, Keeps s.heap h' → Q (.bool true) { s with heap := h', toks := tk }) : wpAny (model X.prog X.w) callerA (call (.ref fa) [.ref l]) Q E s := by
  have g := well_list W hL
  refine C.2 callerA E s (fun a => if a = l then some (listO vs 0) else none) fa [.ref l] Q ok (ledIn_one g) (.cons (.list (n := 0) (if_pos rfl) (rpl_ints hI) (by rw [List.length_map]; exact hn)) .nil) ⟨rfl, ?_, ?_⟩ hfa (fun v h' tk M' i x r => by
    cases r; exact q h' tk x.keep)
  · have : callerA.depth = 1 + claimMargin := rfl
    rw [this]
    have : 1 + claimMargin + 500 < recursionLimit := by decide
    omega
  · show 4 + 8 * n + 200 < cLine
    have : cLine = 9900 := rfl
    omega
end Mine

namespace Mine
open PySem PySem.Calls PyProof.Rows PySem.Spec

/-! == on data -/
mutual
def D.py : D → PyData
  | .none => .none
  | .bool b => .bool b
  | .int i => .int i
  | .flt _ => .none
  | .str s => .str s
  | .list xs => .list (D.pys xs)
  | .tup xs => .tuple (D.pys xs)
def D.pys : List D → List PyData
  | [] => []
  | d :: ds => d.py :: D.pys ds
end
/-- none, ints, texts, and lists and tuples of these, at most k deep -/
inductive Plain : Nat → D → Prop
  | none {k : Nat} : Plain k .none
  | int {k : Nat} (i : Int) : Plain k (.int i)
  | str {k : Nat} (s : Str) : PyData.strOk s = true → Plain k (.str s)
  | list {k : Nat} {ds : List D} : (∀ d ∈ ds, Plain k d) → Plain (k + 1) (.list ds)
  | tup {k : Nat} {ds : List D} : (∀ d ∈ ds, Plain k d) → Plain (k + 1) (.tup ds)
theorem Plain.mono : ∀ {k : Nat} {d : D}, Plain k d → ∀ {k' : Nat}, k ≤ k' → Plain k' d := by
  intro k
  induction k with
  | zero =>
    intro d h k' _
    cases h with
    | none => exact .none
    | int i => exact .int i
    | str s hs => exact .str s hs
  | succ k ih =>
    intro d h k' hk
    cases h with
    | none => exact .none
    | int i => exact .int i
    | str s hs => exact .str s hs
    | list h =>
      obtain ⟨j, rfl⟩ : ∃ j, k' = j + 1 := ⟨k' - 1, by omega⟩
      exact .list fun d hd => ih (h d hd) (by omega)
    | tup h =>
      obtain ⟨j, rfl⟩ : ∃ j, k' = j + 1 := ⟨k' - 1, by omega⟩
      exact .tup fun d hd => ih (h d hd) (by omega)
theorem plain_facts : ∀ (k : Nat), (∀ d, Plain k d → d.py.canLay0 = true ∧ d.py.depth ≤ k ∧ (∀ k' e, Plain k' e → (PyData.eqv d.py e.py = true ↔ d = e)) ∧ ∀ M h v, LedIn M h → Rp M v d → ∃ as, Reads h v d.py as) ∧
    (∀ ds, (∀ d ∈ ds, Plain k d) → PyData.canLayAll0 (D.pys ds) = true ∧ PyData.depthAll (D.pys ds) ≤ k ∧ (∀ k' es, (∀ e ∈ es, Plain k' e) → (PyData.eqvAll (D.pys ds) (D.pys es) = true ↔ ds = es)) ∧ ∀ M h vs, LedIn M h → RpL M vs ds → ∃ as, ReadsAll h vs (D.pys ds) as) := by
  have atom : ∀ k d, (d = .none ∨ (∃ i, d = .int i) ∨ ∃ s, d = .str s ∧ PyData.strOk s = true) → d.py.canLay0 = true ∧ d.py.depth ≤ k ∧ (∀ k' e, Plain k' e → (PyData.eqv d.py e.py = true ↔ d = e)) ∧ ∀ M h v, LedIn M h → Rp M v d → ∃ as, Reads h v d.py as := by
    rintro k d (rfl | ⟨i, rfl⟩ | ⟨s, rfl, hs⟩)
    · refine ⟨by simp [D.py, PyData.canLay0], by simp [D.py, PyData.depth], fun k' e pe => ?_, fun M h v _ r => ?_⟩
      · cases pe <;> simp [D.py, PyData.eqv]
      · cases r; exact ⟨_, .none⟩
    · refine ⟨by simp [D.py, PyData.canLay0], by simp [D.py, PyData.depth], fun k' e pe => ?_, fun M h v _ r => ?_⟩
      · cases pe <;> simp [D.py, PyData.eqv]
      · cases r; exact ⟨_, .int _ _⟩
    · refine ⟨by simpa [D.py, PyData.canLay0] using hs, by simp [D.py, PyData.depth], fun k' e pe => ?_, fun M h v _ r => ?_⟩
      · cases pe <;> simp [D.py, PyData.eqv]
      · cases r; exact ⟨_, .str _ _⟩
  have all : ∀ k, (∀ d, Plain k d → d.py.canLay0 = true ∧ d.py.depth ≤ k ∧ (∀ k' e, Plain k' e → (PyData.eqv d.py e.py = true ↔ d = e)) ∧ ∀ M h v, LedIn M h → Rp M v d → ∃ as, Reads h v d.py as) →
      (∀ ds, (∀ d ∈ ds, Plain k d) → PyData.canLayAll0 (D.pys ds) = true ∧ PyData.depthAll (D.pys ds) ≤ k ∧ (∀ k' es, (∀ e ∈ es, Plain k' e) → (PyData.eqvAll (D.pys ds) (D.pys es) = true ↔ ds = es)) ∧ ∀ M h vs, LedIn M h → RpL M vs ds → ∃ as, ReadsAll h vs (D.pys ds) as) := by
    intro k one ds
    induction ds with
    | nil =>
      intro _
      refine ⟨by simp [D.pys, PyData.canLayAll0], by simp [D.pys, PyData.depthAll], fun k' es _ => ?_, fun M h vs _ r => ?_⟩
      · cases es <;> simp [D.pys, PyData.eqvAll]
      · cases r; exact ⟨_, .nil⟩
    | cons d ds ih =>
      intro hp
      obtain ⟨a1, a2, a3, a4⟩ := one d (hp d List.mem_cons_self)
      obtain ⟨b1, b2, b3, b4⟩ := ih fun e he => hp e (List.mem_cons_of_mem _ he)
      refine ⟨by simp [D.pys, PyData.canLayAll0, a1, b1], by simp only [D.pys, PyData.depthAll]; omega, fun k' es he => ?_, fun M h vs i r => ?_⟩
      · cases es with
        | nil => simp [D.pys, PyData.eqvAll]
        | cons e es =>
          simp only [D.pys, PyData.eqvAll, Bool.and_eq_true, a3 k' e (he e List.mem_cons_self), b3 k' es fun x hx => he x (List.mem_cons_of_mem _ hx), List.cons.injEq]
      · cases r with
        | cons r rs =>
          obtain ⟨as, ha⟩ := a4 M h _ i r
          obtain ⟨bs, hb⟩ := b4 M h _ i rs
          exact ⟨_, .cons ha hb⟩
  intro k
  induction k with
  | zero =>
    have one : ∀ d, Plain 0 d → _ := fun d hd => atom 0 d (by cases hd with
      | none => exact .inl rfl
      | int i => exact .inr (.inl ⟨i, rfl⟩)
      | str s hs => exact .inr (.inr ⟨s, rfl, hs⟩))
    exact ⟨one, all 0 one⟩
  | succ k ih =>
    have one : ∀ d, Plain (k + 1) d → d.py.canLay0 = true ∧ d.py.depth ≤ k + 1 ∧ (∀ k' e, Plain k' e → (PyData.eqv d.py e.py = true ↔ d = e)) ∧ ∀ M h v, LedIn M h → Rp M v d → ∃ as, Reads h v d.py as := by
      intro d hd
      cases hd with
      | none => exact atom _ _ (.inl rfl)
      | int i => exact atom _ _ (.inr (.inl ⟨i, rfl⟩))
      | str s hs => exact atom _ _ (.inr (.inr ⟨s, rfl, hs⟩))
      | @list _ ds h =>
        obtain ⟨b1, b2, b3, b4⟩ := ih.2 ds h
        refine ⟨by simpa [D.py, PyData.canLay0] using b1, by simp only [D.py, PyData.depth]; omega, fun k' e pe => ?_, fun M h v i r => ?_⟩
        · cases pe with
          | list he => simp only [D.py, PyData.eqv, b3 _ _ he, D.list.injEq]
          | _ => simp [D.py, PyData.eqv]
        · cases r with
          | list g rs _ =>
            obtain ⟨as, ha⟩ := b4 M h _ i rs
            exact ⟨_, .list (i _ _ g) rfl rfl (by simpa using ha)⟩
      | @tup _ ds h =>
        obtain ⟨b1, b2, b3, b4⟩ := ih.2 ds h
        refine ⟨by simpa [D.py, PyData.canLay0] using b1, by simp only [D.py, PyData.depth]; omega, fun k' e pe => ?_, fun M h v i r => ?_⟩
        · cases pe with
          | tup he => simp only [D.py, PyData.eqv, b3 _ _ he, D.tup.injEq]
          | _ => simp [D.py, PyData.eqv]
        · cases r with
          | tup g rs =>
            obtain ⟨as, ha⟩ := b4 M h _ i rs
            exact ⟨_, .tuple (i _ _ g) rfl rfl (by simpa using ha)⟩
    exact ⟨one, all _ one⟩
theorem op_eq_data {k : Nat} {d e : D} {b : Bool} (hd : Plain k d) (he : Plain k e) (hk : k ≤ 100) (hb : b = true ↔ d = e) : Op2 (compareOp .Eq) d e (.bool b) := fun X n sc c ρ M v w rv rw' => .here fun A E s Q T rm q => by
  obtain ⟨a1, a2, a3, a4⟩ := (plain_facts k).1 d hd
  obtain ⟨b1, b2, b3, b4⟩ := (plain_facts k).1 e he
  obtain ⟨as, ha⟩ := a4 M s.heap v T.st.inh rv
  obtain ⟨bs, hb'⟩ := b4 M s.heap w T.st.inh rw'
  have hu := rm.units
  have hm : min d.py.depth e.py.depth ≤ d.py.depth := Nat.min_le_left _ _
  have e' : PyData.eqv d.py e.py = b := by
    have := a3 k e he
    cases h1 : PyData.eqv d.py e.py <;> cases b <;> simp_all
  refine SeqAt.compareEq_reads ha hb' a1 b1 (by omega) ?_
  rw [e']; exact q _ s.toks (.bool _)
theorem op_ne_data {k : Nat} {d e : D} {b : Bool} (hd : Plain k d) (he : Plain k e) (hk : k ≤ 100) (hb : b = true ↔ d ≠ e) : Op2 (compareOp .NotEq) d e (.bool b) := fun X n sc c ρ M v w rv rw' => .here fun A E s Q T rm q => by
  obtain ⟨a1, a2, a3, a4⟩ := (plain_facts k).1 d hd
  obtain ⟨b1, b2, b3, b4⟩ := (plain_facts k).1 e he
  obtain ⟨as, ha⟩ := a4 M s.heap v T.st.inh rv
  obtain ⟨bs, hb'⟩ := b4 M s.heap w T.st.inh rw'
  have hu := rm.units
  have hm : min d.py.depth e.py.depth ≤ d.py.depth := Nat.min_le_left _ _
  have e' : (!PyData.eqv d.py e.py) = b := by
    have := a3 k e he
    cases h1 : PyData.eqv d.py e.py <;> cases b <;> simp_all
  refine SeqAt.compareNe_reads ha hb' a1 b1 (by omega) ?_
  rw [e']; exact q _ s.toks (.bool _)
theorem Plain.ints (ks : List Int) : Plain 1 (.list (ks.map .int)) := .list fun d hd => by
  obtain ⟨i, _, rfl⟩ := List.mem_map.mp hd; exact .int i

/-! reading a list of the frame's own -/
section
variable {X : Cx} {n : Nat} {ρ ρ' : Rho} {sc : Scope} {Φ : PF → Rho → Prop} {rest : List Stmt}
theorem Ev.itemOwn {x : Str} {p pos : Pos} {slice : Expr} {ds : List D} {k : Int} {d : D} (hx : (x, B.own ds) ∈ ρ) (hi : Ev X n sc ρ slice (.int k)) (h0 : 0 ≤ k) (hd : ds[k.toNat]? = some d) (hs : PlainIx slice) :
    Ev X n sc ρ (.Subscript (.Name x p) slice pos) d := fun c M A E s Q T rm q => by
  obtain ⟨a, ex, _⟩ := T.lo.owns x ds hx
  have hn := T.nm.nm _ hx
  refine Subscript_ (ld (h₀ := c.h₀) T.st.fr ex ?_ T.nm.fk hn.1 hn.2)
  refine hi c M A E _ _ T rm fun iv h2 tk2 M2 i2 x2 r2 => ?_
  have T2 := T.ext x2 i2
  cases r2
  obtain ⟨a', ex', vs, kk, g, r, hc, hM, _⟩ := T2.lo.owns x ds hx
  rw [ex] at ex'; cases ex'
  obtain ⟨v, hv, rv⟩ := r.get hd
  have hlt := lt_of_get hd
  have hc' : ds.length ≤ 1048576 := hc
  have hL : h2.IsList a vs.toArray := ⟨_, g, rfl, _, rfl⟩
  exact tail_any (s := { s with heap := h2, toks := tk2 }) hL.typeIs slot_list_getitem.lookup (wpAny_getItem_list hL h0 (by omega) (by simpa using hv) (q v _ _ _ i2 x2 rv)) (hs _ _)
theorem Ev.to {e : Expr} {d d' : D} (h : Ev X n sc ρ e d) (he : d = d') : Ev X n sc ρ e d' := he ▸ h
theorem Ev.lenOwn {x : Str} {p p' pos : Pos} {ds : List D} (hx : (x, B.own ds) ∈ ρ) (hl : sc.names.lookup (Str.ofString "len") = some .globalImplicit) : Ev X n sc ρ (.Call (.Name (Str.ofString "len") p) [.Name x p'] [] pos) (.int ds.length) := fun c M A E s Q T rm q => by
  refine Call_ (wp_builtin bi_len hl nd_len A E s _ T rm fun f h' tk M' i x' hf => ?_)
  subst hf
  have T1 := T.ext x' i
  obtain ⟨a, ex, vs, kk, g, r, hc, hM, _⟩ := T1.lo.owns x ds hx
  have hn := T.nm.nm _ hx
  refine callWith_builtin1 (args_cons (ld (h₀ := c.h₀) (s := { s with heap := h', toks := tk }) T1.st.fr ex (args_nil ?_) T.nm.fk hn.1 hn.2) rfl) rfl
  have hL : h'.IsList a vs.toArray := ⟨_, g, rfl, _, rfl⟩
  have hc' : ds.length ≤ 1048576 := hc
  refine call_len_list (s := { s with heap := h', toks := tk }) hL (by rw [List.size_toArray, r.length]; omega) ?_
  rw [List.size_toArray, r.length]
  exact q _ _ _ _ i x' (.int _ _)
theorem op_isNot_bool {a b : Bool} : Op2 (compareOp .IsNot) (.bool a) (.bool b) (.bool (a != b)) := fun X n sc c ρ M a b ra rb => by
  cases ra; cases rb; exact .here fun A E s Q T _ q => isnot_bool (q _ s.toks (.bool _))
/-- an item of a list from behind -/
theorem op_item_listNeg {value slice : Expr} {ds : List D} {i : Int} {d : D} (h0 : i < 0) (h1 : -(ds.length : Int) ≤ i) (hd : ds[(i + ds.length).toNat]? = some d) (hs : PlainIx slice) : Op2 (subscriptTail value slice) (.list ds) (.int i) d := fun X n sc c ρ M a b ra rb => by
  cases ra with
  | list ha r hc =>
    cases rb
    refine .here fun A E s Q T _ q => ?_
    obtain ⟨v, hv, rv⟩ := r.get hd
    have hc' : ds.length ≤ 1048576 := hc
    have hL : s.heap.IsList _ _ := ⟨_, T.st.inh _ _ ha, rfl, _, rfl⟩
    exact tail_any hL.typeIs slot_list_getitem.lookup (wpAny_getItem_list_neg hL h0 (by rw [List.size_toArray, r.length]; exact h1) (by omega) (by rw [List.size_toArray, r.length]; simpa using hv) (q v s.toks rv)) (hs _ _)
end
end Mine

namespace Mine
open PySem

abbrev Li (ks : List Int) : D := .list (ks.map .int)
def slot (ks : List Int) (k : Int) : Nat := (ks.filter (· < k)).length
def Sorted (ks : List Int) : Prop := ks.Pairwise (· < ·)

theorem Sorted.le {ks : List Int} (h : Sorted ks) {i j : Nat} {a b : Int} (hij : i ≤ j) (hi : ks[i]? = some a) (hj : ks[j]? = some b) : a ≤ b := by
  have h1 := List.pairwise_iff_getElem.mp h
  obtain ⟨hi', rfl⟩ := List.getElem?_eq_some_iff.mp hi
  obtain ⟨hj', rfl⟩ := List.getElem?_eq_some_iff.mp hj
  rcases Nat.lt_or_ge i j with h2 | h2
  · exact Int.le_of_lt (h1 i j hi' hj' h2)
  · have : i = j := by omega
    subst this; exact Int.le_refl _
theorem slot_le (ks : List Int) (k : Int) : slot ks k ≤ ks.length := List.length_filter_le ..
/-- the one place that parts the keys -/
theorem slot_unique {ks : List Int} {k : Int} {p : Nat} (hp : p ≤ ks.length) (h1 : ∀ j a, j < p → ks[j]? = some a → a < k) (h2 : ∀ j a, p ≤ j → ks[j]? = some a → ¬ a < k) : slot ks k = p := by
  unfold slot
  induction ks generalizing p with
  | nil => simp at hp; simp [hp]
  | cons x ks ih =>
    cases p with
    | zero =>
      have hx := h2 0 x (Nat.le_refl _) rfl
      rw [List.filter_cons_of_neg (by simpa using hx)]
      exact ih (Nat.zero_le _) (fun j a hj => absurd hj (Nat.not_lt_zero _)) fun j a _ e => h2 (j + 1) a (Nat.zero_le _) (by simpa using e)
    | succ p =>
      have hx := h1 0 x (Nat.succ_pos _) rfl
      rw [List.filter_cons_of_pos (by simpa using hx), List.length_cons, ih (p := p) (by simpa using hp) (fun j a hj e => h1 (j + 1) a (by omega) (by simpa using e)) fun j a hj e => h2 (j + 1) a (by omega) (by simpa using e)]
theorem ints_get {ks : List Int} {j : Nat} {a : Int} (h : ks[j]? = some a) : (ks.map D.int)[j]? = some (.int a) := by rw [List.getElem?_map, h]; rfl

/-- a node of the tree -/
inductive T where
  | node (ks vs : List Int) (cs : List T)
namespace T
def ks : T → List Int | node k _ _ => k
def vs : T → List Int | node _ v _ => v
def cs : T → List T | node _ _ c => c
mutual
def toD : T → D | node ks vs cs => .tup [Li ks, Li vs, .list (toDs cs)]
def toDs : List T → List D
  | [] => []
  | c :: cs => toD c :: toDs cs
end
theorem toDs_eq : ∀ cs : List T, toDs cs = cs.map toD
  | [] => rfl
  | c :: cs => by rw [toDs, toDs_eq cs, List.map_cons]
theorem toD_node (ks vs : List Int) (cs : List T) : toD (node ks vs cs) = .tup [Li ks, Li vs, .list (cs.map toD)] := by rw [toD, toDs_eq]
theorem toD_eq (n : T) : toD n = .tup [Li n.ks, Li n.vs, .list (n.cs.map toD)] := by cases n; exact toD_node ..

/-- what split_child gives -/
def split (n : T) (i t : Nat) : T := match n.cs[i]? with
  | none => n
  | some c => node (n.ks.take i ++ [c.ks.getD (t - 1) 0] ++ n.ks.drop i) (n.vs.take i ++ [c.vs.getD (t - 1) 0] ++ n.vs.drop i)
      (n.cs.take i ++ [node (c.ks.take (t - 1)) (c.vs.take (t - 1)) (c.cs.take t), node (c.ks.drop t) (c.vs.drop t) (c.cs.drop t)] ++ n.cs.drop (i + 1))

/-- what insert_below gives -/
def insB (t : Nat) (k v : Int) : Nat → T → T
  | 0, n => n
  | d + 1, n =>
    let i := slot n.ks k
    if n.ks[i]? = some k then node n.ks (n.vs.set i v) n.cs
    else match n.cs[i]? with
      | none => node (n.ks.take i ++ [k] ++ n.ks.drop i) (n.vs.take i ++ [v] ++ n.vs.drop i) []
      | some c =>
        if c.ks.length = 2 * t - 1 then
          let s := split n i t
          let x := s.ks.getD i 0
          if x = k then node s.ks (s.vs.set i v) s.cs
          else
            let j := if x < k then i + 1 else i
            match s.cs[j]? with
            | none => s
            | some c' => node s.ks s.vs (s.cs.set j (insB t k v d c'))
        else node n.ks n.vs (n.cs.set i (insB t k v d c))
def ins (t : Nat) (n : T) (k v : Int) : T := insB t k v 64 (if n.ks.length = 2 * t - 1 then split (node [] [] [n]) 0 t else n)
def empty : T := node [] [] []

/-- well formed: sorted keys, as many values, no children or one more; every node of the same depth h -/
inductive Wf : Nat → T → Prop
  | leaf {ks vs : List Int} : Sorted ks → vs.length = ks.length → ks.length ≤ 1000 → Wf 0 (node ks vs [])
  | inner {h : Nat} {ks vs : List Int} {cs : List T} : Sorted ks → vs.length = ks.length → ks.length ≤ 1000 → cs.length = ks.length + 1 → (∀ c ∈ cs, Wf h c) → Wf (h + 1) (node ks vs cs)
end T
end Mine

namespace Mine
open PySem PySem.Calls PyProof.Rows PySem.Spec
local macro_rules | `(tactic| walk_at "m.mem") => `(tactic| first | with_reducible exact List.mem_cons_self | ((with_reducible refine' List.mem_cons_of_mem _ ?a); (case a => walk_at "m.mem")))
local macro_rules | `(tactic| walk_at "m.drop") => `(tactic| first | with_reducible exact Drop.nil | ((with_reducible refine' Drop.same ?a); (case a => walk_at "m.drop")) | ((with_reducible refine' Drop.ne ?a ?b); (case a => decide); (case b => walk_at "m.drop")))
local macro_rules | `(tactic| walk_at "m.sub") => `(tactic| first | exact List.forall_mem_nil _ | (refine List.forall_mem_cons.mpr ⟨?_, ?_⟩; (focus (walk_at "m.mem")); (walk_at "m.sub")))
local macro_rules | `(tactic| walk_at "m.side") => `(tactic| first | assumption | (simp only [List.length_map, List.length_append, List.length_take, List.length_drop, List.length_cons, List.length_nil, List.length_set, cap]; omega) | omega)
local macro_rules | `(tactic| walk_at "m.op") => `(tactic| first
  | with_reducible exact op_add_int
  | with_reducible exact op_sub_int
  | with_reducible exact op_eq_int
  | with_reducible exact op_lt_int
  | with_reducible exact op_ge_int
  | with_reducible exact op_gt_int
  | with_reducible exact op_le_int
  | with_reducible exact op_ne_int
  | with_reducible exact op_eq_nil
  | ((with_reducible refine' op_fdiv_int ?a ?b); (case a => decide); (case b => decide))
  | ((with_reducible refine' op_mod_int ?a); (case a => decide))
  | ((with_reducible refine' op_mul_int ?a); (case a => first | assumption | exact IntMulOk.of_left (by decide) | exact IntMulOk.of_right (by decide)))
  | ((with_reducible refine' op_add_list ?a); (case a => walk_at "m.side"))
  | ((with_reducible refine' op_item_tup ?a ?b ?c ?d); (case a => decide); (case b => decide); (case c => rfl); (case d => exact fun _ _ => rfl))
  | ((with_reducible refine' op_item_list ?a ?b ?c); (case a => walk_at "m.side"); (case b => assumption); (case c => exact fun _ _ => rfl)))
local macro_rules | `(tactic| walk_at "m.evl") => `(tactic| first
  | with_reducible exact EvL.nil
  | ((with_reducible refine' EvL.cons ?a ?b ?c); (case a => walk_at "m.ev"); (case b => walk_at "m.evl"); (case c => exact fun _ => rfl)))
local macro_rules | `(tactic| walk_at "m.ev") => `(tactic| first
  | ((with_reducible refine' Ev.name ?a); (case a => walk_at "m.mem"))
  | with_reducible exact Ev.cint
  | with_reducible exact Ev.cbool
  | with_reducible exact Ev.cnone
  | with_reducible exact Ev.cstr
  | ((with_reducible refine' Ev.binop ?a ?b ?c); (case a => walk_at "m.ev"); (case b => walk_at "m.ev"); (case c => walk_at "m.op"))
  | ((with_reducible refine' Ev.cmp ?a ?b ?c ?d); (case a => walk_at "m.ev"); (case b => walk_at "m.ev"); (case c => walk_at "m.op"); (case d => rfl))
  | ((with_reducible refine' Ev.len ?a ?b ?c); (case a => walk_at "m.ev"); (case b => rfl); (case c => exact fun _ => rfl))
  | ((with_reducible refine' Ev.sliceTo ?a ?b ?c); (case a => walk_at "m.ev"); (case b => walk_at "m.ev"); (case c => walk_at "m.side"))
  | ((with_reducible refine' Ev.sliceFrom ?a ?b ?c); (case a => walk_at "m.ev"); (case b => walk_at "m.ev"); (case c => walk_at "m.side"))
  | ((with_reducible refine' Ev.item ?a ?b ?c); (case a => walk_at "m.ev"); (case b => walk_at "m.ev"); (case c => walk_at "m.op"))
  | ((with_reducible refine' Ev.tuple ?a ?b); (case a => walk_at "m.evl"); (case b => exact Nat.le_of_ble_eq_true rfl))
  | ((with_reducible refine' Ev.list ?a ?b); (case a => walk_at "m.evl"); (case b => exact Nat.le_of_ble_eq_true rfl))
  | ((with_reducible refine' Ev.listOf ?a ?b ?c); (case a => walk_at "m.ev"); (case b => rfl); (case c => exact fun _ => rfl))
  | ((with_reducible refine' Ev.call ?a ?b ?c ?d ?e); (case a => walk_at "m.evl"); (case b => assumption); (case c => rfl); (case d => rfl); (case e => exact fun _ => rfl))
  | ((with_reducible refine' Ev.call0 ?b ?c ?d); (case b => assumption); (case c => rfl); (case d => rfl))
  | ((with_reducible refine' Ev.neg ?a); (case a => walk_at "m.ev")))
local macro_rules | `(tactic| walk_at "m.tr") => `(tactic| first
  | ((with_reducible refine' Tr.cmp ?a ?b ?c ?d); (case a => walk_at "m.ev"); (case b => walk_at "m.ev"); (case c => walk_at "m.op"); (case d => rfl))
  | ((with_reducible refine' Tr.not ?a); (case a => walk_at "m.tr")))
local macro_rules | `(tactic| walk_at "m.rng") => `(tactic| first
  | ((with_reducible refine' EvR.one ?a ?b ?c); (case a => walk_at "m.ev"); (case b => rfl); (case c => exact fun _ => rfl))
  | ((with_reducible refine' EvR.two ?a ?a' ?b ?c ?d); (case a => walk_at "m.ev"); (case a' => walk_at "m.ev"); (case b => rfl); (case c => exact fun _ => rfl); (case d => exact fun _ => rfl)))
local macro_rules | `(tactic| walk_at "m.asg") => `(tactic| ((with_reducible refine' ExS.assign ?a ?b ?k ?d ?e ?f); (case a => walk_at "m.ev"); (case b => walk_at "m.drop"); (case d => rfl); (case e => rfl); (case f => exact fun _ => rfl)))
local macro_rules | `(tactic| walk_at "m.own") => `(tactic| ((with_reducible refine' ExS.assignN ?a ?b ?k ?d ?e ?f); (case a => first | ((with_reducible refine' EvN.listOf ?a1 ?b1 ?c1); (case a1 => walk_at "m.ev"); (case b1 => rfl); (case c1 => exact fun _ => rfl)) | ((with_reducible refine' EvN.disp ?a2 ?b2); (case a2 => walk_at "m.evl"); (case b2 => exact Nat.le_of_ble_eq_true rfl))); (case b => walk_at "m.drop"); (case d => rfl); (case e => rfl); (case f => exact fun _ => rfl)))
local macro_rules | `(tactic| walk_at "m.set") => `(tactic| ((with_reducible refine' ExS.setItem ?x ?a ?b ?c ?d ?e ?k ?f); (case x => walk_at "m.mem"); (case a => walk_at "m.ev"); (case b => walk_at "m.ev"); (case c => walk_at "m.side"); (case d => walk_at "m.side"); (case e => walk_at "m.drop"); (case f => exact fun _ => rfl)))
local macro_rules | `(tactic| walk_at "m.frz") => `(tactic| ((with_reducible refine' ExS.freeze ?x ?d ?k); (case x => walk_at "m.mem"); (case d => walk_at "m.drop")))
local macro_rules | `(tactic| walk_at "m.if") => `(tactic| ((with_reducible refine' ExS.iff ?a ?k ?l); (case a => walk_at "m.tr")))
local macro_rules | `(tactic| walk_at "m.ret") => `(tactic| ((with_reducible refine' ExS.ret ?a ?k); (case a => walk_at "m.ev")))
def stFn (name : Str) : Stmt → Option Fn
  | .FunctionDef n a b _ _ _ sc _ _ _ => if n == name then some ⟨n, a, b, sc⟩ else none
  | _ => none
def getFn (p : Program) (name : Str) : Option Fn := p.main.body.findSome? (stFn name)
abbrev PP := PySem.Challenge.pw_k16_0047
theorem ks_getD {ks : List Int} {i : Nat} (h : i < ks.length) : ks[i]? = some (ks.getD i 0) := by rw [List.getD_eq_getElem?_getD, List.getElem?_eq_getElem h]; rfl

theorem split_child_ok {X : Cx} {fd : Fn} (hg : getFn PP "split_child" = some fd) (hfd : fd ∈ X.fns) {n c : T} {i t : Nat} (hi : n.cs[i]? = some c) (ht : 1 ≤ t) (h1 : t - 1 < c.ks.length) (h2 : t - 1 < c.vs.length)
    (hk : n.ks.length ≤ 1000) (hv : n.vs.length ≤ 1000) (hcs : n.cs.length ≤ 1001) :
    CallOk X 1 "split_child" [n.toD, .int i, .int t] (T.split n i t).toD := by
  cases (show getFn PP "split_child" = some _ from rfl).symm.trans hg
  clear hg
  refine callOk_of (fd := Fn.mk _ _ _ _) (xs := ["node", "i", "t"]) hfd (by decide) (fun pm cd doc vs hv => ?_) (by decide) ?_ rfl rfl rfl (by decide)
  · match vs, hv with
    | [a, b, c], _ => rfl
  · show ExS _ _ _ [("node", .val n.toD), ("i", .val (.int i)), ("t", .val (.int t))] _ _
    clear hfd
    dsimp only
    have e1 : (n.cs.map T.toD)[(i : Int).toNat]? = some (.tup [Li c.ks, Li c.vs, .list (c.cs.map T.toD)]) := by
      rw [Int.toNat_natCast, List.getElem?_map, hi, ← T.toD_eq]; rfl
    have e2 : (c.ks.map D.int)[((t : Int) - 1).toNat]? = some (.int (c.ks.getD (t - 1) 0)) := by
      have : ((t : Int) - 1).toNat = t - 1 := by omega
      rw [this]; exact ints_get (by rw [List.getD_eq_getElem?_getD, List.getElem?_eq_getElem h1]; rfl)
    have e3 : (c.vs.map D.int)[((t : Int) - 1).toNat]? = some (.int (c.vs.getD (t - 1) 0)) := by
      have : ((t : Int) - 1).toNat = t - 1 := by omega
      rw [this]; exact ints_get (by rw [List.getD_eq_getElem?_getD, List.getElem?_eq_getElem h2]; rfl)
    have ht0 : (0 : Int) ≤ (t : Int) - 1 := by omega
    rw [T.toD_eq n]
    walk_at "m.asg"
    walk_at "m.asg"
    walk_at "m.asg"
    walk_at "m.asg"
    walk_at "m.asg"
    walk_at "m.asg"
    walk_at "m.asg"
    walk_at "m.asg"
    walk_at "m.asg"
    walk_at "m.ret"
    left
    have a1 : ((t : Int) - 1).toNat = t - 1 := by omega
    have a2 : ((i : Int) + 1).toNat = i + 1 := by omega
    rw [T.split, hi, T.toD_node]
    simp only [a1, a2, Int.toNat_natCast, List.map_append, List.map_take, List.map_drop, List.map_cons, List.map_nil, T.toD_node, Li]

/-- what merge_children gives -/
def T.merge (n : T) (i : Nat) : T := match n.cs[i]?, n.cs[i + 1]? with
  | some l, some r => .node (n.ks.take i ++ n.ks.drop (i + 1)) (n.vs.take i ++ n.vs.drop (i + 1))
      (n.cs.take i ++ [.node (l.ks ++ [n.ks.getD i 0] ++ r.ks) (l.vs ++ [n.vs.getD i 0] ++ r.vs) (l.cs ++ r.cs)] ++ n.cs.drop (i + 2))
  | _, _ => n
theorem merge_children_ok {X : Cx} {fd : Fn} (hg : getFn PP "merge_children" = some fd) (hfd : fd ∈ X.fns) {n l r : T} {i : Nat} (hl : n.cs[i]? = some l) (hr : n.cs[i + 1]? = some r) (hik : i < n.ks.length) (hiv : i < n.vs.length)
    (hk : n.ks.length ≤ 1000) (hv : n.vs.length ≤ 1000) (hcs : n.cs.length ≤ 1001) (lk : l.ks.length ≤ 1000) (lv : l.vs.length ≤ 1000) (lc : l.cs.length ≤ 1001) (rk : r.ks.length ≤ 1000) (rv : r.vs.length ≤ 1000) (rc : r.cs.length ≤ 1001) :
    CallOk X 1 "merge_children" [n.toD, .int i] (T.merge n i).toD := by
  cases (show getFn PP "merge_children" = some _ from rfl).symm.trans hg
  clear hg
  refine callOk_of (fd := Fn.mk _ _ _ _) (xs := ["node", "i"]) hfd (by decide) (fun pm cd doc vs hv => ?_) (by decide) ?_ rfl rfl rfl (by decide)
  · match vs, hv with
    | [a, b], _ => rfl
  · show ExS _ _ _ [("node", .val n.toD), ("i", .val (.int i))] _ _
    clear hfd
    dsimp only
    have a2 : ((i : Int) + 1).toNat = i + 1 := by omega
    have a3 : ((i : Int) + 2).toNat = i + 2 := by omega
    have e1 : (n.cs.map T.toD)[(i : Int).toNat]? = some (.tup [Li l.ks, Li l.vs, .list (l.cs.map T.toD)]) := by
      rw [Int.toNat_natCast, List.getElem?_map, hl, ← T.toD_eq]; rfl
    have e1' : (n.cs.map T.toD)[((i : Int) + 1).toNat]? = some (.tup [Li r.ks, Li r.vs, .list (r.cs.map T.toD)]) := by
      rw [a2, List.getElem?_map, hr, ← T.toD_eq]; rfl
    have e2 : (n.ks.map D.int)[(i : Int).toNat]? = some (.int (n.ks.getD i 0)) := ints_get (by rw [List.getD_eq_getElem?_getD, Int.toNat_natCast, List.getElem?_eq_getElem hik]; rfl)
    have e3 : (n.vs.map D.int)[(i : Int).toNat]? = some (.int (n.vs.getD i 0)) := ints_get (by rw [List.getD_eq_getElem?_getD, Int.toNat_natCast, List.getElem?_eq_getElem hiv]; rfl)
    rw [T.toD_eq n]
    walk_at "m.asg"
    walk_at "m.asg"
    walk_at "m.asg"
    walk_at "m.asg"
    walk_at "m.asg"
    walk_at "m.asg"
    walk_at "m.asg"
    walk_at "m.asg"
    walk_at "m.asg"
    walk_at "m.ret"
    left
    rw [T.merge, hl, hr, T.toD_node]
    simp only [a2, a3, Int.toNat_natCast, List.map_append, List.map_take, List.map_drop, List.map_cons, List.map_nil, T.toD_node, Li]

/-- the keys cut in three -/
def parts (l r : List Int) (m : Int) : T := .node [m] [m] [.node l l [], .node r r []]
theorem parts_toD (l r : List Int) (m : Int) : (parts l r m).toD = .tup [.list [.int m], .list [.int m], .list [.tup [Li l, Li l, .list []], .tup [Li r, Li r, .list []]]] := by
  rw [parts, T.toD_node]; simp only [List.map_cons, List.map_nil, T.toD_node, Li]

/-- split_child with degree 0: the halves overlap -/
theorem split_zero {X : Cx} {fd : Fn} (hg : getFn PP "split_child" = some fd) (hfd : fd ∈ X.fns) {ks : List Int} (hk : ks ≠ []) (hc : ks.length ≤ 1000) :
    CallOk X 1 "split_child" [.tup [.list [], .list [], .list [.tup [Li ks, Li ks, .list []]]], .int 0, .int 0] (parts ks.dropLast ks (ks.getLastD 0)).toD := by
  cases (show getFn PP "split_child" = some _ from rfl).symm.trans hg
  clear hg
  refine callOk_of (fd := Fn.mk _ _ _ _) (xs := ["node", "i", "t"]) hfd (by decide) (fun pm cd doc vs hv => ?_) (by decide) ?_ rfl rfl rfl (by decide)
  · match vs, hv with
    | [a, b, c], _ => rfl
  · show ExS _ _ _ [("node", .val (.tup [.list [], .list [], .list [.tup [Li ks, Li ks, .list []]]])), ("i", .val (.int 0)), ("t", .val (.int 0))] _ _
    clear hfd
    dsimp only
    have hl : 1 ≤ ks.length := by cases ks with
      | nil => exact absurd rfl hk
      | cons _ _ => simp
    have lastI : (ks.map D.int)[((0 : Int) - 1 + (ks.map D.int).length).toNat]? = some (.int (ks.getLastD 0)) := by
      have : ((0 : Int) - 1 + (ks.map D.int).length).toNat = ks.length - 1 := by rw [List.length_map]; omega
      rw [this]
      refine ints_get ?_
      rw [List.getLastD_eq_getLast?, List.getLast?_eq_getElem?, List.getElem?_eq_getElem (by omega)]; rfl
    have cut : ∀ {xs : List D}, sliceL none (some ((0 : Int) - 1)) xs = xs.dropLast := by
      intro xs
      unfold sliceL
      have : clipAt xs.length ((0 : Int) - 1) = xs.length - 1 := by
        have := clipAt_neg xs.length 1 (by omega)
        simpa using this
      simp only [Option.elim, List.drop_zero, Nat.sub_zero, this]
      rw [List.dropLast_eq_take]
    have e0 : ([D.tup [Li ks, Li ks, .list []]])[(0 : Int).toNat]? = some (.tup [Li ks, Li ks, .list []]) := rfl
    walk_at "m.asg"
    walk_at "m.asg"
    walk_at "m.asg"
    walk_at "m.asg"
    -- left
    refine ExS.assign (d := .tup [.list (ks.map D.int).dropLast, .list (ks.map D.int).dropLast, .list []]) ?_ (by walk_at "m.drop") ?_ rfl rfl (fun _ => rfl)
    · refine Ev.tuple (EvL.cons ?_ (EvL.cons ?_ (EvL.cons ?_ EvL.nil fun _ => rfl) fun _ => rfl) fun _ => rfl) (Nat.le_of_ble_eq_true rfl)
      · rw [← cut]; exact Ev.slice (by walk_at "m.ev") trivial (by show Ev _ _ _ _ _ _; walk_at "m.ev")
      · rw [← cut]; exact Ev.slice (by walk_at "m.ev") trivial (by show Ev _ _ _ _ _ _; walk_at "m.ev")
      · exact Ev.sliceTo (xs := []) (k := 0) (by walk_at "m.ev") (by walk_at "m.ev") (by omega)
    walk_at "m.asg"
    refine ExS.assign (d := .list [.int (ks.getLastD 0)]) ?_ (by walk_at "m.drop") ?_ rfl rfl (fun _ => rfl)
    · refine Ev.binop (d1 := .list [.int (ks.getLastD 0)]) (d2 := .list []) (Ev.binop (d1 := .list []) (d2 := .list [.int (ks.getLastD 0)]) (Ev.sliceTo (xs := []) (k := 0) (by walk_at "m.ev") (by walk_at "m.ev") (by omega)) (Ev.list (EvL.cons (Ev.item (by walk_at "m.ev") (by walk_at "m.ev") (op_item_listNeg (by omega) (by rw [List.length_map]; omega) lastI fun _ _ => rfl)) EvL.nil fun _ => rfl) (Nat.le_of_ble_eq_true rfl)) (op_add_list (xs := []) (ys := [_]) (Nat.le_of_ble_eq_true rfl))) (Ev.sliceFrom (xs := []) (k := 0) (by walk_at "m.ev") (by walk_at "m.ev") (by omega)) (op_add_list (xs := [_]) (ys := []) (Nat.le_of_ble_eq_true rfl))
    refine ExS.assign (d := .list [.int (ks.getLastD 0)]) ?_ (by walk_at "m.drop") ?_ rfl rfl (fun _ => rfl)
    · refine Ev.binop (d1 := .list [.int (ks.getLastD 0)]) (d2 := .list []) (Ev.binop (d1 := .list []) (d2 := .list [.int (ks.getLastD 0)]) (Ev.sliceTo (xs := []) (k := 0) (by walk_at "m.ev") (by walk_at "m.ev") (by omega)) (Ev.list (EvL.cons (Ev.item (by walk_at "m.ev") (by walk_at "m.ev") (op_item_listNeg (by omega) (by rw [List.length_map]; omega) lastI fun _ _ => rfl)) EvL.nil fun _ => rfl) (Nat.le_of_ble_eq_true rfl)) (op_add_list (xs := []) (ys := [_]) (Nat.le_of_ble_eq_true rfl))) (Ev.sliceFrom (xs := []) (k := 0) (by walk_at "m.ev") (by walk_at "m.ev") (by omega)) (op_add_list (xs := [_]) (ys := []) (Nat.le_of_ble_eq_true rfl))
    walk_at "m.asg"
    walk_at "m.ret"
    left
    rw [parts_toD, Li, Li, List.map_dropLast]
    rfl

/-- the three parts for a degree: the halves and the middle -/
def cut3 (ks : List Int) (t : Nat) : T := if t = 0 then parts ks.dropLast ks (ks.getLastD 0) else parts (ks.take (t - 1)) (ks.drop t) (ks.getD (t - 1) 0)
theorem split_any {X : Cx} {fd : Fn} (hg : getFn PP "split_child" = some fd) (hfd : fd ∈ X.fns) {ks : List Int} {t : Nat} (hk : ks ≠ []) (hc : ks.length ≤ 1000) (ht : t = 0 ∨ (1 ≤ t ∧ t - 1 < ks.length)) :
    CallOk X 1 "split_child" [.tup [.list [], .list [], .list [.tup [Li ks, Li ks, .list []]]], .int 0, .int t] (cut3 ks t).toD := by
  rcases ht with rfl | ⟨h1, h2⟩
  · exact split_zero hg hfd hk hc
  · have := split_child_ok hg hfd (X := X) (n := .node [] [] [.node ks ks []]) (c := .node ks ks []) (i := 0) (t := t) rfl h1 h2 h2 (by simp [T.ks]) (by simp [T.vs]) (by simp [T.cs])
    have e : T.split (.node [] [] [.node ks ks []]) 0 t = cut3 ks t := by
      rw [cut3, if_neg (by omega)]
      show T.node [ks.getD (t - 1) 0] [ks.getD (t - 1) 0] [.node (ks.take (t - 1)) (ks.take (t - 1)) (List.take t []), .node (ks.drop t) (ks.drop t) (List.drop t [])] = _
      rw [List.take_nil, List.drop_nil]; rfl
    rw [e] at this
    simp only [T.toD_node, List.map_cons, List.map_nil, Li] at this
    exact this
/-- the joined keys -/
def joined (ks : List Int) (t : Nat) : List Int := if t = 0 then ks.dropLast ++ [ks.getLastD 0] ++ ks else ks.take (t - 1) ++ [ks.getD (t - 1) 0] ++ ks.drop t
theorem cut3_parts (ks : List Int) (t : Nat) : ∃ l r m, cut3 ks t = parts l r m ∧ joined ks t = l ++ [m] ++ r ∧ l.length ≤ ks.length ∧ r.length ≤ ks.length ∧ (t ≠ 0 → l = ks.take (t - 1) ∧ m = ks.getD (t - 1) 0 ∧ r = ks.drop t) := by
  unfold cut3 joined
  by_cases h : t = 0
  · rw [if_pos h, if_pos h]; exact ⟨_, _, _, rfl, rfl, by simp, Nat.le_refl _, fun h' => absurd h h'⟩
  · rw [if_neg h, if_neg h]; exact ⟨_, _, _, rfl, rfl, by simp; omega, by simp, fun _ => ⟨rfl, rfl, rfl⟩⟩
theorem joined_full {ks : List Int} {t : Nat} (h1 : 1 ≤ t) (h2 : t - 1 < ks.length) : joined ks t = ks := by
  rw [joined, if_neg (by omega)]
  have e : ks.drop (t - 1) = ks.getD (t - 1) 0 :: ks.drop t := by
    rw [List.drop_eq_getElem_cons h2, List.getD_eq_getElem?_getD, List.getElem?_eq_getElem h2]
    have : t - 1 + 1 = t := by omega
    rw [this]; rfl
  rw [List.append_assoc, List.singleton_append, ← e, List.take_append_drop]
abbrev leafD (ks : List Int) : D := .tup [Li ks, Li ks, .list []]
theorem merge_parts {X : Cx} {fd : Fn} (hg : getFn PP "merge_children" = some fd) (hfd : fd ∈ X.fns) {l r : List Int} {m : Int} (hl : l.length ≤ 1000) (hr : r.length ≤ 1000) :
    CallOk X 1 "merge_children" [(parts l r m).toD, .int 0] (.tup [.list [], .list [], .list [leafD (l ++ [m] ++ r)]]) := by
  have := merge_children_ok hg hfd (X := X) (n := parts l r m) (l := .node l l []) (r := .node r r []) (i := 0) rfl rfl (by simp [parts, T.ks]) (by simp [parts, T.vs]) (by simp [parts, T.ks]) (by simp [parts, T.vs]) (by simp [parts, T.cs]) hl hl (by simp [T.cs]) hr hr (by simp [T.cs])
  have e : T.merge (parts l r m) 0 = .node [] [] [.node (l ++ [m] ++ r) (l ++ [m] ++ r) []] := rfl
  rw [e] at this
  simp only [T.toD_node, List.map_cons, List.map_nil, Li] at this
  exact this
theorem leaf_plain (ks : List Int) : Plain 2 (leafD ks) := .tup fun d hd => by
  simp only [List.mem_cons, List.not_mem_nil, or_false] at hd
  rcases hd with rfl | rfl | rfl
  · exact Plain.ints ks
  · exact Plain.ints ks
  · exact .list (k := 0) fun d hd => nomatch hd
theorem one_plain (ks : List Int) : Plain 4 (.tup [.list [], .list [], .list [leafD ks]]) := .tup fun d hd => by
  simp only [List.mem_cons, List.not_mem_nil, or_false] at hd
  rcases hd with rfl | rfl | rfl
  · exact .list fun d hd => nomatch hd
  · exact .list fun d hd => nomatch hd
  · exact .list fun d hd => by
      simp only [List.mem_cons, List.not_mem_nil, or_false] at hd
      rw [hd]; exact leaf_plain ks
theorem Li_inj {a b : List Int} : Li a = Li b ↔ a = b := by
  constructor
  · intro h
    have := D.list.inj h
    exact List.map_inj_right (fun x y h => D.int.inj h) |>.mp this
  · intro h; rw [h]
theorem leafD_inj {a b : List Int} : leafD a = leafD b ↔ a = b := by
  simp only [leafD, D.tup.injEq, List.cons.injEq, Li_inj, and_true, and_self]

theorem undoes_ok {X : Cx} {fd : Fn} (hg : getFn PP "law_merge_undoes_split" = some fd) (hfd : fd ∈ X.fns)
    (sp : ∀ {ks : List Int} {t : Nat}, ks ≠ [] → ks.length ≤ 1000 → (t = 0 ∨ (1 ≤ t ∧ t - 1 < ks.length)) → CallOk X 1 "split_child" [.tup [.list [], .list [], .list [.tup [Li ks, Li ks, .list []]]], .int 0, .int t] (cut3 ks t).toD)
    (me : ∀ {l r : List Int} {m : Int}, l.length ≤ 1000 → r.length ≤ 1000 → CallOk X 1 "merge_children" [(parts l r m).toD, .int 0] (.tup [.list [], .list [], .list [leafD (l ++ [m] ++ r)]]))
    {ks : List Int} {t : Nat} (hk : ks ≠ []) (hc : ks.length ≤ 1000) (ht : t = 0 ∨ (1 ≤ t ∧ t - 1 < ks.length)) : CallOk X 2 "law_merge_undoes_split" [Li ks, .int t] (.bool (joined ks t == ks)) := by
  cases (show getFn PP "law_merge_undoes_split" = some _ from rfl).symm.trans hg
  clear hg
  refine callOk_of (fd := Fn.mk _ _ _ _) (xs := ["keys", "t"]) hfd (by decide) (fun pm cd doc vs hv => ?_) (by decide) ?_ rfl rfl rfl (by decide)
  · match vs, hv with
    | [a, b], _ => rfl
  · show ExS _ _ _ [("keys", .val (Li ks)), ("t", .val (.int t))] _ _
    clear hfd
    dsimp only
    obtain ⟨l, r, m, e1, e2, hl, hr, _⟩ := cut3_parts ks t
    have sp' := sp hk hc ht
    have me' := me (l := l) (r := r) (m := m) (by omega) (by omega)
    rw [e1] at sp'
    rw [e2]
    walk_at "m.asg"
    refine ExS.ret (d := .bool (l ++ [m] ++ r == ks)) (Ev.cmp (by walk_at "m.ev") (by walk_at "m.ev") (op_eq_data (one_plain _) (one_plain _) (by omega) ?_) rfl) (.inl rfl)
    rw [beq_iff_eq]
    constructor
    · intro h; rw [h]
    · intro h
      simp only [D.tup.injEq, List.cons.injEq, D.list.injEq, and_true, true_and] at h
      exact Li_inj.mp (congrArg D.list h.1)

def cell (ns : List Int) (i : Int) : Int := ns.getD i.toNat 0
theorem cell_ok {X : Cx} {fd : Fn} (hg : getFn PP "_law_cell" = some fd) (hfd : fd ∈ X.fns) {ns : List Int} {i : Int} (h0 : 0 ≤ i) : CallOk X 1 "_law_cell" [Li ns, .int i] (.int (cell ns i)) := by
  cases (show getFn PP "_law_cell" = some _ from rfl).symm.trans hg
  clear hg
  refine callOk_of (fd := Fn.mk _ _ _ _) (xs := ["script", "i"]) hfd (by decide) (fun pm cd doc vs hv => ?_) (by decide) ?_ rfl rfl rfl (by decide)
  · match vs, hv with
    | [a, b], _ => rfl
  · show ExS _ _ _ [("script", .val (Li ns)), ("i", .val (.int i))] _ _
    clear hfd
    dsimp only
    walk_at "m.if"
    · intro hb
      have hb := of_decide_eq_true hb
      rw [List.length_map] at hb
      have e1 : (ns.map D.int)[i.toNat]? = some (.int (cell ns i)) := ints_get (ks_getD (by omega))
      walk_at "m.ret"
      left; rfl
    · intro hb
      have hb := of_decide_eq_false hb
      rw [List.length_map] at hb
      refine ExS.nil ?_
      show ExS _ _ _ _ _ _
      walk_at "m.ret"
      left
      rw [cell, List.getD_eq_getElem?_getD, List.getElem?_eq_none (by omega)]; rfl

theorem fmod_nat (a : Int) {m : Nat} (hm : 0 < m) : ∃ r : Nat, a.fmod m = r ∧ r < m := by
  have h1 : 0 ≤ a.fmod m := Int.fmod_nonneg_of_pos a (by omega)
  have h2 : a.fmod m < m := Int.fmod_lt_of_pos a (by omega)
  exact ⟨(a.fmod m).toNat, by omega, by omega⟩
theorem parts_plain (l r : List Int) (m : Int) : Plain 4 (.tup [.list [.int m], .list [.int m], .list [leafD l, leafD r]]) := .tup fun d hd => by
  simp only [List.mem_cons, List.not_mem_nil, or_false] at hd
  rcases hd with rfl | rfl | rfl
  · exact (Plain.ints [m]).mono (by omega)
  · exact (Plain.ints [m]).mono (by omega)
  · exact .list fun d hd => by
      simp only [List.mem_cons, List.not_mem_nil, or_false] at hd
      rcases hd with rfl | rfl
      · exact leaf_plain l
      · exact leaf_plain r
theorem law_ok {X : Cx} {fd : Fn} (hg : getFn PP "law" = some fd) (hfd : fd ∈ X.fns)
    (ce : ∀ {ns : List Int} {i : Int}, 0 ≤ i → CallOk X 1 "_law_cell" [Li ns, .int i] (.int (cell ns i)))
    (sp : ∀ {ks : List Int} {t : Nat}, ks ≠ [] → ks.length ≤ 1000 → (t = 0 ∨ (1 ≤ t ∧ t - 1 < ks.length)) → CallOk X 1 "split_child" [.tup [.list [], .list [], .list [.tup [Li ks, Li ks, .list []]]], .int 0, .int t] (cut3 ks t).toD)
    (me : ∀ {l r : List Int} {m : Int}, l.length ≤ 1000 → r.length ≤ 1000 → CallOk X 1 "merge_children" [(parts l r m).toD, .int 0] (.tup [.list [], .list [], .list [leafD (l ++ [m] ++ r)]]))
    (un : ∀ {ks : List Int} {t : Nat}, ks ≠ [] → ks.length ≤ 1000 → (t = 0 ∨ (1 ≤ t ∧ t - 1 < ks.length)) → CallOk X 2 "law_merge_undoes_split" [Li ks, .int t] (.bool (joined ks t == ks)))
    (ns : List Int) : CallOk X 3 "law" [Li ns] (.bool true) := by
  cases (show getFn PP "law" = some _ from rfl).symm.trans hg
  clear hg
  refine callOk_of (fd := Fn.mk _ _ _ _) (xs := ["script"]) hfd (by decide) (fun pm cd doc vs hv => ?_) (by decide) ?_ rfl rfl rfl (by decide)
  · match vs, hv with
    | [a], _ => rfl
  · show ExS _ _ _ [("script", .val (Li ns))] _ _
    clear hfd
    dsimp only
    have c0 := (ce (ns := ns) (i := 0) (by decide)).mono (n' := 2) (by omega)
    have c1 := (ce (ns := ns) (i := 1) (by decide)).mono (n' := 2) (by omega)
    have c2 := (ce (ns := ns) (i := 2) (by decide)).mono (n' := 2) (by omega)
    walk_at "m.asg"
    obtain ⟨r0, hr, hr'⟩ := fmod_nat (cell ns 0) (m := 4) (by omega)
    rw [show (((4 : Nat) : Int)) = 4 from rfl] at hr
    rw [hr]
    obtain ⟨t, ht⟩ : ∃ t : Nat, t = 2 + r0 := ⟨_, rfl⟩
    rw [show (2 : Int) + (r0 : Int) = (t : Int) by omega]
    have ht2 : 2 ≤ t := by omega
    have ht5 : t ≤ 5 := by omega
    clear hr hr' ht r0
    walk_at "m.own"
    refine ExS.forRange (lo := 0) (hi := 2 * (t : Int) - 2) (fun i ρ => ∃ ks : List Int, ks.length = i + 1 ∧ ∀ q ∈ ([("keys", .own (ks.map D.int)), ("t", .val (.int t)), ("script", .val (Li ns))] : Rho), q ∈ ρ) (by walk_at "m.rng") (by omega) (by omega) (by omega) (by omega) ?_ ?_ ?_ ?_ ?_ ?_
    · refine ⟨[cell ns 1], rfl, ?_⟩
      show ∀ q ∈ ([("keys", .own [.int (cell ns 1)]), ("t", .val (.int t)), ("script", .val (Li ns))] : Rho), _
      walk_at "m.sub"
    · rintro i ρ hi ⟨ks, hks, hsub⟩
      refine ⟨_, Dr.of hsub (by walk_at "m.drop"), ?_⟩
      have c3 := (ce (ns := ns) (i := 3 + (0 + (i : Int))) (by omega)).mono (n' := 2) (by omega)
      obtain ⟨a, ha⟩ : ∃ a, ks[i]? = some a := ⟨ks[i]'(by omega), List.getElem?_eq_getElem _⟩
      have e1 : (ks.map D.int)[(0 + (i : Int)).toNat]? = some (.int a) := by
        have : (0 + (i : Int)).toNat = i := by omega
        rw [this]; exact ints_get ha
      refine ExS.append (x := "keys") (ds := ks.map D.int) (d := .int (a + 1 + (if cell ns (3 + (0 + (i : Int))) < 0 then -(cell ns (3 + (0 + (i : Int)))) else cell ns (3 + (0 + (i : Int)))))) (by walk_at "m.mem") ?_ (by rw [List.length_map]; show ks.length < 1048576; omega) (by walk_at "m.drop") ?_ (fun _ => rfl) (fun _ => rfl) rfl (fun _ => rfl) (fun _ => rfl)
      · exact Ev.binop (Ev.binop (Ev.itemOwn (ds := ks.map D.int) (by walk_at "m.mem") (by walk_at "m.ev") (by omega) e1 fun _ _ => rfl) (by walk_at "m.ev") op_add_int) (Ev.abs (by walk_at "m.ev") rfl fun _ => rfl) op_add_int
      · refine ExS.nil ⟨ks ++ [a + 1 + (if cell ns (3 + (0 + (i : Int))) < 0 then -(cell ns (3 + (0 + (i : Int)))) else cell ns (3 + (0 + (i : Int))))], by simp [hks], ?_⟩
        rw [List.map_append]
        simp only [List.map_cons, List.map_nil]
        walk_at "m.sub"
    · rintro ρ ⟨ks, hks, hsub⟩
      refine ExT.sub hsub ?_
      have hkl : ks.length = 2 * t - 1 := by omega
      have hk0 : ks ≠ [] := by intro e; rw [e] at hkl; simp at hkl; omega
      walk_at "m.asg"
      refine ExS.ifJoin (fun ρ' => ∃ (z : Nat), (z = 0 ∨ z = t) ∧ ∀ q ∈ ([("size", .val (.int z)), ("keys", .own (ks.map D.int)), ("t", .val (.int t))] : Rho), q ∈ ρ') (by walk_at "m.tr") ?_ ?_ ?_
      · intro _
        walk_at "m.asg"
        refine ExS.nil ⟨0, .inl rfl, ?_⟩
        show ∀ q ∈ ([("size", .val (.int 0)), ("keys", .own (ks.map D.int)), ("t", .val (.int t))] : Rho), _
        walk_at "m.sub"
      · intro _
        exact ExS.nil ⟨t, .inr rfl, by walk_at "m.sub"⟩
      · rintro ρ' ⟨z, hz, hsub⟩
        refine ExT.sub hsub ?_
        have hz' : z = 0 ∨ (1 ≤ z ∧ z - 1 < ks.length) := by omega
        obtain ⟨l, r, m, e1, e2, hl, hr, hlr⟩ := cut3_parts ks z
        have un' := un hk0 (by omega) hz'
        have sp' := (sp hk0 (by omega) hz').mono (n' := 2) (by omega)
        have me' := (me (l := l) (r := r) (m := m) (by omega) (by omega)).mono (n' := 2) (by omega)
        rw [e1, parts_toD] at sp'
        rw [parts_toD] at me'
        rw [e2] at un'
        walk_at "m.frz"
        walk_at "m.asg"
        walk_at "m.asg"
        refine ExS.iff (b := false) (Tr.cmp (by walk_at "m.ev") (by walk_at "m.ev") (op_ne_data (Plain.ints ks) (Plain.ints ks) (by omega) (by simp)) rfl) (fun h => nomatch h) fun _ => ExS.nil ?_
        show ExS _ _ _ _ _ _
        walk_at "m.asg"
        have e3 : ([leafD l, leafD r])[(0 : Int).toNat]? = some (leafD l) := rfl
        have e4 : ([leafD l, leafD r])[(1 : Int).toNat]? = some (leafD r) := rfl
        walk_at "m.asg"
        walk_at "m.asg"
        refine ExS.assign (d := leafD (l ++ [m] ++ r)) ?_ (by walk_at "m.drop") ?_ rfl rfl (fun _ => rfl)
        · have : leafD (l ++ [m] ++ r) = .tup [.list (l.map D.int ++ [.int m] ++ r.map D.int), .list (l.map D.int ++ [.int m] ++ r.map D.int), .list ([] ++ [])] := by
            simp only [leafD, Li, List.map_append, List.map_cons, List.map_nil, List.append_nil]
          rw [this]
          walk_at "m.ev"
        refine ExS.iff (b := false) (Tr.cmp (by walk_at "m.ev") (by walk_at "m.ev") (op_ne_data (one_plain _) (one_plain _) (by omega) (by simp)) rfl) (fun h => nomatch h) fun _ => ExS.nil ?_
        show ExS _ _ _ _ _ _
        refine ExS.ifJoin (fun ρ' => (∀ q ∈ ([("whole", .val (leafD (l ++ [m] ++ r))), ("kept", .val (Li ks)), ("got", .val (.bool (l ++ [m] ++ r == ks)))] : Rho), q ∈ ρ')) (by walk_at "m.tr") ?_ ?_ ?_
        · intro hb
          have hb := eq_of_beq hb
          have hzt : z = t := by omega
          obtain ⟨el, em, er⟩ := hlr (by omega)
          have e5 : (ks.map D.int)[((t : Int) - 1).toNat]? = some (.int m) := by
            have : ((t : Int) - 1).toNat = t - 1 := by omega
            rw [this, em, hzt]; exact ints_get (ks_getD (by omega))
          have a1 : ((t : Int) - 1).toNat = t - 1 := by omega
          have full : l ++ [m] ++ r = ks := by rw [← e2, hzt]; exact joined_full (by omega) (by omega)
          walk_at "m.asg"
          refine ExS.assign (d := Li l) ?_ (by walk_at "m.drop") ?_ rfl rfl (fun _ => rfl)
          · exact Ev.to (d := .list ((ks.map D.int).take ((t : Int) - 1).toNat)) (by walk_at "m.ev") (by rw [el, hzt, Li, List.map_take, a1])
          refine ExS.assign (d := Li r) ?_ (by walk_at "m.drop") ?_ rfl rfl (fun _ => rfl)
          · exact Ev.to (d := .list ((ks.map D.int).drop (t : Int).toNat)) (by walk_at "m.ev") (by rw [er, hzt, Li, List.map_drop, Int.toNat_natCast])
          refine ExS.iff (b := false) (Tr.cmp (by walk_at "m.ev") (by walk_at "m.ev") (op_ne_data (parts_plain l r m) (parts_plain l r m) (by omega) (by simp)) rfl) (fun h => nomatch h) fun _ => ExS.nil ?_
          show ExS _ _ _ _ _ _
          refine ExS.iff (b := false) (Tr.cmp (by walk_at "m.ev") (by walk_at "m.ev") ?_ rfl) (fun h => nomatch h) fun _ => ExS.nil (ExS.nil (by walk_at "m.sub"))
          have : ((l ++ [m] ++ r == ks) != true) = false := by rw [full]; simp
          rw [← this]
          exact op_isNot_bool
        · intro _
          exact ExS.nil (by walk_at "m.sub")
        · intro ρ' hsub
          refine ExT.sub hsub ?_
          generalize hbb : (l ++ [m] ++ r == ks) = bb
          refine ExS.assign (d := .bool bb) (Ev.cmp (by walk_at "m.ev") (by walk_at "m.ev") (op_eq_data (leaf_plain _) (leaf_plain _) (by omega) ?_) rfl) (by walk_at "m.drop") ?_ rfl rfl (fun _ => rfl)
          · rw [leafD_inj, ← hbb, beq_iff_eq]
          refine ExS.iff (b := bb && (bb != true)) (Tr.and2 (Tr.val (by walk_at "m.ev") rfl fun _ _ => rfl) fun _ => Tr.cmp (by walk_at "m.ev") (by walk_at "m.ev") op_isNot_bool rfl) (fun h => by cases bb <;> cases h) fun _ => ExS.nil ?_
          show ExS _ _ _ _ _ _
          refine ExS.iff (b := !bb && (bb != false)) (Tr.and2 (Tr.not (Tr.val (by walk_at "m.ev") rfl fun _ _ => rfl)) fun _ => Tr.cmp (by walk_at "m.ev") (by walk_at "m.ev") op_isNot_bool rfl) (fun h => by cases bb <;> cases h) fun _ => ExS.nil ?_
          show ExS _ _ _ _ _ _
          walk_at "m.ret"
          left; rfl
    · rfl
    · rfl
    · exact fun _ _ => rfl

/-- the functions that the law comes to -/
def names : List Str := ["split_child", "merge_children", "law_merge_undoes_split", "_law_cell", "law"]
theorem all_ok {X : Cx} (hm : ∀ nm ∈ names, ∀ fd, getFn PP nm = some fd → fd ∈ X.fns) (ns : List Int) : CallOk X 3 "law" [Li ns] (.bool true) := by
  obtain ⟨f1, g1⟩ : ∃ fd, getFn PP "split_child" = some fd := ⟨_, rfl⟩
  obtain ⟨f2, g2⟩ : ∃ fd, getFn PP "merge_children" = some fd := ⟨_, rfl⟩
  obtain ⟨f3, g3⟩ : ∃ fd, getFn PP "law_merge_undoes_split" = some fd := ⟨_, rfl⟩
  obtain ⟨f8, g8⟩ : ∃ fd, getFn PP "_law_cell" = some fd := ⟨_, rfl⟩
  obtain ⟨f9, g9⟩ : ∃ fd, getFn PP "law" = some fd := ⟨_, rfl⟩
  have sp := fun {ks : List Int} {t : Nat} => split_any (X := X) g1 (hm _ (by simp [names]) _ g1) (ks := ks) (t := t)
  have me := fun {l r : List Int} {m : Int} => merge_parts (X := X) g2 (hm _ (by simp [names]) _ g2) (l := l) (r := r) (m := m)
  exact law_ok g9 (hm _ (by simp [names]) _ g9) (cell_ok g8 (hm _ (by simp [names]) _ g8)) sp me (undoes_ok g3 (hm _ (by simp [names]) _ g3) sp me) ns

open PySem.W in
/-- the end: what the row's head leaves -/
theorem law_end {N : Nat} {names : List Str} (hN : N ≤ 500) (all : ∀ {X : Cx}, (∀ nm ∈ names, ∀ fd, getFn PP nm = some fd → fd ∈ X.fns) → ∀ ns : List Int, CallOk X N "law" [Li ns] (.bool true))
    {q : Program} {w : World} {mg mb : Str → Option Value} {loose : List Str} {mean : ExcName → Option Value} {s : Shared} (T : Top q loose mean mg mb s.heap) (hb : biOk q loose = true)
    (hf : (names.map fun nm => ((recsOf q).map toFn).find? fun d => d.name == nm) = names.map (getFn PP)) {ns : List Int} {vs : List Value} {l fa : Addr} {E : Value → Shared → Prop} {Q : Value → Shared → Prop} {P : Params} {xs : List WData}
    (W : Well P s.heap (.ref l) (.list xs)) (hL : s.heap.IsList l vs.toArray) (hI : IntsAre vs ns) (hn : ns.length ≤ 1048576) (hfa : mg "law" = some (.ref fa))
    (k : ∀ h' tk, Keeps s.heap h' → Q (.bool true) { s with heap := h', toks := tk }) : wpAny (model PP w) callerA (call (.ref fa) [.ref l]) Q E s :=
  law_call (X := topCx PP w mg mb q) (all (fun nm hn fd hg => mem_fns (f := fun d => d.name == nm) (List.map_inj_left.mp hf nm hn) hg) ns) (topCx_ok T hb) W hL hI hn hfa hN k

end Mine

open PySem PySem.W PyProof.Rows
set_option Elab.async false
set_option maxRecDepth 100000 in
set_option maxHeartbeats 8000000 in
theorem PySem.Challenge.cw_k16_0047_holds : PySem.Challenge.rw_k16_0047.Holds := by
  w_on; o_law; k_head
  (case hw => w_witness2)
  k_fill
  intro w s₀ s₁ mg mb G Y fa o pm cd doc dV kV ho hd hcd hD hmg hg args vals as hpre hlay hrd hwl hlo
  refine Ground.open G ?_
  intro T B D TE TW
  wrow_args hpre hlay hrd hwl hlo
  clear Y hd hcd hD ho G B D TE TW
  rename (IntsAre _ _) => hI
  rename (Well _ _ _ _) => hW
  rename (s₁.heap.IsList _ _) => hL
  rename (¬ ((63 : Nat) : Int) < _) => hlen
  refine Mine.law_end (names := Mine.names) (by omega) Mine.all_ok T (by kernel_rfl) (by kernel_rfl) hW hL hI (by omega) hmg fun h' tk k => ?_
  exact GoodW.toG ⟨.inl ⟨.bool true, .bool true, [], rfl, fun _ => rfl, .bool true, postW_of rfl (w_eq_bool (w_res rfl) w_lit) rfl, unshared_nil⟩, k, rfl, hg⟩
