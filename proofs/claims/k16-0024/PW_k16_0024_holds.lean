import PyProof.Rows.All
import Wide.All
import OpenK.AllK
import Wide.FinOn
import PySem.Challenge.RW_k16_0024
set_option Elab.async false
set_option maxRecDepth 100000
set_option linter.unusedVariables false
namespace Mine
open PySem PySem.Calls PyProof.Rows

/-- plain data of the program's -/
inductive D where
  | none
  | bool (b : Bool)
  | int (i : Int)
  | flt (b : UInt64)
  | str (s : Str)
  | list (xs : List D)
  | tup (xs : List D)

/-- no list is longer than this -/
abbrev cap : Nat := 1048576

/-- the ledger of objects that will not change any more -/
abbrev Led := Addr → Option Obj

abbrev listO (vs : List Value) (n : Nat) : Obj := { cls := .type "list", data := .seq vs.toArray n }
abbrev tupO (vs : List Value) (n : Nat) : Obj := { cls := .type "tuple", data := .seq vs.toArray n }

mutual
inductive Rp (M : Led) : Value → D → Prop
  | none : Rp M .none .none
  | bool (b : Bool) : Rp M (.bool b) (.bool b)
  | int (i : Int) (t : Tok) : Rp M (.int i t) (.int i)
  | flt (b : UInt64) (t : Tok) : Rp M (.float b t) (.flt b)
  | str (s : Str) (t : Tok) : Rp M (.str s t) (.str s)
  | list {a : Addr} {vs : List Value} {n : Nat} {ds : List D} : M a = some (listO vs n) → RpL M vs ds → ds.length ≤ cap → Rp M (.ref a) (.list ds)
  | tup {a : Addr} {vs : List Value} {n : Nat} {ds : List D} : M a = some (tupO vs n) → RpL M vs ds → Rp M (.ref a) (.tup ds)
inductive RpL (M : Led) : List Value → List D → Prop
  | nil : RpL M [] []
  | cons {v : Value} {vs : List Value} {d : D} {ds : List D} : Rp M v d → RpL M vs ds → RpL M (v :: vs) (d :: ds)
end

def LedLe (M M' : Led) : Prop := ∀ a o, M a = some o → M' a = some o
theorem LedLe.refl (M : Led) : LedLe M M := fun _ _ h => h
theorem LedLe.trans {M M' M'' : Led} (h : LedLe M M') (h' : LedLe M' M'') : LedLe M M'' := fun a o e => h' a o (h a o e)

mutual
theorem Rp.mono {M M' : Led} (hs : LedLe M M') : ∀ {v : Value} {d : D}, Rp M v d → Rp M' v d
  | _, _, .none => .none
  | _, _, .bool b => .bool b
  | _, _, .int i t => .int i t
  | _, _, .flt b t => .flt b t
  | _, _, .str s t => .str s t
  | _, _, .list h r c => .list (hs _ _ h) (RpL.mono hs r) c
  | _, _, .tup h r => .tup (hs _ _ h) (RpL.mono hs r)
theorem RpL.mono {M M' : Led} (hs : LedLe M M') : ∀ {vs : List Value} {ds : List D}, RpL M vs ds → RpL M' vs ds
  | _, _, .nil => .nil
  | _, _, .cons h r => .cons (Rp.mono hs h) (RpL.mono hs r)
end

theorem RpL.length {M : Led} : ∀ {vs : List Value} {ds : List D}, RpL M vs ds → vs.length = ds.length
  | _, _, .nil => rfl
  | _, _, .cons _ r => by simp [r.length]
theorem RpL.append {M : Led} : ∀ {vs ws : List Value} {ds es : List D}, RpL M vs ds → RpL M ws es → RpL M (vs ++ ws) (ds ++ es)
  | _, _, _, _, .nil, k => k
  | _, _, _, _, .cons h r, k => .cons h (r.append k)
theorem RpL.get {M : Led} : ∀ {vs : List Value} {ds : List D} {k : Nat} {d : D}, RpL M vs ds → ds[k]? = some d → ∃ v, vs[k]? = some v ∧ Rp M v d
  | _, _, k, _, .nil, h => by simp at h
  | _, _, 0, _, .cons h r, e => by simp at e; subst e; exact ⟨_, by simp, h⟩
  | _, _, k + 1, _, .cons h r, e => by simp at e; obtain ⟨v, a, b⟩ := r.get e; exact ⟨v, by simpa using a, b⟩
theorem RpL.get' {M : Led} : ∀ {vs : List Value} {ds : List D} {k : Nat} {v : Value}, RpL M vs ds → vs[k]? = some v → ∃ d, ds[k]? = some d ∧ Rp M v d
  | _, _, k, _, .nil, h => by simp at h
  | _, _, 0, _, .cons h r, e => by simp at e; subst e; exact ⟨_, by simp, h⟩
  | _, _, k + 1, _, .cons h r, e => by simp at e; obtain ⟨v, a, b⟩ := r.get' e; exact ⟨v, by simpa using a, b⟩
theorem RpL.take {M : Led} : ∀ {vs : List Value} {ds : List D} (k : Nat), RpL M vs ds → RpL M (vs.take k) (ds.take k)
  | _, _, 0, _ => by simp; exact .nil
  | _, _, k + 1, .nil => by simp; exact .nil
  | _, _, k + 1, .cons h r => by simp; exact .cons h (r.take k)
theorem RpL.drop {M : Led} : ∀ {vs : List Value} {ds : List D} (k : Nat), RpL M vs ds → RpL M (vs.drop k) (ds.drop k)
  | _, _, 0, h => by simpa using h
  | _, _, k + 1, .nil => by simp; exact .nil
  | _, _, k + 1, .cons h r => by simp; exact r.drop k
theorem RpL.set {M : Led} : ∀ {vs : List Value} {ds : List D} (k : Nat) {v : Value} {d : D}, RpL M vs ds → Rp M v d → RpL M (vs.set k v) (ds.set k d)
  | _, _, _, _, _, .nil, _ => by simp; exact .nil
  | _, _, 0, _, _, .cons h r, e => by simp; exact .cons e r
  | _, _, k + 1, _, _, .cons h r, e => by simp; exact .cons h (r.set k e)

/-- a function of the text -/
structure Fn where
  name : Str
  params : Arguments
  body : List Stmt
  scope : Scope

def Keeps (h h' : Heap) : Prop := ∀ b o, h.get? b = some o → h'.get? b = some o
theorem Keeps.refl (h : Heap) : Keeps h h := fun _ _ e => e
theorem Keeps.trans {h h' h'' : Heap} (x : Keeps h h') (y : Keeps h' h'') : Keeps h h'' := fun b o e => y b o (x b o e)
theorem Keeps.push (h : Heap) (o : Obj) : Keeps h (h.push o) := fun _ _ e => Heap.get?_push_of_some o e

/-- what is fixed through a run -/
structure Cx where
  prog : Program
  w : World
  mg : Str → Option Value
  mb : Str → Option Value
  fns : List Fn
  /-- what else is known of the heap, and stays -/
  ex : Heap → Prop
  exk : ∀ h h', Keeps h h' → ex h → ex h'
/-- the built-in names that the texts use -/
def stdBis : List (Str × Value) := [("len", .builtin "len"), ("list", .type "list"), ("range", .type "range"), ("abs", .builtin "abs"), ("type", .type "type"), ("int", .type "int"), ("isinstance", .builtin "isinstance"), ("bool", .type "bool"), ("iter", .builtin "iter")]

structure Cx.Ok (X : Cx) (h : Heap) : Prop where
  g : h.Ns mainGlobals X.mg
  b : h.Ns builtinsNs X.mb
  nolimit : h.NoLimit
  fn : ∀ d ∈ X.fns, ∃ a o pm code doc, X.mg d.name = some (.ref a) ∧ h.get? a = some o ∧ o.data = .func (docDef d.name d.params d.body d.scope pm code doc) ∧ h.CodeRec code d.name
  bi : ∀ p ∈ stdBis, X.mg p.1 = none ∧ X.mb p.1 = some p.2
  ex : X.ex h

theorem Cx.Ok.keeps {X : Cx} {h h' : Heap} (O : X.Ok h) (hk : Keeps h h') : X.Ok h' where
  g := O.g.keeps hk
  b := O.b.keeps hk
  nolimit := O.nolimit.keeps hk
  fn := fun d hd => let ⟨a, o, pm, code, doc, h1, h2, h3, h4⟩ := O.fn d hd; ⟨a, o, pm, code, doc, h1, hk _ _ h2, h3, h4.keeps hk⟩
  bi := O.bi
  ex := X.exk h h' hk O.ex

/-- the heap went from h to h', the ledger from M to M' -/
structure Ext (h : Heap) (M : Led) (h' : Heap) (M' : Led) : Prop where
  keep : Keeps h h'
  le : LedLe M M'
  new : ∀ a o, h.get? a = some o → M a = none → M' a = none
theorem Ext.refl (h : Heap) (M : Led) : Ext h M h M := ⟨Keeps.refl h, LedLe.refl M, fun _ _ _ e => e⟩
theorem Ext.trans {h h' h'' : Heap} {M M' M'' : Led} (x : Ext h M h' M') (y : Ext h' M' h'' M'') : Ext h M h'' M'' :=
  ⟨x.keep.trans y.keep, x.le.trans y.le, fun a o l e => y.new a o (x.keep _ _ l) (x.new a o l e)⟩
theorem ne_size {h : Heap} {a : Addr} {o : Obj} (e : h.get? a = some o) : a ≠ h.objs.size := Nat.ne_of_lt (Heap.lt_size e)
theorem size_free (h : Heap) : h.get? h.objs.size = none := by
  cases e : h.get? h.objs.size with
  | none => rfl
  | some o => exact absurd rfl (ne_size e)

def LedIn (M : Led) (h : Heap) : Prop := ∀ a o, M a = some o → h.get? a = some o
theorem LedIn.keeps {M : Led} {h h' : Heap} (x : LedIn M h) (k : Keeps h h') : LedIn M h' := fun a o e => k a o (x a o e)

/-- the ledger with one more entry -/
def Led.put (M : Led) (a : Addr) (o : Obj) : Led := fun b => if b = a then some o else M b
theorem Led.put_le {M : Led} {a : Addr} {o : Obj} (h : M a = none) : LedLe M (M.put a o) := fun b o' e => by
  unfold Led.put
  by_cases hb : b = a
  · subst hb; rw [h] at e; cases e
  · rw [if_neg hb]; exact e
theorem Led.put_self (M : Led) (a : Addr) (o : Obj) : M.put a o a = some o := by simp [Led.put]
theorem LedIn.size_none {M : Led} {h : Heap} (x : LedIn M h) : M h.objs.size = none := by
  cases e : M h.objs.size with
  | none => rfl
  | some o => exact absurd (Heap.lt_size (x _ _ e)) (Nat.lt_irrefl _)

structure St (X : Cx) (h₀ : Heap) (M₀ : Led) (W : List (Addr × Obj)) (L : Addr) (M : Led) (m : Str → Option Value) (h : Heap) : Prop where
  ok : X.Ok h₀
  fr : Fr h₀ L h m
  inh : LedIn M h
  ml : M L = none
  m0 : LedLe M₀ M
  mf : ∀ a o, h₀.get? a = some o → M₀ a = none → M a = none
  wd : ∀ q ∈ W, h.get? q.1 = some q.2 ∧ q.1 ≠ L ∧ M q.1 = none

theorem St.okh {X : Cx} {h₀ : Heap} {M₀ : Led} {W : List (Addr × Obj)} {L : Addr} {M : Led} {m : Str → Option Value} {h : Heap} (S : St X h₀ M₀ W L M m h) : X.Ok h := S.ok.keeps S.fr.keep

theorem St.ext {X : Cx} {h₀ : Heap} {M₀ : Led} {W : List (Addr × Obj)} {L : Addr} {M M' : Led} {m : Str → Option Value} {h h' : Heap} (S : St X h₀ M₀ W L M m h) (x : Ext h M h' M') (i : LedIn M' h') :
    St X h₀ M₀ W L M' m h' where
  ok := S.ok
  fr := ⟨S.fr.ns.keeps x.keep, fun b o e => x.keep b o (S.fr.keep b o e), S.fr.above⟩
  inh := i
  ml := let ⟨o, _, _, e, _⟩ := S.fr.ns; x.new L o e S.ml
  m0 := S.m0.trans x.le
  mf := fun a o l e => x.new a o (S.fr.keep _ _ l) (S.mf a o l e)
  wd := fun q hq => ⟨x.keep _ _ (S.wd q hq).1, (S.wd q hq).2.1, x.new _ _ (S.wd q hq).1 (S.wd q hq).2.2⟩

/-- one object more, entered in the ledger -/
theorem Ext.put {h : Heap} {M : Led} (i : LedIn M h) (o : Obj) : Ext h M (h.push o) (M.put h.objs.size o) :=
  ⟨Keeps.push h o, Led.put_le i.size_none, fun a o l e => by unfold Led.put; rw [if_neg (ne_size l)]; exact e⟩
theorem LedIn.put {h : Heap} {M : Led} (i : LedIn M h) (o : Obj) (hf : o.isFreed = false := by rfl) : LedIn (M.put h.objs.size o) (h.push o) := fun a o' e => by
  unfold Led.put at e
  by_cases ha : a = h.objs.size
  · subst ha; rw [if_pos rfl] at e; cases e; exact Heap.get?_push_size _ hf
  · rw [if_neg ha] at e; exact Heap.get?_push_of_some o (i a o' e)
/-- one object more, not in the ledger -/
theorem Ext.push {h : Heap} {M : Led} (o : Obj) : Ext h M (h.push o) M :=
  ⟨Keeps.push h o, LedLe.refl M, fun _ _ _ e => e⟩
/-- the heap grew (keeps), an object at the old end entered -/
theorem Ext.put' {h h' : Heap} {M : Led} {o : Obj} (i : LedIn M h) (k : Keeps h h') (hn : h'.get? h.objs.size = some o) : Ext h M h' (M.put h.objs.size o) ∧ LedIn (M.put h.objs.size o) h' :=
  ⟨⟨k, Led.put_le i.size_none, fun a o l e => by unfold Led.put; rw [if_neg (ne_size l)]; exact e⟩, fun a o' e => by
    unfold Led.put at e
    by_cases ha : a = h.objs.size
    · subst ha; rw [if_pos rfl] at e; cases e; exact hn
    · rw [if_neg ha] at e; exact k _ _ (i a o' e)⟩

inductive B where
  | val (d : D)
  | own (ds : List D)
  | cel (d : D)
/-- the kind that the scope gives the name -/
def B.kind : B → NameKind
  | .val _ => .local
  | .own _ => .local
  | .cel _ => .cell
abbrev Rho := List (Str × B)

def OwnAt (M : Led) (h₀ : Heap) (W : List (Addr × Obj)) (L : Addr) (h : Heap) (a : Addr) (ds : List D) : Prop :=
  ∃ vs n, h.get? a = some (listO vs n) ∧ RpL M vs ds ∧ ds.length ≤ cap ∧ M a = none ∧ a ≠ L ∧ h₀.get? a = none ∧ ∀ q ∈ W, q.1 ≠ a

structure Loc (h₀ : Heap) (W : List (Addr × Obj)) (L : Addr) (M : Led) (m : Str → Option Value) (ρ : Rho) (h : Heap) : Prop where
  vals : ∀ x d, (x, .val d) ∈ ρ → ∃ v, m x = some v ∧ Rp M v d
  owns : ∀ x ds, (x, .own ds) ∈ ρ → ∃ a, m x = some (.ref a) ∧ OwnAt M h₀ W L h a ds
  dist : ∀ x y ds es a, (x, .own ds) ∈ ρ → (y, .own es) ∈ ρ → m x = some (.ref a) → m y = some (.ref a) → x = y

theorem Loc.ext {h₀ : Heap} {W : List (Addr × Obj)} {L : Addr} {M M' : Led} {m : Str → Option Value} {ρ : Rho} {h h' : Heap} (l : Loc h₀ W L M m ρ h) (x : Ext h M h' M') : Loc h₀ W L M' m ρ h' where
  vals := fun y d hy => let ⟨v, a, b⟩ := l.vals y d hy; ⟨v, a, b.mono x.le⟩
  owns := fun y ds hy => let ⟨a, e, vs, n, hg, r, hc, hM, q⟩ := l.owns y ds hy; ⟨a, e, vs, n, x.keep _ _ hg, r.mono x.le, hc, x.new a _ hg hM, q⟩
  dist := l.dist
theorem Loc.sub {h₀ : Heap} {W : List (Addr × Obj)} {L : Addr} {M : Led} {m : Str → Option Value} {ρ ρ' : Rho} {h : Heap} (l : Loc h₀ W L M m ρ h) (s : ∀ q ∈ ρ', q ∈ ρ) : Loc h₀ W L M m ρ' h where
  vals := fun y d hy => l.vals y d (s _ hy)
  owns := fun y ds hy => l.owns y ds (s _ hy)
  dist := fun x y ds es a hx hy => l.dist x y ds es a (s _ hx) (s _ hy)

/-- the frame's cells -/
structure Ce (W : List (Addr × Obj)) (cl : List (Str × Addr)) (fl L : Addr) (sc : Scope) (M : Led) (ρ : Rho) (h : Heap) : Prop where
  cells : ∀ x a, cl.lookup x = some a → (∃ v, h.IsCell a v) ∧ M a = none
  cels : ∀ x d, (x, .cel d) ∈ ρ → ∃ a v, cl.lookup x = some a ∧ h.IsCell a (some v) ∧ Rp M v d
  inj : ∀ x y a, cl.lookup x = some a → cl.lookup y = some a → x = y
  above : ∀ x a, cl.lookup x = some a → fl < a
  fl : sc.names.lookup (Str.ofString ".0") = none → fl = L
  has : sc.names.lookup (Str.ofString ".0") = none → ∀ x, sc.names.lookup x = some .cell → (cl.lookup x).isSome = true
  wc : ∀ q ∈ W, ∀ v, q.2.data ≠ .cell v
theorem Ce.move {W W' : List (Addr × Obj)} {cl : List (Str × Addr)} {fl L : Addr} {sc : Scope} {M M' : Led} {ρ ρ' : Rho} {h h' : Heap} (C : Ce W cl fl L sc M ρ h) (hc : ∀ a v, h.IsCell a v → h'.IsCell a v) (le : LedLe M M') (hm : ∀ a v, h.IsCell a v → M a = none → M' a = none)
    (hr : ∀ x d, (x, B.cel d) ∈ ρ' → (x, B.cel d) ∈ ρ) (hw : ∀ q ∈ W', ∀ v, q.2.data ≠ .cell v) : Ce W' cl fl L sc M' ρ' h' :=
  ⟨fun x a e => let ⟨⟨v, hv⟩, hM⟩ := C.cells x a e; ⟨⟨v, hc a v hv⟩, hm a v hv hM⟩, fun x d hx => let ⟨a, v, e, hv, r⟩ := C.cels x d (hr x d hx); ⟨a, v, e, hc a _ hv, r.mono le⟩, C.inj, C.above, C.fl, C.has, hw⟩
theorem Ce.ext {W : List (Addr × Obj)} {cl : List (Str × Addr)} {fl L : Addr} {sc : Scope} {M M' : Led} {ρ : Rho} {h h' : Heap} (C : Ce W cl fl L sc M ρ h) (x : Ext h M h' M') : Ce W cl fl L sc M' ρ h' :=
  C.move (fun a v e => e.keeps x.keep) x.le (fun a v e hM => let ⟨o, ho, _⟩ := e; x.new a o ho hM) (fun _ _ h => h) C.wc
theorem cell_same {h h' : Heap} {I : Addr} (hs : Heap.SameBut I h h') {o : Obj} (g : h.get? I = some o) (hn : ∀ v, o.data ≠ .cell v) : ∀ a v, h.IsCell a v → h'.IsCell a v := fun a v e => e.sameBut hs fun q => by
  obtain ⟨o', ho, hd⟩ := e
  rw [q, g] at ho; cases ho; exact hn v hd
theorem cell_extBut {h h' : Heap} {I : Addr} (hs : Heap.ExtBut I h h') {o : Obj} (g : h.get? I = some o) (hn : ∀ v, o.data ≠ .cell v) : ∀ a v, h.IsCell a v → h'.IsCell a v := fun a v e => by
  obtain ⟨o', ho, hd⟩ := e
  refine ⟨o', hs a o' (fun q => ?_) ho, hd⟩
  rw [q, g] at ho; cases ho; exact hn v hd
theorem cell_sameN {h h' : Heap} {L : Addr} {m : Str → Option Value} (hs : Heap.SameBut L h h') (hn : h.Ns L m) : ∀ a v, h.IsCell a v → h'.IsCell a v := by
  obtain ⟨o, es, ep, g, hd, _⟩ := hn
  exact cell_same hs g fun v q => by rw [hd] at q; cases q
theorem cel_drop {x : Str} {b : B} {ρ ρ' : Rho} (dr : ∀ q ∈ ρ', q ∈ ρ) (hb : ∀ d, b ≠ .cel d) : ∀ y d, (y, B.cel d) ∈ ((x, b) :: ρ' : Rho) → (y, B.cel d) ∈ ρ := fun y d hy => by
  rcases List.mem_cons.mp hy with hy | hy
  · cases hy; exact absurd rfl (hb d)
  · exact dr _ hy

/-- room for n calls more, one in the other -/
structure Room (A : Around) (n : Nat) : Prop where
  hh : A.handled = none
  depth : A.depth + n < recursionLimit
  units : A.units + 8 * n + 200 < cLine

/-- ρ without x -/
inductive Drop (x : Str) : Rho → Rho → Prop
  | nil : Drop x [] []
  | same {b : B} {r r' : Rho} : Drop x r r' → Drop x ((x, b) :: r) r'
  | ne {y : Str} {b : B} {r r' : Rho} : (y == x) = false → Drop x r r' → Drop x ((y, b) :: r) ((y, b) :: r')
theorem Drop.sub {x : Str} : ∀ {ρ ρ' : Rho}, Drop x ρ ρ' → ∀ q ∈ ρ', q ∈ ρ
  | _, _, .nil, _, h => h
  | _, _, .same r, q, h => List.mem_cons_of_mem _ (r.sub q h)
  | _, _, .ne _ r, q, h => by
    rcases List.mem_cons.mp h with h | h
    · rw [h]; exact List.mem_cons_self
    · exact List.mem_cons_of_mem _ (r.sub q h)
theorem Drop.not {x : Str} : ∀ {ρ ρ' : Rho}, Drop x ρ ρ' → ∀ q ∈ ρ', q.1 ≠ x
  | _, _, .nil, _, h => nomatch h
  | _, _, .same r, q, h => r.not q h
  | _, _, .ne e r, q, h => by
    rcases List.mem_cons.mp h with h | h
    · rw [h]; intro e'; dsimp only at e'; rw [e'] at e; simp at e
    · exact r.not q h
/-- ρ' is a part of ρ without x -/
structure Dr (x : Str) (ρ ρ' : Rho) : Prop where
  sub : ∀ q ∈ ρ', q ∈ ρ
  not : ∀ q ∈ ρ', q.1 ≠ x
theorem Drop.dr {x : Str} {ρ ρ' : Rho} (d : Drop x ρ ρ') : Dr x ρ ρ' := ⟨d.sub, d.not⟩
theorem Dr.of {x : Str} {ρ₀ ρ ρ' : Rho} (h : ∀ q ∈ ρ, q ∈ ρ₀) (d : Drop x ρ ρ') : Dr x ρ₀ ρ' := ⟨fun q hq => h q (d.sub q hq), d.not⟩
end Mine

namespace Mine
open PySem PySem.Calls PyProof.Rows PySem.Spec

/-- the frame at hand -/
structure Fc where
  h₀ : Heap
  M₀ : Led
  W : List (Addr × Obj)
  L : Addr
  m : Str → Option Value
  name : Str
  fn : Option Addr
  cd : Value
  /-- the cells -/
  cl : List (Str × Addr)
  /-- the frame object: L itself, but in a comprehension -/
  fl : Addr
abbrev Fc.env (c : Fc) (sc : Scope) : Env := { scope := sc, locals := c.L, globals := mainGlobals, cells := c.cl, qual := c.name ++ ".<locals>.", func := c.fn, code := c.cd, frame := some c.fl, builtins := builtinsNs }

section
variable {M : Model} {A : Around} {E : Value → Shared → Prop} {s : Shared} {h₀ : Heap} {m mg mb : Str → Option Value} {env : Env}
theorem ldX {x : Str} {pos : Pos} {v : Value} {Q : Value → Shared → Prop} (F : Fr h₀ env.locals s.heap m) (hv : m x = some v) (h : Q v s) (hk : env.scope.kind = .function) (hl : env.kindOf x = some .local) (hd : (x == ("__debug__" : Str)) = false) :
    wpAny M A (eval (.Name x pos) env) Q E s := wpAny_Name (wpAny_loadName_local hk hl F.ns hv h) hd
theorem ldX_global {x : Str} {pos : Pos} {v : Value} {L : Addr} {Q : Value → Shared → Prop} (F : Fr h₀ L s.heap m) (hg : h₀.Ns env.globals mg) (hb : mg x = some v) (h : Q v s) (hk : env.scope.kind = .function) (hx : env.kindOf x = some .globalImplicit) (hd : (x == ("__debug__" : Str)) = false) :
    wpAny M A (eval (.Name x pos) env) Q E s := Calls.Name_function_global hk hx (Calls.loadGlobal_global (env := env) (hg.keeps F.keep) hb h) hd
theorem ldX_builtin {x : Str} {pos : Pos} {v : Value} {L : Addr} {Q : Value → Shared → Prop} (F : Fr h₀ L s.heap m) (hg : h₀.Ns env.globals mg) (hmiss : mg x = none) (hb : h₀.Ns env.builtins mb) (hv : mb x = some v) (h : Q v s) (hk : env.scope.kind = .function) (hx : env.kindOf x = some .globalImplicit) (hd : (x == ("__debug__" : Str)) = false) :
    wpAny M A (eval (.Name x pos) env) Q E s := Calls.Name_function_global hk hx (Calls.loadGlobal_builtin (env := env) (hg.keeps F.keep) hmiss (hb.keeps F.keep) hv h) hd
end

/-- the names of ρ are locals of a def -/
structure Nm (sc : Scope) (ρ : Rho) : Prop where
  fk : sc.kind = .function
  nm : ∀ q ∈ ρ, sc.names.lookup q.1 = some q.2.kind ∧ (q.1 == ("__debug__" : Str)) = false

structure At (X : Cx) (sc : Scope) (c : Fc) (ρ : Rho) (M : Led) (h : Heap) : Prop where
  st : St X c.h₀ c.M₀ c.W c.L M c.m h
  lo : Loc c.h₀ c.W c.L M c.m ρ h
  nm : Nm sc ρ
  ce : Ce c.W c.cl c.fl c.L sc M ρ h
theorem At.ext {X : Cx} {sc : Scope} {c : Fc} {ρ : Rho} {M M' : Led} {h h' : Heap} (T : At X sc c ρ M h) (x : Ext h M h' M') (i : LedIn M' h') : At X sc c ρ M' h' := ⟨T.st.ext x i, T.lo.ext x, T.nm, T.ce.ext x⟩

/-- t from any state of the frame gives a value v with R M v, and changes nothing that stood -/
def WpM (X : Cx) (n : Nat) (sc : Scope) (c : Fc) (ρ : Rho) (M : Led) {α : Type} (t : Sem α) (R : Led → α → Prop) : Prop :=
  ∀ (A : Around) (E : Value → Shared → Prop) (s : Shared) (Q : α → Shared → Prop), At X sc c ρ M s.heap → Room A n →
    (∀ v h' tk M', LedIn M' h' → Ext s.heap M h' M' → R M' v → Q v { s with heap := h', toks := tk }) →
    wpAny (model X.prog X.w) A t Q E s

def Ev (X : Cx) (n : Nat) (sc : Scope) (ρ : Rho) (e : Expr) (d : D) : Prop := ∀ c M, WpM X n sc c ρ M (eval e (c.env sc)) (fun M v => Rp M v d)
def EvL (X : Cx) (n : Nat) (sc : Scope) (ρ : Rho) (es : List Expr) (ds : List D) : Prop := ∀ c M pos, WpM X n sc c ρ M (spliced (backTo pos (starEach es (c.env sc)))) (fun M vs => RpL M vs ds)
def Tr (X : Cx) (n : Nat) (sc : Scope) (ρ : Rho) (e : Expr) (b : Bool) : Prop := ∀ c M, WpM X n sc c ρ M (isTrue e (c.env sc) (eval e (c.env sc))) (fun _ v => v = b)

section
variable {X : Cx} {n : Nat} {c : Fc} {ρ : Rho} {M : Led} {sc : Scope}

/-- nothing changes but the tokens -/
theorem WpM.here {α : Type} {t : Sem α} {R : Led → α → Prop} (h : ∀ A E s Q, At X sc c ρ M s.heap → Room A n → (∀ v tk, R M v → Q v { s with toks := tk }) → wpAny (model X.prog X.w) A t Q E s) : WpM X n sc c ρ M t R :=
  fun A E s Q T r q => h A E s Q T r fun v tk hv => q v s.heap tk M T.st.inh (Ext.refl _ _) hv

theorem two {α β γ : Type} {R1 : Led → α → Prop} {R2 : Led → β → Prop} {R : Led → γ → Prop} {l : Sem α} {r : α → Sem β} {o : α → β → Sem γ} {A : Around} {E : Value → Shared → Prop} {s : Shared} {Q : γ → Shared → Prop}
    (hl : WpM X n sc c ρ M l R1) (hr : ∀ M' v, LedLe M M' → R1 M' v → WpM X n sc c ρ M' (r v) R2) (mono : ∀ M M' v, LedLe M M' → R1 M v → R1 M' v)
    (ho : ∀ M' a b, LedLe M M' → R1 M' a → R2 M' b → WpM X n sc c ρ M' (o a b) R)
    (T : At X sc c ρ M s.heap) (rm : Room A n) (q : ∀ v h' tk M', LedIn M' h' → Ext s.heap M h' M' → R M' v → Q v { s with heap := h', toks := tk }) :
    wpAny (model X.prog X.w) A l (fun a s₁ => wpAny (model X.prog X.w) A (r a) (fun b s₂ => wpAny (model X.prog X.w) A (o a b) Q E s₂) E s₁) E s := by
  refine hl A E s _ T rm fun v1 h1 tk1 M1 i1 x1 r1 => ?_
  refine hr M1 v1 x1.le r1 A E _ _ (T.ext x1 i1) rm fun v2 h2 tk2 M2 i2 x2 r2 => ?_
  refine ho M2 v1 v2 (x1.le.trans x2.le) (mono _ _ _ x2.le r1) r2 A E _ _ ((T.ext x1 i1).ext x2 i2) rm fun v3 h3 tk3 M3 i3 x3 r3 => ?_
  exact q v3 h3 tk3 M3 i3 ((x1.trans x2).trans x3) r3
theorem one {α β : Type} {R1 : Led → α → Prop} {R : Led → β → Prop} {l : Sem α} {r : α → Sem β} {A : Around} {E : Value → Shared → Prop} {s : Shared} {Q : β → Shared → Prop}
    (hl : WpM X n sc c ρ M l R1) (hr : ∀ M' v, LedLe M M' → R1 M' v → WpM X n sc c ρ M' (r v) R)
    (T : At X sc c ρ M s.heap) (rm : Room A n) (q : ∀ v h' tk M', LedIn M' h' → Ext s.heap M h' M' → R M' v → Q v { s with heap := h', toks := tk }) :
    wpAny (model X.prog X.w) A l (fun a s₁ => wpAny (model X.prog X.w) A (r a) Q E s₁) E s := by
  refine hl A E s _ T rm fun v1 h1 tk1 M1 i1 x1 r1 => ?_
  refine hr M1 v1 x1.le r1 A E _ _ (T.ext x1 i1) rm fun v3 h3 tk3 M3 i3 x3 r3 => ?_
  exact q v3 h3 tk3 M3 i3 (x1.trans x3) r3

theorem Ev.name {x : Str} {pos : Pos} {d : D} (hx : (x, B.val d) ∈ ρ) : Ev X n sc ρ (.Name x pos) d :=
  fun c M => .here fun A E s Q T _ q => by
    obtain ⟨v, hv, r⟩ := T.lo.vals x d hx
    have hn := T.nm.nm _ hx
    exact ldX (h₀ := c.h₀) T.st.fr hv (q v s.toks r) T.nm.fk hn.1 hn.2
theorem Ev.cell {x : Str} {pos : Pos} {d : D} (hx : (x, B.cel d) ∈ ρ) : Ev X n sc ρ (.Name x pos) d :=
  fun c M => .here fun A E s Q T _ q => by
    obtain ⟨a, v, e, hv, r⟩ := T.ce.cels x d hx
    have hn := T.nm.nm _ hx
    exact wpAny_Name (wpAny_loadName_cell T.nm.fk hn.1 e hv (q v s.toks r)) hn.2
theorem Ev.cint {i : Int} {k pos} : Ev X n sc ρ (.Constant (.int i) k pos) (.int i) := fun c M => .here fun A E s Q T _ q => wpAny_Constant_int (q _ _ (.int i _))
theorem Ev.cnone {k pos} : Ev X n sc ρ (.Constant .none k pos) .none := fun c M => .here fun A E s Q T _ q => wpAny_Constant_none (q _ _ .none)
theorem Ev.cbool {b k pos} : Ev X n sc ρ (.Constant (.bool b) k pos) (.bool b) := fun c M => .here fun A E s Q T _ q => wpAny_Constant_bool (q _ _ (.bool b))
theorem Ev.cstr {x : Str} {k pos} : Ev X n sc ρ (.Constant (.str x) k pos) (.str x) := fun c M => .here fun A E s Q T _ q => wpAny_Constant_str (q _ _ (.str x _))

theorem rpmono {d : D} : ∀ (M M' : Led) (v : Value), LedLe M M' → Rp M v d → Rp M' v d := fun _ _ _ l r => r.mono l

/-- what an operator gives -/
def Op2 (o : Value → Value → Sem Value) (d1 d2 d : D) : Prop := ∀ (X : Cx) (n : Nat) (sc : Scope) (c : Fc) (ρ : Rho) (M : Led) (a b : Value), Rp M a d1 → Rp M b d2 → WpM X n sc c ρ M (o a b) (fun M v => Rp M v d)

theorem Ev.binop {l r : Expr} {op : Operator} {pos : Pos} {d1 d2 d : D} (hl : Ev X n sc ρ l d1) (hr : Ev X n sc ρ r d2) (ho : Op2 (binaryOp op) d1 d2 d) : Ev X n sc ρ (.BinOp l op r pos) d :=
  fun c M A E s Q T rm q => wpAny_BinOp (two (hl c M) (fun M' _ _ _ => hr c M') rpmono (fun M' a b _ ra rb => ho X n sc c ρ M' a b ra rb) T rm q)
theorem Ev.cmp {l r : Expr} {op : CmpOp} {pos : Pos} {d1 d2 d : D} (hl : Ev X n sc ρ l d1) (hr : Ev X n sc ρ r d2) (ho : Op2 (compareOp op) d1 d2 d) (hm : behindInMarks op r = false) : Ev X n sc ρ (.Compare l [op] [r] pos) d :=
  fun c M A E s Q T rm q => wpAny_Compare1 (two (hl c M) (fun M' _ _ _ => hr c M') rpmono (fun M' a b _ ra rb => ho X n sc c ρ M' a b ra rb) T rm q) hm
theorem Tr.cmp {l r : Expr} {op : CmpOp} {pos : Pos} {d1 d2 : D} {b : Bool} (hl : Ev X n sc ρ l d1) (hr : Ev X n sc ρ r d2) (ho : Op2 (compareOp op) d1 d2 (.bool b)) (hm : behindInMarks op r = false) : Tr X n sc ρ (.Compare l [op] [r] pos) b :=
  fun c M A E s Q T rm q => wpAny_isTrue_Compare1 (two (hl c M) (fun M' _ _ _ => hr c M') rpmono (fun M' a b _ ra rb => ho X n sc c ρ M' a b ra rb) T rm fun v h' tk M' i x r => by
    cases r; exact wpAny_truthy_bool (q _ _ _ _ i x rfl)) hm

theorem op_add_int {i j : Int} : Op2 (binaryOp .Add) (.int i) (.int j) (.int (i + j)) := fun X n sc c ρ M a b ra rb => by
  cases ra; cases rb; exact .here fun A E s Q T _ q => P.add_int (q _ _ (.int _ _))
theorem op_sub_int {i j : Int} : Op2 (binaryOp .Sub) (.int i) (.int j) (.int (i - j)) := fun X n sc c ρ M a b ra rb => by
  cases ra; cases rb; exact .here fun A E s Q T _ q => P.sub_int (q _ _ (.int _ _))
theorem op_mul_int {i j : Int} (h : IntMulOk i j) : Op2 (binaryOp .Mult) (.int i) (.int j) (.int (i * j)) := fun X n sc c ρ M a b ra rb => by
  cases ra; cases rb; exact .here fun A E s Q T _ q => P.mul_int (q _ _ (.int _ _)) h
theorem op_eq_int {i j : Int} : Op2 (compareOp .Eq) (.int i) (.int j) (.bool (i == j)) := fun X n sc c ρ M a b ra rb => by
  cases ra; cases rb; exact .here fun A E s Q T _ q => P.eq_int (q _ _ (.bool _))
theorem op_ne_int {i j : Int} : Op2 (compareOp .NotEq) (.int i) (.int j) (.bool (i != j)) := fun X n sc c ρ M a b ra rb => by
  cases ra; cases rb; exact .here fun A E s Q T _ q => P.ne_int (q _ _ (.bool _))
theorem op_lt_int {i j : Int} : Op2 (compareOp .Lt) (.int i) (.int j) (.bool (decide (i < j))) := fun X n sc c ρ M a b ra rb => by
  cases ra; cases rb; exact .here fun A E s Q T _ q => P.lt_int (q _ _ (.bool _))
theorem op_le_int {i j : Int} : Op2 (compareOp .LtE) (.int i) (.int j) (.bool (decide (i ≤ j))) := fun X n sc c ρ M a b ra rb => by
  cases ra; cases rb; exact .here fun A E s Q T _ q => P.le_int (q _ _ (.bool _))
theorem op_gt_int {i j : Int} : Op2 (compareOp .Gt) (.int i) (.int j) (.bool (decide (i > j))) := fun X n sc c ρ M a b ra rb => by
  cases ra; cases rb; exact .here fun A E s Q T _ q => P.gt_int (q _ _ (.bool _))
theorem op_ge_int {i j : Int} : Op2 (compareOp .GtE) (.int i) (.int j) (.bool (decide (i ≥ j))) := fun X n sc c ρ M a b ra rb => by
  cases ra; cases rb; exact .here fun A E s Q T _ q => P.ge_int (q _ _ (.bool _))
theorem capLine : cap ≤ sizeLine := by decide +kernel
theorem op_add_list {xs ys : List D} (hc : xs.length + ys.length ≤ cap) : Op2 (binaryOp .Add) (.list xs) (.list ys) (.list (xs ++ ys)) := fun X n sc c ρ M a b ra rb => by
  cases ra with
  | list ha r1 c1 =>
    cases rb with
    | list hb r2 c2 =>
      intro A E s Q T rm q
      refine P.add_list (T.st.inh _ _ ha) (T.st.inh _ _ hb) ?_ (by rw [List.size_toArray, List.size_toArray, r1.length, r2.length]; exact Nat.le_trans hc capLine)
      rw [List.append_toArray]
      exact q _ _ s.toks _ (T.st.inh.put _) (Ext.put T.st.inh _) (.list (Led.put_self ..) ((r1.append r2).mono (Led.put_le T.st.inh.size_none)) (by rw [List.length_append]; exact hc))

theorem EvL.nil : EvL X n sc ρ [] [] := fun c M pos => .here fun A E s Q T _ q => args_nil (q _ s.toks .nil)
theorem EvL.cons {e : Expr} {es : List Expr} {d : D} {ds : List D} (h : Ev X n sc ρ e d) (hs : EvL X n sc ρ es ds) (he : ∀ env, starEach (e :: es) env = (false, eval e env) :: starEach es env) : EvL X n sc ρ (e :: es) (d :: ds) :=
  fun c M pos A E s Q T rm q => args_cons (h c M A E s _ T rm fun v h' tk M' i x r => hs c M' pos A E _ _ (T.ext x i) rm fun vs h2 tk2 M2 i2 x2 r2 => q _ _ _ _ i2 (x.trans x2) (.cons (r.mono x2.le) r2)) (he _)

theorem wp_newTuple {vs : List Value} {ds : List D} (r : RpL M vs ds) (hc : ds.length ≤ cap) : WpM X n sc c ρ M (newTuple vs) (fun M v => Rp M v (.tup ds)) := fun A E s Q T rm q => by
  refine wpAny_newObj_type ?_ (by show vs.toArray.size ≤ sizeLine; rw [List.size_toArray, r.length]; exact Nat.le_trans hc capLine)
  exact q _ _ s.toks _ (T.st.inh.put _) (Ext.put T.st.inh _) (.tup (Led.put_self ..) (r.mono (Led.put_le T.st.inh.size_none)))
theorem wp_newList {vs : List Value} {ds : List D} (r : RpL M vs ds) (hc : ds.length ≤ cap) : WpM X n sc c ρ M (newList vs) (fun M v => Rp M v (.list ds)) := fun A E s Q T rm q => by
  refine wpAny_newObj_type ?_ (by show vs.toArray.size ≤ sizeLine; rw [List.size_toArray, r.length]; exact Nat.le_trans hc capLine)
  exact q _ _ s.toks _ (T.st.inh.put _) (Ext.put T.st.inh _) (.list (Led.put_self ..) (r.mono (Led.put_le T.st.inh.size_none)) hc)
theorem Ev.tuple {es : List Expr} {ds : List D} {k : Nat} {pos : Pos} (h : EvL X n sc ρ es ds) (hc : ds.length ≤ cap) : Ev X n sc ρ (.Tuple es k pos) (.tup ds) :=
  fun c M A E s Q T rm q => Tuple_ (one (h c M pos) (fun M' v _ r => wp_newTuple r hc) T rm q)
theorem Ev.list {es : List Expr} {ds : List D} {pos : Pos} (h : EvL X n sc ρ es ds) (hc : ds.length ≤ cap) : Ev X n sc ρ (.List es pos) (.list ds) :=
  fun c M A E s Q T rm q => List_ (one (h c M pos) (fun M' v _ r => wp_newList r hc) T rm q)

theorem lt_of_get {α : Type} {xs : List α} {k : Nat} {d : α} (h : xs[k]? = some d) : k < xs.length := by
  rcases Nat.lt_or_ge k xs.length with h' | h'
  · exact h'
  · rw [List.getElem?_eq_none h'] at h; cases h

/-- slices that are no Slice -/
abbrev PlainIx (slice : Expr) : Prop := ∀ o i', subscripted slice false o i' = operate [o, i'] (getItem o i')

theorem op_item_tup {value slice : Expr} {ds : List D} {i : Int} {d : D} (h0 : 0 ≤ i) (hi : i < 1048576) (hd : ds[i.toNat]? = some d) (hs : PlainIx slice) : Op2 (subscriptTail value slice) (.tup ds) (.int i) d := fun X n sc c ρ M a b ra rb => by
  cases ra with
  | tup ha r =>
    cases rb
    refine .here fun A E s Q T _ q => ?_
    obtain ⟨v, hv, rv⟩ := r.get hd
    have hlt := lt_of_get hd
    exact item_tupleT (j := i.toNat) ⟨_, T.st.inh _ _ ha, rfl, _, rfl⟩ (by omega) (by omega) (by rw [r.length]; exact seqIndex_of h0 (by omega)) hv (q v s.toks rv) (hs _ _)
theorem op_item_list {value slice : Expr} {ds : List D} {i : Int} {d : D} (h0 : 0 ≤ i) (hd : ds[i.toNat]? = some d) (hs : PlainIx slice) : Op2 (subscriptTail value slice) (.list ds) (.int i) d := fun X n sc c ρ M a b ra rb => by
  cases ra with
  | list ha r hc =>
    cases rb
    refine .here fun A E s Q T _ q => ?_
    obtain ⟨v, hv, rv⟩ := r.get hd
    have hlt := lt_of_get hd
    have hL : s.heap.IsList _ _ := ⟨_, T.st.inh _ _ ha, rfl, _, rfl⟩
    have hc' : ds.length ≤ 1048576 := hc
    exact tail_any hL.typeIs slot_list_getitem.lookup (wpAny_getItem_list hL h0 (by omega) (by simpa using hv) (q v s.toks rv)) (hs _ _)
theorem Ev.item {value slice : Expr} {pos : Pos} {d1 d2 d : D} (hl : Ev X n sc ρ value d1) (hr : Ev X n sc ρ slice d2) (ho : Op2 (subscriptTail value slice) d1 d2 d) : Ev X n sc ρ (.Subscript value slice pos) d :=
  fun c M A E s Q T rm q => Subscript_ (two (hl c M) (fun M' _ _ _ => hr c M') rpmono (fun M' a b _ ra rb => ho X n sc c ρ M' a b ra rb) T rm q)

/-- a slice's part -/
def EvO (X : Cx) (n : Nat) (sc : Scope) (ρ : Rho) : Option Expr → Option Int → Prop
  | none, none => True
  | some e, some i => Ev X n sc ρ e (.int i)
  | _, _ => False
theorem EvO.wp {o : Option Expr} {i : Option Int} (h : EvO X n sc ρ o i) (c : Fc) (M : Led) : WpM X n sc c ρ M (evalPart o (c.env sc)) (fun _ v => IsPart v i) := by
  intro A E s Q T rm q
  match o, i, h with
  | none, none, _ => exact wpAny_pure (q _ _ s.toks M T.st.inh (Ext.refl _ _) .none)
  | some e, some i, h => exact h c M A E s _ T rm fun v h' tk M' i x r => by cases r; exact q _ _ _ _ i x (.int _ _)

def sliceL (lo hi : Option Int) (xs : List D) : List D := (xs.drop (lo.elim 0 (clipAt xs.length))).take (hi.elim xs.length (clipAt xs.length) - lo.elim 0 (clipAt xs.length))
theorem Ev.slice {value : Expr} {lower upper : Option Expr} {p pos : Pos} {xs : List D} {lo hi : Option Int} (hv : Ev X n sc ρ value (.list xs)) (hl : EvO X n sc ρ lower lo) (hh : EvO X n sc ρ upper hi) :
    Ev X n sc ρ (.Subscript value (.Slice lower upper none p) pos) (.list (sliceL lo hi xs)) := fun c M A E s Q T rm q => by
  refine Subscript_ (hv c M A E s _ T rm fun v h1 tk1 M1 i1 x1 r1 => ?_)
  have T1 := T.ext x1 i1
  refine wpAny_Slice (hl.wp c M1 A E _ _ T1 rm fun vl h2 tk2 M2 i2 x2 pl => ?_)
  have T2 := T1.ext x2 i2
  refine hh.wp c M2 A E _ _ T2 rm fun vu h3 tk3 M3 i3 x3 pu => ?_
  have T3 := T2.ext x3 i3
  rw [evalPart_none]
  refine wpAny_pure ?_
  have r3 := r1.mono (x2.le.trans x3.le)
  cases r3 with
  | list ha r hc =>
    have hL : h3.IsList _ _ := ⟨_, T3.st.inh _ _ ha, rfl, _, rfl⟩
    refine tail_any (s := { s with heap := h3.push { cls := .type "slice", data := .fields #[vl, vu, .none] }, toks := tk3 }) (hL.push _).typeIs slot_list_getitem.lookup (wpAny_getItem_list_slice (hL.push _) (Heap.IsSliceOf.new ..) pl pu .none (by simp) ?_ (by rw [List.size_toArray, r.length]; exact Nat.le_trans hc capLine)) rfl
    have i4 : LedIn M3 (h3.push { cls := .type "slice", data := .fields #[vl, vu, .none] }) := i3.keeps (Keeps.push _ _)
    rw [slicePick_plain]
    refine q _ _ tk3 _ (i4.put _) (((x1.trans x2).trans x3).trans ((Ext.push _).trans (Ext.put i4 _))) (.list (Led.put_self ..) (RpL.mono (Led.put_le i4.size_none) ?_) ?_)
    · rw [List.size_toArray, r.length]; exact (r.drop _).take _
    · unfold sliceL; rw [List.length_take, List.length_drop]; omega

/-- a built-in's name -/
theorem wp_builtin {x : Str} {pos : Pos} {b : Value} (hx : (x, b) ∈ stdBis) (hl : sc.names.lookup x = some .globalImplicit) (hd : (x == ("__debug__" : Str)) = false) :
    WpM X n sc c ρ M (eval (.Name x pos) (c.env sc)) (fun _ v => v = b) := .here fun A E s Q T _ q =>
  let ⟨h1, h2⟩ := T.st.ok.bi _ hx
  ldX_builtin T.st.fr T.st.ok.g h1 T.st.ok.b h2 (q b s.toks rfl) T.nm.fk hl hd

theorem bi_len : (Str.ofString "len", Value.builtin "len") ∈ stdBis := by simp [stdBis]
theorem bi_list : (Str.ofString "list", Value.type "list") ∈ stdBis := by simp [stdBis]
theorem bi_range : (Str.ofString "range", Value.type "range") ∈ stdBis := by simp [stdBis]
theorem nd_len : (Str.ofString "len" == ("__debug__" : Str)) = false := by decide +kernel
theorem nd_list : (Str.ofString "list" == ("__debug__" : Str)) = false := by decide +kernel
theorem nd_range : (Str.ofString "range" == ("__debug__" : Str)) = false := by decide +kernel
theorem Ev.len {p pos : Pos} {e : Expr} {xs : List D} (he : Ev X n sc ρ e (.list xs)) (hl : sc.names.lookup (Str.ofString "len") = some .globalImplicit)
    (h1 : ∀ env, starEach [e] env = (false, eval e env) :: starEach [] env) : Ev X n sc ρ (.Call (.Name (Str.ofString "len") p) [e] [] pos) (.int xs.length) := fun c M A E s Q T rm q => by
  refine Call_ (wp_builtin bi_len hl nd_len A E s _ T rm fun f h' tk M' i x' hf => ?_)
  subst hf
  refine callWith_builtin1 (args_cons (he c M' A E _ _ (T.ext x' i) rm fun v h2 tk2 M2 i2 x2 r => args_nil ?_) (h1 _)) (h1 _)
  cases r with
  | list ha r hc =>
    have hL : h2.IsList _ _ := ⟨_, i2 _ _ ha, rfl, _, rfl⟩
    have hc' : xs.length ≤ 1048576 := hc
    refine call_len_list (s := { s with heap := h2, toks := tk2 }) hL (by rw [List.size_toArray, r.length]; omega) ?_
    rw [List.size_toArray, r.length]
    exact q _ _ _ _ i2 (x'.trans x2) (.int _ _)

/-- a function of the text, called with data ds, gives d -/
def CallOk (X : Cx) (n : Nat) (f : Str) (ds : List D) (d : D) : Prop :=
  f ∈ X.fns.map (·.name) ∧ ∀ (A : Around) (E : Value → Shared → Prop) (s : Shared) (M : Led) (fa : Addr) (vs : List Value) (Q : Value → Shared → Prop), X.Ok s.heap → LedIn M s.heap → RpL M vs ds → Room A n → X.mg f = some (.ref fa) →
    (∀ v h' tk M', LedIn M' h' → Ext s.heap M h' M' → Rp M' v d → Q v { s with heap := h', toks := tk }) → wpAny (model X.prog X.w) A (call (.ref fa) vs) Q E s

theorem Ev.call {f : Str} {p pos : Pos} {e : Expr} {es : List Expr} {ds : List D} {d : D} (he : EvL X n sc ρ (e :: es) ds) (hc : CallOk X n f ds d) (hl : sc.names.lookup f = some .globalImplicit)
    (hd : (f == ("__debug__" : Str)) = false) (h1 : ∀ env, starEach (e :: es) env = (false, eval e env) :: starEach es env) : Ev X n sc ρ (.Call (.Name f p) (e :: es) [] pos) d := fun c M A E s Q T rm q => by
  obtain ⟨fd, hfd, rfl⟩ := List.mem_map.mp hc.1
  obtain ⟨fa, o, pm, code, doc, g1, g2, g3, g4⟩ := T.st.okh.fn fd hfd
  refine Call_ (ldX_global T.st.fr T.st.ok.g g1 ?_ T.nm.fk hl hd)
  refine callWith_def g3 (he c M pos A E s _ T rm fun vs h' tk M' i x r => ⟨x.keep _ _ g2, ?_⟩) (h1 _)
  exact hc.2 A E _ M' fa vs Q (T.ext x i).st.okh i r rm g1 fun v h2 tk2 M2 i2 x2 r2 => q _ _ _ _ i2 (x.trans x2) r2
end
end Mine

namespace Mine
open PySem PySem.Calls PyProof.Rows PySem.Spec

/-- how a block ends -/
inductive PF where
  | next
  | brk
  | cont
  | ret (d : D)

def FlowR (M : Led) : Flow → PF → Prop
  | .next, .next => True
  | .brk, .brk => True
  | .cont, .cont => True
  | .ret v, .ret d => Rp M v d
  | _, _ => False
theorem FlowR.mono {M M' : Led} (l : LedLe M M') : ∀ {f : Flow} {p : PF}, FlowR M f p → FlowR M' f p
  | .next, .next, _ => trivial
  | .brk, .brk, _ => trivial
  | .cont, .cont, _ => trivial
  | .ret v, .ret d, h => Rp.mono l h

abbrev Fc.at (c : Fc) (m : Str → Option Value) : Fc := { c with m := m }

/-- t, a tree of the frame's, ends as Φ says -/
def ExT (X : Cx) (n : Nat) (sc : Scope) (ρ : Rho) (t : Env → Sem Flow) (Φ : PF → Rho → Prop) : Prop :=
  ∀ (c : Fc) (M : Led) (A : Around) (E : Value → Shared → Prop) (s : Shared) (Q : Flow → Shared → Prop), At X sc c ρ M s.heap → Room A n →
    (∀ f fl ρ' m' h' tk M', At X sc (c.at m') ρ' M' h' → LedLe M M' → FlowR M' f fl → Φ fl ρ' → Q f { s with heap := h', toks := tk }) →
    wpAny (model X.prog X.w) A (t (c.env sc)) Q E s
abbrev ExS (X : Cx) (n : Nat) (sc : Scope) (ρ : Rho) (ss : List Stmt) (Φ : PF → Rho → Prop) : Prop := ExT X n sc ρ (execs ss) Φ
abbrev Ex1 (X : Cx) (n : Nat) (sc : Scope) (ρ : Rho) (st : Stmt) (Φ : PF → Rho → Prop) : Prop := ExT X n sc ρ (exec st) Φ

/-- behind a block: go on with rest -/
def Then (X : Cx) (n : Nat) (sc : Scope) (rest : List Stmt) (Φ : PF → Rho → Prop) : PF → Rho → Prop := fun fl ρ => match fl with
  | .next => ExS X n sc ρ rest Φ
  | fl => Φ fl ρ

section
variable {X : Cx} {n : Nat} {ρ ρ' : Rho} {sc : Scope} {Φ : PF → Rho → Prop} {rest : List Stmt}

theorem ExS.nil (h : Φ .next ρ) : ExS X n sc ρ [] Φ := fun c M A E s Q T rm q => wpAny_execs_nil (q _ .next ρ c.m s.heap s.toks M T (LedLe.refl M) trivial h)
theorem ExS.seq {st : Stmt} (h : Ex1 X n sc ρ st (Then X n sc rest Φ)) : ExS X n sc ρ (st :: rest) Φ := fun c M A E s Q T rm q => by
  refine wpAny_execs_cons (h c M A E s _ T rm fun f fl ρ1 m1 h1 tk1 M1 T1 l1 r1 p1 => ?_)
  cases fl with
  | next =>
    cases f <;> first | exact r1.elim | skip
    exact p1 (c.at m1) M1 A E _ Q T1 rm fun f fl ρ2 m2 h2 tk2 M2 T2 l2 r2 p2 => q f fl ρ2 m2 h2 tk2 M2 T2 (l1.trans l2) r2 p2
  | brk => cases f <;> first | exact r1.elim | exact q _ .brk ρ1 m1 h1 tk1 M1 T1 l1 r1 p1
  | cont => cases f <;> first | exact r1.elim | exact q _ .cont ρ1 m1 h1 tk1 M1 T1 l1 r1 p1
  | ret d => cases f <;> first | exact r1.elim | exact q _ (.ret d) ρ1 m1 h1 tk1 M1 T1 l1 r1 p1
theorem ExT.mono {t : Env → Sem Flow} {Ψ : PF → Rho → Prop} (h : ExT X n sc ρ t Ψ) (hm : ∀ fl ρ, Ψ fl ρ → Φ fl ρ) : ExT X n sc ρ t Φ := fun c M A E s Q T rm q =>
  h c M A E s Q T rm fun f fl ρ1 m1 h1 tk1 M1 T1 l1 r1 p1 => q f fl ρ1 m1 h1 tk1 M1 T1 l1 r1 (hm _ _ p1)
theorem ExT.sub {t : Env → Sem Flow} (s : ∀ q ∈ ρ', q ∈ ρ) (h : ExT X n sc ρ' t Φ) : ExT X n sc ρ t Φ := fun c M A E s' Q T rm q => h c M A E s' Q ⟨T.st, T.lo.sub s, ⟨T.nm.fk, fun q hq => T.nm.nm q (s q hq)⟩, T.ce.move (fun _ _ h => h) (LedLe.refl _) (fun _ _ _ h => h) (fun x d h => s _ h) T.ce.wc⟩ rm q

theorem Nm.store {x : Str} {b : B} (N : Nm sc ρ) (dr : Dr x ρ ρ') (hl : sc.names.lookup x = some b.kind) (hd : (x == ("__debug__" : Str)) = false) : Nm sc ((x, b) :: ρ') :=
  ⟨N.fk, fun q hq => (List.mem_cons.mp hq).elim (fun e => by rw [e]; exact ⟨hl, hd⟩) fun h => N.nm q (dr.sub q h)⟩
/-- a store into the frame -/
theorem At.store {c : Fc} {M : Led} {h h' : Heap} {x : Str} {v : Value} {d : D} (T : At X sc c ρ M h) (dr : Dr x ρ ρ') (hn : h'.Ns c.L (fun y => if y = x then some v else c.m y)) (hs : Heap.SameBut c.L h h') (r : Rp M v d) (hl : sc.names.lookup x = some .local) (hd : (x == ("__debug__" : Str)) = false) :
    At X sc (c.at fun y => if y = x then some v else c.m y) ((x, .val d) :: ρ') M h' where
  st := ⟨T.st.ok, T.st.fr.set hn hs, fun a o e => (hs.2 a (fun e' => by rw [e', T.st.ml] at e; cases e)).trans (T.st.inh a o e), T.st.ml, T.st.m0, T.st.mf, fun q hq => ⟨(hs.2 _ (T.st.wd q hq).2.1).trans (T.st.wd q hq).1, (T.st.wd q hq).2⟩⟩
  lo := by
    refine ⟨fun y d' hy => ?_, fun y ds hy => ?_, fun y z ds es a hy hz ey ez => ?_⟩
    · rcases List.mem_cons.mp hy with hy | hy
      · cases hy; exact ⟨v, by simp, r⟩
      · have := dr.not _ hy
        obtain ⟨w, e, rw'⟩ := T.lo.vals y d' (dr.sub _ hy)
        exact ⟨w, by simpa [this] using e, rw'⟩
    · rcases List.mem_cons.mp hy with hy | hy
      · cases hy
      · have := dr.not _ hy
        obtain ⟨a, e, vs, k, g, q⟩ := T.lo.owns y ds (dr.sub _ hy)
        exact ⟨a, by simpa [this] using e, vs, k, (hs.2 a q.2.2.2.1).trans g, q⟩
    · rcases List.mem_cons.mp hy with hy | hy
      · cases hy
      · rcases List.mem_cons.mp hz with hz | hz
        · cases hz
        · have h1 := dr.not _ hy
          have h2 := dr.not _ hz
          exact T.lo.dist y z ds es a (dr.sub _ hy) (dr.sub _ hz) (by simpa [h1] using ey) (by simpa [h2] using ez)
  nm := T.nm.store dr hl hd
  ce := T.ce.move (cell_sameN hs T.st.fr.ns) (LedLe.refl _) (fun _ _ _ h => h) (cel_drop dr.sub fun _ h => nomatch h) T.ce.wc
theorem At.storeN {c : Fc} {M M' : Led} {h h' h'' : Heap} {x : Str} {a : Addr} {vs : List Value} {k : Nat} {ds : List D} (T : At X sc c ρ M h) (xt : Ext h M h' M') (i : LedIn M' h') (dr : Dr x ρ ρ') (hn : h''.Ns c.L (fun y => if y = x then some (.ref a) else c.m y)) (hs : Heap.SameBut c.L h' h'')
    (g : h'.get? a = some (listO vs k)) (r : RpL M' vs ds) (hc : ds.length ≤ cap) (hM : M' a = none) (hf : h.get? a = none) (hl : sc.names.lookup x = some .local) (hd : (x == ("__debug__" : Str)) = false) : At X sc (c.at fun y => if y = x then some (.ref a) else c.m y) ((x, .own ds) :: ρ') M' h'' where
  st := by
    have T' := (T.ext xt i).st
    exact ⟨T'.ok, T'.fr.set hn hs, fun a o e => (hs.2 a (fun e' => by rw [e', T'.ml] at e; cases e)).trans (T'.inh a o e), T'.ml, T'.m0, T'.mf, fun q hq => ⟨(hs.2 _ (T'.wd q hq).2.1).trans (T'.wd q hq).1, (T'.wd q hq).2⟩⟩
  lo := by
    have T' := T.ext xt i
    have aL : a ≠ c.L := by
      obtain ⟨o, _, _, e, _⟩ := T.st.fr.ns
      intro e'; rw [e', e] at hf; cases hf
    refine ⟨fun y d' hy => ?_, fun y es hy => ?_, fun y z es es' b hy hz ey ez => ?_⟩
    · rcases List.mem_cons.mp hy with hy | hy
      · cases hy
      · have := dr.not _ hy
        obtain ⟨w, e, rw'⟩ := T'.lo.vals y d' (dr.sub _ hy)
        exact ⟨w, by simpa [this] using e, rw'⟩
    · rcases List.mem_cons.mp hy with hy | hy
      · cases hy
        refine ⟨a, by simp, vs, k, (hs.2 a aL).trans g, r, hc, hM, aL, ?_, fun q hq e' => ?_⟩
        · cases e : c.h₀.get? a with
          | none => rfl
          | some o => rw [T.st.fr.keep _ _ e] at hf; cases hf
        · have := (T.st.wd q hq).1
          rw [e', hf] at this; cases this
      · have := dr.not _ hy
        obtain ⟨b, e, vs', k', g', q⟩ := T'.lo.owns y es (dr.sub _ hy)
        exact ⟨b, by simpa [this] using e, vs', k', (hs.2 b q.2.2.2.1).trans g', q⟩
    · have old : ∀ y es b, (y, B.own es) ∈ ρ' → (if y = x then some (Value.ref a) else c.m y) = some (.ref b) → b ≠ a := by
        intro y es b hy ey e
        have := dr.not _ hy
        rw [if_neg this] at ey
        obtain ⟨b', e', vs', k', g', q⟩ := T.lo.owns y es (dr.sub _ hy)
        rw [ey] at e'; cases e'
        rw [e, hf] at g'; cases g'
      rcases List.mem_cons.mp hy with hy | hy
      · cases hy
        rcases List.mem_cons.mp hz with hz | hz
        · cases hz; rfl
        · simp at ey; exact absurd ey.symm (old z es' b hz ez)
      · rcases List.mem_cons.mp hz with hz | hz
        · cases hz; simp at ez; exact absurd ez.symm (old y es b hy ey)
        · have h1 := dr.not _ hy
          have h2 := dr.not _ hz
          exact T.lo.dist y z es es' b (dr.sub _ hy) (dr.sub _ hz) (by simpa [h1] using ey) (by simpa [h2] using ez)
  nm := T.nm.store dr hl hd
  ce := (T.ce.ext xt).move (cell_sameN hs (T.ext xt i).st.fr.ns) (LedLe.refl _) (fun _ _ _ h => h) (cel_drop dr.sub fun _ h => nomatch h) T.ce.wc

abbrev fnScope (sc : Scope) : Prop := sc.kind = .function
theorem storeOk {sc : Scope} (hk : sc.kind = .function) {c : Fc} : ((c.env sc).scope.kind == .class || ((c.env sc).scope.kind == .module && (c.env sc).locals != (c.env sc).globals)) = false := by
  show (sc.kind == .class || (sc.kind == .module && c.L != mainGlobals)) = false
  rw [hk]; rfl

theorem ExS.assign {x : Str} {p pos : Pos} {e : Expr} {d : D} (he : Ev X n sc ρ e d) (dr : Drop x ρ ρ') (h : ExS X n sc ((x, .val d) :: ρ') rest Φ) (hl : sc.names.lookup x = some .local) (hd : (x == ("__debug__" : Str)) = false)
    (hs : ∀ env, swapsWith e (some (.Name x p)) pos.line env = pure false) : ExS X n sc ρ (.Assign [.Name x p] e pos :: rest) Φ := .seq fun c M A E s Q T rm q =>
  wpAny_Assign_Name (he c M A E s _ T rm fun v h1 tk1 M1 i1 x1 r1 => wpAny_storeName_local hl (T.ext x1 i1).st.fr.ns (fun h2 hn hb => q .next .next _ _ h2 _ M1 ((T.ext x1 i1).store dr.dr hn hb r1 hl hd) x1.le trivial h) (storeOk T.nm.fk)) (hs _)

/-- an expression that makes a new list, kept by nobody -/
def EvN (X : Cx) (n : Nat) (sc : Scope) (ρ : Rho) (e : Expr) (ds : List D) : Prop :=
  ∀ (c : Fc) (M : Led) (A : Around) (E : Value → Shared → Prop) (s : Shared) (Q : Value → Shared → Prop), At X sc c ρ M s.heap → Room A n →
    (∀ a vs k h' tk M', LedIn M' h' → Ext s.heap M h' M' → h'.get? a = some (listO vs k) → RpL M' vs ds → ds.length ≤ cap → M' a = none → s.heap.get? a = none → Q (.ref a) { s with heap := h', toks := tk }) →
    wpAny (model X.prog X.w) A (eval e (c.env sc)) Q E s
theorem EvN.ev {e : Expr} {ds : List D} (h : EvN X n sc ρ e ds) : Ev X n sc ρ e (.list ds) := fun c M A E s Q T rm q => h c M A E s Q T rm fun a vs k h' tk M' i x g r hc hM hf => by
  refine q (.ref a) h' tk (M'.put a (listO vs k)) (fun b o e => ?_) ⟨x.keep, x.le.trans (Led.put_le hM), fun b o gb e => ?_⟩ (.list (Led.put_self ..) (r.mono (Led.put_le hM)) hc)
  · unfold Led.put at e
    by_cases hb : b = a
    · rw [if_pos hb] at e; cases e; rw [hb]; exact g
    · rw [if_neg hb] at e; exact i b o e
  · unfold Led.put
    rw [if_neg (fun e' => by rw [e', hf] at gb; cases gb)]
    exact x.new b o gb e
theorem EvN.disp {es : List Expr} {ds : List D} {pos : Pos} (h : EvL X n sc ρ es ds) (hc : ds.length ≤ cap) : EvN X n sc ρ (.List es pos) ds := fun c M A E s Q T rm q =>
  List_ (h c M pos A E s _ T rm fun vs h' tk M' i x r => by
    refine wpAny_newObj_type (s := { s with heap := h', toks := tk }) ?_ (by show vs.toArray.size ≤ sizeLine; rw [List.size_toArray, r.length]; exact Nat.le_trans hc capLine)
    refine q _ vs 0 _ tk M' (i.keeps (Keeps.push _ _)) (x.trans (Ext.push _)) (Heap.get?_push_size _ rfl) r hc i.size_none ?_
    cases e : s.heap.get? h'.objs.size with
    | none => rfl
    | some o => exact absurd rfl (ne_size (x.keep _ _ e)))
theorem ExS.assignN {x : Str} {p pos : Pos} {e : Expr} {ds : List D} (he : EvN X n sc ρ e ds) (dr : Drop x ρ ρ') (h : ExS X n sc ((x, .own ds) :: ρ') rest Φ) (hl : sc.names.lookup x = some .local) (hd : (x == ("__debug__" : Str)) = false)
    (hs : ∀ env, swapsWith e (some (.Name x p)) pos.line env = pure false) : ExS X n sc ρ (.Assign [.Name x p] e pos :: rest) Φ := .seq fun c M A E s Q T rm q =>
  wpAny_Assign_Name (he c M A E s _ T rm fun a vs k h1 tk1 M1 i1 x1 g r hc hM hf => wpAny_storeName_local hl (T.ext x1 i1).st.fr.ns (fun h2 hn hb => q .next .next _ _ h2 _ M1 (T.storeN x1 i1 dr.dr hn hb g r hc hM hf hl hd) x1.le trivial h) (storeOk T.nm.fk)) (hs _)

/-- from now on the list of x does not change -/
theorem ExS.freeze {x : Str} {ds : List D} (hx : (x, B.own ds) ∈ ρ) (dr : Drop x ρ ρ') (h : ExS X n sc ((x, .val (.list ds)) :: ρ') rest Φ) : ExS X n sc ρ rest Φ := fun c M A E s Q T rm q => by
  obtain ⟨a, ex, vs, k, g, r, hc, hM, aL, a0, aW⟩ := T.lo.owns x ds hx
  refine h c (M.put a (listO vs k)) A E s Q ?_ rm fun f fl ρ2 m2 h2 tk2 M2 T2 l2 r2 p2 => q f fl ρ2 m2 h2 tk2 M2 T2 ((Led.put_le hM).trans l2) r2 p2
  refine ⟨⟨T.st.ok, T.st.fr, fun b o e => ?_, ?_, T.st.m0.trans (Led.put_le hM), fun b o l e => ?_, fun q hq => ⟨(T.st.wd q hq).1, (T.st.wd q hq).2.1, by unfold Led.put; rw [if_neg (aW q hq)]; exact (T.st.wd q hq).2.2⟩⟩, ⟨fun y d hy => ?_, fun y es hy => ?_, fun y z es es' b hy hz ey ez => ?_⟩, T.nm.store dr.dr (T.nm.nm _ hx).1 (T.nm.nm _ hx).2, T.ce.move (fun _ _ h => h) (Led.put_le hM) (fun b v hb hMb => ?_) (cel_drop dr.dr.sub fun _ h => nomatch h) T.ce.wc⟩
  · unfold Led.put at e
    by_cases hb : b = a
    · rw [if_pos hb] at e; cases e; rw [hb]; exact g
    · rw [if_neg hb] at e; exact T.st.inh b o e
  · unfold Led.put; rw [if_neg (Ne.symm aL)]; exact T.st.ml
  · unfold Led.put; rw [if_neg (fun e' => by rw [e', a0] at l; cases l)]; exact T.st.mf b o l e
  · rcases List.mem_cons.mp hy with hy | hy
    · cases hy; exact ⟨.ref a, ex, .list (Led.put_self ..) (r.mono (Led.put_le hM)) hc⟩
    · obtain ⟨w, e, rw'⟩ := T.lo.vals y d (dr.sub _ hy)
      exact ⟨w, e, rw'.mono (Led.put_le hM)⟩
  · rcases List.mem_cons.mp hy with hy | hy
    · cases hy
    · obtain ⟨b, e, vs', k', g', r', hc', hM', q⟩ := T.lo.owns y es (dr.sub _ hy)
      refine ⟨b, e, vs', k', g', r'.mono (Led.put_le hM), hc', ?_, q⟩
      unfold Led.put
      rw [if_neg (fun e' : b = a => dr.not _ hy (T.lo.dist y x es ds a (dr.sub _ hy) hx (by rw [← e']; exact e) ex))]; exact hM'
  · rcases List.mem_cons.mp hy with hy | hy
    · cases hy
    · rcases List.mem_cons.mp hz with hz | hz
      · cases hz
      · exact T.lo.dist y z es es' b (dr.sub _ hy) (dr.sub _ hz) ey ez
  · unfold Led.put
    rw [if_neg (fun e' => ?_)]
    · exact hMb
    · obtain ⟨o, ho, hd⟩ := hb
      rw [e', g] at ho; cases ho; cases hd

theorem ExS.iff {test : Expr} {body orelse : List Stmt} {pos : Pos} {b : Bool} (ht : Tr X n sc ρ test b) (h1 : b = true → ExS X n sc ρ body (Then X n sc rest Φ)) (h0 : b = false → ExS X n sc ρ orelse (Then X n sc rest Φ)) :
    ExS X n sc ρ (.If test body orelse pos :: rest) Φ := .seq fun c M A E s Q T rm q => wpAny_If (ht c M A E s _ T rm fun v h1' tk1 M1 i1 x1 r1 => by
      subst r1
      cases v with
      | true => exact h1 rfl c M1 A E _ Q (T.ext x1 i1) rm fun f fl ρ2 m2 h2 tk2 M2 T2 l2 r2 p2 => q f fl ρ2 m2 h2 tk2 M2 T2 (x1.le.trans l2) r2 p2
      | false => exact h0 rfl c M1 A E _ Q (T.ext x1 i1) rm fun f fl ρ2 m2 h2 tk2 M2 T2 l2 r2 p2 => q f fl ρ2 m2 h2 tk2 M2 T2 (x1.le.trans l2) r2 p2)
theorem ExS.ret {e : Expr} {pos : Pos} {d : D} (he : Ev X n sc ρ e d) (h : Φ (.ret d) ρ) : ExS X n sc ρ (.Return (some e) pos :: rest) Φ := .seq fun c M A E s Q T rm q =>
  wpAny_Return_some (he c M A E s _ T rm fun v h1 tk1 M1 i1 x1 r1 => q (.ret v) (.ret d) ρ c.m h1 tk1 M1 (T.ext x1 i1) x1.le r1 h)
theorem ExS.brk {pos : Pos} (h : Φ .brk ρ) : ExS X n sc ρ (.Break pos :: rest) Φ := .seq fun c M A E s Q T rm q =>
  wpAny_Break (q .brk .brk ρ c.m s.heap s.toks M T (LedLe.refl M) trivial h)
end
end Mine

namespace Mine
open PySem PySem.Calls PyProof.Rows PySem.Spec

abbrev Fc.ward (c : Fc) (q : Addr × Obj) : Fc := { c with W := q :: c.W }

section
variable {X : Cx} {n : Nat} {c : Fc} {ρ ρ' : Rho} {M : Led} {sc : Scope} {h h' : Heap}

/-- a new object, watched over -/
theorem At.watch (T : At X sc c ρ M h) {o : Obj} (hf : o.isFreed = false) (hnc : ∀ v, o.data ≠ .cell v := by intro v h; cases h) : At X sc (c.ward (h.objs.size, o)) ρ M (h.push o) where
  st := by
    have T' := (T.ext (Ext.push o) (T.st.inh.keeps (Keeps.push h o))).st
    refine ⟨T'.ok, T'.fr, T'.inh, T'.ml, T'.m0, T'.mf, fun q hq => ?_⟩
    rcases List.mem_cons.mp hq with rfl | hq
    · exact ⟨Heap.get?_push_size _ hf, (let ⟨_, _, _, e, _⟩ := T.st.fr.ns; (ne_size e).symm), T.st.inh.size_none⟩
    · exact T'.wd q hq
  lo := by
    have T' := (T.ext (Ext.push o) (T.st.inh.keeps (Keeps.push h o))).lo
    refine ⟨T'.vals, fun x ds hx => ?_, T'.dist⟩
    obtain ⟨a, e, vs, k, g, r, hc, hM, aL, a0, aW⟩ := T.lo.owns x ds hx
    refine ⟨a, e, vs, k, Heap.get?_push_of_some _ g, r, hc, hM, aL, a0, fun q hq => ?_⟩
    rcases List.mem_cons.mp hq with rfl | hq
    · exact (ne_size g).symm
    · exact aW q hq
  nm := T.nm
  ce := T.ce.move (fun a v e => e.keeps (Keeps.push h o)) (LedLe.refl _) (fun _ _ _ h => h) (fun _ _ h => h) fun q hq => by
    rcases List.mem_cons.mp hq with rfl | hq
    · exact hnc
    · exact T.ce.wc q hq
/-- the watched object turns -/
theorem At.turn {I : Addr} {o o' : Obj} (T : At X sc (c.ward (I, o)) ρ M h) (hW : ∀ q ∈ c.W, q.1 ≠ I) (h0 : c.h₀.get? I = none) (hs : Heap.SameBut I h h') (g : h'.get? I = some o') (hnc : ∀ v, o'.data ≠ .cell v := by intro v h; cases h) : At X sc (c.ward (I, o')) ρ M h' where
  st := by
    have w := T.st.wd (I, o) List.mem_cons_self
    refine ⟨T.st.ok, ⟨T.st.fr.ns.sameBut hs (Ne.symm w.2.1), fun b o e => (hs.2 b (fun e' => by rw [e', h0] at e; cases e)).trans (T.st.fr.keep b o e), T.st.fr.above⟩, fun a o e => (hs.2 a (fun e' => by rw [e', w.2.2] at e; cases e)).trans (T.st.inh a o e), T.st.ml, T.st.m0, T.st.mf, fun q hq => ?_⟩
    rcases List.mem_cons.mp hq with rfl | hq
    · exact ⟨g, w.2⟩
    · have := T.st.wd q (List.mem_cons_of_mem _ hq)
      exact ⟨(hs.2 _ (hW q hq)).trans this.1, this.2⟩
  lo := by
    refine ⟨T.lo.vals, fun x ds hx => ?_, T.lo.dist⟩
    obtain ⟨a, e, vs, k, g', r, hc, hM, aL, a0, aW⟩ := T.lo.owns x ds hx
    have ne : I ≠ a := aW (I, o) List.mem_cons_self
    refine ⟨a, e, vs, k, (hs.2 a (Ne.symm ne)).trans g', r, hc, hM, aL, a0, fun q hq => ?_⟩
    rcases List.mem_cons.mp hq with rfl | hq
    · exact ne
    · exact aW q (List.mem_cons_of_mem _ hq)
  nm := T.nm
  ce := T.ce.move (cell_same hs (T.st.wd (I, o) List.mem_cons_self).1 (T.ce.wc (I, o) List.mem_cons_self)) (LedLe.refl _) (fun _ _ _ h => h) (fun _ _ h => h) fun q hq => by
    rcases List.mem_cons.mp hq with rfl | hq
    · exact hnc
    · exact T.ce.wc q (List.mem_cons_of_mem _ hq)
/-- no more watched -/
theorem At.unwatch {q : Addr × Obj} (T : At X sc (c.ward q) ρ M h) : At X sc c ρ M h where
  st := ⟨T.st.ok, T.st.fr, T.st.inh, T.st.ml, T.st.m0, T.st.mf, fun p hp => T.st.wd p (List.mem_cons_of_mem _ hp)⟩
  lo := ⟨T.lo.vals, fun x ds hx => let ⟨a, e, vs, k, g, r, hc, hM, aL, a0, aW⟩ := T.lo.owns x ds hx; ⟨a, e, vs, k, g, r, hc, hM, aL, a0, fun p hp => aW p (List.mem_cons_of_mem _ hp)⟩, T.lo.dist⟩
  nm := T.nm
  ce := T.ce.move (fun _ _ h => h) (LedLe.refl _) (fun _ _ _ h => h) (fun _ _ h => h) fun q hq => T.ce.wc q (List.mem_cons_of_mem _ hq)
/-- the watched object is forgotten, all else stands -/
theorem At.leave {I : Addr} {o : Obj} (T : At X sc (c.ward (I, o)) ρ M h) (hW : ∀ q ∈ c.W, q.1 ≠ I) (h0 : c.h₀.get? I = none) (hs : Heap.ExtBut I h h') : At X sc c ρ M h' where
  st := by
    have w := T.st.wd (I, o) List.mem_cons_self
    refine ⟨T.st.ok, ⟨T.st.fr.ns.extBut hs (Ne.symm w.2.1), fun b o e => hs b o (fun e' => by rw [e', h0] at e; cases e) (T.st.fr.keep b o e), T.st.fr.above⟩, fun a o e => hs a o (fun e' => by rw [e', w.2.2] at e; cases e) (T.st.inh a o e), T.st.ml, T.st.m0, T.st.mf, fun q hq => ?_⟩
    have := T.st.wd q (List.mem_cons_of_mem _ hq)
    exact ⟨hs _ _ (hW q hq) this.1, this.2⟩
  lo := by
    refine ⟨T.lo.vals, fun x ds hx => ?_, T.lo.dist⟩
    obtain ⟨a, e, vs, k, g', r, hc, hM, aL, a0, aW⟩ := T.lo.owns x ds hx
    exact ⟨a, e, vs, k, hs a _ (Ne.symm (aW (I, o) List.mem_cons_self)) g', r, hc, hM, aL, a0, fun q hq => aW q (List.mem_cons_of_mem _ hq)⟩
  nm := T.nm
  ce := T.ce.move (cell_extBut hs (T.st.wd (I, o) List.mem_cons_self).1 (T.ce.wc (I, o) List.mem_cons_self)) (LedLe.refl _) (fun _ _ _ h => h) (fun _ _ h => h) fun q hq => T.ce.wc q (List.mem_cons_of_mem _ hq)

/-- list(e) -/
theorem EvN.listOf {p pos : Pos} {e : Expr} {xs : List D} (he : Ev X n sc ρ e (.list xs)) (hl : sc.names.lookup (Str.ofString "list") = some .globalImplicit)
    (h1 : ∀ env, starEach [e] env = (false, eval e env) :: starEach [] env) : EvN X n sc ρ (.Call (.Name (Str.ofString "list") p) [e] [] pos) xs := fun c M A E s Q T rm q => by
  refine Call_ (wp_builtin bi_list hl nd_list A E s _ T rm fun f h' tk M' i x' hf => ?_)
  subst hf
  refine PyProof.Rows.callWith_type1 (args_cons (he c M' A E _ _ (T.ext x' i) rm fun v h2 tk2 M2 i2 x2 r => args_nil ?_) (h1 _)) (h1 _)
  cases r with
  | list ha r hc =>
    refine call_list_seq (s := { s with heap := h2, toks := tk2 }) _ (.inl rfl) (i2 _ _ ha) rfl rfl (fun h3 k kp g => ?_) (by rw [List.size_toArray, r.length]; exact Nat.le_trans hc capLine)
    refine q _ _ k h3 tk2 M2 (i2.keeps kp) ((x'.trans x2).trans ⟨kp, LedLe.refl _, fun _ _ _ e => e⟩) g r hc i2.size_none ?_
    cases e : s.heap.get? h2.objs.size with
    | none => rfl
    | some o => exact absurd rfl (ne_size ((x'.trans x2).keep _ _ e))

/-- an expression that makes a range by ones -/
def EvR (X : Cx) (n : Nat) (sc : Scope) (ρ : Rho) (e : Expr) (lo hi : Int) : Prop :=
  ∀ (c : Fc) (M : Led) (A : Around) (E : Value → Shared → Prop) (s : Shared) (Q : Value → Shared → Prop), At X sc c ρ M s.heap → Room A n →
    (∀ r t u v h' tk M', LedIn M' h' → Ext s.heap M h' M' → IsRange h' r lo hi 1 t u v → Q (.ref r) { s with heap := h', toks := tk }) →
    wpAny (model X.prog X.w) A (eval e (c.env sc)) Q E s
theorem EvR.one {p pos : Pos} {e : Expr} {hi : Int} (he : Ev X n sc ρ e (.int hi)) (hl : sc.names.lookup (Str.ofString "range") = some .globalImplicit)
    (h1 : ∀ env, starEach [e] env = (false, eval e env) :: starEach [] env) : EvR X n sc ρ (.Call (.Name (Str.ofString "range") p) [e] [] pos) 0 hi := fun c M A E s Q T rm q => by
  refine Call_ (wp_builtin bi_range hl nd_range A E s _ T rm fun f h' tk M' i x' hf => ?_)
  subst hf
  refine PyProof.Rows.callWith_type1 (args_cons (he c M' A E _ _ (T.ext x' i) rm fun v h2 tk2 M2 i2 x2 r => args_nil ?_) (h1 _)) (h1 _)
  cases r
  refine call_range_1 (s := { s with heap := h2, toks := tk2 }) ?_
  exact q _ _ _ _ _ _ M2 (i2.keeps (Keeps.push _ _)) ((x'.trans x2).trans (Ext.push _)) (IsRange.new ..)
theorem EvR.two {p pos : Pos} {e e' : Expr} {lo hi : Int} (he : Ev X n sc ρ e (.int lo)) (he' : Ev X n sc ρ e' (.int hi)) (hl : sc.names.lookup (Str.ofString "range") = some .globalImplicit)
    (h1 : ∀ env, starEach [e, e'] env = (false, eval e env) :: starEach [e'] env) (h2 : ∀ env, starEach [e'] env = (false, eval e' env) :: starEach [] env) : EvR X n sc ρ (.Call (.Name (Str.ofString "range") p) [e, e'] [] pos) lo hi := fun c M A E s Q T rm q => by
  refine Call_ (wp_builtin bi_range hl nd_range A E s _ T rm fun f h' tk M' i x' hf => ?_)
  subst hf
  refine PyProof.Rows.callWith_type1 (EvL.cons he (EvL.cons he' EvL.nil h2) h1 c M' pos A E _ _ (T.ext x' i) rm fun vs h2 tk2 M2 i2 x2 r => ?_) (h1 _) (by rw [h2]; rfl)
  cases r with
  | cons r1 r =>
    cases r with
    | cons r2 r =>
      cases r; cases r1; cases r2
      refine call_range_2 (s := { s with heap := h2, toks := tk2 }) ?_
      exact q _ _ _ _ _ _ M2 (i2.keeps (Keeps.push _ _)) ((x'.trans x2).trans (Ext.push _)) (IsRange.new ..)

variable {Φ : PF → Rho → Prop} {rest : List Stmt}
/-- how a turn of a loop ends -/
def Turn (X : Cx) (n : Nat) (sc : Scope) (rest : List Stmt) (Φ : PF → Rho → Prop) (I : Rho → Prop) : PF → Rho → Prop := fun fl ρ => match fl with
  | .next => I ρ
  | .cont => I ρ
  | .brk => ExS X n sc ρ rest Φ
  | .ret d => Φ (.ret d) ρ

abbrev rangeIt (a b c : Int) : Obj := { cls := .type "range_iterator", data := .fields #[rawInt a, rawInt b, rawInt c] }
theorem rangeIt_is {h : Heap} {I : Addr} {a b c : Int} : IsRangeIter h I a b c ↔ h.get? I = some (rangeIt a b c) := Iff.rfl

theorem ExS.forRange {x : Str} {px pos : Pos} {iter : Expr} {body : List Stmt} {lo hi : Int} (I : Nat → Rho → Prop) (hi' : EvR X n sc ρ iter lo hi) (hlo : -(2 ^ 62) ≤ lo) (hlo' : lo < 2 ^ 62) (hhi : -(2 ^ 62) ≤ hi) (hhi' : hi < 2 ^ 62)
    (h0 : I 0 ρ)
    (turn : ∀ i ρ1, i < (hi - lo).toNat → I i ρ1 → ∃ ρ2, Dr x ρ1 ρ2 ∧ ExS X n sc ((x, .val (.int (lo + i))) :: ρ2) body (Turn X n sc rest Φ (I (i + 1))))
    (done : ∀ ρ1, I (hi - lo).toNat ρ1 → ExS X n sc ρ1 rest Φ)
    (hl : sc.names.lookup x = some .local) (hd : (x == ("__debug__" : Str)) = false) (hs : ∀ env v, foldedSetIterable iter env v = pure v) :
    ExS X n sc ρ (.For (.Name x px) iter body [] pos :: rest) Φ := .seq fun c M A E s Q T rm q => by
  refine wpAny_For (hi' c M A E s _ T rm fun r t u v h1 tk1 M1 i1 x1 hr => ?_) (hs _)
  have T1 := T.ext x1 i1
  refine wpAny_pyIter_range (s := { s with heap := h1, toks := tk1 }) hr (small_one hlo hlo' hhi hhi') ?_
  have hN : Builtin.Range.rangeSize lo hi 1 = (((hi - lo).toNat : Nat) : Int) := by rw [rangeSize_one]; split <;> omega
  rw [hN]
  generalize hNN : (hi - lo).toNat = N at *
  have hW : ∀ q ∈ c.W, q.1 ≠ h1.objs.size := fun q hq => ne_size (T1.st.wd q hq).1
  have h00 : c.h₀.get? h1.objs.size = none := by
    cases e : c.h₀.get? h1.objs.size with
    | none => rfl
    | some o => exact absurd rfl (ne_size (T1.st.fr.keep _ _ e))
  refine codeAny_forLoop (fun k s' => ∃ i m' ρ' M' h' tk, s' = { s with heap := h', toks := tk } ∧ At X sc ((c.at m').ward (h1.objs.size, rangeIt (lo + (i : Nat)) ((N : Int) - (i : Nat)) 1)) ρ' M' h' ∧ LedLe M M' ∧ I i ρ' ∧ i ≤ N ∧ k = N + 1 - i) ?_ (N + 1)
    ⟨0, c.m, ρ, M1, _, tk1, rfl, by simpa using T1.watch (o := rangeIt lo N 1) rfl, x1.le, h0, Nat.zero_le _, rfl⟩
  rintro k s' ⟨i, m', ρ', M', h', tk, rfl, T', l', hI, hiN, rfl⟩
  have hit := (T'.st.wd _ List.mem_cons_self).1
  by_cases hlt : i < N
  · refine wpAny_pyNext_range_item (s := { s with heap := h', toks := tk }) (rangeIt_is.mpr hit) (by omega) fun h2 hit2 hs2 => ?_
    have T2 := T'.turn hW h00 hs2 (rangeIt_is.mp hit2)
    refine wpAny_assign_Name (wpAny_storeName_local hl T2.st.fr.ns (fun h3 hn hb => ?_) (storeOk T.nm.fk))
    obtain ⟨ρ2, dr, ex⟩ := turn i ρ' hlt hI
    have T3 := T2.store dr hn hb (.int _ _) hl hd
    refine ex (Fc.at (Fc.ward (c.at m') _) _) M' A _ _ _ T3 rm fun f fl ρ4 m4 h4 tk4 M4 T4 l4 r4 p4 => ?_
    have e1 : lo + ((i + 1 : Nat) : Int) = lo + (i : Int) + 1 := by push_cast; omega
    have e2 : (N : Int) - ((i + 1 : Nat) : Int) = (N : Int) - (i : Int) - 1 := by push_cast; omega
    have goon : I (i + 1) ρ4 → ∃ m, m < N + 1 - i ∧ ∃ i m' ρ' M' h' tk, ({ s with heap := h4, toks := tk4 } : Shared) = { s with heap := h', toks := tk } ∧ At X sc ((c.at m').ward (h1.objs.size, rangeIt (lo + (i : Nat)) ((N : Int) - (i : Nat)) 1)) ρ' M' h' ∧ LedLe M M' ∧ I i ρ' ∧ i ≤ N ∧ m = N + 1 - i :=
      fun p => ⟨N + 1 - (i + 1), by omega, i + 1, m4, ρ4, M4, h4, tk4, rfl, by rw [e1, e2]; exact T4, l'.trans l4, p, hlt, rfl⟩
    cases fl with
    | next => cases f <;> first | exact r4.elim | exact goon p4
    | cont => cases f <;> first | exact r4.elim | exact goon p4
    | brk =>
      cases f <;> first | exact r4.elim | skip
      exact q .next .next ρ4 m4 h4 tk4 M4 T4.unwatch (l'.trans l4) trivial p4
    | ret d =>
      cases f <;> first | exact r4.elim | skip
      exact q (.ret _) (.ret d) ρ4 m4 h4 tk4 M4 T4.unwatch (l'.trans l4) r4 p4
  · have hin : i = N := by omega
    subst hin
    refine wpAny_pyNext_range_end (s := { s with heap := h', toks := tk }) rm.hh (rangeIt_is.mpr hit) (by omega) fun h2 he2 => wpAny_execs_nil ?_
    exact q .next .next ρ' m' h2 tk M' (T'.leave hW h00 he2) l' trivial (done _ hI)

theorem ExS.forList {x : Str} {px pos : Pos} {iter : Expr} {body : List Stmt} {ds : List D} (I : Nat → Rho → Prop) (hi' : Ev X n sc ρ iter (.list ds))
    (h0 : I 0 ρ)
    (turn : ∀ i d ρ1, ds[i]? = some d → I i ρ1 → ∃ ρ2, Dr x ρ1 ρ2 ∧ ExS X n sc ((x, .val d) :: ρ2) body (Turn X n sc rest Φ (I (i + 1))))
    (done : ∀ ρ1, I ds.length ρ1 → ExS X n sc ρ1 rest Φ)
    (hl : sc.names.lookup x = some .local) (hd : (x == ("__debug__" : Str)) = false) (hs : ∀ env v, foldedSetIterable iter env v = pure v) :
    ExS X n sc ρ (.For (.Name x px) iter body [] pos :: rest) Φ := .seq fun c M A E s Q T rm q => by
  refine wpAny_For (hi' c M A E s _ T rm fun v h1 tk1 M1 i1 x1 hr => ?_) (hs _)
  have T1 := T.ext x1 i1
  cases hr with
  | list ha r hc =>
  rename_i l vs kk
  have hL : ∀ M' h', LedLe M1 M' → LedIn M' h' → h'.IsList l vs.toArray := fun M' h' le i => ⟨_, i _ _ (le _ _ ha), rfl, kk, rfl⟩
  refine wpAny_pyIter_list (s := { s with heap := h1, toks := tk1 }) (hL M1 h1 (LedLe.refl _) i1) ?_
  have hW : ∀ q ∈ c.W, q.1 ≠ h1.objs.size := fun q hq => ne_size (T1.st.wd q hq).1
  have h00 : c.h₀.get? h1.objs.size = none := by
    cases e : c.h₀.get? h1.objs.size with
    | none => rfl
    | some o => exact absurd rfl (ne_size (T1.st.fr.keep _ _ e))
  refine codeAny_forLoop (fun k s' => ∃ i m' ρ' M' h' tk o, s' = { s with heap := h', toks := tk } ∧ At X sc ((c.at m').ward (h1.objs.size, o)) ρ' M' h' ∧ h'.IsListIter h1.objs.size l i ∧ LedLe M M' ∧ LedLe M1 M' ∧ I i ρ' ∧ i ≤ ds.length ∧ k = ds.length + 1 - i) ?_ (ds.length + 1)
    ⟨0, c.m, ρ, M1, _, tk1, _, rfl, T1.watch (o := { cls := .type "list_iterator", data := .fields #[.ref l, .int 0 0] }) rfl, ⟨_, Heap.get?_push_size _ rfl, rfl, rfl⟩, x1.le, LedLe.refl _, h0, Nat.zero_le _, rfl⟩
  rintro k s' ⟨i, m', ρ', M', h', tk, o, rfl, T', hit, l', l1, hI, hiN, rfl⟩
  by_cases hlt : i < ds.length
  · obtain ⟨v, hv, rv⟩ := r.get (List.getElem?_eq_getElem hlt)
    refine wpAny_pyNext_list_item (s := { s with heap := h', toks := tk }) hit (hL M' h' l1 T'.st.inh) (by simpa using hv) fun h2 hit2 hs2 => ?_
    obtain ⟨o2, g2, _, hd2⟩ := id hit2
    have T2 := T'.turn hW h00 hs2 g2 fun v q => by rw [hd2] at q; cases q
    refine wpAny_assign_Name (wpAny_storeName_local hl T2.st.fr.ns (fun h3 hn hb => ?_) (storeOk T.nm.fk))
    obtain ⟨ρ2, dr, ex⟩ := turn i ds[i] ρ' (List.getElem?_eq_getElem hlt) hI
    have T3 := T2.store dr hn hb (rv.mono l1) hl hd
    refine ex (Fc.at (Fc.ward (c.at m') _) _) M' A _ _ _ T3 rm fun f fl ρ4 m4 h4 tk4 M4 T4 l4 r4 p4 => ?_
    have goon : I (i + 1) ρ4 → ∃ m, m < ds.length + 1 - i ∧ ∃ i m' ρ' M' h' tk o, ({ s with heap := h4, toks := tk4 } : Shared) = { s with heap := h', toks := tk } ∧ At X sc ((c.at m').ward (h1.objs.size, o)) ρ' M' h' ∧ h'.IsListIter h1.objs.size l i ∧ LedLe M M' ∧ LedLe M1 M' ∧ I i ρ' ∧ i ≤ ds.length ∧ m = ds.length + 1 - i :=
      fun p => ⟨ds.length + 1 - (i + 1), by omega, i + 1, m4, ρ4, M4, h4, tk4, o2, rfl, T4, by
        obtain ⟨o3, g3, q3⟩ := hit2
        rw [g2] at g3; cases g3
        exact ⟨o2, (T4.st.wd _ List.mem_cons_self).1, q3⟩, l'.trans l4, l1.trans l4, p, hlt, rfl⟩
    cases fl with
    | next => cases f <;> first | exact r4.elim | exact goon p4
    | cont => cases f <;> first | exact r4.elim | exact goon p4
    | brk =>
      cases f <;> first | exact r4.elim | skip
      exact q .next .next ρ4 m4 h4 tk4 M4 T4.unwatch (l'.trans l4) trivial p4
    | ret d =>
      cases f <;> first | exact r4.elim | skip
      exact q (.ret _) (.ret d) ρ4 m4 h4 tk4 M4 T4.unwatch (l'.trans l4) r4 p4
  · have hin : i = ds.length := by omega
    subst hin
    refine wpAny_pyNext_list_end (s := { s with heap := h', toks := tk }) rm.hh hit (hL M' h' l1 T'.st.inh) (by rw [List.getElem?_toArray]; exact List.getElem?_eq_none (by rw [r.length]; exact Nat.le_refl _)) fun h2 he2 => wpAny_execs_nil ?_
    exact q .next .next ρ' m' h2 tk M' (T'.leave hW h00 he2) l' trivial (done _ hI)
end
end Mine

namespace Mine
open PySem PySem.Calls PyProof.Rows PySem.Spec

section
variable {X : Cx} {n : Nat} {ρ ρ' : Rho} {sc : Scope} {Φ : PF → Rho → Prop} {rest : List Stmt}

/-! tests -/
/-- the truth of a datum -/
def truth : D → Option Bool
  | .bool b => some b
  | .none => some false
  | .int i => some (i != 0)
  | _ => none
theorem truth_wp {c : Fc} {M : Led} {v : Value} {d : D} {b : Bool} (r : Rp M v d) (h : truth d = some b) : WpM X n sc c ρ M (truthy v) (fun _ x => x = b) := .here fun A E s Q T rm q => by
  cases r <;> simp only [truth, Option.some.injEq, reduceCtorEq] at h
  · exact fun _ _ _ => q _ s.toks h
  · exact wpAny_truthy_bool (q _ s.toks h)
  · exact P.truthy_int (q _ s.toks h)
theorem Tr.val {e : Expr} {d : D} {b : Bool} (he : Ev X n sc ρ e d) (h : truth d = some b) (hs : ∀ env whole, isTrue e env whole = (do let v ← whole; standAt e.pos; holding [v] (truthy v))) : Tr X n sc ρ e b := fun c M A E s Q T rm q => by
  rw [hs]
  exact wpAny_bind (he c M A E s _ T rm fun v h' tk M' i x r => wpAny_bind (wpAny_standAt (wpAny_holding (truth_wp r h A E _ _ (T.ext x i) rm fun v2 h2 tk2 M2 i2 x2 r2 => q _ _ _ _ i2 (x.trans x2) r2))))
theorem Tr.not {e : Expr} {pos : Pos} {b : Bool} (he : Tr X n sc ρ e b) : Tr X n sc ρ (.UnaryOp .Not e pos) (!b) := fun c M A E s Q T rm q =>
  wpAny_isTrue_Not (he c M A E s _ T rm fun v h' tk M' i x r => q _ _ _ _ i x (by rw [r]))
theorem Tr.and2 {e e' : Expr} {pos : Pos} {b b' : Bool} (he : Tr X n sc ρ e b) (he' : b = true → Tr X n sc ρ e' b') : Tr X n sc ρ (.BoolOp .And [e, e'] pos) (b && b') := fun c M A E s Q T rm q => by
  refine wpAny_isTrue_BoolOp (wpAny_allTrue_And_cons (he c M A E s _ T rm fun v h' tk M' i x r => ?_))
  subst r
  cases v with
  | false => exact q _ _ _ _ i x rfl
  | true => exact wpAny_allTrue_And_cons (he' rfl c M' A E _ _ (T.ext x i) rm fun v2 h2 tk2 M2 i2 x2 r2 => by
      subst r2
      cases v2 with
      | false => exact q _ _ _ _ i2 (x.trans x2) rfl
      | true => exact wpAny_allTrue_And_nil (q _ _ _ _ i2 (x.trans x2) rfl))
theorem Tr.or2 {e e' : Expr} {pos : Pos} {b b' : Bool} (he : Tr X n sc ρ e b) (he' : b = false → Tr X n sc ρ e' b') : Tr X n sc ρ (.BoolOp .Or [e, e'] pos) (b || b') := fun c M A E s Q T rm q => by
  refine wpAny_isTrue_BoolOp (wpAny_allTrue_Or_cons (he c M A E s _ T rm fun v h' tk M' i x r => ?_))
  subst r
  cases v with
  | true => exact q _ _ _ _ i x rfl
  | false => exact wpAny_allTrue_Or_cons (he' rfl c M' A E _ _ (T.ext x i) rm fun v2 h2 tk2 M2 i2 x2 r2 => by
      subst r2
      cases v2 with
      | true => exact q _ _ _ _ i2 (x.trans x2) rfl
      | false => exact wpAny_allTrue_Or_nil (q _ _ _ _ i2 (x.trans x2) rfl))
/-- a and b, as a value; both bools -/
theorem Ev.and2 {e e' : Expr} {pos : Pos} {b b' : Bool} (he : Ev X n sc ρ e (.bool b)) (he' : b = true → Ev X n sc ρ e' (.bool b')) : Ev X n sc ρ (.BoolOp .And [e, e'] pos) (.bool (b && b')) := fun c M A E s Q T rm q => by
  refine wpAny_And2 (he c M A E s _ T rm fun v h' tk M' i x r => ?_)
  cases r
  refine wpAny_truthy_bool ?_
  cases b with
  | false => exact q _ _ _ _ i x (.bool _)
  | true => exact he' rfl c M' A E _ _ (T.ext x i) rm fun v2 h2 tk2 M2 i2 x2 r2 => q _ _ _ _ i2 (x.trans x2) r2
theorem boolOp_and {pos : Pos} {x : Sem Value} {y : Sem Value} {r : List (Sem Value)} {M : Model} {A : Around} {E : Value → Shared → Prop} {s : Shared} {Q : Value → Shared → Prop}
    (h : wpAny M A x (fun v s₁ => wpAny M A (truthy v) (fun t s₂ => if t then wpAny M A (boolOp pos .And (y :: r)) Q E s₂ else Q v s₂) E s₁) E s) : wpAny M A (boolOp pos .And (x :: y :: r)) Q E s := by
  unfold boolOp
  refine wpAny_bind (wpAny_mono h (fun v s₁ h₁ => wpAny_bind (wpAny_standAt (wpAny_bind (wpAny_holding (wpAny_mono h₁ (fun t s₂ h₂ => ?_) fun _ _ x => x))))) fun _ _ x => x)
  cases t with
  | false => exact wpAny_pure h₂
  | true => exact h₂
theorem Ev.and3 {e e' e'' : Expr} {pos : Pos} {b b' b'' : Bool} (he : Ev X n sc ρ e (.bool b)) (he' : b = true → Ev X n sc ρ e' (.bool b')) (he'' : b = true → b' = true → Ev X n sc ρ e'' (.bool b'')) : Ev X n sc ρ (.BoolOp .And [e, e', e''] pos) (.bool (b && b' && b'')) := fun c M A E s Q T rm q => by
  show wpAny _ _ (boolOp pos .And [eval e (c.env sc), eval e' (c.env sc), eval e'' (c.env sc)]) _ _ _
  refine boolOp_and (he c M A E s _ T rm fun v h' tk M' i x r => ?_)
  cases r
  refine wpAny_truthy_bool ?_
  cases b with
  | false => exact q _ _ _ _ i x (.bool _)
  | true =>
    refine boolOp_and (he' rfl c M' A E _ _ (T.ext x i) rm fun v2 h2 tk2 M2 i2 x2 r2 => ?_)
    cases r2
    refine wpAny_truthy_bool ?_
    cases b' with
    | false => exact q _ _ _ _ i2 (x.trans x2) (.bool _)
    | true => exact he'' rfl rfl c M2 A E _ _ ((T.ext x i).ext x2 i2) rm fun v3 h3 tk3 M3 i3 x3 r3 => q _ _ _ _ i3 ((x.trans x2).trans x3) r3
theorem Ev.not {e : Expr} {pos : Pos} {d : D} {b : Bool} (he : Ev X n sc ρ e d) (h : truth d = some b) : Ev X n sc ρ (.UnaryOp .Not e pos) (.bool (!b)) := fun c M A E s Q T rm q =>
  wpAny_UnaryOp (he c M A E s _ T rm fun v h' tk M' i x r => not_value (truth_wp r h A E _ _ (T.ext x i) rm fun v2 h2 tk2 M2 i2 x2 r2 => q _ _ _ _ i2 (x.trans x2) (by subst r2; exact .bool _)))
theorem Ev.neg {e : Expr} {pos : Pos} {k : Int} (he : Ev X n sc ρ e (.int k)) : Ev X n sc ρ (.UnaryOp .USub e pos) (.int (-k)) := fun c M A E s Q T rm q =>
  wpAny_UnaryOp (he c M A E s _ T rm fun v h' tk M' i x r => by cases r; exact P.neg_int (q _ _ _ _ i x (.int _ _)))
theorem Ev.ifExp {t e e' : Expr} {pos : Pos} {b : Bool} {d : D} (ht : Tr X n sc ρ t b) (h1 : b = true → Ev X n sc ρ e d) (h0 : b = false → Ev X n sc ρ e' d) : Ev X n sc ρ (.IfExp t e e' pos) d := fun c M A E s Q T rm q => by
  refine wpAny_IfExp (ht c M A E s _ T rm fun v h' tk M' i x r => ?_)
  subst r
  cases v with
  | true => exact h1 rfl c M' A E _ _ (T.ext x i) rm fun v2 h2 tk2 M2 i2 x2 r2 => q _ _ _ _ i2 (x.trans x2) r2
  | false => exact h0 rfl c M' A E _ _ (T.ext x i) rm fun v2 h2 tk2 M2 i2 x2 r2 => q _ _ _ _ i2 (x.trans x2) r2

theorem op_fdiv_int {i j : Int} (h0 : j ≠ 0) (h : j.natAbs < 1073741824) : Op2 (binaryOp .FloorDiv) (.int i) (.int j) (.int (i.fdiv j)) := fun X n sc c ρ M a b ra rb => by
  cases ra; cases rb; exact .here fun A E s Q T _ q => floordiv_int h0 (q _ _ (.int _ _)) (.inl (PyProof.noPylong_small h))
theorem op_mod_int {i j : Int} (h0 : j ≠ 0) : Op2 (binaryOp .Mod) (.int i) (.int j) (.int (i.fmod j)) := fun X n sc c ρ M a b ra rb => by
  cases ra; cases rb; exact .here fun A E s Q T _ q => mod_int' h0 (q _ _ (.int _ _))

/-! is None -/
def isNone : D → Bool
  | .none => true
  | _ => false
theorem op_is_none {d : D} : Op2 (compareOp .Is) d .none (.bool (isNone d)) := fun X n sc c ρ M a b ra rb => by
  cases rb
  refine .here fun A E s Q T _ q => is_none ?_
  have : (a == Value.none) = isNone d := by cases ra <;> rfl
  rw [this]; exact q _ s.toks (.bool _)
theorem op_isNot_none {d : D} : Op2 (compareOp .IsNot) d .none (.bool (!isNone d)) := fun X n sc c ρ M a b ra rb => by
  cases rb
  refine .here fun A E s Q T _ q => isNot_none ?_
  have : (a == Value.none) = isNone d := by cases ra <;> rfl
  rw [this]; exact q _ s.toks (.bool _)

/-! a list against [] -/
theorem op_eq_nil {xs : List D} : Op2 (compareOp .Eq) (.list xs) (.list []) (.bool xs.isEmpty) := fun X n sc c ρ M a b ra rb => by
  cases ra with
  | list ha r hc =>
    cases rb with
    | list hb r2 hc2 =>
      cases r2
      refine .here fun A E s Q T rm q => ?_
      have hu : A.units < cLine := by have := rm.units; omega
      cases r with
      | nil => exact P.eq_list (e := fun _ => true) (T.st.inh _ _ ha) (T.st.inh _ _ hb) rfl (fun j h1 => absurd h1 (Nat.not_lt_zero _)) hu (q _ s.toks (.bool _))
      | cons r1 r => exact P.eq_list_lengths (T.st.inh _ _ ha) (T.st.inh _ _ hb) (by simp) hu (q _ s.toks (.bool _))

/-! the frame of a def -/
theorem lookup_zip_rev {α : Type} : ∀ {xs : List Str} {vs : List α} {x : Str} {v : α}, xs.Nodup → (x, v) ∈ xs.zip vs → (xs.zip vs).reverse.lookup x = some v := by
  intro xs
  induction xs with
  | nil => intro vs x v _ h; simp at h
  | cons y xs ih =>
    intro vs x v nd h
    cases vs with
    | nil => simp at h
    | cons w vs =>
      simp only [List.zip_cons_cons, List.reverse_cons]
      rw [List.lookup_append]
      have nd' := (List.nodup_cons.mp nd)
      simp only [List.zip_cons_cons, List.mem_cons] at h
      rcases h with h | h
      · obtain ⟨e1, e2⟩ := Prod.mk.inj h
        rw [← e1] at nd'
        rw [← e1, ← e2]
        have : (xs.zip vs).reverse.lookup x = none := by
          cases e : (xs.zip vs).reverse.lookup x with
          | none => rfl
          | some u =>
            have hm : (x, u) ∈ (xs.zip vs).reverse := by
              have : ∀ (l : List (Str × α)), l.lookup x = some u → (x, u) ∈ l := by
                intro l
                induction l with
                | nil => intro h; cases h
                | cons p l ih =>
                  intro h
                  obtain ⟨a, b⟩ := p
                  rw [List.lookup_cons] at h
                  by_cases hx : x = a
                  · subst hx; simp at h; subst h; exact List.mem_cons_self
                  · have : (x == a) = false := by simpa using hx
                    rw [this] at h; exact List.mem_cons_of_mem _ (ih h)
              exact this _ e
            exact absurd (List.of_mem_zip (List.mem_reverse.mp hm)).1 nd'.1
        rw [this]; simp
      · rw [ih nd'.2 h]; rfl
theorem RpL.zip {M : Led} : ∀ {xs : List Str} {vs : List Value} {ds : List D} {x : Str} {d : D}, RpL M vs ds → (x, d) ∈ xs.zip ds → ∃ v, (x, v) ∈ xs.zip vs ∧ Rp M v d
  | [], _, _, _, _, _, h => by simp at h
  | _ :: _, _, _, _, _, .nil, h => by simp at h
  | y :: xs, _, _, x, d, .cons h0 r, h => by
    simp only [List.zip_cons_cons, List.mem_cons] at h
    rcases h with h | h
    · cases h; exact ⟨_, List.mem_cons_self, h0⟩
    · obtain ⟨v, hv, rv⟩ := r.zip h
      exact ⟨v, List.mem_cons_of_mem _ hv, rv⟩

theorem nm_zip {sc : Scope} {xs : List Str} {ds : List D} (hloc : ∀ x ∈ xs, sc.names.lookup x = some .local ∧ (x == ("__debug__" : Str)) = false) : ∀ q ∈ xs.zip (ds.map B.val), sc.names.lookup q.1 = some q.2.kind ∧ (q.1 == ("__debug__" : Str)) = false := fun q hq => by
  have h := hloc q.1 (List.of_mem_zip hq).1
  rw [List.zip_map_right] at hq
  obtain ⟨p, _, rfl⟩ := List.mem_map.mp hq
  exact h
theorem zip_nocel {xs : List Str} {ds : List D} : ∀ x d, (x, B.cel d) ∉ xs.zip (ds.map B.val) := fun x d hx => by
  rw [List.zip_map_right] at hx
  obtain ⟨p, hp, e⟩ := List.mem_map.mp hx
  cases e
theorem Ce.none {fl L : Addr} {sc : Scope} {M : Led} {ρ : Rho} {h : Heap} (hr : ∀ x d, (x, B.cel d) ∉ ρ) (hc : ∀ x ∈ sc.names, x.2 ≠ .cell) (hf : fl = L) : Ce [] [] fl L sc M ρ h := ⟨fun _ _ e => (nomatch e), fun x d hx => absurd hx (hr x d), fun _ _ _ e => (nomatch e), fun _ _ e => (nomatch e), fun _ => hf, fun _ x h => absurd rfl (hc _ (mem_of_lookup h)), fun _ h => (nomatch h)⟩
/-- a def's contract by its body -/
theorem callOk_of {fd : Fn} {xs : List Str} {ds : List D} {d : D} (hfd : fd ∈ X.fns) (nd : xs.Nodup)
    (hb : ∀ pm cd doc vs, vs.length = ds.length → bindArgs (docDef fd.name fd.params fd.body fd.scope pm cd doc) ⟨vs, []⟩ = pure (xs.zip vs))
    (hloc : ∀ x ∈ xs, fd.scope.names.lookup x = some .local ∧ (x == ("__debug__" : Str)) = false)
    (body : ExS X n fd.scope (xs.zip (ds.map .val)) fd.body (fun fl _ => fl = .ret d ∨ (fl = .next ∧ d = .none)))
    (hco : fd.scope.isCoroutine = false) (hgen : fd.scope.isGenerator = false) (hk : fd.scope.kind = .function) (hcell : ∀ x ∈ fd.scope.names, x.2 ≠ .cell) : CallOk X (n + 1) fd.name ds d := by
  refine ⟨List.mem_map.mpr ⟨fd, hfd, rfl⟩, ?_⟩
  intro A E s M fa vs Q ok i r rm hfa q
  obtain ⟨fa', o, pm, code, doc, g1, g2, g3, g4⟩ := ok.fn fd hfd
  rw [hfa] at g1; cases g1
  have hu := rm.units
  have hdp := rm.depth
  refine wpAny_call (call_plain_ret (by omega) g2 g3 ok.nolimit g4 (hb pm code doc vs r.length) (fun x hx => (hloc x.1 (List.of_mem_zip hx).1).1) (fun h1 F => ?_) hco hgen hk hcell)
  refine body ⟨s.heap, M, [], s.heap.objs.size, fun x => (xs.zip vs).reverse.lookup x, fd.name, some fa, code, [], s.heap.objs.size⟩ M _ _ _ _ ?_ ⟨rm.hh, ?_, ?_⟩ fun f fl ρ2 m2 h2 tk2 M2 T2 l2 r2 p2 => ?_
  · refine ⟨⟨ok, F, i.keeps F.keep, i.size_none, LedLe.refl M, fun _ _ _ e => e, fun _ h => nomatch h⟩, ⟨fun x d' hx => ?_, fun x es hx => ?_, fun x y es es' b hx => ?_⟩, ⟨hk, nm_zip hloc⟩, Ce.none zip_nocel hcell rfl⟩
    · have hx' : (x, d') ∈ xs.zip ds := by
        rw [List.zip_map_right] at hx
        obtain ⟨p, hp, e⟩ := List.mem_map.mp hx
        obtain ⟨p1, p2⟩ := p
        cases e; exact hp
      obtain ⟨v, hv, rv⟩ := r.zip hx'
      exact ⟨v, lookup_zip_rev nd hv, rv⟩
    · rw [List.zip_map_right] at hx
      obtain ⟨p, hp, e⟩ := List.mem_map.mp hx
      cases e
    · rw [List.zip_map_right] at hx
      obtain ⟨p, hp, e⟩ := List.mem_map.mp hx
      cases e
  · show A.depth + 1 + n < recursionLimit; omega
  · show A.units + 3 + 8 * n + 200 < cLine; omega
  · have xt : Ext s.heap M h2 M2 := ⟨T2.st.fr.keep, T2.st.m0, T2.st.mf⟩
    rcases p2 with rfl | ⟨rfl, rfl⟩
    · cases f <;> first | exact r2.elim | skip
      exact q _ _ _ _ T2.st.inh xt r2
    · cases f <;> first | exact r2.elim | skip
      exact q _ _ _ _ T2.st.inh xt .none
end
end Mine

namespace Mine
open PySem PySem.Calls PyProof.Rows PySem.Spec

section
variable {X : Cx} {n : Nat} {ρ ρ' : Rho} {sc : Scope} {Φ : PF → Rho → Prop} {rest : List Stmt}

/-- an owned list turns -/
theorem At.own {c : Fc} {M : Led} {h h' : Heap} {x : Str} {a : Addr} {vs : List Value} {k : Nat} {ds ds' : List D} (T : At X sc c ρ M h) (hx : (x, B.own ds) ∈ ρ) (ex : c.m x = some (.ref a)) (dr : Dr x ρ ρ') (hs : Heap.SameBut a h h')
    (g : h'.get? a = some (listO vs k)) (r : RpL M vs ds') (hc : ds'.length ≤ cap) : At X sc c ((x, .own ds') :: ρ') M h' := by
  obtain ⟨a', e', vs', k', g', r', hc', hM, aL, a0, aW⟩ := T.lo.owns x ds hx
  rw [ex] at e'; cases e'
  refine ⟨⟨T.st.ok, ⟨T.st.fr.ns.sameBut hs (Ne.symm aL), fun b o e => (hs.2 b (fun e' => by rw [e', a0] at e; cases e)).trans (T.st.fr.keep b o e), T.st.fr.above⟩, fun b o e => (hs.2 b (fun e' => by rw [e', hM] at e; cases e)).trans (T.st.inh b o e), T.st.ml, T.st.m0, T.st.mf,
    fun q hq => ⟨(hs.2 _ (aW q hq)).trans (T.st.wd q hq).1, (T.st.wd q hq).2⟩⟩, ⟨fun y d hy => ?_, fun y es hy => ?_, fun y z es es' b hy hz ey ez => ?_⟩, T.nm.store dr (T.nm.nm _ hx).1 (T.nm.nm _ hx).2, T.ce.move (cell_same hs g' fun v h => nomatch h) (LedLe.refl _) (fun _ _ _ h => h) (cel_drop dr.sub fun _ h => nomatch h) T.ce.wc⟩
  · rcases List.mem_cons.mp hy with hy | hy
    · cases hy
    · exact T.lo.vals y d (dr.sub _ hy)
  · rcases List.mem_cons.mp hy with hy | hy
    · cases hy; exact ⟨a, ex, vs, k, g, r, hc, hM, aL, a0, aW⟩
    · obtain ⟨b, e, vs2, k2, g2, q⟩ := T.lo.owns y es (dr.sub _ hy)
      exact ⟨b, e, vs2, k2, (hs.2 b (fun e' => dr.not _ hy (T.lo.dist y x es ds a (dr.sub _ hy) hx (by rw [← e']; exact e) ex))).trans g2, q⟩
  · rcases List.mem_cons.mp hy with hy | hy
    · cases hy
      rcases List.mem_cons.mp hz with hz | hz
      · cases hz; rfl
      · exact T.lo.dist x z ds es' b hx (dr.sub _ hz) ey ez
    · rcases List.mem_cons.mp hz with hz | hz
      · cases hz; exact T.lo.dist y x es ds b (dr.sub _ hy) hx ey ez
      · exact T.lo.dist y z es es' b (dr.sub _ hy) (dr.sub _ hz) ey ez

theorem ExS.setItem {x : Str} {p p' pos : Pos} {ie ve : Expr} {ds : List D} {k : Int} {d : D} (hx : (x, B.own ds) ∈ ρ) (hv : Ev X n sc ρ ve d) (hi : Ev X n sc ρ ie (.int k)) (h0 : 0 ≤ k) (h1 : k < ds.length) (dr : Drop x ρ ρ')
    (h : ExS X n sc ((x, .own (ds.set k.toNat d)) :: ρ') rest Φ) (hs : ∀ env, swapsWith ve (some (.Subscript (.Name x p) ie p')) pos.line env = pure false) : ExS X n sc ρ (.Assign [.Subscript (.Name x p) ie p'] ve pos :: rest) Φ := .seq fun c M A E s Q T rm q => by
  refine wpAny_Assign_Subscript (hv c M A E s _ T rm fun v h1' tk1 M1 i1 x1 r1 => ?_) (hs _)
  have T1 := T.ext x1 i1
  obtain ⟨a, ex, _⟩ := T1.lo.owns x ds hx
  have hn := T.nm.nm _ hx
  refine ldX (h₀ := c.h₀) (s := { s with heap := h1', toks := tk1 }) T1.st.fr ex ?_ T.nm.fk hn.1 hn.2
  refine hi c M1 A E _ _ T1 rm fun iv h2 tk2 M2 i2 x2 r2 => ?_
  have T2 := T1.ext x2 i2
  cases r2
  obtain ⟨a', ex', vs, kk, g, r, hc, hM, _⟩ := T2.lo.owns x ds hx
  rw [ex] at ex'; cases ex'
  have hc' : ds.length ≤ 1048576 := hc
  refine PySem.W.ki_setAt (s := { s with heap := h2, toks := tk2 }) g h0 (by omega) (by rw [List.size_toArray, r.length]; exact h1) ?_
  have gs := Heap.get?_update_self (Obj.mapSeq (·.setIfInBounds k.toNat v)) g rfl
  have e : Obj.mapSeq (·.setIfInBounds k.toNat v) (listO vs kk) = listO (vs.set k.toNat v) kk := by
    show Obj.mapSeq _ ⟨_, _, .seq vs.toArray kk, _⟩ = _
    simp only [Obj.mapSeq, List.setIfInBounds_toArray, List.size_toArray, List.length_set, beq_self_eq_true, if_true]
  rw [e] at gs
  exact q .next .next _ c.m _ tk2 M2 (T2.own hx ex dr.dr (Heap.SameBut.update ..) gs (r.set k.toNat (r1.mono x2.le)) (by rw [List.length_set]; exact hc)) (x1.le.trans x2.le) trivial h

theorem ExS.append {x : Str} {p ap cp pos : Pos} {ve : Expr} {ds : List D} {d : D} (hx : (x, B.own ds) ∈ ρ) (hv : Ev X n sc ρ ve d) (hcap : ds.length < cap) (dr : Drop x ρ ρ') (h : ExS X n sc ((x, .own (ds ++ [d])) :: ρ') rest Φ)
    (hbase : ∀ env, attributeBase (.Name x p) "append" env (eval (.Name x p) env) = eval (.Name x p) env)
    (hst : ∀ env, starEach [ve] env = [(false, eval ve env)]) (hline : (ap.endLine == cp.line) = true)
    (hi : ∀ c : Fc, interactive (c.env sc) = false) (hs : ∀ env, swapsWith (.Call (.Attribute (.Name x p) "append" ap) [ve] [] cp) none pos.line env = pure false) :
    ExS X n sc ρ (.Expr (.Call (.Attribute (.Name x p) "append" ap) [ve] [] cp) pos :: rest) Φ := .seq fun c M A E s Q T rm q => by
  have hb : ∀ env, backTo cp (starEach [ve] env) = [(false, eval ve env)] := fun env => by rw [hst]; rfl
  refine wpAny_Expr (wpAny_Call_append (hbase _) (by rw [hb]; rfl) hline ?_ ?_) (hi c) (hs _)
  · exact hb _
  · obtain ⟨a, ex, vs0, kk0, g0, _⟩ := T.lo.owns x ds hx
    have hn := T.nm.nm _ hx
    refine ldX (h₀ := c.h₀) T.st.fr ex ?_ T.nm.fk hn.1 hn.2
    refine ⟨a, _, rfl, ⟨_, _, g0, rfl, rfl, rfl⟩, ?_⟩
    refine hv c M A E _ _ T rm fun v h1 tk1 M1 i1 x1 r1 => ?_
    have T1 := T.ext x1 i1
    obtain ⟨a', ex', vs, kk, g, r, hc, hM, _⟩ := T1.lo.owns x ds hx
    rw [ex] at ex'; cases ex'
    have hc' : ds.length < 1048576 := hcap
    have hsz : vs.toArray.size ≤ sizeLine := by rw [List.size_toArray, r.length]; exact Nat.le_trans hc capLine
    refine call_meets (s := { s with heap := h1, toks := tk1 }) F.slot_list_append ⟨_, g, rfl⟩ F.entry_list_append (F.args_list_append_2 _ _) (list_append a vs.toArray kk v hsz) ⟨g, ?_⟩
    have gs := Heap.get?_update_self (Obj.mapSeq (fun xs => xs.push v)) g rfl
    have e : Obj.mapSeq (fun xs => xs.push v) (listO vs kk) = listO (vs ++ [v]) (kk + 1) := by
      show Obj.mapSeq _ ⟨_, _, .seq vs.toArray kk, _⟩ = _
      simp [Obj.mapSeq]
    rw [e] at gs
    exact q .next .next _ c.m _ tk1 M1 (T1.own hx ex dr.dr (Heap.SameBut.update ..) gs (r.append (.cons r1 .nil)) (by rw [List.length_append]; exact hcap)) x1.le trivial h

theorem clipAt_pos (n : Nat) {k : Int} (h : 0 ≤ k) : clipAt n k = min k.toNat n := by
  obtain ⟨j, rfl⟩ := Int.eq_ofNat_of_zero_le h
  exact clipAt_nat n j
theorem Ev.sliceTo {value e : Expr} {p pos : Pos} {xs : List D} {k : Int} (hv : Ev X n sc ρ value (.list xs)) (he : Ev X n sc ρ e (.int k)) (h0 : 0 ≤ k) : Ev X n sc ρ (.Subscript value (.Slice none (some e) none p) pos) (.list (xs.take k.toNat)) := by
  have := Ev.slice (lower := none) (upper := some e) (lo := none) (hi := some k) (p := p) (pos := pos) hv trivial he
  have e' : sliceL none (some k) xs = xs.take k.toNat := by
    unfold sliceL
    simp only [Option.elim, List.drop_zero, Nat.sub_zero, clipAt_pos _ h0]
    rw [List.take_eq_take_iff]; omega
  rw [e'] at this; exact this
theorem Ev.sliceFrom {value e : Expr} {p pos : Pos} {xs : List D} {k : Int} (hv : Ev X n sc ρ value (.list xs)) (he : Ev X n sc ρ e (.int k)) (h0 : 0 ≤ k) : Ev X n sc ρ (.Subscript value (.Slice (some e) none none p) pos) (.list (xs.drop k.toNat)) := by
  have := Ev.slice (lower := some e) (upper := none) (lo := some k) (hi := none) (p := p) (pos := pos) hv he trivial
  have e' : sliceL (some k) none xs = xs.drop k.toNat := by
    unfold sliceL
    simp only [Option.elim, clipAt_pos _ h0]
    rw [List.take_of_length_le (by rw [List.length_drop]; omega)]
    rcases Nat.le_total k.toNat xs.length with h | h
    · rw [Nat.min_eq_left h]
    · rw [Nat.min_eq_right h, List.drop_length, List.drop_eq_nil_of_le h]
  rw [e'] at this; exact this
theorem CallOk.mono {n n' : Nat} {f : Str} {ds : List D} {d : D} (h : CallOk X n f ds d) (l : n ≤ n') : CallOk X n' f ds d :=
  ⟨h.1, fun A E s M fa vs Q ok i r rm => h.2 A E s M fa vs Q ok i r ⟨rm.hh, by have := rm.depth; omega, by have := rm.units; omega⟩⟩
/-- a call without arguments -/
theorem Ev.call0 {f : Str} {p pos : Pos} {d : D} (hc : CallOk X n f [] d) (hl : sc.names.lookup f = some .globalImplicit) (hd : (f == ("__debug__" : Str)) = false) : Ev X n sc ρ (.Call (.Name f p) [] [] pos) d := fun c M A E s Q T rm q => by
  obtain ⟨fd, hfd, rfl⟩ := List.mem_map.mp hc.1
  obtain ⟨fa, o, pm, code, doc, g1, g2, g3, g4⟩ := T.st.okh.fn fd hfd
  refine Call_ (ldX_global T.st.fr T.st.ok.g g1 ?_ T.nm.fk hl hd)
  refine callWith_function (o := o) (fd := docDef fd.name fd.params fd.body fd.scope pm code doc) ?_
  refine PyProof.Rows.evalArgs_nil3 ⟨⟨g2, g3⟩, ?_⟩
  exact hc.2 A E _ M fa [] Q T.st.okh T.st.inh .nil rm g1 fun v h2 tk2 M2 i2 x2 r2 => q _ _ _ _ i2 x2 r2

/-- a join behind a test: J holds of what the frame then knows -/
def Join (Φ : PF → Rho → Prop) (J : Rho → Prop) : PF → Rho → Prop := fun fl ρ => match fl with
  | .next => J ρ
  | fl => Φ fl ρ
theorem ExS.ifJoin {test : Expr} {body orelse : List Stmt} {pos : Pos} {b : Bool} (J : Rho → Prop) (ht : Tr X n sc ρ test b) (h1 : b = true → ExS X n sc ρ body (Join Φ J)) (h0 : b = false → ExS X n sc ρ orelse (Join Φ J))
    (k : ∀ ρ', J ρ' → ExS X n sc ρ' rest Φ) : ExS X n sc ρ (.If test body orelse pos :: rest) Φ := by
  have hm : ∀ fl ρ', Join Φ J fl ρ' → Then X n sc rest Φ fl ρ' := fun fl ρ' h => by cases fl <;> first | exact k _ h | exact h
  exact .iff ht (fun hb => (h1 hb).mono hm) (fun hb => (h0 hb).mono hm)
theorem Ev.listOf {p pos : Pos} {e : Expr} {xs : List D} (he : Ev X n sc ρ e (.list xs)) (hl : sc.names.lookup (Str.ofString "list") = some .globalImplicit)
    (h1 : ∀ env, starEach [e] env = (false, eval e env) :: starEach [] env) : Ev X n sc ρ (.Call (.Name (Str.ofString "list") p) [e] [] pos) (.list xs) := EvN.ev (EvN.listOf he hl h1)
end
end Mine

namespace Mine
open PySem PySem.Calls PyProof.Rows PySem.Spec

section
variable {X : Cx} {n : Nat} {ρ ρ' : Rho} {sc : Scope} {Φ : PF → Rho → Prop} {rest : List Stmt}
theorem bi_abs : (Str.ofString "abs", Value.builtin "abs") ∈ stdBis := by simp [stdBis]
theorem bi_type : (Str.ofString "type", Value.type "type") ∈ stdBis := by simp [stdBis]
theorem bi_int : (Str.ofString "int", Value.type "int") ∈ stdBis := by simp [stdBis]
theorem nd_abs : (Str.ofString "abs" == ("__debug__" : Str)) = false := by decide +kernel
theorem nd_type : (Str.ofString "type" == ("__debug__" : Str)) = false := by decide +kernel
theorem nd_int : (Str.ofString "int" == ("__debug__" : Str)) = false := by decide +kernel
theorem Ev.abs {p pos : Pos} {e : Expr} {k : Int} (he : Ev X n sc ρ e (.int k)) (hl : sc.names.lookup (Str.ofString "abs") = some .globalImplicit)
    (h1 : ∀ env, starEach [e] env = (false, eval e env) :: starEach [] env) : Ev X n sc ρ (.Call (.Name (Str.ofString "abs") p) [e] [] pos) (.int (if k < 0 then -k else k)) := fun c M A E s Q T rm q => by
  refine Call_ (wp_builtin bi_abs hl nd_abs A E s _ T rm fun f h' tk M' i x' hf => ?_)
  subst hf
  refine callWith_builtin1 (args_cons (he c M' A E _ _ (T.ext x' i) rm fun v h2 tk2 M2 i2 x2 r => args_nil ?_) (h1 _)) (h1 _)
  cases r
  exact call_abs_int fun u tk => q _ _ _ _ i2 (x'.trans x2) (.int _ _)
/-- type(e) is int, e an int -/
theorem Tr.typeIsInt {p p' pos pos' : Pos} {e : Expr} {k : Int} (he : Ev X n sc ρ e (.int k)) (hl : sc.names.lookup (Str.ofString "type") = some .globalImplicit) (hl' : sc.names.lookup (Str.ofString "int") = some .globalImplicit)
    (h1 : ∀ env, starEach [e] env = (false, eval e env) :: starEach [] env) : Tr X n sc ρ (.Compare (.Call (.Name (Str.ofString "type") p) [e] [] pos) [.Is] [.Name (Str.ofString "int") p'] pos') true := fun c M A E s Q T rm q => by
  refine wpAny_isTrue_Compare1 (Call_ (wp_builtin bi_type hl nd_type A E s _ T rm fun f h' tk M' i x' hf => ?_)) rfl
  subst hf
  refine PyProof.Rows.callWith_type1 (args_cons (he c M' A E _ _ (T.ext x' i) rm fun v h2 tk2 M2 i2 x2 r => args_nil ?_) (h1 _)) (h1 _)
  cases r
  refine call_type_of (typeIs_int _ _ _) (by decide) ?_
  refine wp_builtin bi_int hl' nd_int A E _ _ ((T.ext x' i).ext x2 i2) rm fun f h3 tk3 M3 i3 x3 hf => ?_
  subst hf
  exact wpAny_is_self (by decide) (wpAny_truthy_bool (q _ _ _ _ i3 ((x'.trans x2).trans x3) rfl))
/-- `is` on two bools -/
theorem op_is_bool {a b : Bool} : Op2 (compareOp .Is) (.bool a) (.bool b) (.bool (a == b)) := fun X n sc c ρ M a b ra rb => by
  cases ra; cases rb; exact .here fun A E s Q T _ q => is_bool (q _ s.toks (.bool _))
end

/-! the head: from what the row's head hands on to a call of the law -/
open PySem.W
def toFn (d : DefRec) : Fn := ⟨d.name, d.params, d.body, d.scope⟩
def topCx (prog : Program) (w : World) (mg mb : Str → Option Value) (q : Program) (ex : Heap → Prop) (exk : ∀ h h', Keeps h h' → ex h → ex h') : Cx := ⟨prog, w, mg, mb, (recsOf q).map toFn, ex, exk⟩
def biOk (q : Program) (loose : List Str) : Bool := stdBis.all fun p => !startupNames.contains p.1 && !loose.contains p.1 && !((recsOf q).map (·.name)).contains p.1 && !((litsOf q).map (·.1)).contains p.1 && !((clssOf q loose).map (·.name)).contains p.1 && (p.1 != ("__name__" : Str)) && bootBuiltins p.1 == some p.2
theorem topCx_ok {prog q : Program} {w : World} {mg mb : Str → Option Value} {loose : List Str} {mean : ExcName → Option Value} {h : Heap} (T : Top q loose mean mg mb h) (hb : biOk q loose = true) {ex : Heap → Prop} {exk : ∀ h h', Keeps h h' → ex h → ex h'} (he : ex h) : (topCx prog w mg mb q ex exk).Ok h where
  g := T.g
  b := T.b
  nolimit := T.nolimit
  fn := fun d hd => by
    obtain ⟨d', hd', rfl⟩ := List.mem_map.mp hd
    exact T.fn d' hd'
  bi := fun p hp => by
    have := List.all_eq_true.mp hb p hp
    simp only [Bool.and_eq_true, Bool.not_eq_true', beq_iff_eq, bne_iff_ne, ne_eq, List.contains_eq_mem, decide_eq_false_iff_not] at this
    obtain ⟨⟨⟨⟨⟨⟨a, b⟩, c⟩, d⟩, e⟩, f⟩, g⟩ := this
    exact ⟨T.free p.1 a b c d e, (T.builtins p.1 f).trans g⟩
  ex := he
theorem mem_fns {prog q : Program} {w : World} {mg mb : Str → Option Value} {r : Option Fn} {f : Fn → Bool} {fd : Fn} {ex : Heap → Prop} {exk : ∀ h h', Keeps h h' → ex h → ex h'} (h : ((recsOf q).map toFn).find? f = r) (hg : r = some fd) : fd ∈ (topCx prog w mg mb q ex exk).fns :=
  List.mem_of_find?_eq_some (h.trans hg)

theorem rpl_ints {M : Led} : ∀ {vs : List Value} {ns : List Int}, IntsAre vs ns → RpL M vs (ns.map .int)
  | _, _, .nil => .nil
  | _, _, .cons i t h => .cons (.int i t) (rpl_ints h)
theorem well_list {P : Params} {h : Heap} {l : Addr} {xs : List WData} {vs : List Value} (W : Well P h (.ref l) (.list xs)) (hL : h.IsList l vs.toArray) : h.get? l = some (listO vs 0) := by
  cases W with
  | list g _ =>
    obtain ⟨o, ho, _, n, hd⟩ := hL
    rw [g] at ho; cases ho
    cases hd
    exact g
theorem ledIn_one {h : Heap} {l : Addr} {o : Obj} (g : h.get? l = some o) : LedIn (fun a => if a = l then some o else none) h := fun a o' e => by
  dsimp only at e
  by_cases ha : a = l
  · rw [if_pos ha] at e; cases e; rw [ha]; exact g
  · rw [if_neg ha] at e; cases e
/-- the law's call, by its contract -/
theorem law_call {X : Cx} {n : Nat} {name : Str} {ns : List Int} {vs : List Value} {l fa : Addr} {s : Shared} {E : Value → Shared → Prop} {Q : Value → Shared → Prop} {P : Params} {xs : List WData}
    (C : CallOk X n name [.list (ns.map .int)] (.bool true)) (ok : X.Ok s.heap) (W : Well P s.heap (.ref l) (.list xs)) (hL : s.heap.IsList l vs.toArray) (hI : IntsAre vs ns) (hn : ns.length ≤ 1048576) (hfa : X.mg name = some (.ref fa)) (hr : n ≤ 500)
    (q : ∀ h' tk, Keeps s.heap h' → Q (.bool true) { s with heap := h', toks := tk }) : wpAny (model X.prog X.w) callerA (call (.ref fa) [.ref l]) Q E s := by
  have g := well_list W hL
  refine C.2 callerA E s (fun a => if a = l then some (listO vs 0) else none) fa [.ref l] Q ok (ledIn_one g) (.cons (.list (n := 0) (if_pos rfl) (rpl_ints hI) (by rw [List.length_map]; exact hn)) .nil) ⟨rfl, ?_, ?_⟩ hfa (fun v h' tk M' i x r => by
    cases r; exact q h' tk x.keep)
  · have : callerA.depth = 1 + claimMargin := rfl
    rw [this]
    have : 1 + claimMargin + 500 < recursionLimit := by decide
    omega
  · show 4 + 8 * n + 200 < cLine
    have : cLine = 9900 := rfl
    omega
end Mine

namespace Mine
open PySem PySem.Calls PyProof.Rows PySem.Spec

/-! == on data -/
mutual
def D.py : D → PyData
  | .none => .none
  | .bool b => .bool b
  | .int i => .int i
  | .flt _ => .none
  | .str s => .str s
  | .list xs => .list (D.pys xs)
  | .tup xs => .tuple (D.pys xs)
def D.pys : List D → List PyData
  | [] => []
  | d :: ds => d.py :: D.pys ds
end
/-- none, ints, texts, and lists and tuples of these, at most k deep -/
inductive Plain : Nat → D → Prop
  | none {k : Nat} : Plain k .none
  | int {k : Nat} (i : Int) : Plain k (.int i)
  | str {k : Nat} (s : Str) : PyData.strOk s = true → Plain k (.str s)
  | list {k : Nat} {ds : List D} : (∀ d ∈ ds, Plain k d) → Plain (k + 1) (.list ds)
  | tup {k : Nat} {ds : List D} : (∀ d ∈ ds, Plain k d) → Plain (k + 1) (.tup ds)
theorem Plain.mono : ∀ {k : Nat} {d : D}, Plain k d → ∀ {k' : Nat}, k ≤ k' → Plain k' d := by
  intro k
  induction k with
  | zero =>
    intro d h k' _
    cases h with
    | none => exact .none
    | int i => exact .int i
    | str s hs => exact .str s hs
  | succ k ih =>
    intro d h k' hk
    cases h with
    | none => exact .none
    | int i => exact .int i
    | str s hs => exact .str s hs
    | list h =>
      obtain ⟨j, rfl⟩ : ∃ j, k' = j + 1 := ⟨k' - 1, by omega⟩
      exact .list fun d hd => ih (h d hd) (by omega)
    | tup h =>
      obtain ⟨j, rfl⟩ : ∃ j, k' = j + 1 := ⟨k' - 1, by omega⟩
      exact .tup fun d hd => ih (h d hd) (by omega)
theorem plain_facts : ∀ (k : Nat), (∀ d, Plain k d → d.py.canLay0 = true ∧ d.py.depth ≤ k ∧ (∀ k' e, Plain k' e → (PyData.eqv d.py e.py = true ↔ d = e)) ∧ ∀ M h v, LedIn M h → Rp M v d → ∃ as, Reads h v d.py as) ∧
    (∀ ds, (∀ d ∈ ds, Plain k d) → PyData.canLayAll0 (D.pys ds) = true ∧ PyData.depthAll (D.pys ds) ≤ k ∧ (∀ k' es, (∀ e ∈ es, Plain k' e) → (PyData.eqvAll (D.pys ds) (D.pys es) = true ↔ ds = es)) ∧ ∀ M h vs, LedIn M h → RpL M vs ds → ∃ as, ReadsAll h vs (D.pys ds) as) := by
  have atom : ∀ k d, (d = .none ∨ (∃ i, d = .int i) ∨ ∃ s, d = .str s ∧ PyData.strOk s = true) → d.py.canLay0 = true ∧ d.py.depth ≤ k ∧ (∀ k' e, Plain k' e → (PyData.eqv d.py e.py = true ↔ d = e)) ∧ ∀ M h v, LedIn M h → Rp M v d → ∃ as, Reads h v d.py as := by
    rintro k d (rfl | ⟨i, rfl⟩ | ⟨s, rfl, hs⟩)
    · refine ⟨by simp [D.py, PyData.canLay0], by simp [D.py, PyData.depth], fun k' e pe => ?_, fun M h v _ r => ?_⟩
      · cases pe <;> simp [D.py, PyData.eqv]
      · cases r; exact ⟨_, .none⟩
    · refine ⟨by simp [D.py, PyData.canLay0], by simp [D.py, PyData.depth], fun k' e pe => ?_, fun M h v _ r => ?_⟩
      · cases pe <;> simp [D.py, PyData.eqv]
      · cases r; exact ⟨_, .int _ _⟩
    · refine ⟨by simpa [D.py, PyData.canLay0] using hs, by simp [D.py, PyData.depth], fun k' e pe => ?_, fun M h v _ r => ?_⟩
      · cases pe <;> simp [D.py, PyData.eqv]
      · cases r; exact ⟨_, .str _ _⟩
  have all : ∀ k, (∀ d, Plain k d → d.py.canLay0 = true ∧ d.py.depth ≤ k ∧ (∀ k' e, Plain k' e → (PyData.eqv d.py e.py = true ↔ d = e)) ∧ ∀ M h v, LedIn M h → Rp M v d → ∃ as, Reads h v d.py as) →
      (∀ ds, (∀ d ∈ ds, Plain k d) → PyData.canLayAll0 (D.pys ds) = true ∧ PyData.depthAll (D.pys ds) ≤ k ∧ (∀ k' es, (∀ e ∈ es, Plain k' e) → (PyData.eqvAll (D.pys ds) (D.pys es) = true ↔ ds = es)) ∧ ∀ M h vs, LedIn M h → RpL M vs ds → ∃ as, ReadsAll h vs (D.pys ds) as) := by
    intro k one ds
    induction ds with
    | nil =>
      intro _
      refine ⟨by simp [D.pys, PyData.canLayAll0], by simp [D.pys, PyData.depthAll], fun k' es _ => ?_, fun M h vs _ r => ?_⟩
      · cases es <;> simp [D.pys, PyData.eqvAll]
      · cases r; exact ⟨_, .nil⟩
    | cons d ds ih =>
      intro hp
      obtain ⟨a1, a2, a3, a4⟩ := one d (hp d List.mem_cons_self)
      obtain ⟨b1, b2, b3, b4⟩ := ih fun e he => hp e (List.mem_cons_of_mem _ he)
      refine ⟨by simp [D.pys, PyData.canLayAll0, a1, b1], by simp only [D.pys, PyData.depthAll]; omega, fun k' es he => ?_, fun M h vs i r => ?_⟩
      · cases es with
        | nil => simp [D.pys, PyData.eqvAll]
        | cons e es =>
          simp only [D.pys, PyData.eqvAll, Bool.and_eq_true, a3 k' e (he e List.mem_cons_self), b3 k' es fun x hx => he x (List.mem_cons_of_mem _ hx), List.cons.injEq]
      · cases r with
        | cons r rs =>
          obtain ⟨as, ha⟩ := a4 M h _ i r
          obtain ⟨bs, hb⟩ := b4 M h _ i rs
          exact ⟨_, .cons ha hb⟩
  intro k
  induction k with
  | zero =>
    have one : ∀ d, Plain 0 d → _ := fun d hd => atom 0 d (by cases hd with
      | none => exact .inl rfl
      | int i => exact .inr (.inl ⟨i, rfl⟩)
      | str s hs => exact .inr (.inr ⟨s, rfl, hs⟩))
    exact ⟨one, all 0 one⟩
  | succ k ih =>
    have one : ∀ d, Plain (k + 1) d → d.py.canLay0 = true ∧ d.py.depth ≤ k + 1 ∧ (∀ k' e, Plain k' e → (PyData.eqv d.py e.py = true ↔ d = e)) ∧ ∀ M h v, LedIn M h → Rp M v d → ∃ as, Reads h v d.py as := by
      intro d hd
      cases hd with
      | none => exact atom _ _ (.inl rfl)
      | int i => exact atom _ _ (.inr (.inl ⟨i, rfl⟩))
      | str s hs => exact atom _ _ (.inr (.inr ⟨s, rfl, hs⟩))
      | @list _ ds h =>
        obtain ⟨b1, b2, b3, b4⟩ := ih.2 ds h
        refine ⟨by simpa [D.py, PyData.canLay0] using b1, by simp only [D.py, PyData.depth]; omega, fun k' e pe => ?_, fun M h v i r => ?_⟩
        · cases pe with
          | list he => simp only [D.py, PyData.eqv, b3 _ _ he, D.list.injEq]
          | _ => simp [D.py, PyData.eqv]
        · cases r with
          | list g rs _ =>
            obtain ⟨as, ha⟩ := b4 M h _ i rs
            exact ⟨_, .list (i _ _ g) rfl rfl (by simpa using ha)⟩
      | @tup _ ds h =>
        obtain ⟨b1, b2, b3, b4⟩ := ih.2 ds h
        refine ⟨by simpa [D.py, PyData.canLay0] using b1, by simp only [D.py, PyData.depth]; omega, fun k' e pe => ?_, fun M h v i r => ?_⟩
        · cases pe with
          | tup he => simp only [D.py, PyData.eqv, b3 _ _ he, D.tup.injEq]
          | _ => simp [D.py, PyData.eqv]
        · cases r with
          | tup g rs =>
            obtain ⟨as, ha⟩ := b4 M h _ i rs
            exact ⟨_, .tuple (i _ _ g) rfl rfl (by simpa using ha)⟩
    exact ⟨one, all _ one⟩
theorem op_eq_data {k : Nat} {d e : D} {b : Bool} (hd : Plain k d) (he : Plain k e) (hk : k ≤ 100) (hb : b = true ↔ d = e) : Op2 (compareOp .Eq) d e (.bool b) := fun X n sc c ρ M v w rv rw' => .here fun A E s Q T rm q => by
  obtain ⟨a1, a2, a3, a4⟩ := (plain_facts k).1 d hd
  obtain ⟨b1, b2, b3, b4⟩ := (plain_facts k).1 e he
  obtain ⟨as, ha⟩ := a4 M s.heap v T.st.inh rv
  obtain ⟨bs, hb'⟩ := b4 M s.heap w T.st.inh rw'
  have hu := rm.units
  have hm : min d.py.depth e.py.depth ≤ d.py.depth := Nat.min_le_left _ _
  have e' : PyData.eqv d.py e.py = b := by
    have := a3 k e he
    cases h1 : PyData.eqv d.py e.py <;> cases b <;> simp_all
  refine SeqAt.compareEq_reads ha hb' a1 b1 (by omega) ?_
  rw [e']; exact q _ s.toks (.bool _)
theorem op_ne_data {k : Nat} {d e : D} {b : Bool} (hd : Plain k d) (he : Plain k e) (hk : k ≤ 100) (hb : b = true ↔ d ≠ e) : Op2 (compareOp .NotEq) d e (.bool b) := fun X n sc c ρ M v w rv rw' => .here fun A E s Q T rm q => by
  obtain ⟨a1, a2, a3, a4⟩ := (plain_facts k).1 d hd
  obtain ⟨b1, b2, b3, b4⟩ := (plain_facts k).1 e he
  obtain ⟨as, ha⟩ := a4 M s.heap v T.st.inh rv
  obtain ⟨bs, hb'⟩ := b4 M s.heap w T.st.inh rw'
  have hu := rm.units
  have hm : min d.py.depth e.py.depth ≤ d.py.depth := Nat.min_le_left _ _
  have e' : (!PyData.eqv d.py e.py) = b := by
    have := a3 k e he
    cases h1 : PyData.eqv d.py e.py <;> cases b <;> simp_all
  refine SeqAt.compareNe_reads ha hb' a1 b1 (by omega) ?_
  rw [e']; exact q _ s.toks (.bool _)
theorem Plain.ints (ks : List Int) : Plain 1 (.list (ks.map .int)) := .list fun d hd => by
  obtain ⟨i, _, rfl⟩ := List.mem_map.mp hd; exact .int i

/-! reading a list of the frame's own -/
section
variable {X : Cx} {n : Nat} {ρ ρ' : Rho} {sc : Scope} {Φ : PF → Rho → Prop} {rest : List Stmt}
theorem Ev.itemOwn {x : Str} {p pos : Pos} {slice : Expr} {ds : List D} {k : Int} {d : D} (hx : (x, B.own ds) ∈ ρ) (hi : Ev X n sc ρ slice (.int k)) (h0 : 0 ≤ k) (hd : ds[k.toNat]? = some d) (hs : PlainIx slice) :
    Ev X n sc ρ (.Subscript (.Name x p) slice pos) d := fun c M A E s Q T rm q => by
  obtain ⟨a, ex, _⟩ := T.lo.owns x ds hx
  have hn := T.nm.nm _ hx
  refine Subscript_ (ldX (h₀ := c.h₀) T.st.fr ex ?_ T.nm.fk hn.1 hn.2)
  refine hi c M A E _ _ T rm fun iv h2 tk2 M2 i2 x2 r2 => ?_
  have T2 := T.ext x2 i2
  cases r2
  obtain ⟨a', ex', vs, kk, g, r, hc, hM, _⟩ := T2.lo.owns x ds hx
  rw [ex] at ex'; cases ex'
  obtain ⟨v, hv, rv⟩ := r.get hd
  have hlt := lt_of_get hd
  have hc' : ds.length ≤ 1048576 := hc
  have hL : h2.IsList a vs.toArray := ⟨_, g, rfl, _, rfl⟩
  exact tail_any (s := { s with heap := h2, toks := tk2 }) hL.typeIs slot_list_getitem.lookup (wpAny_getItem_list hL h0 (by omega) (by simpa using hv) (q v _ _ _ i2 x2 rv)) (hs _ _)
theorem Ev.to {e : Expr} {d d' : D} (h : Ev X n sc ρ e d) (he : d = d') : Ev X n sc ρ e d' := he ▸ h
theorem Ev.lenOwn {x : Str} {p p' pos : Pos} {ds : List D} (hx : (x, B.own ds) ∈ ρ) (hl : sc.names.lookup (Str.ofString "len") = some .globalImplicit) : Ev X n sc ρ (.Call (.Name (Str.ofString "len") p) [.Name x p'] [] pos) (.int ds.length) := fun c M A E s Q T rm q => by
  refine Call_ (wp_builtin bi_len hl nd_len A E s _ T rm fun f h' tk M' i x' hf => ?_)
  subst hf
  have T1 := T.ext x' i
  obtain ⟨a, ex, vs, kk, g, r, hc, hM, _⟩ := T1.lo.owns x ds hx
  have hn := T.nm.nm _ hx
  refine callWith_builtin1 (args_cons (ldX (h₀ := c.h₀) (s := { s with heap := h', toks := tk }) T1.st.fr ex (args_nil ?_) T.nm.fk hn.1 hn.2) rfl) rfl
  have hL : h'.IsList a vs.toArray := ⟨_, g, rfl, _, rfl⟩
  have hc' : ds.length ≤ 1048576 := hc
  refine call_len_list (s := { s with heap := h', toks := tk }) hL (by rw [List.size_toArray, r.length]; omega) ?_
  rw [List.size_toArray, r.length]
  exact q _ _ _ _ i x' (.int _ _)
theorem op_isNot_bool {a b : Bool} : Op2 (compareOp .IsNot) (.bool a) (.bool b) (.bool (a != b)) := fun X n sc c ρ M a b ra rb => by
  cases ra; cases rb; exact .here fun A E s Q T _ q => isnot_bool (q _ s.toks (.bool _))
/-- an item of a list from behind -/
theorem op_item_listNeg {value slice : Expr} {ds : List D} {i : Int} {d : D} (h0 : i < 0) (h1 : -(ds.length : Int) ≤ i) (hd : ds[(i + ds.length).toNat]? = some d) (hs : PlainIx slice) : Op2 (subscriptTail value slice) (.list ds) (.int i) d := fun X n sc c ρ M a b ra rb => by
  cases ra with
  | list ha r hc =>
    cases rb
    refine .here fun A E s Q T _ q => ?_
    obtain ⟨v, hv, rv⟩ := r.get hd
    have hc' : ds.length ≤ 1048576 := hc
    have hL : s.heap.IsList _ _ := ⟨_, T.st.inh _ _ ha, rfl, _, rfl⟩
    exact tail_any hL.typeIs slot_list_getitem.lookup (wpAny_getItem_list_neg hL h0 (by rw [List.size_toArray, r.length]; exact h1) (by omega) (by rw [List.size_toArray, r.length]; simpa using hv) (q v s.toks rv)) (hs _ _)
end
end Mine

namespace Mine
open PySem PySem.Calls PyProof.Rows PySem.Spec

/-! an exception of the text's own class, under way -/
/-- the class is the text's, of the base Exception -/
abbrev ExcCls (x : Str) (C : Addr) (mg : Str → Option Value) (h : Heap) : Prop := OwnClsQ x C [.type "Exception", .type "BaseException", .type "object"] "Exception.__new__" mg h

/-- where an exception may be while it leaves the frame env -/
inductive Exc (base : Heap) (env : Env) (outer : List Env) (L : Addr) (e : Addr) (C : Addr) (h : Heap) : Prop
  | made {h1 : Heap} {vs : List Value} : base.StaysIn h1 → h1.FunFrames base (env :: outer) → Heap.MadeExcOf h1 h e (.ref C) vs → Exc base env outer L e C h
  | fly {a0 : Value} : Heap.FlyingW base (env :: outer) e (.ref C) a0 h → Exc base env outer L e C h
  | held {a0 : Value} : Heap.HeldW base (env :: outer) e (.ref C) a0 L h → Exc base env outer L e C h

section
variable {M : Model} {A : Around} {E : Value → Shared → Prop} {s : Shared} {base : Heap} {env : Env} {outer : List Env} {L e C : Addr}
theorem exc_leaves {Q : Unit → Shared → Prop} (hfr : A.frames = some (env :: outer)) (hf : env.frame = some L) (x : Exc base env outer L e C s.heap)
    (hQ : ∀ a0 h', Heap.FlyingW base outer e (.ref C) a0 h' → s.heap.UpToSlots h' → Q () { s with heap := h' }) : wpAny M A (leaving env (.ref e)) Q E s := by
  cases x with
  | made k f m => exact wpAny_leaves_madeW hfr hf k f m fun h' t x _ _ u => hQ _ h' x u
  | fly x => exact wpAny_leaves_onW hfr hf x fun h' x u => hQ _ h' x u
  | held x =>
    unfold leaving
    refine wpAny_bind (wpAny_noteFrame_againW hf x.2.2.2 (wpAny_landsW x fun h' y u => ?_))
    obtain ⟨k1, k2, ⟨_, _, k3⟩, k4⟩ := y
    exact hQ _ h' ⟨k1, k2, k3, k4⟩ u
/-- through a loop of the frame -/
theorem exc_loop {x : Addr} {a0 : Value} (hfr : A.frames = some (env :: outer)) (hf : env.frame = some L) (y : Heap.FlyingW base (env :: outer) e (.ref C) a0 s.heap)
    (hE : ∀ h', Heap.HeldW base (env :: outer) e (.ref C) a0 L h' → s.heap.UpToSlots h' → E (.ref e) { s with heap := h' }) : notedBy M A env (cameBackBy M A env E) (.ref e) s := by
  unfold notedBy
  refine wpAny_looks_onW hfr hf y fun h1 z u => ?_
  unfold cameBackBy
  obtain ⟨k1, k2, k3, oe, vs, T, oT, ts, he, hc, hd, h1', hnT, hTe, hT, hdT, h3⟩ := id z
  refine wpAny_bind (wpAny_field he hd h1' ?_)
  rw [if_neg (show ¬ ((Value.ref T == Value.none) = true) from by simp), hf]
  have sz : 3 < ts.size := (Array.getElem?_eq_some_iff.mp h3).1
  have other : ∀ b, b ≠ T → (h1.update T (Obj.mapFields (·.setIfInBounds 3 (rawInt L)))).get? b = h1.get? b := fun b hb => Heap.get?_update_other _ _ (Ne.symm hb)
  have notT : ∀ b o, h1.get? b = some o → (∀ vs, o.data ≠ .fields vs) → b ≠ T := fun b o hb hn q => by rw [q, hT] at hb; cases hb; exact hn ts hdT
  have last : wpAny M A (setFlight (.ref e) (some L)) (fun _ s'' => E (.ref e) s'') E { s with heap := h1 } := by
    unfold setFlight
    refine wpAny_bind (wpAny_field he hd h1' ?_)
    rw [if_pos (show (Value.ref T != Value.none) = true from by simp)]
    refine wpAny_setField hT hdT sz (hE _ ⟨fun b o g => (other b fun q => by rw [q, hnT] at g; cases g).trans (k1 b o g), k2, k3.of_keeps fun b o g hn => ⟨o, (other b (notT b o g hn)).trans g, rfl⟩, ?_⟩ (u.trans fun b o g hn => ⟨o.slots, (other b (notT b o g hn)).trans g⟩))
    exact ⟨oe, vs, T, _, _, (other e (Ne.symm hTe)).trans he, hc, hd, h1', hnT, hTe, Heap.get?_update_self _ hT (Obj.isFreed_of_fields (Obj.data_mapFields hdT _)), Obj.data_mapFields hdT _, by simp [sz]⟩
  first
    | exact wpAny_bind (wpAny_pure last)
    | exact last
end

/-- the scope is no comprehension's -/
abbrev NC (sc : Scope) : Prop := sc.names.lookup (Str.ofString ".0") = none
section
variable {prog : Program} {w : World} {A : Around} {E : Value → Shared → Prop} {s : Shared} {h₀ : Heap} {L : Addr} {m mg : Str → Option Value} {env : Env}
/-- raise x(e), x an exception class of the text's, in any env of a def -/
theorem raiseX {x : Str} {C : Addr} {bm : List Value} {B newId initId : String} {e : Expr} {np cpos pos : Pos} {Q : Flow → Shared → Prop} (F : Fr h₀ L s.heap m) (hg : h₀.Ns env.globals mg) (O : OwnCls x C bm newId mg h₀) (FB : ExcBaseFacts B newId initId bm) (hh : A.handled = none)
    (h : wpAny (model prog w) A (spliced (backTo cpos (starEach [e] env))) (fun vs s₂ => vs.length ≤ sizeLine ∧ (∀ b o, h₀.get? b = some o → s₂.heap.get? b = some o) ∧ ∀ h' e, Heap.MadeExcOf s₂.heap h' e (.ref C) vs → E (.ref e) { s₂ with heap := h' }) E s)
    (he : starEach [e] env = (false, eval e env) :: starEach [] env) (hk : env.scope.kind = .function) (hx : env.kindOf x = some .globalImplicit) (hd : (x == ("__debug__" : Str)) = false) :
    wpAny (model prog w) A (exec (.Raise (some (.Call (.Name x np) [e] [] cpos)) none pos) env) Q E s := by
  obtain ⟨tl, N, nm, q, bs, hdct, sn, sub, ab, col, dd, k0, k1, k2, k3, k5, mN, hC, hN, hni, T⟩ := O.obj
  refine wpAny_Raise_call_subT (C := C) (nm := nm) (q := q) (N := N) (bs := bs) (bm := tl) (hdct := hdct) (sn := sn) (sub := sub) (ab := ab) (col := col) (dd := dd) (k0 := k0) (k1 := k1) (k2 := k2) (k3 := k3) (k5 := k5)
    FB (mN := mN) (T.hasType FB.hasBase) hh (by rw [he]; rfl) hni (ldX_global F hg O.bound ⟨rfl, ?_⟩ hk hx hd)
  rw [he] at h ⊢
  exact Calls.evalArgs_plain (wpAny_mono h (fun vs s₂ h₂ => ⟨rfl, h₂.1, h₂.2.1 _ _ hC, hN.keeps h₂.2.1, T.keeps h₂.2.1, h₂.2.2⟩) fun _ _ y => y)
end

/-- a call of f with ds raises an exception of the class C -/
def CallX (X : Cx) (n : Nat) (f : Str) (ds : List D) (C : Addr) : Prop :=
  f ∈ X.fns.map (·.name) ∧ ∀ (A : Around) (E : Value → Shared → Prop) (s : Shared) (M : Led) (fa : Addr) (vs : List Value) (Q : Value → Shared → Prop) (base : Heap) (l : List Env), X.Ok s.heap → LedIn M s.heap → RpL M vs ds → Room A n → X.mg f = some (.ref fa) →
    A.frames = some l → base.StaysIn s.heap → s.heap.FunFrames base l →
    (∀ e a0 h' tk, Heap.FlyingW base l e (.ref C) a0 h' → s.heap.UpToSlots h' → E (.ref e) { s with heap := h', toks := tk }) → wpAny (model X.prog X.w) A (call (.ref fa) vs) Q E s

/-- e raises (in a callee) -/
def EvX (X : Cx) (n : Nat) (sc : Scope) (ρ : Rho) (e : Expr) (C : Addr) : Prop :=
  ∀ (c : Fc) (M : Led) (A : Around) (E : Value → Shared → Prop) (s : Shared) (Q : Value → Shared → Prop) (base : Heap) (outer : List Env), At X sc c ρ M s.heap → Room A n →
    A.frames = some (c.env sc :: outer) → base.StaysIn s.heap → s.heap.FunFrames base (c.env sc :: outer) →
    (∀ e a0 h' tk, Heap.FlyingW base (c.env sc :: outer) e (.ref C) a0 h' → s.heap.UpToSlots h' → E (.ref e) { s with heap := h', toks := tk }) → wpAny (model X.prog X.w) A (eval e (c.env sc)) Q E s

/-- the statements raise -/
def ExX (X : Cx) (n : Nat) (sc : Scope) (ρ : Rho) (ss : List Stmt) (C : Addr) : Prop :=
  ∀ (c : Fc) (M : Led) (A : Around) (E : Value → Shared → Prop) (s : Shared) (Q : Flow → Shared → Prop) (base : Heap) (outer : List Env), At X sc c ρ M s.heap → Room A n →
    A.frames = some (c.env sc :: outer) → base.StaysIn c.h₀ → c.h₀.FunFrames base outer →
    (∀ e h' tk, Exc base (c.env sc) outer c.L e C h' → c.h₀.UpToSlots h' → E (.ref e) { s with heap := h', toks := tk }) → wpAny (model X.prog X.w) A (execs ss (c.env sc)) Q E s

section
variable {X : Cx} {n : Nat} {ρ ρ' : Rho} {sc : Scope} {rest : List Stmt} {C : Addr}
theorem funFrames_keeps {base h h' : Heap} {l : List Env} (f : h.FunFrames base l) (k : Keeps h h') : h'.FunFrames base l := f.of_keeps fun b o g _ => ⟨o, k b o g, rfl⟩
theorem At.frames {c : Fc} {M : Led} {h base : Heap} {outer : List Env} (nc : NC sc) (T : At X sc c ρ M h) (hb : base.StaysIn c.h₀) (hf : c.h₀.FunFrames base outer) : base.StaysIn h ∧ h.FunFrames base (c.env sc :: outer) := by
  refine ⟨fun b o g => T.st.fr.keep b o (hb b o g), by show sc.kind ≠ .module; rw [T.nm.fk]; decide, ?_, funFrames_keeps hf T.st.fr.keep⟩
  obtain ⟨o, es, ep, g, hd, _⟩ := T.st.fr.ns
  refine ⟨c.L, o, congrArg some (T.ce.fl nc), ?_, g, fun vs q => by rw [hd] at q; cases q⟩
  cases q : base.get? c.L with
  | none => rfl
  | some o' => exact absurd (Nat.lt_of_lt_of_le (Heap.lt_size (hb _ _ q)) T.st.fr.above) (Nat.lt_irrefl _)

theorem EvX.call {f : Str} {p pos : Pos} {e : Expr} {es : List Expr} {ds : List D} (he : EvL X n sc ρ (e :: es) ds) (hc : CallX X n f ds C) (hl : sc.names.lookup f = some .globalImplicit)
    (hd : (f == ("__debug__" : Str)) = false) (h1 : ∀ env, starEach (e :: es) env = (false, eval e env) :: starEach es env) : EvX X n sc ρ (.Call (.Name f p) (e :: es) [] pos) C := fun c M A E s Q base outer T rm hfr hb hf q => by
  obtain ⟨fd, hfd, rfl⟩ := List.mem_map.mp hc.1
  obtain ⟨fa, o, pm, code, doc, g1, g2, g3, g4⟩ := T.st.okh.fn fd hfd
  refine Call_ (ldX_global T.st.fr T.st.ok.g g1 ?_ T.nm.fk hl hd)
  refine callWith_def g3 (he c M pos A E s _ T rm fun vs h' tk M' i x r => ⟨x.keep _ _ g2, ?_⟩) (h1 _)
  exact hc.2 A E _ M' fa vs Q base _ (T.ext x i).st.okh i r rm g1 hfr (fun b o g => x.keep b o (hb b o g)) (funFrames_keeps hf x.keep) fun e a0 h2 tk2 y u => q e a0 h2 tk2 y ((Heap.UpToSlots.of_keeps x.keep).trans u)
theorem EvX.binR {l r : Expr} {op : Operator} {pos : Pos} {d : D} (hl : Ev X n sc ρ l d) (hr : EvX X n sc ρ r C) : EvX X n sc ρ (.BinOp l op r pos) C := fun c M A E s Q base outer T rm hfr hb hf q =>
  wpAny_BinOp (hl c M A E s _ T rm fun v h' tk M' i x _ => hr c M' A E _ _ base outer (T.ext x i) rm hfr (fun b o g => x.keep b o (hb b o g)) (funFrames_keeps hf x.keep) fun e a0 h2 tk2 y u => q e a0 h2 tk2 y ((Heap.UpToSlots.of_keeps x.keep).trans u))

theorem ExX.assign {x : Str} {p pos : Pos} {e : Expr} (he : EvX X n sc ρ e C) (hs : ∀ env, swapsWith e (some (.Name x p)) pos.line env = pure false) (nc : NC sc := by rfl) : ExX X n sc ρ (.Assign [.Name x p] e pos :: rest) C := fun c M A E s Q base outer T rm hfr hb hf q => by
  obtain ⟨k1, k2⟩ := T.frames nc hb hf
  exact wpAny_execs_cons (wpAny_Assign_Name (he c M A E s _ base outer T rm hfr k1 k2 fun e a0 h' tk y u => q e h' tk (.fly y) ((Heap.UpToSlots.of_keeps T.st.fr.keep).trans u)) (hs _))
theorem ExX.ret {e : Expr} {pos : Pos} (he : EvX X n sc ρ e C) (nc : NC sc := by rfl) : ExX X n sc ρ (.Return (some e) pos :: rest) C := fun c M A E s Q base outer T rm hfr hb hf q => by
  obtain ⟨k1, k2⟩ := T.frames nc hb hf
  exact wpAny_execs_cons (wpAny_Return_some (he c M A E s _ base outer T rm hfr k1 k2 fun e a0 h' tk y u => q e h' tk (.fly y) ((Heap.UpToSlots.of_keeps T.st.fr.keep).trans u)))
/-- statements that end as they should, then the raise -/
theorem ExX.then {ss : List Stmt} (h : ExS X n sc ρ ss fun fl ρ' => fl = .next ∧ ExX X n sc ρ' rest C) (k : ∀ env, execs (ss ++ rest) env = (do match ← execs ss env with | .next => execs rest env | f => pure f)) : ExX X n sc ρ (ss ++ rest) C := fun c M A E s Q base outer T rm hfr hb hf q => by
  rw [k]
  refine wpAny_bind (h c M A E s _ T rm fun f fl ρ1 m1 h1 tk1 M1 T1 l1 r1 p1 => ?_)
  obtain ⟨rfl, p1⟩ := p1
  cases f <;> first | exact r1.elim | skip
  exact p1 (c.at m1) M1 A E _ Q base outer T1 rm hfr hb hf q
/-- one statement, then the raise -/
theorem ExX.cons {st : Stmt} (h : ExS X n sc ρ [st] fun fl ρ' => fl = .next ∧ ExX X n sc ρ' rest C) : ExX X n sc ρ (st :: rest) C := by
  refine ExX.then (ss := [st]) h fun env => ?_
  show execs (st :: rest) env = _
  rw [execs_cons, execs_cons]
  simp only [execs_nil, bind_assoc]
  congr 1
  funext f
  cases f <;> simp
theorem ExX.sub (s : ∀ q ∈ ρ', q ∈ ρ) (h : ExX X n sc ρ' rest C) : ExX X n sc ρ rest C := fun c M A E s' Q base outer T rm => h c M A E s' Q base outer ⟨T.st, T.lo.sub s, ⟨T.nm.fk, fun q hq => T.nm.nm q (s q hq)⟩, T.ce.move (fun _ _ h => h) (LedLe.refl _) (fun _ _ _ h => h) (fun x d h => s _ h) T.ce.wc⟩ rm
/-- a test that holds, whose body raises -/
theorem ExX.ifTrue {test : Expr} {body orelse : List Stmt} {pos : Pos} (ht : Tr X n sc ρ test true) (h : ExX X n sc ρ body C) : ExX X n sc ρ (.If test body orelse pos :: rest) C := fun c M A E s Q base outer T rm hfr hb hf q =>
  wpAny_execs_cons (wpAny_If (ht c M A E s _ T rm fun v h1 tk1 M1 i1 x1 r1 => by
    subst r1
    exact h c M1 A E _ _ base outer (T.ext x1 i1) rm hfr hb hf q))
/-- raise X(e) -/
theorem ExX.raise {x : Str} {np cpos pos : Pos} {e : Expr} {d : D} (he : Ev X n sc ρ e d) (hO : ∀ h, X.Ok h → ExcCls x C X.mg h) (hl : sc.names.lookup x = some .globalImplicit) (hd : (x == ("__debug__" : Str)) = false)
    (h1 : ∀ env, starEach [e] env = (false, eval e env) :: starEach [] env) (nc : NC sc := by rfl) : ExX X n sc ρ (.Raise (some (.Call (.Name x np) [e] [] cpos)) none pos :: rest) C := fun c M A E s Q base outer T rm hfr hb hf q => by
  refine wpAny_execs_cons (raiseX T.st.fr T.st.ok.g (hO _ T.st.ok).own PySem.F.excBase_Exception rm.hh ?_ (h1 _) T.nm.fk hl hd)
  refine args_cons (he c M A E s _ T rm fun v h' tk M' i x r => args_nil ⟨by show 1 ≤ sizeLine; decide, (T.ext x i).st.fr.keep, fun h2 e2 m => ?_⟩) (h1 _)
  obtain ⟨k1, k2⟩ := (T.ext x i).frames nc hb hf
  exact q e2 h2 _ (.made k1 k2 m) ((Heap.UpToSlots.of_keeps (T.ext x i).st.fr.keep).trans (Heap.UpToSlots.of_keeps m.keeps))

/-- a loop whose first turn raises (in a callee) -/
theorem ExX.forList {x : Str} {px pos : Pos} {iter : Expr} {body : List Stmt} {d : D} {ds : List D} (hi' : Ev X n sc ρ iter (.list (d :: ds))) (dr : Drop x ρ ρ')
    (turn : ∀ (c : Fc) (M : Led) (A : Around) (E : Value → Shared → Prop) (s : Shared) (Q : Flow → Shared → Prop) (base : Heap) (outer : List Env), At X sc c ((x, .val d) :: ρ') M s.heap → Room A n →
      A.frames = some (c.env sc :: outer) → base.StaysIn s.heap → s.heap.FunFrames base (c.env sc :: outer) →
      (∀ e a0 h' tk, Heap.FlyingW base (c.env sc :: outer) e (.ref C) a0 h' → s.heap.UpToSlots h' → E (.ref e) { s with heap := h', toks := tk }) → wpAny (model X.prog X.w) A (execs body (c.env sc)) Q E s)
    (hl : sc.names.lookup x = some .local) (hd : (x == ("__debug__" : Str)) = false) (hs : ∀ env v, foldedSetIterable iter env v = pure v) (nc : NC sc := by rfl) : ExX X n sc ρ (.For (.Name x px) iter body [] pos :: rest) C := fun c M A E s Q base outer T rm hfr hb hf q => by
  refine wpAny_execs_cons (wpAny_For (hi' c M A E s _ T rm fun v h1 tk1 M1 i1 x1 hr => ?_) (hs _))
  have T1 := T.ext x1 i1
  cases hr with
  | list ha r hc =>
  rename_i l vs kk
  refine wpAny_pyIter_list (s := { s with heap := h1, toks := tk1 }) ⟨_, i1 _ _ ha, rfl, kk, rfl⟩ ?_
  have T2 := T1.watch (o := { cls := .type "list_iterator", data := .fields #[.ref l, .int 0 0] }) rfl
  have hW : ∀ q ∈ c.W, q.1 ≠ h1.objs.size := fun q hq => ne_size (T1.st.wd q hq).1
  have h00 : c.h₀.get? h1.objs.size = none := by
    cases e : c.h₀.get? h1.objs.size with
    | none => rfl
    | some o => exact absurd rfl (ne_size (T1.st.fr.keep _ _ e))
  refine codeAny_forLoop (fun k s' => s' = { s with heap := h1.push { cls := .type "list_iterator", data := .fields #[.ref l, .int 0 0] }, toks := tk1 }) ?_ 0 rfl
  rintro k s' rfl
  obtain ⟨v, hv, rv⟩ := r.get (k := 0) (d := d) rfl
  refine wpAny_pyNext_list_item ⟨_, Heap.get?_push_size _ rfl, rfl, rfl⟩ (Heap.IsList.push ⟨_, i1 _ _ ha, rfl, kk, rfl⟩ _) (by simpa using hv) fun h3 hit3 hs3 => ?_
  obtain ⟨o3, g3, _, hd3⟩ := id hit3
  have T3 := T2.turn hW h00 hs3 g3 fun v q => by rw [hd3] at q; cases q
  refine wpAny_assign_Name (wpAny_storeName_local hl T3.st.fr.ns (fun h4 hn hb4 => ?_) (storeOk T.nm.fk))
  have T4 := T3.store dr.dr hn hb4 rv hl hd
  obtain ⟨k1, k2⟩ := At.frames (c := Fc.at (Fc.ward c _) _) nc T4 hb hf
  refine turn (Fc.at (Fc.ward c _) _) M1 A _ _ _ base outer T4 rm hfr k1 k2 fun e a0 h' tk y u => ?_
  refine exc_loop (x := 0) (L := c.L) hfr (congrArg some (T.ce.fl nc)) y fun h'' z u' => ?_
  exact q e h'' tk (.held z) ((Heap.UpToSlots.of_keeps T4.st.fr.keep).trans (u.trans u'))
theorem ExX.forRange {x : Str} {px pos : Pos} {iter : Expr} {body : List Stmt} {lo hi : Int} (hi' : EvR X n sc ρ iter lo hi) (hlo : -(2 ^ 62) ≤ lo) (hlt : lo < hi) (hhi' : hi < 2 ^ 62) (dr : Drop x ρ ρ')
    (turn : ∀ (c : Fc) (M : Led) (A : Around) (E : Value → Shared → Prop) (s : Shared) (Q : Flow → Shared → Prop) (base : Heap) (outer : List Env), At X sc c ((x, .val (.int lo)) :: ρ') M s.heap → Room A n →
      A.frames = some (c.env sc :: outer) → base.StaysIn s.heap → s.heap.FunFrames base (c.env sc :: outer) →
      (∀ e a0 h' tk, Heap.FlyingW base (c.env sc :: outer) e (.ref C) a0 h' → s.heap.UpToSlots h' → E (.ref e) { s with heap := h', toks := tk }) → wpAny (model X.prog X.w) A (execs body (c.env sc)) Q E s)
    (hl : sc.names.lookup x = some .local) (hd : (x == ("__debug__" : Str)) = false) (hs : ∀ env v, foldedSetIterable iter env v = pure v) (nc : NC sc := by rfl) : ExX X n sc ρ (.For (.Name x px) iter body [] pos :: rest) C := fun c M A E s Q base outer T rm hfr hb hf q => by
  refine wpAny_execs_cons (wpAny_For (hi' c M A E s _ T rm fun r t u v h1 tk1 M1 i1 x1 hr => ?_) (hs _))
  have T1 := T.ext x1 i1
  refine wpAny_pyIter_range (s := { s with heap := h1, toks := tk1 }) hr (small_one hlo (by omega) (by omega) hhi') ?_
  have hN : 0 < Builtin.Range.rangeSize lo hi 1 := by rw [rangeSize_one, if_pos hlt]; omega
  have T2 := T1.watch (o := rangeIt lo (Builtin.Range.rangeSize lo hi 1) 1) rfl
  have hW : ∀ q ∈ c.W, q.1 ≠ h1.objs.size := fun q hq => ne_size (T1.st.wd q hq).1
  have h00 : c.h₀.get? h1.objs.size = none := by
    cases e : c.h₀.get? h1.objs.size with
    | none => rfl
    | some o => exact absurd rfl (ne_size (T1.st.fr.keep _ _ e))
  refine codeAny_forLoop (fun k s' => s' = { s with heap := h1.push (rangeIt lo (Builtin.Range.rangeSize lo hi 1) 1), toks := tk1 }) ?_ 0 rfl
  rintro k s' rfl
  refine wpAny_pyNext_range_item (rangeIt_is.mpr (Heap.get?_push_size _ rfl)) hN fun h3 hit3 hs3 => ?_
  have T3 := T2.turn hW h00 hs3 (rangeIt_is.mp hit3)
  refine wpAny_assign_Name (wpAny_storeName_local hl T3.st.fr.ns (fun h4 hn hb4 => ?_) (storeOk T.nm.fk))
  have T4 := T3.store dr.dr hn hb4 (.int _ _) hl hd
  obtain ⟨k1, k2⟩ := At.frames (c := Fc.at (Fc.ward c _) _) nc T4 hb hf
  refine turn (Fc.at (Fc.ward c _) _) M1 A _ _ _ base outer T4 rm hfr k1 k2 fun e a0 h' tk y u => ?_
  refine exc_loop (x := 0) (L := c.L) hfr (congrArg some (T.ce.fl nc)) y fun h'' z u' => ?_
  exact q e h'' tk (.held z) ((Heap.UpToSlots.of_keeps T4.st.fr.keep).trans (u.trans u'))
/-- a turn that is one assignment whose value raises -/
theorem turn_assign {x : Str} {p pos : Pos} {e : Expr} (he : EvX X n sc ρ e C) (hs : ∀ env, swapsWith e (some (.Name x p)) pos.line env = pure false) :
    ∀ (c : Fc) (M : Led) (A : Around) (E : Value → Shared → Prop) (s : Shared) (Q : Flow → Shared → Prop) (base : Heap) (outer : List Env), At X sc c ρ M s.heap → Room A n →
      A.frames = some (c.env sc :: outer) → base.StaysIn s.heap → s.heap.FunFrames base (c.env sc :: outer) →
      (∀ e a0 h' tk, Heap.FlyingW base (c.env sc :: outer) e (.ref C) a0 h' → s.heap.UpToSlots h' → E (.ref e) { s with heap := h', toks := tk }) → wpAny (model X.prog X.w) A (execs (.Assign [.Name x p] e pos :: rest) (c.env sc)) Q E s :=
  fun c M A E s Q base outer T rm hfr hb hf q => wpAny_execs_cons (wpAny_Assign_Name (he c M A E s _ base outer T rm hfr hb hf q) (hs _))

/-- a def that raises, by its body -/
theorem callX_of {fd : Fn} {xs : List Str} {ds : List D} (hfd : fd ∈ X.fns) (nd : xs.Nodup)
    (hb : ∀ pm cd doc vs, vs.length = ds.length → bindArgs (docDef fd.name fd.params fd.body fd.scope pm cd doc) ⟨vs, []⟩ = pure (xs.zip vs))
    (hloc : ∀ x ∈ xs, fd.scope.names.lookup x = some .local ∧ (x == ("__debug__" : Str)) = false)
    (body : ExX X n fd.scope (xs.zip (ds.map .val)) fd.body C)
    (hco : fd.scope.isCoroutine = false) (hgen : fd.scope.isGenerator = false) (hk : fd.scope.kind = .function) (hcell : ∀ x ∈ fd.scope.names, x.2 ≠ .cell) : CallX X (n + 1) fd.name ds C := by
  refine ⟨List.mem_map.mpr ⟨fd, hfd, rfl⟩, ?_⟩
  intro A E s M fa vs Q base l ok i r rm hfa hfr hbs hff q
  obtain ⟨fa', o, pm, code, doc, g1, g2, g3, g4⟩ := ok.fn fd hfd
  rw [hfa] at g1; cases g1
  have hu := rm.units
  have hdp := rm.depth
  refine wpAny_call (call_plain (by omega) g2 g3 ok.nolimit g4 (hb pm code doc vs r.length) (fun x hx => (hloc x.1 (List.of_mem_zip hx).1).1) (fun h1 F => ?_) hco hgen hk hcell)
  refine body ⟨s.heap, M, [], s.heap.objs.size, fun x => (xs.zip vs).reverse.lookup x, fd.name, some fa, code, [], s.heap.objs.size⟩ M _ _ _ _ base l ?_ ⟨rm.hh, ?_, ?_⟩ ?_ hbs hff fun e h' tk x u => ?_
  · refine ⟨⟨ok, F, i.keeps F.keep, i.size_none, LedLe.refl M, fun _ _ _ e => e, fun _ h => nomatch h⟩, ⟨fun x d' hx => ?_, fun x es hx => ?_, fun x y es es' b hx => ?_⟩, ⟨hk, nm_zip hloc⟩, Ce.none zip_nocel hcell rfl⟩
    · have hx' : (x, d') ∈ xs.zip ds := by
        rw [List.zip_map_right] at hx
        obtain ⟨p, hp, e⟩ := List.mem_map.mp hx
        obtain ⟨p1, p2⟩ := p
        cases e; exact hp
      obtain ⟨v, hv, rv⟩ := r.zip hx'
      exact ⟨v, lookup_zip_rev nd hv, rv⟩
    · rw [List.zip_map_right] at hx
      obtain ⟨p, hp, e⟩ := List.mem_map.mp hx
      cases e
    · rw [List.zip_map_right] at hx
      obtain ⟨p, hp, e⟩ := List.mem_map.mp hx
      cases e
  · show A.depth + 1 + n < recursionLimit; omega
  · show A.units + 3 + 8 * n + 200 < cLine; omega
  · show A.frames.map _ = _; rw [hfr]; rfl
  · refine exc_leaves (A := A.deeper _) (by show A.frames.map _ = _; rw [hfr]; rfl) rfl x fun a0 h'' y u' => ?_
    exact q e a0 h'' tk y (u.trans u')

variable {Φ : PF → Rho → Prop}
/-- try: a body that does not raise -/
theorem ExS.tryOk {body : List Stmt} {hd : ExceptHandler} {hs : List ExceptHandler} {pos : Pos} (h : ExS X n sc ρ body (Then X n sc rest Φ)) : ExS X n sc ρ (.Try body (hd :: hs) [] [] pos :: rest) Φ := .seq fun c M A E s Q T rm q => by
  refine wpAny_Try_except (h c M A _ s _ T rm fun f fl ρ1 m1 h1 tk1 M1 T1 l1 r1 p1 => ?_)
  cases f with
  | next => exact wpAny_execs_nil (q _ fl ρ1 m1 h1 tk1 M1 T1 l1 r1 p1)
  | brk => exact q _ fl ρ1 m1 h1 tk1 M1 T1 l1 r1 p1
  | cont => exact q _ fl ρ1 m1 h1 tk1 M1 T1 l1 r1 p1
  | ret v => exact q _ fl ρ1 m1 h1 tk1 M1 T1 l1 r1 p1

/-- all but the frame's own object stays, and that up to its slots -/
theorem At.stays {c : Fc} {M : Led} {h h' : Heap} (T : At X sc c ρ M h) (k : (PySem.W.hideAll h [c.L]).StaysIn h') (u : h.UpToSlots h') : At X sc c ρ M h' := by
  have kp : ∀ b o, b ≠ c.L → h.get? b = some o → h'.get? b = some o := fun b o hn g => k b o (PySem.W.hideAll_get _ g fun q => hn (List.mem_singleton.mp q))
  have nL : c.h₀.get? c.L = none := by
    cases q : c.h₀.get? c.L with
    | none => rfl
    | some o => exact absurd (Nat.lt_of_lt_of_le (Heap.lt_size q) T.st.fr.above) (Nat.lt_irrefl _)
  refine ⟨⟨T.st.ok, ⟨u.ns T.st.fr.ns, fun b o g => kp b o (fun q => by rw [q, nL] at g; cases g) (T.st.fr.keep b o g), T.st.fr.above⟩, fun a o g => kp a o (fun q => by rw [q, T.st.ml] at g; cases g) (T.st.inh a o g), T.st.ml, T.st.m0, T.st.mf, fun q hq => ⟨kp _ _ (T.st.wd q hq).2.1 (T.st.wd q hq).1, (T.st.wd q hq).2⟩⟩, ⟨T.lo.vals, fun y ds hy => ?_, T.lo.dist⟩, T.nm, T.ce.move (fun a v e => ?_) (LedLe.refl _) (fun _ _ _ h => h) (fun _ _ h => h) T.ce.wc⟩
  · obtain ⟨a, e, vs, k', g, r, hc, hM, aL, q⟩ := T.lo.owns y ds hy
    exact ⟨a, e, vs, k', kp a _ aL g, r, hc, hM, aL, q⟩
  · obtain ⟨o, ho, hd⟩ := e
    obtain ⟨o2, es, ep, g, hd2, _⟩ := T.st.fr.ns
    exact ⟨o, kp a o (fun q => by rw [q, g] at ho; cases ho; rw [hd2] at hd; cases hd) ho, hd⟩

/-- as ExS, where no frame lies below -/
def ExF (X : Cx) (n : Nat) (sc : Scope) (ρ : Rho) (ss : List Stmt) (Φ : PF → Rho → Prop) : Prop :=
  ∀ (c : Fc) (M : Led) (A : Around) (E : Value → Shared → Prop) (s : Shared) (Q : Flow → Shared → Prop), At X sc c ρ M s.heap → Room A n → A.frames = some [c.env sc] →
    (∀ f fl ρ' m' h' tk M', At X sc (c.at m') ρ' M' h' → LedLe M M' → FlowR M' f fl → Φ fl ρ' → Q f { s with heap := h', toks := tk }) →
    wpAny (model X.prog X.w) A (execs ss (c.env sc)) Q E s
theorem ExF.of {ss : List Stmt} (h : ExS X n sc ρ ss Φ) : ExF X n sc ρ ss Φ := fun c M A E s Q T rm _ q => h c M A E s Q T rm q
theorem ExF.cons {st : Stmt} (h : ExS X n sc ρ [st] fun fl ρ' => fl = .next ∧ ExF X n sc ρ' rest Φ) : ExF X n sc ρ (st :: rest) Φ := fun c M A E s Q T rm hfr q => by
  have h' := h c M A E s (fun f s' => match f with | .next => wpAny (model X.prog X.w) A (execs rest (c.env sc)) Q E s' | f => Q f s') T rm fun f fl ρ1 m1 h1 tk1 M1 T1 l1 r1 p1 => by
    obtain ⟨rfl, p1⟩ := p1
    cases f <;> first | exact r1.elim | skip
    exact p1 (c.at m1) M1 A E _ Q T1 rm hfr fun f fl ρ2 m2 h2 tk2 M2 T2 l2 r2 p2 => q f fl ρ2 m2 h2 tk2 M2 T2 (l1.trans l2) r2 p2
  have e : execs (st :: rest) (c.env sc) = (do match ← execs [st] (c.env sc) with | .next => execs rest (c.env sc) | f => pure f) := by
    rw [execs_cons, execs_cons]
    simp only [execs_nil, bind_assoc]
    congr 1
    funext f
    cases f <;> simp
  rw [e]
  refine wpAny_bind (wpAny_mono h' (fun f s' hq => ?_) fun _ _ h => h)
  cases f with
  | next => exact hq
  | brk => exact wpAny_pure hq
  | cont => exact wpAny_pure hq
  | ret v => exact wpAny_pure hq
/-- a contract for a call from the very caller -/
def CallTop (X : Cx) (n : Nat) (f : Str) (ds : List D) (d : D) : Prop :=
  ∀ (A : Around) (E : Value → Shared → Prop) (s : Shared) (M : Led) (fa : Addr) (vs : List Value) (Q : Value → Shared → Prop), A.frames = some [] → X.Ok s.heap → LedIn M s.heap → RpL M vs ds → Room A n → X.mg f = some (.ref fa) →
    (∀ v h' tk M', LedIn M' h' → Ext s.heap M h' M' → Rp M' v d → Q v { s with heap := h', toks := tk }) → wpAny (model X.prog X.w) A (call (.ref fa) vs) Q E s
theorem callTop_of {fd : Fn} {xs : List Str} {ds : List D} {d : D} (hfd : fd ∈ X.fns) (nd : xs.Nodup)
    (hb : ∀ pm cd doc vs, vs.length = ds.length → bindArgs (docDef fd.name fd.params fd.body fd.scope pm cd doc) ⟨vs, []⟩ = pure (xs.zip vs))
    (hloc : ∀ x ∈ xs, fd.scope.names.lookup x = some .local ∧ (x == ("__debug__" : Str)) = false)
    (body : ExF X n fd.scope (xs.zip (ds.map .val)) fd.body (fun fl _ => fl = .ret d))
    (hco : fd.scope.isCoroutine = false) (hgen : fd.scope.isGenerator = false) (hk : fd.scope.kind = .function) (hcell : ∀ x ∈ fd.scope.names, x.2 ≠ .cell) : CallTop X (n + 1) fd.name ds d := by
  intro A E s M fa vs Q hfr ok i r rm hfa q
  obtain ⟨fa', o, pm, code, doc, g1, g2, g3, g4⟩ := ok.fn fd hfd
  rw [hfa] at g1; cases g1
  have hu := rm.units
  have hdp := rm.depth
  refine wpAny_call (call_plain_ret (by omega) g2 g3 ok.nolimit g4 (hb pm code doc vs r.length) (fun x hx => (hloc x.1 (List.of_mem_zip hx).1).1) (fun h1 F => ?_) hco hgen hk hcell)
  refine body ⟨s.heap, M, [], s.heap.objs.size, fun x => (xs.zip vs).reverse.lookup x, fd.name, some fa, code, [], s.heap.objs.size⟩ M _ _ _ _ ?_ ⟨rm.hh, ?_, ?_⟩ ?_ fun f fl ρ2 m2 h2 tk2 M2 T2 l2 r2 p2 => ?_
  · refine ⟨⟨ok, F, i.keeps F.keep, i.size_none, LedLe.refl M, fun _ _ _ e => e, fun _ h => nomatch h⟩, ⟨fun x d' hx => ?_, fun x es hx => ?_, fun x y es es' b hx => ?_⟩, ⟨hk, nm_zip hloc⟩, Ce.none zip_nocel hcell rfl⟩
    · have hx' : (x, d') ∈ xs.zip ds := by
        rw [List.zip_map_right] at hx
        obtain ⟨p, hp, e⟩ := List.mem_map.mp hx
        obtain ⟨p1, p2⟩ := p
        cases e; exact hp
      obtain ⟨v, hv, rv⟩ := r.zip hx'
      exact ⟨v, lookup_zip_rev nd hv, rv⟩
    · rw [List.zip_map_right] at hx
      obtain ⟨p, hp, e⟩ := List.mem_map.mp hx
      cases e
    · rw [List.zip_map_right] at hx
      obtain ⟨p, hp, e⟩ := List.mem_map.mp hx
      cases e
  · show A.depth + 1 + n < recursionLimit; omega
  · show A.units + 3 + 8 * n + 200 < cLine; omega
  · show A.frames.map _ = _; rw [hfr]; rfl
  · have xt : Ext s.heap M h2 M2 := ⟨T2.st.fr.keep, T2.st.m0, T2.st.mf⟩
    subst p2
    cases f <;> first | exact r2.elim | skip
    exact q _ _ _ _ T2.st.inh xt r2

/-- try: the value of the one assignment raises, the clause takes it and stores a bool -/
theorem ExF.tryCaught {g y cls : Str} {e : Expr} {b : Bool} {kk : Nat} {p p' p'' np pos pos' hpos tpos : Pos} {hs : List ExceptHandler} (he : EvX X n sc ρ e C) (hO : ∀ h, X.Ok h → ExcCls cls C X.mg h) (dr : Drop y ρ ρ')
    (k : ExS X n sc ((y, .val (.bool b)) :: ρ') rest Φ) (hsw : ∀ env, swapsWith e (some (.Name g p)) pos.line env = pure false) (hcl : sc.names.lookup cls = some .globalImplicit) (hcd : (cls == ("__debug__" : Str)) = false)
    (hl : sc.names.lookup y = some .local) (hd : (y == ("__debug__" : Str)) = false) (nc : NC sc := by rfl) :
    ExF X n sc ρ (.Try [.Assign [.Name g p] e pos] (.ExceptHandler (some (.Name cls np)) none [.Assign [.Name y p'] (.Constant (.bool b) kk p'') pos'] hpos :: hs) [] [] tpos :: rest) Φ := fun c M A E s Q T rm hfr q => by
  have nL : (PySem.W.hideAll s.heap [c.L]).get? c.L = none := PySem.W.hideAll_none _ (List.mem_singleton.mpr rfl)
  have hbs : (PySem.W.hideAll s.heap [c.L]).StaysIn s.heap := fun a o g => PySem.W.of_hideAll _ g
  have hff : s.heap.FunFrames (PySem.W.hideAll s.heap [c.L]) [c.env sc] := by
    obtain ⟨o, es, ep, g, hd', _⟩ := T.st.fr.ns
    exact ⟨by show sc.kind ≠ .module; rw [T.nm.fk]; decide, ⟨c.L, o, congrArg some (T.ce.fl nc), nL, g, fun vs q => by rw [hd'] at q; cases q⟩, trivial⟩
  refine wpAny_execs_cons (wpAny_Try_except (wpAny_execs_cons (wpAny_Assign_Name (he c M A _ s _ _ [] T rm hfr hbs hff fun ee a0 h1 tk1 y1 u1 => ?_) (hsw _))))
  refine wpAny_looks_onW (s := { s with heap := h1, toks := tk1 }) hfr (congrArg some (T.ce.fl nc)) y1 fun h2 y2 u2 => ?_
  refine wpAny_landsW (s := { s with heap := h2, toks := tk1 }) y2 fun h3 y3 u3 => ?_
  have U3 := (u1.trans u2).trans u3
  have T3 := T.stays y3.1 U3
  have O3 := hO _ T3.st.okh
  refine handleBy_own (x := cls) (C := C) (mg := X.mg) (newId := "Exception.__new__") (bmB := [.type "Exception", .type "BaseException", .type "object"]) (by decide) ?_
  refine ldX_global (h₀ := c.h₀) (s := { s with heap := h3, toks := tk1 }) T3.st.fr T3.st.ok.g O3.bound ?_ T.nm.fk hcl hcd
  refine ⟨rfl, O3, y3.there, ?_⟩
  refine lands_againW (s := { s with heap := h3, toks := tk1 }) y3 fun h4 y4 u4 => ?_
  have T4 := T.stays y4.1 (U3.trans u4)
  refine wpAny_execs_cons (wpAny_Assign_Name (wpAny_Constant_bool (wpAny_storeName_local hl T4.st.fr.ns (fun h5 hn hb5 => ?_) (storeOk T.nm.fk))) rfl)
  have T5 := T4.store dr.dr hn hb5 (.bool b) hl hd
  refine wpAny_execs_nil ?_
  exact k (c.at fun y' => if y' = y then some (Value.bool b) else c.m y') M A E _ Q T5 rm q
end
end Mine

namespace Mine
open PySem PySem.Calls PyProof.Rows PySem.Spec

section
variable {X : Cx} {n : Nat} {ρ ρ' : Rho} {sc : Scope} {Φ : PF → Rho → Prop} {rest : List Stmt}

/-! cells -/
theorem At.storeC {c : Fc} {M : Led} {h h' : Heap} {x : Str} {a : Addr} {v : Value} {d : D} (T : At X sc c ρ M h) (nc : NC sc) (dr : Dr x ρ ρ') (ex : c.cl.lookup x = some a) (hv : h'.IsCell a (some v)) (hs : Heap.SameBut a h h') (r : Rp M v d) (hl : sc.names.lookup x = some .cell) (hd : (x == ("__debug__" : Str)) = false) :
    At X sc c ((x, .cel d) :: ρ') M h' := by
  obtain ⟨⟨v0, hv0⟩, hM⟩ := T.ce.cells x a ex
  obtain ⟨o, ho, hdo⟩ := id hv0
  have ab := T.ce.above x a ex
  rw [T.ce.fl nc] at ab
  have aL : a ≠ c.L := Nat.ne_of_gt ab
  have a0 : c.h₀.get? a = none := by
    cases q : c.h₀.get? a with
    | none => rfl
    | some o => exact absurd (Nat.lt_of_lt_of_le (Heap.lt_size q) T.st.fr.above) (Nat.lt_asymm ab)
  have notA : ∀ b o', h.get? b = some o' → (∀ v, o'.data ≠ .cell v) → b ≠ a := fun b o' g hn e => by
    rw [e, ho] at g; cases g; exact hn _ hdo
  refine ⟨⟨T.st.ok, ⟨T.st.fr.ns.sameBut hs (Ne.symm aL), fun b o e => (hs.2 b (fun e' => by rw [e', a0] at e; cases e)).trans (T.st.fr.keep b o e), T.st.fr.above⟩, fun b o e => (hs.2 b (fun e' => by rw [e', hM] at e; cases e)).trans (T.st.inh b o e), T.st.ml, T.st.m0, T.st.mf,
    fun q hq => ⟨(hs.2 _ (notA _ _ (T.st.wd q hq).1 (T.ce.wc q hq))).trans (T.st.wd q hq).1, (T.st.wd q hq).2⟩⟩, ⟨fun y d' hy => ?_, fun y es hy => ?_, fun y z es es' b hy hz ey ez => ?_⟩, T.nm.store dr hl hd, ⟨fun y b e => ?_, fun y d' hy => ?_, T.ce.inj, T.ce.above, T.ce.fl, T.ce.has, T.ce.wc⟩⟩
  · rcases List.mem_cons.mp hy with hy | hy
    · cases hy
    · exact T.lo.vals y d' (dr.sub _ hy)
  · rcases List.mem_cons.mp hy with hy | hy
    · cases hy
    · obtain ⟨b, e, vs2, k2, g2, q⟩ := T.lo.owns y es (dr.sub _ hy)
      exact ⟨b, e, vs2, k2, (hs.2 b (notA _ _ g2 fun v h => nomatch h)).trans g2, q⟩
  · rcases List.mem_cons.mp hy with hy | hy
    · cases hy
    · rcases List.mem_cons.mp hz with hz | hz
      · cases hz
      · exact T.lo.dist y z es es' b (dr.sub _ hy) (dr.sub _ hz) ey ez
  · obtain ⟨⟨v1, hv1⟩, hM1⟩ := T.ce.cells y b e
    refine ⟨?_, hM1⟩
    by_cases hb : b = a
    · rw [hb]; exact ⟨_, hv⟩
    · exact ⟨v1, hv1.sameBut hs hb⟩
  · rcases List.mem_cons.mp hy with hy | hy
    · cases hy; exact ⟨a, v, ex, hv, r⟩
    · obtain ⟨b, v1, e, hv1, r1⟩ := T.ce.cels y d' (dr.sub _ hy)
      refine ⟨b, v1, e, hv1.sameBut hs fun hb => ?_, r1⟩
      rw [hb] at e
      exact dr.not _ hy (T.ce.inj y x a e ex)
/-- x = e, x a cell -/
theorem ExS.assignC {x : Str} {p pos : Pos} {e : Expr} {d : D} (he : Ev X n sc ρ e d) (dr : Drop x ρ ρ') (h : ExS X n sc ((x, .cel d) :: ρ') rest Φ) (hl : sc.names.lookup x = some .cell) (hd : (x == ("__debug__" : Str)) = false)
    (hs : ∀ env, swapsWith e (some (.Name x p)) pos.line env = pure false) (nc : NC sc := by rfl) : ExS X n sc ρ (.Assign [.Name x p] e pos :: rest) Φ := .seq fun c M A E s Q T rm q =>
  wpAny_Assign_Name (he c M A E s _ T rm fun v h1 tk1 M1 i1 x1 r1 => by
    have T1 := T.ext x1 i1
    obtain ⟨a, ea⟩ := Option.isSome_iff_exists.mp (T1.ce.has nc x hl)
    obtain ⟨⟨v0, hv0⟩, _⟩ := T1.ce.cells x a ea
    exact wpAny_storeName_cell (s := { s with heap := h1, toks := tk1 }) T.nm.fk hl ea hv0 fun h2 hv hb => q .next .next _ c.m h2 _ M1 (T1.storeC nc dr.dr ea hv hb r1 hl hd) x1.le trivial h) (hs _)

theorem bindL_get {kindOf : Str → Option NameKind} : ∀ {bs : List (Str × Value)} {m : Str → Option Value} {x : Str} {v : Value}, (bs.map (·.1)).Nodup → (x, v) ∈ bs → kindOf x = some .local → bindL kindOf bs m x = some v := by
  have out : ∀ {bs : List (Str × Value)} {m : Str → Option Value} {x : Str}, x ∉ bs.map (·.1) → bindL kindOf bs m x = m x := by
    intro bs
    induction bs with
    | nil => intro m x _; rfl
    | cons p bs ih =>
      intro m x hx
      obtain ⟨y, w⟩ := p
      simp only [List.map_cons, List.mem_cons, not_or] at hx
      show bindL kindOf bs _ x = m x
      rw [ih hx.2]
      split
      · simp [hx.1]
      · rfl
  intro bs
  induction bs with
  | nil => intro m x v _ h; cases h
  | cons p bs ih =>
    intro m x v nd h hk
    obtain ⟨y, w⟩ := p
    rw [List.map_cons, List.nodup_cons] at nd
    show bindL kindOf bs _ x = some v
    rcases List.mem_cons.mp h with h | h
    · cases h
      rw [out nd.1, if_pos hk]; simp
    · exact ih nd.2 h hk
theorem bindC_get {kindOf : Str → Option NameKind} : ∀ {bs : List (Str × Value)} {m : Str → Option Value} {x : Str} {v : Value}, (bs.map (·.1)).Nodup → (x, v) ∈ bs → kindOf x = some .cell → bindC kindOf bs m x = some v := by
  have out : ∀ {bs : List (Str × Value)} {m : Str → Option Value} {x : Str}, x ∉ bs.map (·.1) → bindC kindOf bs m x = m x := by
    intro bs
    induction bs with
    | nil => intro m x _; rfl
    | cons p bs ih =>
      intro m x hx
      obtain ⟨y, w⟩ := p
      simp only [List.map_cons, List.mem_cons, not_or] at hx
      show bindC kindOf bs _ x = m x
      rw [ih hx.2]
      split
      · rfl
      · simp [hx.1]
  intro bs
  induction bs with
  | nil => intro m x v _ h; cases h
  | cons p bs ih =>
    intro m x v nd h hk
    obtain ⟨y, w⟩ := p
    rw [List.map_cons, List.nodup_cons] at nd
    show bindC kindOf bs _ x = some v
    rcases List.mem_cons.mp h with h | h
    · cases h
      rw [out nd.1, if_neg (by rw [hk]; decide)]; simp
    · exact ih nd.2 h hk

def mkB : NameKind → D → B
  | .cell, d => .cel d
  | _, d => .val d
/-- the parameters as the frame knows them -/
def parR : List Str → List NameKind → List D → Rho
  | x :: xs, k :: ks, d :: ds => (x, mkB k d) :: parR xs ks ds
  | _, _, _ => []
theorem parR_mem : ∀ {xs : List Str} {ks : List NameKind} {ds : List D} {q : Str × B}, q ∈ parR xs ks ds → ∃ k d, q.2 = mkB k d ∧ (q.1, k) ∈ xs.zip ks ∧ (q.1, d) ∈ xs.zip ds
  | x :: xs, k :: ks, d :: ds, q, h => by
    rcases List.mem_cons.mp h with rfl | h
    · exact ⟨k, d, rfl, List.mem_cons_self, List.mem_cons_self⟩
    · obtain ⟨k', d', e, h1, h2⟩ := parR_mem h
      exact ⟨k', d', e, List.mem_cons_of_mem _ h1, List.mem_cons_of_mem _ h2⟩
  | [], _, _, _, h => by simp [parR] at h
  | _ :: _, [], _, _, h => by simp [parR] at h
  | _ :: _, _ :: _, [], _, h => by simp [parR] at h
theorem zip_keys {α : Type} : ∀ (xs : List Str) (vs : List α), (xs.zip vs).map (·.1) = xs.take vs.length
  | [], _ => by simp
  | _ :: _, [] => by simp
  | x :: xs, v :: vs => by simp [zip_keys xs vs]
/-- what the frame of a def with cells knows at first -/
theorem At.enter {fd : Fn} {s : Shared} {M : Led} {fa : Addr} {code : Value} {xs : List Str} {ks : List NameKind} {vs : List Value} {ds : List D} {h1 : Heap} (ok : X.Ok s.heap) (i : LedIn M s.heap) (r : RpL M vs ds) (nd : xs.Nodup)
    (hk : fd.scope.kind = .function) (hloc : ∀ q ∈ xs.zip ks, fd.scope.names.lookup q.1 = some q.2 ∧ (q.2 = .local ∨ q.2 = .cell) ∧ (q.1 == ("__debug__" : Str)) = false)
    (F : Fr s.heap s.heap.objs.size h1 (bindL (envOfC fd.name fd.scope s.heap.objs.size fa code).kindOf (xs.zip vs) fun _ => none))
    (C : Cl s.heap.objs.size (cellsFrom (s.heap.objs.size + 1) fd.scope.names []) h1 (bindC (envOfC fd.name fd.scope s.heap.objs.size fa code).kindOf (xs.zip vs) fun _ => none)) :
    At X fd.scope ⟨s.heap, M, [], s.heap.objs.size, bindL (envOfC fd.name fd.scope s.heap.objs.size fa code).kindOf (xs.zip vs) fun _ => none, fd.name, some fa, code, cellsFrom (s.heap.objs.size + 1) fd.scope.names [], s.heap.objs.size⟩ (parR xs ks ds) M h1 := by
  have ndv : ((xs.zip vs).map (·.1)).Nodup := by rw [zip_keys]; exact nd.sublist (List.take_sublist _ _)
  have kd : ∀ q ∈ parR xs ks ds, ∃ k d, q.2 = mkB k d ∧ (q.1, k) ∈ xs.zip ks ∧ (q.1, d) ∈ xs.zip ds ∧ fd.scope.names.lookup q.1 = some k ∧ (k = .local ∨ k = .cell) ∧ (q.1 == ("__debug__" : Str)) = false := fun q hq => by
    obtain ⟨k, d, e, a, b⟩ := parR_mem hq
    obtain ⟨c1, c2, c3⟩ := hloc _ a
    exact ⟨k, d, e, a, b, c1, c2, c3⟩
  refine ⟨⟨ok, F, i.keeps F.keep, i.size_none, LedLe.refl M, fun _ _ _ e => e, fun _ h => nomatch h⟩, ⟨fun x d' hx => ?_, fun x es hx => ?_, fun x y es es' b hx => ?_⟩, ⟨hk, fun q hq => ?_⟩, ⟨fun x a e => ⟨⟨_, C.cell x a e⟩, ?_⟩, fun x d' hx => ?_, fun x y a ex ey => ?_, fun x a e => C.above x a (mem_of_lookup e), fun _ => rfl, fun _ x e => PySem.W.cellsFrom_some _ _ _ (.inl e), fun _ h => nomatch h⟩⟩
  · obtain ⟨k, d, e, a, b, c1, c2, c3⟩ := kd _ hx
    rcases c2 with rfl | rfl
    · cases e
      obtain ⟨v, hv, rv⟩ := r.zip b
      exact ⟨v, bindL_get ndv hv c1, rv⟩
    · cases e
  · obtain ⟨k, d, e, a, b, c1, c2, c3⟩ := kd _ hx
    rcases c2 with rfl | rfl <;> cases e
  · obtain ⟨k, d, e, a, b, c1, c2, c3⟩ := kd _ hx
    rcases c2 with rfl | rfl <;> cases e
  · obtain ⟨k, d, e, a, b, c1, c2, c3⟩ := kd _ hq
    refine ⟨?_, c3⟩
    rw [c1, e]
    rcases c2 with rfl | rfl <;> rfl
  · cases q : M a with
    | none => rfl
    | some o => exact absurd (Heap.lt_size (i a o q)) (Nat.lt_asymm (C.above x a (mem_of_lookup e)))
  · obtain ⟨k, d, e, a, b, c1, c2, c3⟩ := kd _ hx
    rcases c2 with rfl | rfl
    · cases e
    · cases e
      obtain ⟨v, hv, rv⟩ := r.zip b
      obtain ⟨ca, hca⟩ := Option.isSome_iff_exists.mp (PySem.W.cellsFrom_some fd.scope.names (s.heap.objs.size + 1) [] (.inl c1))
      exact ⟨ca, v, hca, by have := C.cell x ca hca; rwa [bindC_get (kindOf := (envOfC fd.name fd.scope s.heap.objs.size fa code).kindOf) ndv hv c1] at this, rv⟩
  · exact name_of_addr C.apart (mem_of_lookup ex) (mem_of_lookup ey)

/-- the frame's kind of parameters, for the entry -/
theorem hkind_of {sc : Scope} {xs : List Str} {ks : List NameKind} {vs : List Value} {k : Nat} (hlen : xs.length = ks.length) (hloc : ∀ q ∈ xs.zip ks, sc.names.lookup q.1 = some q.2 ∧ (q.2 = .local ∨ q.2 = .cell) ∧ (q.1 == ("__debug__" : Str)) = false)
    : ∀ x ∈ xs.zip vs, sc.names.lookup x.1 = some .local ∨ (sc.names.lookup x.1 = some .cell ∧ ((cellsFrom k sc.names []).lookup x.1).isSome = true) := fun x hx => by
  have hm := (List.of_mem_zip hx).1
  obtain ⟨j, hj, e⟩ := List.getElem_of_mem hm
  have : (x.1, ks[j]'(by omega)) ∈ xs.zip ks := by
    rw [← e]
    have := List.getElem_mem (l := xs.zip ks) (n := j) (by rw [List.length_zip]; omega)
    rwa [List.getElem_zip] at this
  obtain ⟨h1, h2, h3⟩ := hloc _ this
  rcases h2 with h2 | h2
  · left; rw [h1]; exact congrArg some h2
  · right; exact ⟨by rw [h1]; exact congrArg some h2, PySem.W.cellsFrom_some _ _ _ (.inl (by rw [h1]; exact congrArg some h2))⟩

/-- a def's contract, its frame with cells -/
theorem callOk_cells {fd : Fn} {xs : List Str} (ks : List NameKind) {ds : List D} {d : D} (hfd : fd ∈ X.fns) (nd : xs.Nodup) (hlen : xs.length = ks.length)
    (hb : ∀ pm cd doc vs, vs.length = ds.length → bindArgs (docDef fd.name fd.params fd.body fd.scope pm cd doc) ⟨vs, []⟩ = pure (xs.zip vs))
    (hloc : ∀ q ∈ xs.zip ks, fd.scope.names.lookup q.1 = some q.2 ∧ (q.2 = .local ∨ q.2 = .cell) ∧ (q.1 == ("__debug__" : Str)) = false)
    (body : ExS X n fd.scope (parR xs ks ds) fd.body (fun fl _ => fl = .ret d ∨ (fl = .next ∧ d = .none)))
    (hco : fd.scope.isCoroutine = false) (hgen : fd.scope.isGenerator = false) (hk : fd.scope.kind = .function) : CallOk X (n + 1) fd.name ds d := by
  refine ⟨List.mem_map.mpr ⟨fd, hfd, rfl⟩, ?_⟩
  intro A E s M fa vs Q ok i r rm hfa q
  obtain ⟨fa', o, pm, code, doc, g1, g2, g3, g4⟩ := ok.fn fd hfd
  rw [hfa] at g1; cases g1
  have hu := rm.units
  have hdp := rm.depth
  refine wpAny_call (call_cells_ret (by omega) g2 g3 ok.nolimit g4 (hb pm code doc vs r.length) (hkind_of hlen hloc) (fun h1 tk F C => ?_) hco hgen hk)
  refine body ⟨s.heap, M, [], s.heap.objs.size, bindL (envOfC fd.name fd.scope s.heap.objs.size fa code).kindOf (xs.zip vs) fun _ => none, fd.name, some fa, code, cellsFrom (s.heap.objs.size + 1) fd.scope.names [], s.heap.objs.size⟩ M _ _ _ _ (At.enter ok i r nd hk hloc F C) ⟨rm.hh, ?_, ?_⟩ fun f fl ρ2 m2 h2 tk2 M2 T2 l2 r2 p2 => ?_
  · show A.depth + 1 + n < recursionLimit; omega
  · show A.units + 3 + 8 * n + 200 < cLine; omega
  · have xt : Ext s.heap M h2 M2 := ⟨T2.st.fr.keep, T2.st.m0, T2.st.mf⟩
    rcases p2 with rfl | ⟨rfl, rfl⟩
    · cases f <;> first | exact r2.elim | skip
      exact q _ _ _ _ T2.st.inh xt r2
    · cases f <;> first | exact r2.elim | skip
      exact q _ _ _ _ T2.st.inh xt .none
theorem callTop_cells {fd : Fn} {xs : List Str} (ks : List NameKind) {ds : List D} {d : D} (hfd : fd ∈ X.fns) (nd : xs.Nodup) (hlen : xs.length = ks.length)
    (hb : ∀ pm cd doc vs, vs.length = ds.length → bindArgs (docDef fd.name fd.params fd.body fd.scope pm cd doc) ⟨vs, []⟩ = pure (xs.zip vs))
    (hloc : ∀ q ∈ xs.zip ks, fd.scope.names.lookup q.1 = some q.2 ∧ (q.2 = .local ∨ q.2 = .cell) ∧ (q.1 == ("__debug__" : Str)) = false)
    (body : ExF X n fd.scope (parR xs ks ds) fd.body (fun fl _ => fl = .ret d))
    (hco : fd.scope.isCoroutine = false) (hgen : fd.scope.isGenerator = false) (hk : fd.scope.kind = .function) : CallTop X (n + 1) fd.name ds d := by
  intro A E s M fa vs Q hfr ok i r rm hfa q
  obtain ⟨fa', o, pm, code, doc, g1, g2, g3, g4⟩ := ok.fn fd hfd
  rw [hfa] at g1; cases g1
  have hu := rm.units
  have hdp := rm.depth
  refine wpAny_call (call_cells_ret (by omega) g2 g3 ok.nolimit g4 (hb pm code doc vs r.length) (hkind_of hlen hloc) (fun h1 tk F C => ?_) hco hgen hk)
  refine body ⟨s.heap, M, [], s.heap.objs.size, bindL (envOfC fd.name fd.scope s.heap.objs.size fa code).kindOf (xs.zip vs) fun _ => none, fd.name, some fa, code, cellsFrom (s.heap.objs.size + 1) fd.scope.names [], s.heap.objs.size⟩ M _ _ _ _ (At.enter ok i r nd hk hloc F C) ⟨rm.hh, ?_, ?_⟩ ?_ fun f fl ρ2 m2 h2 tk2 M2 T2 l2 r2 p2 => ?_
  · show A.depth + 1 + n < recursionLimit; omega
  · show A.units + 3 + 8 * n + 200 < cLine; omega
  · show A.frames.map _ = _; rw [hfr]; rfl
  · have xt : Ext s.heap M h2 M2 := ⟨T2.st.fr.keep, T2.st.m0, T2.st.mf⟩
    subst p2
    cases f <;> first | exact r2.elim | skip
    exact q _ _ _ _ T2.st.inh xt r2
end
end Mine

namespace Mine
open PySem PySem.Calls PyProof.Rows PySem.Spec

/-! comprehensions -/
/-- the scope of a comprehension in a def of scope sc -/
def relS (scope sc : Scope) : Scope := { scope with names := scope.names.map fun (n, k) => if (k == .free && sc.kind == .function && sc.names.lookup n == some .cell) then (n, .cell) else (n, k) }
theorem relS_eq {scope sc : Scope} (c : Fc) : relabel scope (c.env sc) = relS scope sc := rfl
theorem closure_ok {scope : Scope} {env : Env} (h : ∀ q ∈ scope.names, q.2 = .free → ∃ a, env.cells.lookup q.1 = some a) :
    ∃ cl, closureFor scope env = pure cl ∧ (∀ y a, cl.lookup y = some a → env.cells.lookup y = some a) ∧ ∀ y, (y, NameKind.free) ∈ scope.names → cl.lookup y = env.cells.lookup y := by
  have key : ∀ (f : Str × NameKind → List (Str × Addr) → Sem (ForInStep (List (Str × Addr)))) (hf : ∀ y k acc, f (y, k) acc = if k == .free then (do let a ← cellOf env y; pure (.yield ((y, a) :: acc))) else pure (.yield acc))
      (names : List (Str × NameKind)) (acc : List (Str × Addr)), (∀ q ∈ names, q.2 = .free → ∃ a, env.cells.lookup q.1 = some a) → (∀ y a, acc.lookup y = some a → env.cells.lookup y = some a) →
      ∃ cl, forIn names acc f = pure cl ∧ (∀ y a, cl.lookup y = some a → env.cells.lookup y = some a) ∧ ∀ y, (y, NameKind.free) ∈ names ∨ (acc.lookup y).isSome = true → cl.lookup y = env.cells.lookup y := by
    intro f hf names
    induction names with
    | nil =>
      intro acc _ ha
      refine ⟨acc, List.forIn_nil, ha, fun y hy => ?_⟩
      rcases hy with hy | hy
      · cases hy
      · obtain ⟨a, e⟩ := Option.isSome_iff_exists.mp hy
        rw [e, ha y a e]
    | cons p names ih =>
      intro acc hn ha
      obtain ⟨y, k⟩ := p
      rw [List.forIn_cons, hf]
      by_cases hk : (k == .free) = true
      · have hk' : k = .free := eq_of_beq hk
        obtain ⟨a, ea⟩ := hn (y, k) List.mem_cons_self hk'
        rw [if_pos hk]
        have e1 : cellOf env y = pure a := by unfold cellOf; rw [ea]
        obtain ⟨cl, e2, e3, e4⟩ := ih ((y, a) :: acc) (fun q hq => hn q (List.mem_cons_of_mem _ hq)) fun z b hz => by
          rw [List.lookup_cons] at hz
          by_cases hzy : (z == y) = true
          · rw [hzy] at hz; cases hz; rw [eq_of_beq hzy]; exact ea
          · rw [Bool.not_eq_true] at hzy; rw [hzy] at hz; exact ha z b hz
        refine ⟨cl, by rw [e1]; simpa using e2, e3, fun z hz => e4 z ?_⟩
        by_cases hzy : (z == y) = true
        · right; rw [List.lookup_cons, hzy]; rfl
        · have hzy' : (z == y) = false := by simpa using hzy
          rcases hz with hz | hz
          · rcases List.mem_cons.mp hz with hz | hz
            · cases hz; simp at hzy'
            · exact .inl hz
          · right; rw [List.lookup_cons, hzy']; exact hz
      · rw [if_neg hk]
        obtain ⟨cl, e2, e3, e4⟩ := ih acc (fun q hq => hn q (List.mem_cons_of_mem _ hq)) ha
        refine ⟨cl, by simpa using e2, e3, fun z hz => e4 z ?_⟩
        rcases hz with hz | hz
        · rcases List.mem_cons.mp hz with hz | hz
          · cases hz; simp at hk
          · exact .inl hz
        · exact .inr hz
  have e : closureFor scope env = forIn scope.names ([] : List (Str × Addr)) (fun p acc => if p.2 == .free then (do let a ← cellOf env p.1; pure (.yield ((p.1, a) :: acc))) else pure (.yield acc)) := by
    simp only [closureFor, bind_pure]
  obtain ⟨cl, e1, e2, e3⟩ := key (fun p acc => if p.2 == .free then (do let a ← cellOf env p.1; pure (.yield ((p.1, a) :: acc))) else pure (.yield acc)) (fun y k acc => rfl) scope.names [] h (fun _ _ e => (nomatch e))
  exact ⟨cl, e.trans e1, e2, fun y hy => e3 y (.inl hy)⟩

section
variable {X : Cx} {n : Nat} {ρ ρ' : Rho} {sc scope : Scope} {Φ : PF → Rho → Prop} {rest : List Stmt}
/-- the cells that a comprehension reads -/
def celR (cs : List (Str × D)) : Rho := cs.map fun p => (p.1, B.cel p.2)
/-- what is to be known of a comprehension's scope, by computation -/
abbrev CompOk (scope sc : Scope) (x : Str) (ys : List Str) : Prop :=
  scope.kind = .function ∧ scope.names.lookup (Str.ofString ".0") = some .local ∧ scope.names.lookup x = some .local ∧ (x == ("__debug__" : Str)) = false ∧ (relS scope sc).names.lookup x = some .local ∧ (relS scope sc).names.lookup (Str.ofString ".0") = some .local ∧
  (∀ y ∈ ys, (relS scope sc).names.lookup y = some .cell ∧ (y == ("__debug__" : Str)) = false ∧ (y, NameKind.free) ∈ scope.names) ∧ (∀ q ∈ scope.names, q.2 = .free → q.1 ∈ ys) ∧ (∀ q ∈ scope.names, q.2 ≠ .cell) ∧ (∀ q ∈ scope.names, q.2 = .local → scope.names.lookup q.1 = some .local)

theorem At.comp {c : Fc} {M : Led} {h h' : Heap} {C : Addr} {m : Str → Option Value} {x : Str} {v : Value} {d : D} {cs : List (Str × D)} {ys : List Str} {cl : List (Str × Addr)} (T : At X sc c ρ M h) (ok : CompOk scope sc x ys) (hcs : cs.map (·.1) = ys) (hsub : ∀ q ∈ celR cs, q ∈ ρ)
    (h1 : ∀ y a, cl.lookup y = some a → c.cl.lookup y = some a) (h2 : ∀ y, (y, NameKind.free) ∈ scope.names → cl.lookup y = c.cl.lookup y)
    (hC : h.objs.size ≤ C) (hn : h'.Ns C m) (hm : m x = some v) (r : Rp M v d) (kp : Keeps h h') :
    At X (relS scope sc) ⟨h, M, [], C, m, c.name, none, c.cd, cl, c.fl⟩ ((x, .val d) :: celR cs) M h' := by
  obtain ⟨k1, k2, k3, k4, k5, k6, k7, k8, k9, _⟩ := ok
  have cel : ∀ q ∈ celR cs, ∃ d', q.2 = .cel d' ∧ q.1 ∈ ys := fun q hq => by
    obtain ⟨p, hp, rfl⟩ := List.mem_map.mp hq
    exact ⟨p.2, rfl, hcs ▸ List.mem_map.mpr ⟨p, hp, rfl⟩⟩
  have hMC : M C = none := by
    cases e : M C with
    | none => rfl
    | some o => exact absurd (Heap.lt_size (T.st.inh _ _ e)) (Nat.not_lt.mpr hC)
  refine ⟨⟨T.st.okh, ⟨hn, kp, hC⟩, T.st.inh.keeps kp, hMC, LedLe.refl _, fun _ _ _ e => e, fun _ h => nomatch h⟩, ⟨fun y d' hy => ?_, fun y es hy => ?_, fun y z es es' b hy => ?_⟩, ⟨k1, fun q hq => ?_⟩, ⟨fun y a e => ?_, fun y d' hy => ?_, fun y z a e1 e2 => T.ce.inj y z a (h1 y a e1) (h1 z a e2), fun y a e => T.ce.above y a (h1 y a e), fun e => ?_, fun e => ?_, fun _ h => nomatch h⟩⟩
  · rcases List.mem_cons.mp hy with hy | hy
    · cases hy; exact ⟨v, hm, r⟩
    · obtain ⟨_, e, _⟩ := cel _ hy; cases e
  · rcases List.mem_cons.mp hy with hy | hy
    · cases hy
    · obtain ⟨_, e, _⟩ := cel _ hy; cases e
  · rcases List.mem_cons.mp hy with hy | hy
    · cases hy
    · obtain ⟨_, e, _⟩ := cel _ hy; cases e
  · rcases List.mem_cons.mp hq with rfl | hq
    · exact ⟨k5, k4⟩
    · obtain ⟨d', e, hy⟩ := cel _ hq
      rw [e]
      exact ⟨(k7 _ hy).1, (k7 _ hy).2.1⟩
  · obtain ⟨⟨v', hv'⟩, hM⟩ := T.ce.cells y a (h1 y a e)
    exact ⟨⟨v', hv'.keeps kp⟩, hM⟩
  · rcases List.mem_cons.mp hy with hy | hy
    · cases hy
    · obtain ⟨_, e, hys⟩ := cel _ hy
      cases e
      obtain ⟨a, v', e1, e2, e3⟩ := T.ce.cels y d' (hsub _ hy)
      exact ⟨a, v', by rw [h2 y (k7 y hys).2.2]; exact e1, e2.keeps kp, e3⟩
  · rw [k6] at e; cases e
  · rw [k6] at e; cases e

/-- the tests of a comprehension -/
def Ifs (X : Cx) (n : Nat) (sc : Scope) (ρ : Rho) (ifs : List Expr) (b : Bool) : Prop := ∀ c M, WpM X n sc c ρ M (forIn ifs true fun e r => if r = true then do let ok ← isTrue e (c.env sc) (eval e (c.env sc)); pure (ForInStep.yield ok) else pure (ForInStep.yield r)) (fun _ v => v = b)
theorem Ifs.nil : Ifs X n sc ρ [] true := fun c M => .here fun A E s Q T rm q => by rw [List.forIn_nil]; exact wpAny_pure (q _ s.toks rfl)
theorem Ifs.one {e : Expr} {b : Bool} (h : Tr X n sc ρ e b) : Ifs X n sc ρ [e] b := fun c M A E s Q T rm q => by
  rw [List.forIn_cons]
  simp only [if_true]
  refine wpAny_bind (wpAny_bind (h c M A E s _ T rm fun v h' tk M' i x r => ?_))
  refine wpAny_pure ?_
  dsimp only
  rw [List.forIn_nil]
  exact wpAny_pure (q v h' tk M' i x r)

/-- data that lie in no object -/
def Flat : D → Prop
  | .list _ => False
  | .tup _ => False
  | _ => True
theorem Flat.rp {d : D} (h : Flat d) {M M' : Led} {v : Value} (r : Rp M v d) : Rp M' v d := by
  cases r <;> first | exact h.elim | constructor

/-- the ints from lo on -/
def rngI : Int → Nat → List Int
  | _, 0 => []
  | lo, k + 1 => lo :: rngI (lo + 1) k
theorem rngI_length : ∀ (lo : Int) (k : Nat), (rngI lo k).length = k
  | _, 0 => rfl
  | lo, k + 1 => by simp [rngI, rngI_length (lo + 1) k]
theorem paired_ints {F : Value → Value → Prop} {M : Led} {p : Int → Bool} {f : Int → D} {P : Value → Bool} (hp : ∀ i t, P (.int i t) = p i) (hF : ∀ i t y, F (.int i t) y → Rp M y (f i)) :
    ∀ (vs : List Value) (lo : Int) (ys : List Value), (∀ (j : Nat) v, vs[j]? = some v → ∃ t, v = .int (lo + j) t) → Paired F (vs.filter P) ys → RpL M ys (((rngI lo vs.length).filter p).map f) := by
  intro vs
  induction vs with
  | nil => intro lo ys _ h; simp at h; cases h; exact .nil
  | cons v vs ih =>
    intro lo ys hv h
    obtain ⟨t, e⟩ := hv 0 v rfl
    have e' : v = .int lo t := by rw [e]; simp
    have hv' : ∀ (j : Nat) w, vs[j]? = some w → ∃ t, w = .int (lo + 1 + j) t := fun j w hw => by
      obtain ⟨t, e⟩ := hv (j + 1) w (by simpa using hw)
      exact ⟨t, by rw [e]; congr 1; push_cast; omega⟩
    show RpL M ys (((lo :: rngI (lo + 1) vs.length).filter p).map f)
    rw [List.filter_cons] at h ⊢
    rw [e', hp] at h
    by_cases hl : p lo = true
    · rw [if_pos hl] at h ⊢
      cases h with
      | cons h1 h2 => exact .cons (hF _ _ _ h1) (ih _ _ hv' h2)
    · rw [if_neg hl] at h ⊢
      exact ih _ _ hv' h

/-- [elt for x in range(..) if ..], with flat data -/
theorem EvN.compRange {elt iter : Expr} {x : Str} {px pos : Pos} {ifs : List Expr} {lo hi : Int} {p : Int → Bool} {f : Int → D} (cs : List (Str × D)) (ys : List Str) (hr : EvR X n sc ρ iter lo hi) (hlo : -(2 ^ 62) ≤ lo) (hlo' : lo < 2 ^ 62) (hhi : -(2 ^ 62) ≤ hi) (hhi' : hi < 2 ^ 62) (hcap : (hi - lo).toNat ≤ cap)
    (ok : CompOk scope sc x ys) (hcs : cs.map (·.1) = ys) (hsub : ∀ q ∈ celR cs, q ∈ ρ)
    (hi' : ∀ i, lo ≤ i → i < hi → Ifs X n (relS scope sc) ((x, .val (.int i)) :: celR cs) ifs (p i)) (he : ∀ i, lo ≤ i → i < hi → p i = true → Ev X n (relS scope sc) ((x, .val (.int i)) :: celR cs) elt (f i)) (hf : ∀ i, Flat (f i))
    (hs : ∀ env v, foldedSetIterable iter env v = pure v) : EvN X n sc ρ (.ListComp elt [⟨.Name x px, iter, ifs, 0⟩] scope pos) (((rngI lo (hi - lo).toNat).filter p).map f) := fun c M A E s Q T rm q => by
  obtain ⟨k1, k2, k3, k4, k5, k6, k7, k8, k9, k10⟩ := id ok
  obtain ⟨cl, e1, e2, e3⟩ := closure_ok (scope := scope) (env := c.env sc) fun y hy hfr => by
    have := k8 y hy hfr
    rw [← hcs] at this
    obtain ⟨pr, hpr, e⟩ := List.mem_map.mp this
    obtain ⟨a, v, ea, _⟩ := T.ce.cels pr.1 pr.2 (hsub _ (List.mem_map.mpr ⟨pr, hpr, rfl⟩))
    exact ⟨a, by rw [← e]; exact ea⟩
  refine wpAny_ListComp_free (ItemKind.int.lift p) (fun v y => ∃ i t, v = .int i t ∧ ∀ M, Rp M y (f i)) e1 k9 k1 k10 k3 (hr c M A E s _ T rm fun r t u v h1 tk1 M1 i1 x1 hr1 => ?_) (hs _)
  have T1 := T.ext x1 i1
  have hN : Builtin.Range.rangeSize lo hi 1 = (((hi - lo).toNat : Nat) : Int) := by rw [rangeSize_one]; split <;> omega
  have up : ∀ (h' : Heap), (∀ b o, b ∉ [h1.objs.size] → (h1.push { cls := .type "range_iterator", data := .fields #[rawInt lo, rawInt (Builtin.Range.rangeSize lo hi 1), rawInt 1] }).get? b = some o → h'.get? b = some o) → Keeps h1 h' :=
    fun h' hk b o e => hk b o (fun hm => by rcases List.mem_cons.mp hm with rfl | hm; exact Nat.lt_irrefl _ (Heap.lt_size e); cases hm) (Heap.get?_push_of_some _ e)
  have cap' : (hi - lo).toNat ≤ 1048576 := hcap
  refine wpAny_pyIter_range (s := { s with heap := h1, toks := tk1 }) hr1 (small_one hlo hlo' hhi hhi') ⟨h1.objs.size, [h1.objs.size], [h1.objs.size], (hi - lo).toNat, _, _, rfl, (Walks.range rm.hh _ lo 1 (hi - lo).toNat).bound, Nat.le_trans hcap capLine, (by show IsRangeIter _ _ _ _ _; rw [hN]; simpa using Heap.get?_push_size _ rfl), ?_, ⟨?_, ?_⟩, ?_⟩
  · intro b hb
    show b < (h1.push _).objs.size
    rw [Heap.size_push]
    rcases List.mem_cons.mp hb with rfl | hb
    · exact Nat.lt_succ_self _
    · cases hb
  · rintro C i v s₃ m₃ E' hC ⟨hi1, t, rfl⟩ hn hm hk _
    have T2 := T1.comp (v := .int (lo + i * 1) t) (d := .int (lo + i * 1)) ok hcs hsub e2 e3 (Nat.le_of_succ_le (by simpa [Heap.size_push] using hC)) hn hm (.int _ _) (up s₃.heap hk)
    rw [ItemKind.lift_is (K := ItemKind.int) (a := lo + i * 1) ⟨t, rfl⟩]
    exact hi' (lo + i * 1) (by omega) (by omega) _ M1 A E' s₃ _ T2 rm fun b h' tk M' i x r => ⟨r, h', tk, rfl, x.keep⟩
  · rintro C i v s₃ m₃ E' hC ⟨hi1, t, rfl⟩ hp hn hm hk _
    have T2 := T1.comp (v := .int (lo + i * 1) t) (d := .int (lo + i * 1)) ok hcs hsub e2 e3 (Nat.le_of_succ_le (by simpa [Heap.size_push] using hC)) hn hm (.int _ _) (up s₃.heap hk)
    rw [ItemKind.lift_is (K := ItemKind.int) (a := lo + i * 1) ⟨t, rfl⟩] at hp
    exact he (lo + i * 1) (by omega) (by omega) hp _ M1 A E' s₃ _ T2 rm fun y h' tk M' j x r => ⟨⟨_, _, rfl, fun M => (hf _).rp r⟩, h', tk, rfl, x.keep⟩
  · intro Dd h' tk ys' vs hnew hlD hplD hlen hP hF hk
    have keep := up h' hk
    obtain ⟨kk, gD⟩ := hplD
    have hD1 : h1.get? Dd = none := by
      cases e : h1.get? Dd with
      | none => rfl
      | some o => rw [Heap.get?_push_of_some _ e] at hnew; cases hnew
    have rp : RpL M1 ys'.toList (((rngI lo (hi - lo).toNat).filter p).map f) := by
      rw [← hlen]
      refine paired_ints (P := ItemKind.int.lift p) (fun i t => ItemKind.lift_is (K := ItemKind.int) ⟨t, rfl⟩) (fun i t y h => ?_) vs lo _ (fun j v hv => ?_) hF
      · obtain ⟨i', t', e, r⟩ := h
        cases e; exact r _
      · obtain ⟨_, t, e⟩ := hP j v hv
        exact ⟨t, by rw [e]; congr 1; omega⟩
    refine q Dd ys'.toList kk h' tk M1 (i1.keeps keep) (x1.trans ⟨keep, LedLe.refl _, fun _ _ _ e => e⟩) (by simpa using gD) rp ?_ ?_ ?_
    · rw [List.length_map]
      exact Nat.le_trans (List.length_filter_le _ _) (by rw [rngI_length]; exact hcap)
    · cases e : M1 Dd with
      | none => rfl
      | some o => rw [i1 _ _ e] at hD1; cases hD1
    · cases e : s.heap.get? Dd with
      | none => rfl
      | some o => rw [x1.keep _ _ e] at hD1; cases hD1

/-- [d] * k -/
theorem op_rep {d : D} {k : Int} (h0 : 0 ≤ k) (hc : k ≤ 1048576) : Op2 (binaryOp .Mult) (.list [d]) (.int k) (.list (List.replicate k.toNat d)) := fun X n sc c ρ M a b ra rb => by
  cases ra with
  | list ha r1 c1 =>
    cases rb with
    | int _ u =>
      intro A E s Q T rm q
      rename_i l vs kk
      have hl := T.st.inh _ _ ha
      have hv : vs.length = 1 := r1.length
      have hsz : vs.toArray.size * k.toNat ≤ 1048576 := by rw [List.size_toArray, hv]; omega
      refine wpAny_binaryOp_repeat_ref (T := "list") (U := "int") (by decide) ⟨_, hl, rfl⟩ (fun s' => typeIs_int s' k u) noFill_list_mul F.fills_int_mul F.slot_int_rmul repeat_list F.slot_int_index.lookup
        (call_meets F.slot_int_rmul (typeIs_int s k u) F.entry_int_rmul (F.args_int_rmul_2 _ _) (lm_int_rmul_list_any k u l vs.toArray kk none #[])
          ⟨hl, rfl, ⟨_, hl, rfl⟩, call_meets F.slot_list_mul ⟨_, hl, rfl⟩ F.entry_list_mul (F.args_list_mul_2 _ _)
            (lm_list_mul_any l vs.toArray kk none #[] k u (by simp [Builtin.List.listFitsIndex]; omega) (by omega) (by simp [Builtin.List.listTooLong, sizeLine]; simp at hsz; omega))
            ⟨hl, ?_⟩⟩)
      rw [listMul_foldl_if]
      refine q _ _ s.toks _ (T.st.inh.put _) (Ext.put T.st.inh _) (.list (n := 0) (Led.put_self ..) (RpL.mono (Led.put_le T.st.inh.size_none) ?_) (by rw [List.length_replicate]; show k.toNat ≤ 1048576; omega))
      cases r1 with
      | cons r r' =>
        cases r'
        rw [lm_rep_flat_one]
        clear hv hl ha c1 hsz
        generalize k.toNat = m
        induction m with
        | zero => exact .nil
        | succ m ih => exact .cons r ih
end
end Mine

namespace Mine
open PySem

abbrev Li (ks : List Int) : D := .list (ks.map .int)
def slot (ks : List Int) (k : Int) : Nat := (ks.filter (· < k)).length
def Sorted (ks : List Int) : Prop := ks.Pairwise (· < ·)

theorem Sorted.le {ks : List Int} (h : Sorted ks) {i j : Nat} {a b : Int} (hij : i ≤ j) (hi : ks[i]? = some a) (hj : ks[j]? = some b) : a ≤ b := by
  have h1 := List.pairwise_iff_getElem.mp h
  obtain ⟨hi', rfl⟩ := List.getElem?_eq_some_iff.mp hi
  obtain ⟨hj', rfl⟩ := List.getElem?_eq_some_iff.mp hj
  rcases Nat.lt_or_ge i j with h2 | h2
  · exact Int.le_of_lt (h1 i j hi' hj' h2)
  · have : i = j := by omega
    subst this; exact Int.le_refl _
theorem slot_le (ks : List Int) (k : Int) : slot ks k ≤ ks.length := List.length_filter_le ..
/-- the one place that parts the keys -/
theorem slot_unique {ks : List Int} {k : Int} {p : Nat} (hp : p ≤ ks.length) (h1 : ∀ j a, j < p → ks[j]? = some a → a < k) (h2 : ∀ j a, p ≤ j → ks[j]? = some a → ¬ a < k) : slot ks k = p := by
  unfold slot
  induction ks generalizing p with
  | nil => simp at hp; simp [hp]
  | cons x ks ih =>
    cases p with
    | zero =>
      have hx := h2 0 x (Nat.le_refl _) rfl
      rw [List.filter_cons_of_neg (by simpa using hx)]
      exact ih (Nat.zero_le _) (fun j a hj => absurd hj (Nat.not_lt_zero _)) fun j a _ e => h2 (j + 1) a (Nat.zero_le _) (by simpa using e)
    | succ p =>
      have hx := h1 0 x (Nat.succ_pos _) rfl
      rw [List.filter_cons_of_pos (by simpa using hx), List.length_cons, ih (p := p) (by simpa using hp) (fun j a hj e => h1 (j + 1) a (by omega) (by simpa using e)) fun j a hj e => h2 (j + 1) a (by omega) (by simpa using e)]
theorem ints_get {ks : List Int} {j : Nat} {a : Int} (h : ks[j]? = some a) : (ks.map D.int)[j]? = some (.int a) := by rw [List.getElem?_map, h]; rfl

/-- a node of the tree -/
inductive T where
  | node (ks vs : List Int) (cs : List T)
namespace T
def ks : T → List Int | node k _ _ => k
def vs : T → List Int | node _ v _ => v
def cs : T → List T | node _ _ c => c
mutual
def toD : T → D | node ks vs cs => .tup [Li ks, Li vs, .list (toDs cs)]
def toDs : List T → List D
  | [] => []
  | c :: cs => toD c :: toDs cs
end
theorem toDs_eq : ∀ cs : List T, toDs cs = cs.map toD
  | [] => rfl
  | c :: cs => by rw [toDs, toDs_eq cs, List.map_cons]
theorem toD_node (ks vs : List Int) (cs : List T) : toD (node ks vs cs) = .tup [Li ks, Li vs, .list (cs.map toD)] := by rw [toD, toDs_eq]
theorem toD_eq (n : T) : toD n = .tup [Li n.ks, Li n.vs, .list (n.cs.map toD)] := by cases n; exact toD_node ..

/-- what split_child gives -/
def split (n : T) (i t : Nat) : T := match n.cs[i]? with
  | none => n
  | some c => node (n.ks.take i ++ [c.ks.getD (t - 1) 0] ++ n.ks.drop i) (n.vs.take i ++ [c.vs.getD (t - 1) 0] ++ n.vs.drop i)
      (n.cs.take i ++ [node (c.ks.take (t - 1)) (c.vs.take (t - 1)) (c.cs.take t), node (c.ks.drop t) (c.vs.drop t) (c.cs.drop t)] ++ n.cs.drop (i + 1))

/-- what insert_below gives -/
def insB (t : Nat) (k v : Int) : Nat → T → T
  | 0, n => n
  | d + 1, n =>
    let i := slot n.ks k
    if n.ks[i]? = some k then node n.ks (n.vs.set i v) n.cs
    else match n.cs[i]? with
      | none => node (n.ks.take i ++ [k] ++ n.ks.drop i) (n.vs.take i ++ [v] ++ n.vs.drop i) []
      | some c =>
        if c.ks.length = 2 * t - 1 then
          let s := split n i t
          let x := s.ks.getD i 0
          if x = k then node s.ks (s.vs.set i v) s.cs
          else
            let j := if x < k then i + 1 else i
            match s.cs[j]? with
            | none => s
            | some c' => node s.ks s.vs (s.cs.set j (insB t k v d c'))
        else node n.ks n.vs (n.cs.set i (insB t k v d c))
def ins (t : Nat) (n : T) (k v : Int) : T := insB t k v 64 (if n.ks.length = 2 * t - 1 then split (node [] [] [n]) 0 t else n)
def empty : T := node [] [] []

/-- well formed: sorted keys, as many values, no children or one more; every node of the same depth h -/
inductive Wf : Nat → T → Prop
  | leaf {ks vs : List Int} : Sorted ks → vs.length = ks.length → ks.length ≤ 1000 → Wf 0 (node ks vs [])
  | inner {h : Nat} {ks vs : List Int} {cs : List T} : Sorted ks → vs.length = ks.length → ks.length ≤ 1000 → cs.length = ks.length + 1 → (∀ c ∈ cs, Wf h c) → Wf (h + 1) (node ks vs cs)
end T
end Mine

namespace Mine
open PySem PySem.Calls PyProof.Rows PySem.Spec
local macro_rules | `(tactic| walk_at "m.mem") => `(tactic| first | with_reducible exact List.mem_cons_self | ((with_reducible refine' List.mem_cons_of_mem _ ?a); (case a => walk_at "m.mem")))
local macro_rules | `(tactic| walk_at "m.drop") => `(tactic| first | with_reducible exact Drop.nil | ((with_reducible refine' Drop.same ?a); (case a => walk_at "m.drop")) | ((with_reducible refine' Drop.ne ?a ?b); (case a => decide); (case b => walk_at "m.drop")))
local macro_rules | `(tactic| walk_at "m.sub") => `(tactic| first | exact List.forall_mem_nil _ | (refine List.forall_mem_cons.mpr ⟨?_, ?_⟩; (focus (walk_at "m.mem")); (walk_at "m.sub")))
local macro_rules | `(tactic| walk_at "m.side") => `(tactic| first | assumption | (simp only [List.length_map, List.length_append, List.length_take, List.length_drop, List.length_cons, List.length_nil, List.length_set, cap]; omega) | omega)
local macro_rules | `(tactic| walk_at "m.op") => `(tactic| first
  | with_reducible exact op_add_int
  | with_reducible exact op_sub_int
  | with_reducible exact op_eq_int
  | with_reducible exact op_lt_int
  | with_reducible exact op_ge_int
  | with_reducible exact op_gt_int
  | with_reducible exact op_le_int
  | with_reducible exact op_ne_int
  | with_reducible exact op_eq_nil
  | ((with_reducible refine' op_fdiv_int ?a ?b); (case a => decide); (case b => decide))
  | ((with_reducible refine' op_mod_int ?a); (case a => decide))
  | ((with_reducible refine' op_mul_int ?a); (case a => first | assumption | exact IntMulOk.of_left (by decide) | exact IntMulOk.of_right (by decide)))
  | ((with_reducible refine' op_add_list ?a); (case a => walk_at "m.side"))
  | ((with_reducible refine' op_item_tup ?a ?b ?c ?d); (case a => decide); (case b => decide); (case c => rfl); (case d => exact fun _ _ => rfl))
  | ((with_reducible refine' op_item_list ?a ?b ?c); (case a => walk_at "m.side"); (case b => assumption); (case c => exact fun _ _ => rfl)))
local macro_rules | `(tactic| walk_at "m.evl") => `(tactic| first
  | with_reducible exact EvL.nil
  | ((with_reducible refine' EvL.cons ?a ?b ?c); (case a => walk_at "m.ev"); (case b => walk_at "m.evl"); (case c => exact fun _ => rfl)))
local macro_rules | `(tactic| walk_at "m.ev") => `(tactic| first
  | ((with_reducible refine' Ev.name ?a); (case a => walk_at "m.mem"))
  | ((with_reducible refine' Ev.cell ?a); (case a => walk_at "m.mem"))
  | with_reducible exact Ev.cint
  | with_reducible exact Ev.cbool
  | with_reducible exact Ev.cnone
  | with_reducible exact Ev.cstr
  | ((with_reducible refine' Ev.binop ?a ?b ?c); (case a => walk_at "m.ev"); (case b => walk_at "m.ev"); (case c => walk_at "m.op"))
  | ((with_reducible refine' Ev.cmp ?a ?b ?c ?d); (case a => walk_at "m.ev"); (case b => walk_at "m.ev"); (case c => walk_at "m.op"); (case d => rfl))
  | ((with_reducible refine' Ev.len ?a ?b ?c); (case a => walk_at "m.ev"); (case b => rfl); (case c => exact fun _ => rfl))
  | ((with_reducible refine' Ev.sliceTo ?a ?b ?c); (case a => walk_at "m.ev"); (case b => walk_at "m.ev"); (case c => walk_at "m.side"))
  | ((with_reducible refine' Ev.sliceFrom ?a ?b ?c); (case a => walk_at "m.ev"); (case b => walk_at "m.ev"); (case c => walk_at "m.side"))
  | ((with_reducible refine' Ev.item ?a ?b ?c); (case a => walk_at "m.ev"); (case b => walk_at "m.ev"); (case c => walk_at "m.op"))
  | ((with_reducible refine' Ev.tuple ?a ?b); (case a => walk_at "m.evl"); (case b => exact Nat.le_of_ble_eq_true rfl))
  | ((with_reducible refine' Ev.list ?a ?b); (case a => walk_at "m.evl"); (case b => exact Nat.le_of_ble_eq_true rfl))
  | ((with_reducible refine' Ev.listOf ?a ?b ?c); (case a => walk_at "m.ev"); (case b => rfl); (case c => exact fun _ => rfl))
  | ((with_reducible refine' Ev.call ?a ?b ?c ?d ?e); (case a => walk_at "m.evl"); (case b => assumption); (case c => rfl); (case d => rfl); (case e => exact fun _ => rfl))
  | ((with_reducible refine' Ev.call0 ?b ?c ?d); (case b => assumption); (case c => rfl); (case d => rfl))
  | ((with_reducible refine' Ev.neg ?a); (case a => walk_at "m.ev")))
local macro_rules | `(tactic| walk_at "m.tr") => `(tactic| first
  | ((with_reducible refine' Tr.cmp ?a ?b ?c ?d); (case a => walk_at "m.ev"); (case b => walk_at "m.ev"); (case c => walk_at "m.op"); (case d => rfl))
  | ((with_reducible refine' Tr.not ?a); (case a => walk_at "m.tr")))
local macro_rules | `(tactic| walk_at "m.rng") => `(tactic| first
  | ((with_reducible refine' EvR.one ?a ?b ?c); (case a => walk_at "m.ev"); (case b => rfl); (case c => exact fun _ => rfl))
  | ((with_reducible refine' EvR.two ?a ?a' ?b ?c ?d); (case a => walk_at "m.ev"); (case a' => walk_at "m.ev"); (case b => rfl); (case c => exact fun _ => rfl); (case d => exact fun _ => rfl)))
local macro_rules | `(tactic| walk_at "m.asg") => `(tactic| ((with_reducible refine' ExS.assign ?a ?b ?k ?d ?e ?f); (case a => walk_at "m.ev"); (case b => walk_at "m.drop"); (case d => rfl); (case e => rfl); (case f => exact fun _ => rfl)))
local macro_rules | `(tactic| walk_at "m.own") => `(tactic| ((with_reducible refine' ExS.assignN ?a ?b ?k ?d ?e ?f); (case a => first | ((with_reducible refine' EvN.listOf ?a1 ?b1 ?c1); (case a1 => walk_at "m.ev"); (case b1 => rfl); (case c1 => exact fun _ => rfl)) | ((with_reducible refine' EvN.disp ?a2 ?b2); (case a2 => walk_at "m.evl"); (case b2 => exact Nat.le_of_ble_eq_true rfl))); (case b => walk_at "m.drop"); (case d => rfl); (case e => rfl); (case f => exact fun _ => rfl)))
local macro_rules | `(tactic| walk_at "m.set") => `(tactic| ((with_reducible refine' ExS.setItem ?x ?a ?b ?c ?d ?e ?k ?f); (case x => walk_at "m.mem"); (case a => walk_at "m.ev"); (case b => walk_at "m.ev"); (case c => walk_at "m.side"); (case d => walk_at "m.side"); (case e => walk_at "m.drop"); (case f => exact fun _ => rfl)))
local macro_rules | `(tactic| walk_at "m.frz") => `(tactic| ((with_reducible refine' ExS.freeze ?x ?d ?k); (case x => walk_at "m.mem"); (case d => walk_at "m.drop")))
local macro_rules | `(tactic| walk_at "m.if") => `(tactic| ((with_reducible refine' ExS.iff ?a ?k ?l); (case a => walk_at "m.tr")))
local macro_rules | `(tactic| walk_at "m.ret") => `(tactic| ((with_reducible refine' ExS.ret ?a ?k); (case a => walk_at "m.ev")))
local macro_rules | `(tactic| walk_at "m.cel") => `(tactic| ((with_reducible refine' ExS.assignC ?a ?b ?k ?d ?e ?f ?g); (case a => walk_at "m.ev"); (case b => walk_at "m.drop"); (case d => rfl); (case e => rfl); (case f => exact fun _ => rfl); (case g => rfl)))
def stFn (name : Str) : Stmt → Option Fn
  | .FunctionDef n a b _ _ _ sc _ _ _ => if n == name then some ⟨n, a, b, sc⟩ else none
  | _ => none
def getFn (p : Program) (name : Str) : Option Fn := p.main.body.findSome? (stFn name)
abbrev PP := PySem.Challenge.pw_k16_0024
theorem ks_getD {ks : List Int} {i : Nat} (h : i < ks.length) : ks[i]? = some (ks.getD i 0) := by rw [List.getD_eq_getElem?_getD, List.getElem?_eq_getElem h]; rfl

theorem find_slot_ok {X : Cx} {fd : Fn} (hg : getFn PP "find_slot" = some fd) (hfd : fd ∈ X.fns) {ks : List Int} {k : Int} (hs : Sorted ks) (hc : ks.length ≤ 1000) :
    CallOk X 1 "find_slot" [Li ks, .int k] (.int (slot ks k)) := by
  cases (show getFn PP "find_slot" = some _ from rfl).symm.trans hg
  clear hg
  refine callOk_of (fd := Fn.mk _ _ _ _) (xs := ["keys", "key"]) hfd (by decide) (fun pm cd doc vs hv => ?_) (by decide) ?_ rfl rfl rfl (by decide)
  · match vs, hv with
    | [a, b], _ => rfl
  · show ExS _ _ _ [("keys", .val (Li ks)), ("key", .val (.int k))] _ _
    clear hfd
    dsimp only
    walk_at "m.asg"
    walk_at "m.asg"
    refine ExS.forRange (lo := 0) (hi := (ks.length : Int) + 1) (fun i ρ => ∃ lo hi : Int, 0 ≤ lo ∧ lo ≤ hi ∧ hi ≤ ks.length ∧ hi + i ≤ lo + ks.length ∧ (∀ (j : Nat) a, j < lo → ks[j]? = some a → a < k) ∧ (∀ (j : Nat) a, hi ≤ j → ks[j]? = some a → ¬ a < k) ∧
      ∀ q ∈ ([("keys", .val (Li ks)), ("key", .val (.int k)), ("lo", .val (.int lo)), ("hi", .val (.int hi))] : Rho), q ∈ ρ) ?_ (by omega) (by omega) (by omega) (by omega) ?_ ?_ ?_ ?_ ?_ ?_
    · rw [← List.length_map (f := D.int)]
      walk_at "m.rng"
    · refine ⟨0, ks.length, by omega, by omega, by omega, by omega, fun j a h => absurd h (by omega), fun j a hj e => ?_, ?_⟩
      · rw [List.getElem?_eq_none (by omega)] at e; cases e
      · rw [List.length_map]; walk_at "m.sub"
    · rintro i ρ hi ⟨lo, hi', h0, h1, h2, h3, h4, h5, h6⟩
      refine ⟨_, Dr.of h6 (by walk_at "m.drop"), ?_⟩
      walk_at "m.if"
      · intro hb
        refine ExS.brk ?_
        refine ExT.sub (ρ' := [("lo", .val (.int lo))]) (by walk_at "m.sub") ?_
        walk_at "m.ret"
        left
        have hb := of_decide_eq_true hb
        rw [slot_unique (p := lo.toNat) (by omega) (fun j a hj => h4 j a (by omega)) (fun j a hj => h5 j a (by omega))]
        congr 2; omega
      · intro hb
        have hb := of_decide_eq_false hb
        refine ExS.nil ?_
        show ExS _ _ _ _ _ _
        walk_at "m.asg"
        have hm1 : lo ≤ (lo + hi').fdiv 2 := by rw [Int.fdiv_eq_ediv_of_nonneg _ (by omega)]; omega
        have hm2 : (lo + hi').fdiv 2 < hi' := by rw [Int.fdiv_eq_ediv_of_nonneg _ (by omega)]; omega
        generalize (lo + hi').fdiv 2 = mid at hm1 hm2 ⊢
        obtain ⟨b, hmid⟩ : ∃ b, ks[mid.toNat]? = some b := ⟨ks[mid.toNat]'(by omega), List.getElem?_eq_getElem _⟩
        have hmid' := ints_get hmid
        walk_at "m.if"
        · intro hc
          have hc := of_decide_eq_true hc
          walk_at "m.asg"
          refine ExS.nil (ExS.nil ⟨mid + 1, hi', by omega, by omega, by omega, by omega, fun j a hj e => ?_, h5, by walk_at "m.sub"⟩)
          exact Int.lt_of_le_of_lt (hs.le (by omega) e hmid) hc
        · intro hc
          have hc := of_decide_eq_false hc
          walk_at "m.asg"
          refine ExS.nil (ExS.nil ⟨lo, mid, by omega, by omega, by omega, by omega, h4, fun j a hj e => ?_, by walk_at "m.sub"⟩)
          exact fun hlt => hc (Int.lt_of_le_of_lt (hs.le (by omega) hmid e) hlt)
    · rintro ρ ⟨lo, hi', h0, h1, h2, h3, h4, h5, h6⟩
      omega
    · rfl
    · rfl
    · exact fun _ _ => rfl

namespace T
def countN : Nat → T → Nat
  | 0, n => n.ks.length
  | h + 1, n => n.ks.length + (n.cs.map (countN h)).sum
def rankN : Nat → T → Int → Nat
  | 0, n, k => slot n.ks k
  | h + 1, n, k => slot n.ks k + ((n.cs.take (slot n.ks k)).map (countN h)).sum + rankN h (n.cs.getD (slot n.ks k) empty) k
theorem Wf.sorted {h : Nat} {n : T} (w : Wf h n) : Sorted n.ks ∧ n.ks.length ≤ 1000 := by cases w <;> exact ⟨‹_›, ‹_›⟩
theorem Wf.kids {h : Nat} {n : T} (w : Wf (h + 1) n) : n.cs.length = n.ks.length + 1 ∧ ∀ c ∈ n.cs, Wf h c := by cases w; exact ⟨‹_›, ‹_›⟩
theorem Wf.leafKids {n : T} (w : Wf 0 n) : n.cs = [] := by cases w; rfl
end T
theorem sum_take_succ {α : Type} (f : α → Nat) : ∀ (l : List α) (i : Nat) (a : α), l[i]? = some a → ((l.take (i + 1)).map f).sum = ((l.take i).map f).sum + f a
  | [], i, a, h => by simp at h
  | x :: l, 0, a, h => by simp at h; simp [h]
  | x :: l, i + 1, a, h => by
    have := sum_take_succ f l i a (by simpa using h)
    simp only [List.take_succ_cons, List.map_cons, List.sum_cons]; omega

theorem count_ok {X : Cx} {fd : Fn} (hg : getFn PP "count_keys" = some fd) (hfd : fd ∈ X.fns) : ∀ (h d : Nat) (n : T), T.Wf h n → h < d → CallOk X (h + 1) "count_keys" [n.toD, .int d] (.int (T.countN h n)) := by
  cases (show getFn PP "count_keys" = some _ from rfl).symm.trans hg
  clear hg
  intro h
  induction h with
  | zero =>
    intro d n w hd
    refine callOk_of (fd := Fn.mk _ _ _ _) (xs := ["node", "depth"]) hfd (by decide) (fun pm cd doc vs hv => ?_) (by decide) ?_ rfl rfl rfl (by decide)
    · match vs, hv with
      | [a, b], _ => rfl
    · show ExS _ _ _ [("node", .val n.toD), ("depth", .val (.int d))] _ _
      clear hfd
      dsimp only
      rw [T.toD_eq n, w.leafKids]
      refine ExS.iff (b := (d : Int) == 0) (by walk_at "m.tr") (fun hb => by have := eq_of_beq hb; omega) fun _ => ExS.nil ?_
      show ExS _ _ _ _ _ _
      walk_at "m.asg"
      refine ExS.forList (ds := []) (fun i ρ => ∀ q ∈ ([("total", .val (.int (n.ks.map D.int).length))] : Rho), q ∈ ρ) (by walk_at "m.ev") (by walk_at "m.sub") (fun i d ρ hd => by simp at hd) (fun ρ hs => ?_) rfl rfl (fun _ _ => rfl)
      refine ExT.sub hs ?_
      walk_at "m.ret"
      left
      rw [List.length_map]; rfl
  | succ h ih =>
    intro d n w hd
    refine callOk_of (fd := Fn.mk _ _ _ _) (xs := ["node", "depth"]) hfd (by decide) (fun pm cd doc vs hv => ?_) (by decide) ?_ rfl rfl rfl (by decide)
    · match vs, hv with
      | [a, b], _ => rfl
    · show ExS _ _ _ [("node", .val n.toD), ("depth", .val (.int d))] _ _
      clear hfd
      dsimp only
      rw [T.toD_eq n]
      refine ExS.iff (b := (d : Int) == 0) (by walk_at "m.tr") (fun hb => by have := eq_of_beq hb; omega) fun _ => ExS.nil ?_
      show ExS _ _ _ _ _ _
      walk_at "m.asg"
      refine ExS.forList (ds := n.cs.map T.toD) (fun i ρ => ∃ tot : Int, tot = n.ks.length + ((n.cs.take i).map (T.countN h)).sum ∧ ∀ q ∈ ([("total", .val (.int tot)), ("depth", .val (.int d))] : Rho), q ∈ ρ) (by walk_at "m.ev") ?_ (fun i d' ρ hd' => ?_) (fun ρ => ?_) rfl rfl (fun _ _ => rfl)
      · refine ⟨((n.ks.map D.int).length : Int), by simp, by walk_at "m.sub"⟩
      · rintro ⟨tot, ht, hsub⟩
        refine ⟨_, Dr.of hsub (by walk_at "m.drop"), ?_⟩
        rw [List.getElem?_map] at hd'
        obtain ⟨ch, hc, rfl⟩ := Option.map_eq_some_iff.mp hd'
        have c1 := ih (d - 1) ch (w.kids.2 ch (List.mem_of_getElem? hc)) (by omega)
        rw [show ((d - 1 : Nat) : Int) = (d : Int) - 1 by omega] at c1
        walk_at "m.asg"
        refine ExS.nil ⟨tot + T.countN h ch, ?_, by walk_at "m.sub"⟩
        rw [sum_take_succ _ _ _ _ hc, ht]; push_cast; omega
      · rintro ⟨tot, ht, hsub⟩
        refine ExT.sub hsub ?_
        walk_at "m.ret"
        left
        rw [ht, List.length_map, List.take_length, T.countN]; push_cast; rfl
theorem count_x {X : Cx} {C : Addr} {fd : Fn} (hg : getFn PP "count_keys" = some fd) (hfd : fd ∈ X.fns) (hO : ∀ h, X.Ok h → ExcCls "DepthError" C X.mg h) : ∀ (d h : Nat) (n : T), T.Wf h n → d ≤ h → CallX X (d + 1) "count_keys" [n.toD, .int d] C := by
  cases (show getFn PP "count_keys" = some _ from rfl).symm.trans hg
  clear hg
  intro d
  induction d with
  | zero =>
    intro h n w hd
    refine callX_of (fd := Fn.mk _ _ _ _) (xs := ["node", "depth"]) hfd (by decide) (fun pm cd doc vs hv => ?_) (by decide) ?_ rfl rfl rfl (by decide)
    · match vs, hv with
      | [a, b], _ => rfl
    · show ExX _ _ _ [("node", .val n.toD), ("depth", .val (.int (0 : Nat)))] _ _
      clear hfd
      dsimp only
      refine ExX.ifTrue ?_ (ExX.raise (d := .str "count_keys: depth exhausted") (by walk_at "m.ev") hO rfl rfl (fun _ => rfl))
      show Tr _ _ _ _ _ (((0 : Nat) : Int) == 0)
      walk_at "m.tr"
  | succ d ih =>
    intro h n w hd
    refine callX_of (fd := Fn.mk _ _ _ _) (xs := ["node", "depth"]) hfd (by decide) (fun pm cd doc vs hv => ?_) (by decide) ?_ rfl rfl rfl (by decide)
    · match vs, hv with
      | [a, b], _ => rfl
    · show ExX _ _ _ [("node", .val n.toD), ("depth", .val (.int (d + 1 : Nat)))] _ _
      clear hfd
      dsimp only
      obtain ⟨h', rfl⟩ : ∃ h', h = h' + 1 := ⟨h - 1, by omega⟩
      rw [T.toD_eq n]
      obtain ⟨w1, w2⟩ := w.kids
      obtain ⟨c0, cr, hc⟩ : ∃ c0 cr, n.cs = c0 :: cr := by
        cases e : n.cs with
        | nil => rw [e] at w1; simp at w1
        | cons a b => exact ⟨a, b, rfl⟩
      rw [hc, List.map_cons]
      have c1 := ih h' c0 (w2 c0 (by rw [hc]; exact List.mem_cons_self)) (by omega)
      rw [show ((d : Nat) : Int) = ((d + 1 : Nat) : Int) - 1 by omega] at c1
      refine ExX.cons (ExS.iff (b := ((d + 1 : Nat) : Int) == 0) (by walk_at "m.tr") (fun hb => by have := eq_of_beq hb; omega) fun _ => ExS.nil (ExS.nil ⟨rfl, ?_⟩))
      refine ExX.cons ?_
      walk_at "m.asg"
      refine ExS.nil ⟨rfl, ?_⟩
      refine ExX.forList (d := c0.toD) (ds := cr.map T.toD) (by walk_at "m.ev") (by walk_at "m.drop") (turn_assign (EvX.binR (by walk_at "m.ev") (EvX.call (by walk_at "m.evl") c1 rfl rfl (fun _ => rfl))) (fun _ => rfl)) rfl rfl (fun _ _ => rfl)

theorem rank_ok {X : Cx} {fd : Fn} (hg : getFn PP "rank_of" = some fd) (hfd : fd ∈ X.fns)
    (fs : ∀ {ks : List Int} {k : Int}, Sorted ks → ks.length ≤ 1000 → CallOk X 1 "find_slot" [Li ks, .int k] (.int (slot ks k)))
    (co : ∀ (h d : Nat) (n : T), T.Wf h n → h < d → CallOk X (h + 1) "count_keys" [n.toD, .int d] (.int (T.countN h n))) :
    ∀ (h d : Nat) (n : T) (k : Int), T.Wf h n → h < d → CallOk X (h + 2) "rank_of" [n.toD, .int k, .int d] (.int (T.rankN h n k)) := by
  cases (show getFn PP "rank_of" = some _ from rfl).symm.trans hg
  clear hg
  intro h
  induction h with
  | zero =>
    intro d n k w hd
    refine callOk_of (fd := Fn.mk _ _ _ _) (xs := ["node", "key", "depth"]) hfd (by decide) (fun pm cd doc vs hv => ?_) (by decide) ?_ rfl rfl rfl (by decide)
    · match vs, hv with
      | [a, b, c], _ => rfl
    · show ExS _ _ _ [("node", .val n.toD), ("key", .val (.int k)), ("depth", .val (.int d))] _ _
      clear hfd
      dsimp only
      rw [T.toD_eq n, w.leafKids]
      have f1 := fs (k := k) w.sorted.1 w.sorted.2
      refine ExS.iff (b := (d : Int) == 0) (by walk_at "m.tr") (fun hb => by have := eq_of_beq hb; omega) fun _ => ExS.nil ?_
      show ExS _ _ _ _ _ _
      walk_at "m.asg"
      walk_at "m.asg"
      walk_at "m.asg"
      walk_at "m.asg"
      walk_at "m.if"
      · intro _
        walk_at "m.ret"
        left; rfl
      · intro hb; cases hb
  | succ h ih =>
    intro d n k w hd
    refine callOk_of (fd := Fn.mk _ _ _ _) (xs := ["node", "key", "depth"]) hfd (by decide) (fun pm cd doc vs hv => ?_) (by decide) ?_ rfl rfl rfl (by decide)
    · match vs, hv with
      | [a, b, c], _ => rfl
    · show ExS _ _ _ [("node", .val n.toD), ("key", .val (.int k)), ("depth", .val (.int d))] _ _
      clear hfd
      dsimp only
      rw [T.toD_eq n]
      obtain ⟨w1, w2⟩ := w.kids
      have sl := slot_le n.ks k
      have f1 := (fs (k := k) w.sorted.1 w.sorted.2).mono (n' := h + 2) (by omega)
      refine ExS.iff (b := (d : Int) == 0) (by walk_at "m.tr") (fun hb => by have := eq_of_beq hb; omega) fun _ => ExS.nil ?_
      show ExS _ _ _ _ _ _
      walk_at "m.asg"
      walk_at "m.asg"
      walk_at "m.asg"
      walk_at "m.asg"
      walk_at "m.if"
      · intro hb
        have hb : n.cs = [] := by simpa using hb
        rw [hb] at w1; simp at w1
      · intro _
        refine ExS.nil ?_
        show ExS _ _ _ _ _ _
        refine ExS.forRange (lo := 0) (hi := (slot n.ks k : Int)) (fun j ρ => ∃ tot : Int, tot = slot n.ks k + ((n.cs.take j).map (T.countN h)).sum ∧ ∀ q ∈ ([("total", .val (.int tot)), ("children", .val (.list (n.cs.map T.toD))), ("i", .val (.int (slot n.ks k))), ("key", .val (.int k)), ("depth", .val (.int d))] : Rho), q ∈ ρ) (by walk_at "m.rng") (by omega) (by omega) (by omega) (by have := w.sorted.2; omega) ?_ ?_ ?_ rfl rfl (fun _ _ => rfl)
        · exact ⟨(slot n.ks k : Int), by simp, by walk_at "m.sub"⟩
        · rintro j ρ hj ⟨tot, ht, hsub⟩
          refine ⟨_, Dr.of hsub (by walk_at "m.drop"), ?_⟩
          obtain ⟨ch, hc⟩ : ∃ ch, n.cs[j]? = some ch := ⟨n.cs[j]'(by omega), List.getElem?_eq_getElem _⟩
          have e1 : (n.cs.map T.toD)[(0 + (j : Int)).toNat]? = some ch.toD := by
            rw [show (0 + (j : Int)).toNat = j by omega, List.getElem?_map, hc]; rfl
          have c1 := (co h (d - 1) ch (w2 ch (List.mem_of_getElem? hc)) (by omega)).mono (n' := h + 2) (by omega)
          rw [show ((d - 1 : Nat) : Int) = (d : Int) - 1 by omega] at c1
          walk_at "m.asg"
          refine ExS.nil ⟨tot + T.countN h ch, ?_, by walk_at "m.sub"⟩
          rw [sum_take_succ _ _ _ _ hc, ht]; push_cast; omega
        · rintro ρ ⟨tot, ht, hsub⟩
          refine ExT.sub hsub ?_
          obtain ⟨ch, hc⟩ : ∃ ch, n.cs[slot n.ks k]? = some ch := ⟨n.cs[slot n.ks k]'(by omega), List.getElem?_eq_getElem _⟩
          have e1 : (n.cs.map T.toD)[(slot n.ks k : Int).toNat]? = some ch.toD := by
            rw [Int.toNat_natCast, List.getElem?_map, hc]; rfl
          have c1 := ih (d - 1) ch k (w2 ch (List.mem_of_getElem? hc)) (by omega)
          rw [show ((d - 1 : Nat) : Int) = (d : Int) - 1 by omega] at c1
          walk_at "m.ret"
          left
          rw [ht, T.rankN, List.getD_eq_getElem?_getD, hc]
          rw [show ((slot n.ks k : Int) - 0).toNat = slot n.ks k by omega]
          push_cast; rfl
theorem rank_x {X : Cx} {C : Addr} {fd : Fn} (hg : getFn PP "rank_of" = some fd) (hfd : fd ∈ X.fns) (hO : ∀ h, X.Ok h → ExcCls "DepthError" C X.mg h)
    (fs : ∀ {ks : List Int} {k : Int}, Sorted ks → ks.length ≤ 1000 → CallOk X 1 "find_slot" [Li ks, .int k] (.int (slot ks k)))
    (cx : ∀ (d h : Nat) (n : T), T.Wf h n → d ≤ h → CallX X (d + 1) "count_keys" [n.toD, .int d] C) :
    ∀ (d h : Nat) (n : T) (k : Int), T.Wf h n → d ≤ h → CallX X (d + 2) "rank_of" [n.toD, .int k, .int d] C := by
  cases (show getFn PP "rank_of" = some _ from rfl).symm.trans hg
  clear hg
  intro d
  induction d with
  | zero =>
    intro h n k w hd
    refine callX_of (fd := Fn.mk _ _ _ _) (xs := ["node", "key", "depth"]) hfd (by decide) (fun pm cd doc vs hv => ?_) (by decide) ?_ rfl rfl rfl (by decide)
    · match vs, hv with
      | [a, b, c], _ => rfl
    · show ExX _ _ _ [("node", .val n.toD), ("key", .val (.int k)), ("depth", .val (.int (0 : Nat)))] _ _
      clear hfd
      dsimp only
      refine ExX.ifTrue ?_ (ExX.raise (d := .str "rank_of: depth exhausted") (by walk_at "m.ev") hO rfl rfl (fun _ => rfl))
      show Tr _ _ _ _ _ (((0 : Nat) : Int) == 0)
      walk_at "m.tr"
  | succ d ih =>
    intro h n k w hd
    refine callX_of (fd := Fn.mk _ _ _ _) (xs := ["node", "key", "depth"]) hfd (by decide) (fun pm cd doc vs hv => ?_) (by decide) ?_ rfl rfl rfl (by decide)
    · match vs, hv with
      | [a, b, c], _ => rfl
    · show ExX _ _ _ [("node", .val n.toD), ("key", .val (.int k)), ("depth", .val (.int (d + 1 : Nat)))] _ _
      clear hfd
      dsimp only
      obtain ⟨h', rfl⟩ : ∃ h', h = h' + 1 := ⟨h - 1, by omega⟩
      rw [T.toD_eq n]
      obtain ⟨w1, w2⟩ := w.kids
      have sl := slot_le n.ks k
      have f1 := (fs (k := k) w.sorted.1 w.sorted.2).mono (n' := d + 2) (by omega)
      obtain ⟨c0, hc0⟩ : ∃ ch, n.cs[0]? = some ch := ⟨n.cs[0]'(by omega), List.getElem?_eq_getElem _⟩
      have e0 : (n.cs.map T.toD)[(0 : Int).toNat]? = some c0.toD := by
        show (n.cs.map T.toD)[0]? = _
        rw [List.getElem?_map, hc0]; rfl
      refine ExX.cons (ExS.iff (b := ((d + 1 : Nat) : Int) == 0) (by walk_at "m.tr") (fun hb => by have := eq_of_beq hb; omega) fun _ => ExS.nil (ExS.nil ⟨rfl, ?_⟩))
      refine ExX.cons ?_
      walk_at "m.asg"
      refine ExS.nil ⟨rfl, ?_⟩
      refine ExX.cons ?_
      walk_at "m.asg"
      refine ExS.nil ⟨rfl, ?_⟩
      refine ExX.cons ?_
      walk_at "m.asg"
      refine ExS.nil ⟨rfl, ?_⟩
      refine ExX.cons ?_
      walk_at "m.asg"
      refine ExS.nil ⟨rfl, ?_⟩
      refine ExX.cons ?_
      walk_at "m.if"
      · intro hb
        have hb : n.cs = [] := by simpa using hb
        rw [hb] at w1; simp at w1
      · intro _
        refine ExS.nil (ExS.nil ⟨rfl, ?_⟩)
        by_cases hs : slot n.ks k = 0
        · rw [hs]
          have c1 := ih h' c0 k (w2 c0 (List.mem_of_getElem? hc0)) (by omega)
          rw [show ((d : Nat) : Int) = ((d + 1 : Nat) : Int) - 1 by omega] at c1
          refine ExX.cons ?_
          refine ExS.forRange (lo := 0) (hi := ((0 : Nat) : Int)) (fun j ρ => ∀ q ∈ ([("total", .val (.int (0 : Nat))), ("children", .val (.list (n.cs.map T.toD))), ("i", .val (.int (0 : Nat))), ("key", .val (.int k)), ("depth", .val (.int (d + 1 : Nat)))] : Rho), q ∈ ρ) (by walk_at "m.rng") (by omega) (by omega) (by omega) (by omega) (by walk_at "m.sub") (fun j ρ hj => by simp at hj) (fun ρ hsub => ?_) rfl rfl (fun _ _ => rfl)
          refine ExT.sub hsub (ExS.nil ⟨rfl, ?_⟩)
          exact ExX.ret (EvX.binR (by walk_at "m.ev") (EvX.call (by walk_at "m.evl") c1 rfl rfl (fun _ => rfl)))
        · have c1 := (cx d h' c0 (w2 c0 (List.mem_of_getElem? hc0)) (by omega))
          have c1 : CallX X (d + 2) "count_keys" [c0.toD, .int d] C := ⟨c1.1, fun A E s M fa vs Q base l ok i r rm => c1.2 A E s M fa vs Q base l ok i r ⟨rm.hh, by have := rm.depth; omega, by have := rm.units; omega⟩⟩
          rw [show ((d : Nat) : Int) = ((d + 1 : Nat) : Int) - 1 by omega] at c1
          refine ExX.forRange (lo := 0) (hi := (slot n.ks k : Int)) (by walk_at "m.rng") (by omega) (by omega) (by have := w.sorted.2; omega) (by walk_at "m.drop") (turn_assign (EvX.binR (by walk_at "m.ev") (EvX.call (by walk_at "m.evl") c1 rfl rfl (fun _ => rfl))) (fun _ => rfl)) rfl rfl (fun _ _ => rfl)

def cell (ns : List Int) (i : Int) : Int := ns.getD i.toNat 0
theorem cell_ok {X : Cx} {fd : Fn} (hg : getFn PP "_law_cell" = some fd) (hfd : fd ∈ X.fns) {ns : List Int} {i : Int} (h0 : 0 ≤ i) : CallOk X 1 "_law_cell" [Li ns, .int i] (.int (cell ns i)) := by
  cases (show getFn PP "_law_cell" = some _ from rfl).symm.trans hg
  clear hg
  refine callOk_of (fd := Fn.mk _ _ _ _) (xs := ["script", "i"]) hfd (by decide) (fun pm cd doc vs hv => ?_) (by decide) ?_ rfl rfl rfl (by decide)
  · match vs, hv with
    | [a, b], _ => rfl
  · show ExS _ _ _ [("script", .val (Li ns)), ("i", .val (.int i))] _ _
    clear hfd
    dsimp only
    walk_at "m.if"
    · intro hb
      have hb := of_decide_eq_true hb
      rw [List.length_map] at hb
      have e1 : (ns.map D.int)[i.toNat]? = some (.int (cell ns i)) := ints_get (ks_getD (by omega))
      walk_at "m.ret"
      left; rfl
    · intro hb
      have hb := of_decide_eq_false hb
      rw [List.length_map] at hb
      refine ExS.nil ?_
      show ExS _ _ _ _ _ _
      walk_at "m.ret"
      left
      rw [cell, List.getD_eq_getElem?_getD, List.getElem?_eq_none (by omega)]; rfl

/-- pieces and what stands between them -/
def weave : List (List Int) → List Int → List Int
  | [c], [] => c
  | c :: cs, k :: ks => c ++ k :: weave cs ks
  | _, _ => []
def pweave : List (List Int) → List Int → List Int
  | c :: cs, k :: ks => c ++ k :: pweave cs ks
  | _, _ => []
namespace T
def inoN : Nat → T → List Int
  | 0, n => n.ks
  | h + 1, n => weave (n.cs.map (inoN h)) n.ks
end T
theorem weave_length : ∀ (cs : List (List Int)) (ks : List Int), cs.length = ks.length + 1 → (weave cs ks).length = ks.length + (cs.map List.length).sum
  | [c], [], _ => by simp [weave]
  | c :: d :: cs, k :: ks, h => by
    have := weave_length (d :: cs) ks (by simpa using h)
    simp only [weave, List.length_append, List.length_cons, this, List.map_cons, List.sum_cons]; omega
  | [], _, h => by simp at h
  | [_], _ :: _, h => by simp at h
  | _ :: _ :: _, [], h => by simp at h
theorem ino_length : ∀ (h : Nat) (n : T), T.Wf h n → (T.inoN h n).length = T.countN h n
  | 0, n, _ => rfl
  | h + 1, n, w => by
    obtain ⟨w1, w2⟩ := w.kids
    rw [T.inoN, weave_length _ _ (by simpa using w1), T.countN, List.map_map]
    congr 2
    exact List.map_congr_left fun c hc => ino_length h c (w2 c hc)
theorem slot_zero {ks : List Int} {k : Int} (h : ∀ a ∈ ks, ¬ a < k) : slot ks k = 0 := by
  unfold slot
  rw [List.filter_eq_nil_iff.mpr fun a ha => by simpa using h a ha]; rfl
theorem filter_all {l : List Int} {k : Int} (h : ∀ a ∈ l, a < k) : (l.filter (· < k)).length = l.length := by
  rw [List.filter_eq_self.mpr fun a ha => by simpa using h a ha]
theorem weave_keys : ∀ (cs : List (List Int)) (ks : List Int), cs.length = ks.length + 1 → ∀ a ∈ ks, a ∈ weave cs ks
  | [c], [], _ => by simp
  | c :: d :: cs, k :: ks, h => fun a ha => by
    rw [weave]
    rcases List.mem_cons.mp ha with rfl | ha
    · simp
    · exact List.mem_append_right _ (List.mem_cons_of_mem _ (weave_keys (d :: cs) ks (by simpa using h) a ha))
  | [], _, h => by simp at h
  | [_], _ :: _, h => by simp at h
  | _ :: _ :: _, [], h => by simp at h
theorem weave_rank (k : Int) : ∀ (cs : List (List Int)) (ks : List Int), cs.length = ks.length + 1 → Sorted (weave cs ks) →
    slot (weave cs ks) k = slot ks k + ((cs.take (slot ks k)).map List.length).sum + slot (cs.getD (slot ks k) []) k
  | [c], [], _, _ => by simp [weave, slot]
  | c :: d :: cs, x :: ks, h, hs => by
    rw [weave] at hs ⊢
    obtain ⟨s1, s2, s3⟩ := List.pairwise_append.mp hs
    obtain ⟨s4, s5⟩ := List.pairwise_cons.mp s2
    have ih := weave_rank k (d :: cs) ks (by simpa using h) s5
    have e : slot (c ++ x :: weave (d :: cs) ks) k = slot c k + slot (x :: weave (d :: cs) ks) k := by simp [slot]
    rw [e]
    by_cases hx : x < k
    · have h1 : slot c k = c.length := filter_all fun a ha => by have := s3 a ha x List.mem_cons_self; omega
      have h2 : slot (x :: weave (d :: cs) ks) k = 1 + slot (weave (d :: cs) ks) k := by
        unfold slot; rw [List.filter_cons_of_pos (by simpa using hx)]; simp; omega
      have h3 : slot (x :: ks) k = slot ks k + 1 := by
        unfold slot; rw [List.filter_cons_of_pos (by simpa using hx)]; simp
      rw [h1, h2, h3, ih]
      simp only [List.take_succ_cons, List.map_cons, List.sum_cons, List.getD_cons_succ]
      omega
    · have h2 : slot (x :: weave (d :: cs) ks) k = 0 := slot_zero fun a ha => by
        rcases List.mem_cons.mp ha with rfl | ha
        · exact hx
        · have := s4 a ha; omega
      have h3 : slot (x :: ks) k = 0 := slot_zero fun a ha => by
        rcases List.mem_cons.mp ha with rfl | ha
        · exact hx
        · have := s4 a (weave_keys (d :: cs) ks (by simpa using h) a ha); omega
      rw [h2, h3]; simp
  | [], _, h, _ => by simp at h
  | [_], _ :: _, h, _ => by simp at h
  | _ :: _ :: _, [], h, _ => by simp at h
theorem weave_parts : ∀ (cs : List (List Int)) (ks : List Int), cs.length = ks.length + 1 → Sorted (weave cs ks) → ∀ c ∈ cs, Sorted c
  | [c], [], _, hs => by simpa [weave] using hs
  | c :: d :: cs, x :: ks, h, hs => fun e he => by
    rw [weave] at hs
    obtain ⟨s1, s2, s3⟩ := List.pairwise_append.mp hs
    obtain ⟨s4, s5⟩ := List.pairwise_cons.mp s2
    rcases List.mem_cons.mp he with rfl | he
    · exact s1
    · exact weave_parts (d :: cs) ks (by simpa using h) s5 e he
  | [], _, h, _ => by simp at h
  | [_], _ :: _, h, _ => by simp at h
  | _ :: _ :: _, [], h, _ => by simp at h
/-- rank_of counts the keys below -/
theorem rank_is (k : Int) : ∀ (h : Nat) (n : T), T.Wf h n → Sorted (T.inoN h n) → T.rankN h n k = slot (T.inoN h n) k
  | 0, n, _, _ => rfl
  | h + 1, n, w, hs => by
    obtain ⟨w1, w2⟩ := w.kids
    have hl : (n.cs.map (T.inoN h)).length = n.ks.length + 1 := by simpa using w1
    rw [T.inoN] at hs
    rw [T.inoN, weave_rank k _ _ hl hs, T.rankN]
    have sl := slot_le n.ks k
    obtain ⟨c, hc⟩ : ∃ ch, n.cs[slot n.ks k]? = some ch := ⟨n.cs[slot n.ks k]'(by omega), List.getElem?_eq_getElem _⟩
    have hcm := List.mem_of_getElem? hc
    rw [List.getD_eq_getElem?_getD, hc, List.getD_eq_getElem?_getD, List.getElem?_map, hc]
    simp only [Option.getD_some, Option.map_some]
    rw [rank_is k h c (w2 c hcm) (weave_parts _ _ hl hs _ (List.mem_map.mpr ⟨c, hcm, rfl⟩))]
    congr 2
    rw [← List.map_take, List.map_map]
    congr 1
    exact List.map_congr_left fun e he => (ino_length h e (w2 e (List.mem_of_mem_take he))).symm

theorem weave_snoc : ∀ (cs : List (List Int)) (ks : List Int) (l : List Int), cs.length = ks.length → weave (cs ++ [l]) ks = pweave cs ks ++ l
  | [], [], l, _ => by simp [weave, pweave]
  | c :: cs, k :: ks, l, h => by
    have ih := weave_snoc cs ks l (by simpa using h)
    have : weave (c :: (cs ++ [l])) (k :: ks) = c ++ k :: weave (cs ++ [l]) ks := by
      cases cs <;> rfl
    rw [List.cons_append, this, ih, pweave]; simp
  | [], _ :: _, _, h => by simp at h
  | _ :: _, [], _, h => by simp at h
theorem pweave_snoc : ∀ (cs : List (List Int)) (ks : List Int) (l : List Int) (x : Int), cs.length = ks.length → pweave (cs ++ [l]) (ks ++ [x]) = pweave cs ks ++ (l ++ [x])
  | [], [], l, x, _ => by simp [pweave]
  | c :: cs, k :: ks, l, x, h => by
    have ih := pweave_snoc cs ks l x (by simpa using h)
    rw [List.cons_append, List.cons_append, pweave, ih, pweave]; simp
  | [], _ :: _, _, _, h => by simp at h
  | _ :: _, [], _, _, h => by simp at h

/-! what _law_build lays -/
/-- the keys from place a on, n of them -/
def keysAt (key : Nat → Int) (a n : Nat) : List Int := (List.range' a n).map key
theorem keysAt_append (key : Nat → Int) (a n m : Nat) : keysAt key a n ++ keysAt key (a + n) m = keysAt key a (n + m) := by
  unfold keysAt; rw [← List.map_append, List.range'_append_1]
theorem keysAt_one (key : Nat → Int) (a : Nat) : [key a] = keysAt key a 1 := by simp [keysAt, List.range']
theorem keysAt_sorted {key : Nat → Int} (hk : ∀ a b, a < b → key a < key b) (a n : Nat) : Sorted (keysAt key a n) := by
  unfold keysAt Sorted
  rw [List.pairwise_map]
  exact (List.pairwise_lt_range' (s := a) (n := n)).imp fun h => hk _ _ h
def leafT (key : Nat → Int) (val : Int) (a n : Nat) : T := .node (keysAt key a n) (List.replicate n val) []
theorem leafT_wf {key : Nat → Int} (hk : ∀ a b, a < b → key a < key b) {val : Int} {a n : Nat} (hn : n ≤ 1000) : T.Wf 0 (leafT key val a n) := .leaf (keysAt_sorted hk a n) (by simp [keysAt]) (by simpa [keysAt] using hn)
/-- the inner loop: kids, separators, place -/
def inn (key : Nat → Int) (val : Int) (g : Nat → Nat) (w p0 : Nat) : Nat → List T × List Int × Nat
  | 0 => ([], [], p0)
  | j + 1 => let s := inn key val g w p0 j; let q := s.2.2 + g j
    (s.1 ++ [leafT key val s.2.2 (g j)], if j < w - 1 then s.2.1 ++ [key q] else s.2.1, if j < w - 1 then q + 1 else q)
def topT (val : Int) (r : List T × List Int × Nat) : T := .node r.2.1 (List.replicate r.2.1.length val) r.1
/-- the outer loop: tops, row, place -/
def out (key : Nat → Int) (val : Int) (g : Nat → Nat → Nat) (w : Nat → Nat) (m : Nat) : Nat → List T × List Int × Nat
  | 0 => ([], [], 0)
  | i + 1 => let s := out key val g w m i; let r := inn key val (g i) (w i) s.2.2 (w i)
    (s.1 ++ [topT val r], if i < m - 1 then s.2.1 ++ [key r.2.2] else s.2.1, if i < m - 1 then r.2.2 + 1 else r.2.2)

theorem inn_pre {key : Nat → Int} (hk : ∀ a b, a < b → key a < key b) {val : Int} {g : Nat → Nat} {w p0 : Nat} (hg : ∀ j, g j ≤ 3) : ∀ j, j ≤ w - 1 → let s := inn key val g w p0 j
    s.1.length = j ∧ s.2.1.length = j ∧ p0 ≤ s.2.2 ∧ s.2.2 ≤ p0 + 4 * j ∧ (∀ c ∈ s.1, T.Wf 0 c) ∧ pweave (s.1.map (T.inoN 0)) s.2.1 = keysAt key p0 (s.2.2 - p0)
  | 0, _ => by simp [inn, pweave, keysAt]
  | j + 1, hj => by
    obtain ⟨a1, a2, a3, a3', a4, a5⟩ := inn_pre hk (p0 := p0) (val := val) (w := w) hg j (by omega)
    have hg' := hg j
    simp only [inn, if_pos (show j < w - 1 by omega)]
    refine ⟨by simp [a1], by simp [a2], by omega, by omega, fun c hc => ?_, ?_⟩
    · rcases List.mem_append.mp hc with hc | hc
      · exact a4 c hc
      · rw [List.mem_singleton.mp hc]; exact leafT_wf hk (by omega)
    · rw [List.map_append, List.map_cons, List.map_nil, pweave_snoc _ _ _ _ (by simp [a1, a2]), a5]
      show _ ++ (keysAt key _ _ ++ _) = _
      rw [keysAt_one, keysAt_append]
      generalize (inn key val g w p0 j).2.2 = p at *
      obtain ⟨e, rfl⟩ : ∃ e, p = p0 + e := ⟨p - p0, by omega⟩
      rw [show p0 + e - p0 = e by omega, keysAt_append]
      congr 1; omega
theorem inn_end {key : Nat → Int} (hk : ∀ a b, a < b → key a < key b) {val : Int} {g : Nat → Nat} {w p0 : Nat} (hg : ∀ j, g j ≤ 3) (hw : 1 ≤ w) (hw' : w ≤ 100) : let s := inn key val g w p0 w
    p0 ≤ s.2.2 ∧ s.2.2 ≤ p0 + 4 * w ∧ T.Wf 1 (topT val s) ∧ T.inoN 1 (topT val s) = keysAt key p0 (s.2.2 - p0) := by
  obtain ⟨j, rfl⟩ : ∃ j, w = j + 1 := ⟨w - 1, by omega⟩
  obtain ⟨a1, a2, a3, a3', a4, a5⟩ := inn_pre hk (p0 := p0) (val := val) (w := j + 1) hg j (by omega)
  have hg' := hg j
  have ino : T.inoN 1 (topT val (inn key val g (j + 1) p0 (j + 1))) = keysAt key p0 ((inn key val g (j + 1) p0 (j + 1)).2.2 - p0) := by
    simp only [inn, if_neg (show ¬ j < j + 1 - 1 by omega)]
    show weave _ _ = _
    simp only [topT, T.cs, T.ks, List.map_append, List.map_cons, List.map_nil]
    rw [weave_snoc _ _ _ (by simp [a1, a2]), a5]
    show _ ++ keysAt key _ _ = _
    generalize (inn key val g (j + 1) p0 j).2.2 = p at *
    obtain ⟨e, rfl⟩ : ∃ e, p = p0 + e := ⟨p - p0, by omega⟩
    rw [show p0 + e - p0 = e by omega, keysAt_append]
    congr 1; omega
  refine ⟨?_, ?_, ?_, ino⟩
  · simp only [inn, if_neg (show ¬ j < j + 1 - 1 by omega)]; omega
  · simp only [inn, if_neg (show ¬ j < j + 1 - 1 by omega)]; omega
  · have hs := keysAt_sorted hk p0 ((inn key val g (j + 1) p0 (j + 1)).2.2 - p0)
    rw [← ino] at hs
    have kk : ∀ (cs : List (List Int)) (ks : List Int), cs.length = ks.length + 1 → Sorted (weave cs ks) → Sorted ks := by
      intro cs
      induction cs with
      | nil => intro ks h; simp at h
      | cons c cs ih =>
        intro ks h hs
        cases ks with
        | nil => exact .nil
        | cons k ks =>
          cases cs with
          | nil => simp at h
          | cons d cs =>
            rw [weave] at hs
            obtain ⟨_, s2, _⟩ := List.pairwise_append.mp hs
            obtain ⟨s4, s5⟩ := List.pairwise_cons.mp s2
            exact List.pairwise_cons.mpr ⟨fun a ha => s4 a (weave_keys (d :: cs) ks (by simpa using h) a ha), ih ks (by simpa using h) s5⟩
    simp only [topT, inn, if_neg (show ¬ j < j + 1 - 1 by omega)] at hs ⊢
    refine .inner (kk _ _ (by simp [T.cs, T.ks, a1, a2]) hs) (by simp) (by omega) (by simp [a1, a2]) fun c hc => ?_
    rcases List.mem_append.mp hc with hc | hc
    · exact a4 c hc
    · rw [List.mem_singleton.mp hc]; exact leafT_wf hk (by omega)
theorem weave_ks : ∀ (cs : List (List Int)) (ks : List Int), cs.length = ks.length + 1 → Sorted (weave cs ks) → Sorted ks := by
  intro cs
  induction cs with
  | nil => intro ks h; simp at h
  | cons c cs ih =>
    intro ks h hs
    cases ks with
    | nil => exact .nil
    | cons k ks =>
      cases cs with
      | nil => simp at h
      | cons d cs =>
        rw [weave] at hs
        obtain ⟨_, s2, _⟩ := List.pairwise_append.mp hs
        obtain ⟨s4, s5⟩ := List.pairwise_cons.mp s2
        exact List.pairwise_cons.mpr ⟨fun a ha => s4 a (weave_keys (d :: cs) ks (by simpa using h) a ha), ih ks (by simpa using h) s5⟩
theorem out_pre {key : Nat → Int} (hk : ∀ a b, a < b → key a < key b) {val : Int} {g : Nat → Nat → Nat} {w : Nat → Nat} {m : Nat} (hg : ∀ i j, g i j ≤ 3) (hw : ∀ i, 1 ≤ w i ∧ w i ≤ 4) : ∀ i, i ≤ m - 1 → let s := out key val g w m i
    s.1.length = i ∧ s.2.1.length = i ∧ s.2.2 ≤ 20 * i ∧ (∀ c ∈ s.1, T.Wf 1 c) ∧ pweave (s.1.map (T.inoN 1)) s.2.1 = keysAt key 0 s.2.2
  | 0, _ => by simp [out, pweave, keysAt]
  | i + 1, hi => by
    obtain ⟨a1, a2, a3, a4, a5⟩ := out_pre hk (val := val) (w := w) (m := m) hg hw i (by omega)
    obtain ⟨b1, b2, b3, b4⟩ := inn_end hk (val := val) (p0 := (out key val g w m i).2.2) (hg i) (hw i).1 (by have := (hw i).2; omega)
    have hw' := (hw i).2
    simp only [out, if_pos (show i < m - 1 by omega)]
    refine ⟨by simp [a1], by simp [a2], by omega, fun c hc => ?_, ?_⟩
    · rcases List.mem_append.mp hc with hc | hc
      · exact a4 c hc
      · rw [List.mem_singleton.mp hc]; exact b3
    · rw [List.map_append, List.map_cons, List.map_nil, pweave_snoc _ _ _ _ (by simp [a1, a2]), a5, b4]
      rw [keysAt_one]
      generalize (inn key val (g i) (w i) (out key val g w m i).2.2 (w i)).2.2 = p at *
      generalize (out key val g w m i).2.2 = p0 at *
      obtain ⟨e, rfl⟩ : ∃ e, p = p0 + e := ⟨p - p0, by omega⟩
      rw [show p0 + e - p0 = e by omega, keysAt_append]
      have := keysAt_append key 0 p0 (e + 1)
      rw [Nat.zero_add] at this
      rw [this]
      congr 1
theorem out_end {key : Nat → Int} (hk : ∀ a b, a < b → key a < key b) {val : Int} {g : Nat → Nat → Nat} {w : Nat → Nat} {m : Nat} (hg : ∀ i j, g i j ≤ 3) (hw : ∀ i, 1 ≤ w i ∧ w i ≤ 4) (hm : 1 ≤ m) (hm' : m ≤ 10) : let s := out key val g w m m
    s.2.2 ≤ 20 * m ∧ T.Wf 2 (topT val s) ∧ T.inoN 2 (topT val s) = keysAt key 0 s.2.2 := by
  obtain ⟨i, rfl⟩ : ∃ i, m = i + 1 := ⟨m - 1, by omega⟩
  obtain ⟨a1, a2, a3, a4, a5⟩ := out_pre hk (val := val) (w := w) (m := i + 1) hg hw i (by omega)
  obtain ⟨b1, b2, b3, b4⟩ := inn_end hk (val := val) (p0 := (out key val g w (i + 1) i).2.2) (hg i) (hw i).1 (by have := (hw i).2; omega)
  have hw' := (hw i).2
  have ino : T.inoN 2 (topT val (out key val g w (i + 1) (i + 1))) = keysAt key 0 (out key val g w (i + 1) (i + 1)).2.2 := by
    simp only [out, if_neg (show ¬ i < i + 1 - 1 by omega)]
    show weave _ _ = _
    simp only [topT, T.cs, T.ks, List.map_append, List.map_cons, List.map_nil]
    rw [weave_snoc _ _ _ (by simp [a1, a2]), a5]
    show _ ++ T.inoN 1 (topT val _) = _
    rw [b4]
    generalize (inn key val (g i) (w i) (out key val g w (i + 1) i).2.2 (w i)).2.2 = p at *
    generalize (out key val g w (i + 1) i).2.2 = p0 at *
    obtain ⟨e, rfl⟩ : ∃ e, p = p0 + e := ⟨p - p0, by omega⟩
    rw [show p0 + e - p0 = e by omega]
    have := keysAt_append key 0 p0 e
    rw [Nat.zero_add] at this
    rw [this]
  refine ⟨?_, ?_, ino⟩
  · simp only [out, if_neg (show ¬ i < i + 1 - 1 by omega)]; omega
  · have hs := keysAt_sorted hk 0 (out key val g w (i + 1) (i + 1)).2.2
    rw [← ino] at hs
    simp only [topT, out, if_neg (show ¬ i < i + 1 - 1 by omega)] at hs ⊢
    refine .inner (weave_ks _ _ (by simp [T.cs, T.ks, a1, a2]) hs) (by simp) (by omega) (by simp [a1, a2]) fun c hc => ?_
    rcases List.mem_append.mp hc with hc | hc
    · exact a4 c hc
    · rw [List.mem_singleton.mp hc]; exact b3

/-! the numbers of the script -/
def keyF (ns : List Int) (p : Nat) : Int := cell ns 4 + (1 + (cell ns 5).fmod 3) * p
def gF (ns : List Int) (i j : Nat) : Nat := (1 + (cell ns (9 + (j : Int).fmod 3) + i).fmod 3).toNat
def wF (ns : List Int) (i : Nat) : Nat := (2 + (cell ns 8 + i).fmod 3).toNat
def mF (ns : List Int) (lv : Nat) : Nat := if lv = 2 then (2 + (cell ns 7).fmod 2).toNat else 1
def outF (ns : List Int) (lv : Nat) : List T × List Int × Nat := out (keyF ns) (cell ns 6) (gF ns) (wF ns) (mF ns lv) (mF ns lv)
def treeF (ns : List Int) (lv : Nat) : T := if lv = 0 then leafT (keyF ns) (cell ns 6) 0 ((cell ns 7).fmod 8).toNat else if lv = 1 then (outF ns 1).1.getD 0 .empty else topT (cell ns 6) (outF ns 2)
def sizeF (ns : List Int) (lv : Nat) : Nat := if lv = 0 then ((cell ns 7).fmod 8).toNat else (outF ns lv).2.2
theorem fmod_lt (a : Int) {m : Int} (hm : 0 < m) : 0 ≤ a.fmod m ∧ a.fmod m < m := ⟨Int.fmod_nonneg_of_pos a hm, Int.fmod_lt_of_pos a hm⟩
theorem keyF_mono (ns : List Int) : ∀ a b, a < b → keyF ns a < keyF ns b := fun a b h => by
  unfold keyF
  have h1 := fmod_lt (cell ns 5) (m := 3) (by decide)
  have : (1 + (cell ns 5).fmod 3) * (a : Int) < (1 + (cell ns 5).fmod 3) * b := Int.mul_lt_mul_of_pos_left (by omega) (by omega)
  omega
theorem gF_le (ns : List Int) (i j : Nat) : gF ns i j ≤ 3 ∧ (gF ns i j : Int) = 1 + (cell ns (9 + (j : Int).fmod 3) + i).fmod 3 := by
  have h1 := fmod_lt (cell ns (9 + (j : Int).fmod 3) + i) (m := 3) (by decide)
  unfold gF; omega
theorem wF_le (ns : List Int) (i : Nat) : 2 ≤ wF ns i ∧ wF ns i ≤ 4 ∧ (wF ns i : Int) = 2 + (cell ns 8 + i).fmod 3 := by
  have h1 := fmod_lt (cell ns 8 + i) (m := 3) (by decide)
  unfold wF; omega
theorem mF_le (ns : List Int) (lv : Nat) : 1 ≤ mF ns lv ∧ mF ns lv ≤ 3 := by
  have h1 := fmod_lt (cell ns 7) (m := 2) (by decide)
  unfold mF; split <;> omega
/-- what is built is well formed, and its keys are the first ones in order -/
theorem treeF_ok (ns : List Int) {lv : Nat} (hl : lv ≤ 2) : T.Wf lv (treeF ns lv) ∧ T.inoN lv (treeF ns lv) = keysAt (keyF ns) 0 (sizeF ns lv) ∧ sizeF ns lv ≤ 100 := by
  have hk := keyF_mono ns
  have hg : ∀ i j, gF ns i j ≤ 3 := fun i j => (gF_le ns i j).1
  have hw : ∀ i, 1 ≤ wF ns i ∧ wF ns i ≤ 4 := fun i => by have := wF_le ns i; omega
  match lv, hl with
  | 0, _ =>
    have h1 := fmod_lt (cell ns 7) (m := 8) (by decide)
    exact ⟨leafT_wf hk (by omega), rfl, by show ((cell ns 7).fmod 8).toNat ≤ 100; omega⟩
  | 1, _ =>
    obtain ⟨b1, b2, b3, b4⟩ := inn_end hk (val := cell ns 6) (p0 := 0) (hg 0) (hw 0).1 (by have := (hw 0).2; omega)
    have e1 : treeF ns 1 = topT (cell ns 6) (inn (keyF ns) (cell ns 6) (gF ns 0) (wF ns 0) 0 (wF ns 0)) := rfl
    have e2 : sizeF ns 1 = (inn (keyF ns) (cell ns 6) (gF ns 0) (wF ns 0) 0 (wF ns 0)).2.2 := rfl
    have := (hw 0).2
    rw [e1, e2]
    exact ⟨b3, by rw [b4]; rfl, by omega⟩
  | 2, _ =>
    have hm := mF_le ns 2
    obtain ⟨b1, b2, b3⟩ := out_end hk (val := cell ns 6) hg hw hm.1 (by omega)
    exact ⟨b2, b3, by show (outF ns 2).2.2 ≤ 100; unfold outF; omega⟩

theorem rngI_eq : ∀ (lo : Int) (k : Nat), rngI lo k = (List.range k).map fun (i : Nat) => lo + (i : Int)
  | _, 0 => rfl
  | lo, k + 1 => by
    rw [rngI, rngI_eq (lo + 1) k, List.range_succ_eq_map]
    simp only [List.map_cons, List.map_map, Function.comp_def]
    congr 1
    · simp
    · exact List.map_congr_left fun i _ => by push_cast; omega
theorem gap_mul (ns : List Int) (x : Int) : IntMulOk (1 + (cell ns 5).fmod 3) x := by
  have h1 := fmod_lt (cell ns 5) (m := 3) (by decide)
  exact IntMulOk.of_left (intBits_le_64 (by omega) (by omega))
theorem leaf_ok {X : Cx} {fd : Fn} (hg : getFn PP "_law_leaf" = some fd) (hfd : fd ∈ X.fns) (ns : List Int) (v : Int) (a n : Nat) (hn : n ≤ 1000) :
    CallOk X 1 "_law_leaf" [.int (keyF ns a), .int (1 + (cell ns 5).fmod 3), .int n, .int v] (leafT (keyF ns) v a n).toD := by
  cases (show getFn PP "_law_leaf" = some _ from rfl).symm.trans hg
  clear hg
  refine callOk_cells (fd := Fn.mk _ _ _ _) (xs := ["start", "gap", "n", "value"]) [.cell, .cell, .local, .local] hfd (by decide) rfl (fun pm cd doc vs hv => ?_) (by decide) ?_ rfl rfl rfl
  · match vs, hv with
    | [a, b, c, d], _ => rfl
  · show ExS _ _ _ [("start", .cel (.int (keyF ns a))), ("gap", .cel (.int (1 + (cell ns 5).fmod 3))), ("n", .val (.int n)), ("value", .val (.int v))] _ _
    clear hfd
    dsimp only
    have e : (leafT (keyF ns) v a n).toD = .tup [.list (((rngI 0 ((n : Int) - 0).toNat).filter fun _ => true).map fun q => .int (keyF ns a + (1 + (cell ns 5).fmod 3) * q)), .list (List.replicate (n : Int).toNat (.int v)), .list []] := by
      rw [leafT, T.toD_node, Li, Li, keysAt, rngI_eq, List.filter_eq_self.mpr (fun _ _ => rfl), List.range'_eq_map_range]
      simp only [List.map_map, Function.comp_def, List.map_replicate, Int.toNat_natCast, Int.sub_zero, List.map_nil, Int.zero_add]
      congr 3
      refine List.map_congr_left fun q _ => ?_
      unfold keyF
      congr 1
      push_cast
      rw [Int.mul_add]; omega
    rw [e]
    refine ExS.ret (Ev.tuple (EvL.cons (EvN.ev (EvN.compRange (p := fun _ => true) (f := fun q => .int (keyF ns a + (1 + (cell ns 5).fmod 3) * q)) [("start", .int (keyF ns a)), ("gap", .int (1 + (cell ns 5).fmod 3))] ["start", "gap"] (lo := 0) (hi := n) (by walk_at "m.rng") (by omega) (by omega) (by omega) (by omega) ?_ (by decide) rfl ?_ (fun i _ _ => Ifs.nil) (fun i _ _ _ => ?_) (fun _ => trivial) (fun _ _ => rfl)))
      (EvL.cons (Ev.binop (Ev.list (EvL.cons (by walk_at "m.ev") EvL.nil fun _ => rfl) (Nat.le_of_ble_eq_true rfl)) (by walk_at "m.ev") (op_rep (by omega) (by omega))) (EvL.cons (by walk_at "m.ev") EvL.nil fun _ => rfl) fun _ => rfl) fun _ => rfl) (Nat.le_of_ble_eq_true rfl)) (.inl rfl)
    · show ((n : Int) - 0).toNat ≤ 1048576; omega
    · show ∀ q ∈ ([("start", .cel (.int (keyF ns a))), ("gap", .cel (.int (1 + (cell ns 5).fmod 3)))] : Rho), _
      walk_at "m.sub"
    · show Ev _ _ _ [("q", .val (.int i)), ("start", .cel (.int (keyF ns a))), ("gap", .cel (.int (1 + (cell ns 5).fmod 3)))] _ _
      exact Ev.binop (Ev.cell (by walk_at "m.mem")) (Ev.binop (Ev.cell (by walk_at "m.mem")) (by walk_at "m.ev") (op_mul_int (gap_mul ns i))) op_add_int

theorem build_ok {X : Cx} {fd : Fn} (hg : getFn PP "_law_build" = some fd) (hfd : fd ∈ X.fns)
    (ce : ∀ {ns : List Int} {i : Int}, 0 ≤ i → CallOk X 1 "_law_cell" [Li ns, .int i] (.int (cell ns i)))
    (le : ∀ (ns : List Int) (v : Int) (a n : Nat), n ≤ 1000 → CallOk X 1 "_law_leaf" [.int (keyF ns a), .int (1 + (cell ns 5).fmod 3), .int n, .int v] (leafT (keyF ns) v a n).toD)
    (ns : List Int) {lv : Nat} (hl : lv ≤ 2) : CallOk X 2 "_law_build" [Li ns, .int lv] (.tup [(treeF ns lv).toD, .int (sizeF ns lv)]) := by
  cases (show getFn PP "_law_build" = some _ from rfl).symm.trans hg
  clear hg
  refine callOk_of (fd := Fn.mk _ _ _ _) (xs := ["script", "levels"]) hfd (by decide) (fun pm cd doc vs hv => ?_) (by decide) ?_ rfl rfl rfl (by decide)
  · match vs, hv with
    | [a, b], _ => rfl
  · show ExS _ _ _ [("script", .val (Li ns)), ("levels", .val (.int lv))] _ _
    clear hfd
    dsimp only
    have c4 := ce (ns := ns) (i := 4) (by decide)
    have c5 := ce (ns := ns) (i := 5) (by decide)
    have c6 := ce (ns := ns) (i := 6) (by decide)
    have c7 := ce (ns := ns) (i := 7) (by decide)
    have c8 := ce (ns := ns) (i := 8) (by decide)
    walk_at "m.asg"
    walk_at "m.asg"
    walk_at "m.asg"
    refine ExS.iff (b := (lv : Int) == 0) (by walk_at "m.tr") (fun hb => ?_) fun hb => ExS.nil ?_
    · have hb : lv = 0 := by have := eq_of_beq hb; omega
      subst hb
      have h1 := fmod_lt (cell ns 7) (m := 8) (by decide)
      have l1 := le ns (cell ns 6) 0 ((cell ns 7).fmod 8).toNat (by omega)
      rw [show ((((cell ns 7).fmod 8).toNat : Nat) : Int) = (cell ns 7).fmod 8 by omega, show keyF ns 0 = cell ns 4 by simp [keyF]] at l1
      walk_at "m.asg"
      walk_at "m.ret"
      left
      show _ = PF.ret (.tup [(leafT (keyF ns) (cell ns 6) 0 ((cell ns 7).fmod 8).toNat).toD, .int (((cell ns 7).fmod 8).toNat : Nat)])
      rw [show ((((cell ns 7).fmod 8).toNat : Nat) : Int) = (cell ns 7).fmod 8 by omega]
    · show ExS _ _ _ _ _ _
      have hb : lv ≠ 0 := fun e => by rw [e] at hb; cases hb
      walk_at "m.asg"
      refine ExS.ifJoin (fun ρ' => ∀ q ∈ ([("m", .val (.int (mF ns lv))), ("value", .val (.int (cell ns 6))), ("gap", .val (.int (1 + (cell ns 5).fmod 3))), ("first", .val (.int (cell ns 4))), ("script", .val (Li ns)), ("levels", .val (.int lv))] : Rho), q ∈ ρ') (by walk_at "m.tr") ?_ ?_ ?_
      · intro h2
        have h2 : lv = 2 := by have := eq_of_beq h2; omega
        walk_at "m.asg"
        refine ExS.nil ?_
        have h1 := fmod_lt (cell ns 7) (m := 2) (by decide)
        have : (2 : Int) + (cell ns 7).fmod 2 = (mF ns lv : Nat) := by rw [mF, if_pos h2]; omega
        rw [this]
        walk_at "m.sub"
      · intro h2
        have h2 : lv ≠ 2 := fun e => by rw [e] at h2; cases h2
        refine ExS.nil ?_
        have : (1 : Int) = (mF ns lv : Nat) := by rw [mF, if_neg h2]; rfl
        rw [this]
        walk_at "m.sub"
      · intro ρ' hsub
        refine ExT.sub hsub ?_
        have hm := mF_le ns lv
        have hk := keyF_mono ns
        have hgf : ∀ i j, gF ns i j ≤ 3 := fun i j => (gF_le ns i j).1
        have hwf : ∀ i, 1 ≤ wF ns i ∧ wF ns i ≤ 4 := fun i => by have := wF_le ns i; omega
        walk_at "m.asg"
        walk_at "m.own"
        walk_at "m.own"
        refine ExS.forRange (lo := 0) (hi := (mF ns lv : Nat)) (fun i ρ => ∀ q ∈ ([("p", .val (.int (out (keyF ns) (cell ns 6) (gF ns) (wF ns) (mF ns lv) i).2.2)), ("tops", .own ((out (keyF ns) (cell ns 6) (gF ns) (wF ns) (mF ns lv) i).1.map T.toD)), ("row", .own ((out (keyF ns) (cell ns 6) (gF ns) (wF ns) (mF ns lv) i).2.1.map D.int)),
          ("m", .val (.int (mF ns lv))), ("value", .val (.int (cell ns 6))), ("gap", .val (.int (1 + (cell ns 5).fmod 3))), ("first", .val (.int (cell ns 4))), ("script", .val (Li ns)), ("levels", .val (.int lv))] : Rho), q ∈ ρ) (by walk_at "m.rng") (by omega) (by omega) (by omega) (by omega) ?_ ?_ ?_ rfl rfl (fun _ _ => rfl)
        · show ∀ q ∈ ([("p", .val (.int 0)), ("tops", .own []), ("row", .own []), ("m", .val (.int (mF ns lv))), ("value", .val (.int (cell ns 6))), ("gap", .val (.int (1 + (cell ns 5).fmod 3))), ("first", .val (.int (cell ns 4))), ("script", .val (Li ns)), ("levels", .val (.int lv))] : Rho), _
          walk_at "m.sub"
        · intro i ρ hi hsub
          refine ⟨_, Dr.of hsub (by walk_at "m.drop"), ?_⟩
          rw [Int.zero_add]
          obtain ⟨a1, a2, a3, a4, a5⟩ := out_pre hk (val := cell ns 6) (w := wF ns) (m := mF ns lv) hgf hwf i (by omega)
          generalize hS : out (keyF ns) (cell ns 6) (gF ns) (wF ns) (mF ns lv) i = S at *
          obtain ⟨S1, S2, p0⟩ := S
          dsimp only at a1 a2 a3 a4 a5 ⊢
          have w1 := wF_le ns i
          walk_at "m.own"
          walk_at "m.own"
          walk_at "m.asg"
          rw [← w1.2.2]
          refine ExS.forRange (lo := 0) (hi := (wF ns i : Nat)) (fun j ρ => ∀ q ∈ ([("p", .val (.int (inn (keyF ns) (cell ns 6) (gF ns i) (wF ns i) p0 j).2.2)), ("kids", .own ((inn (keyF ns) (cell ns 6) (gF ns i) (wF ns i) p0 j).1.map T.toD)), ("seps", .own ((inn (keyF ns) (cell ns 6) (gF ns i) (wF ns i) p0 j).2.1.map D.int)), ("w", .val (.int (wF ns i))),
            ("i", .val (.int i)), ("tops", .own (S1.map T.toD)), ("row", .own (S2.map D.int)),
            ("m", .val (.int (mF ns lv))), ("value", .val (.int (cell ns 6))), ("gap", .val (.int (1 + (cell ns 5).fmod 3))), ("first", .val (.int (cell ns 4))), ("script", .val (Li ns)), ("levels", .val (.int lv))] : Rho), q ∈ ρ) (by walk_at "m.rng") (by omega) (by omega) (by omega) (by omega) ?_ ?_ ?_ rfl rfl (fun _ _ => rfl)
          · show ∀ q ∈ ([("p", .val (.int p0)), ("kids", .own []), ("seps", .own []), ("w", .val (.int (wF ns i))),
              ("i", .val (.int i)), ("tops", .own (S1.map T.toD)), ("row", .own (S2.map D.int)),
              ("m", .val (.int (mF ns lv))), ("value", .val (.int (cell ns 6))), ("gap", .val (.int (1 + (cell ns 5).fmod 3))), ("first", .val (.int (cell ns 4))), ("script", .val (Li ns)), ("levels", .val (.int lv))] : Rho), _
            walk_at "m.sub"
          · intro j ρ hj hsub
            refine ⟨_, Dr.of hsub (by walk_at "m.drop"), ?_⟩
            rw [Int.zero_add]
            obtain ⟨b1, b2, b3, b3', b4, b5⟩ := inn_pre hk (p0 := p0) (val := cell ns 6) (w := wF ns i) (hgf i) j (by omega)
            have hstep : inn (keyF ns) (cell ns 6) (gF ns i) (wF ns i) p0 (j + 1) = _ := rfl
            generalize hI : inn (keyF ns) (cell ns 6) (gF ns i) (wF ns i) p0 j = I at *
            obtain ⟨I1, I2, p⟩ := I
            dsimp only at b1 b2 b3 b3' b4 b5 ⊢
            have g1 := gF_le ns i j
            have h3 := fmod_lt (j : Int) (m := 3) (by decide)
            have c9 := ce (ns := ns) (i := 9 + (j : Int).fmod 3) (by omega)
            have l1 := le ns (cell ns 6) p (gF ns i j) (by omega)
            have m1 := gap_mul ns (p : Int)
            have m2 := gap_mul ns ((p : Int) + (gF ns i j : Nat))
            rw [keyF] at l1
            walk_at "m.asg"
            rw [← g1.2]
            refine ExS.append (x := "kids") (ds := I1.map T.toD) (d := (leafT (keyF ns) (cell ns 6) p (gF ns i j)).toD) (by walk_at "m.mem") (by walk_at "m.ev") (by rw [List.length_map]; show I1.length < 1048576; omega) (by walk_at "m.drop") ?_ (fun _ => rfl) (fun _ => rfl) rfl (fun _ => rfl) (fun _ => rfl)
            walk_at "m.asg"
            walk_at "m.if"
            · intro hb
              have hb : j < wF ns i - 1 := by have := of_decide_eq_true hb; omega
              refine ExS.append (x := "seps") (ds := I2.map D.int) (d := .int (cell ns 4 + (1 + (cell ns 5).fmod 3) * ((p : Int) + (gF ns i j : Nat)))) (by walk_at "m.mem") (by walk_at "m.ev") (by rw [List.length_map]; show I2.length < 1048576; omega) (by walk_at "m.drop") ?_ (fun _ => rfl) (fun _ => rfl) rfl (fun _ => rfl) (fun _ => rfl)
              walk_at "m.asg"
              refine ExS.nil (ExS.nil ?_)
              show ∀ q ∈ _, _
              rw [inn, hI]
              simp only [if_pos hb, List.map_append, List.map_cons, List.map_nil]
              rw [show ((p + gF ns i j + 1 : Nat) : Int) = (p : Int) + (gF ns i j : Nat) + 1 by omega, show keyF ns (p + gF ns i j) = cell ns 4 + (1 + (cell ns 5).fmod 3) * ((p : Int) + (gF ns i j : Nat)) by unfold keyF; push_cast; rfl]
              walk_at "m.sub"
            · intro hb
              have hb : ¬ j < wF ns i - 1 := by have := of_decide_eq_false hb; omega
              refine ExS.nil (ExS.nil ?_)
              show ∀ q ∈ _, _
              rw [inn, hI]
              simp only [if_neg hb, List.map_append, List.map_cons, List.map_nil]
              rw [show ((p + gF ns i j : Nat) : Int) = (p : Int) + (gF ns i j : Nat) by omega]
              walk_at "m.sub"
          · intro ρ hsub
            refine ExT.sub hsub ?_
            obtain ⟨d1, d2, d3, d4⟩ := inn_end hk (val := cell ns 6) (p0 := p0) (hgf i) (hwf i).1 (by omega)
            rw [show ((wF ns i : Int) - 0).toNat = wF ns i by omega]
            have lens : (inn (keyF ns) (cell ns 6) (gF ns i) (wF ns i) p0 (wF ns i)).2.1.length ≤ 1000 := d3.sorted.2
            have outS : out (keyF ns) (cell ns 6) (gF ns) (wF ns) (mF ns lv) (i + 1) = (S1 ++ [topT (cell ns 6) (inn (keyF ns) (cell ns 6) (gF ns i) (wF ns i) p0 (wF ns i))], if i < mF ns lv - 1 then S2 ++ [keyF ns (inn (keyF ns) (cell ns 6) (gF ns i) (wF ns i) p0 (wF ns i)).2.2] else S2, if i < mF ns lv - 1 then (inn (keyF ns) (cell ns 6) (gF ns i) (wF ns i) p0 (wF ns i)).2.2 + 1 else (inn (keyF ns) (cell ns 6) (gF ns i) (wF ns i) p0 (wF ns i)).2.2) := by
              rw [out, hS]
            generalize hJ : inn (keyF ns) (cell ns 6) (gF ns i) (wF ns i) p0 (wF ns i) = J at *
            obtain ⟨J1, J2, p⟩ := J
            dsimp only at d1 d2 lens outS ⊢
            have m1 := gap_mul ns (p : Int)
            have tops : (topT (cell ns 6) (J1, J2, p)).toD = .tup [.list (J2.map D.int), .list (List.replicate ((J2.map D.int).length : Int).toNat (.int (cell ns 6))), .list (J1.map T.toD)] := by
              rw [topT, T.toD_node, Li, Li, List.map_replicate, Int.toNat_natCast, List.length_map]
            refine ExS.freeze (x := "seps") (by walk_at "m.mem") (by walk_at "m.drop") ?_
            refine ExS.freeze (x := "kids") (by walk_at "m.mem") (by walk_at "m.drop") ?_
            refine ExS.append (x := "tops") (ds := S1.map T.toD) (d := (topT (cell ns 6) (J1, J2, p)).toD) (by walk_at "m.mem") ?_ (by rw [List.length_map]; show S1.length < 1048576; omega) (by walk_at "m.drop") ?_ (fun _ => rfl) (fun _ => rfl) rfl (fun _ => rfl) (fun _ => rfl)
            · rw [tops]
              exact Ev.tuple (EvL.cons (by walk_at "m.ev") (EvL.cons (Ev.binop (by walk_at "m.ev") (by walk_at "m.ev") (op_rep (by omega) (by rw [List.length_map]; omega))) (EvL.cons (by walk_at "m.ev") EvL.nil fun _ => rfl) fun _ => rfl) fun _ => rfl) (Nat.le_of_ble_eq_true rfl)
            walk_at "m.if"
            · intro hb
              have hb : i < mF ns lv - 1 := by have := of_decide_eq_true hb; omega
              refine ExS.append (x := "row") (ds := S2.map D.int) (d := .int (cell ns 4 + (1 + (cell ns 5).fmod 3) * (p : Int))) (by walk_at "m.mem") (by walk_at "m.ev") (by rw [List.length_map]; show S2.length < 1048576; omega) (by walk_at "m.drop") ?_ (fun _ => rfl) (fun _ => rfl) rfl (fun _ => rfl) (fun _ => rfl)
              walk_at "m.asg"
              refine ExS.nil (ExS.nil ?_)
              show ∀ q ∈ _, _
              rw [outS]
              simp only [if_pos hb, List.map_append, List.map_cons, List.map_nil]
              rw [show ((p + 1 : Nat) : Int) = (p : Int) + 1 by omega, show keyF ns p = cell ns 4 + (1 + (cell ns 5).fmod 3) * (p : Int) from rfl]
              walk_at "m.sub"
            · intro hb
              have hb : ¬ i < mF ns lv - 1 := by have := of_decide_eq_false hb; omega
              refine ExS.nil (ExS.nil ?_)
              show ∀ q ∈ _, _
              rw [outS]
              simp only [if_neg hb, List.map_append, List.map_cons, List.map_nil]
              walk_at "m.sub"
        · intro ρ hsub
          refine ExT.sub hsub ?_
          rw [show ((mF ns lv : Int) - 0).toNat = mF ns lv by omega]
          show ExS _ _ _ [("p", .val (.int (outF ns lv).2.2)), ("tops", .own ((outF ns lv).1.map T.toD)), ("row", .own ((outF ns lv).2.1.map D.int)), _, _, _, _, _, _] _ _
          refine ExS.freeze (x := "tops") (by walk_at "m.mem") (by walk_at "m.drop") ?_
          refine ExS.freeze (x := "row") (by walk_at "m.mem") (by walk_at "m.drop") ?_
          walk_at "m.if"
          · intro h1
            have h1 : lv = 1 := by have := eq_of_beq h1; omega
            subst h1
            have e1 : ((outF ns 1).1.map T.toD)[(0 : Int).toNat]? = some (treeF ns 1).toD := rfl
            walk_at "m.ret"
            left; rfl
          · intro h1
            have h1 : lv = 2 := by
              have : lv ≠ 1 := fun e => by rw [e] at h1; cases h1
              omega
            subst h1
            have hm2 := mF_le ns 2
            obtain ⟨_, b2, _⟩ := out_end hk (val := cell ns 6) hgf hwf hm2.1 (by omega)
            have lens : (outF ns 2).2.1.length ≤ 1000 := b2.sorted.2
            refine ExS.nil ?_
            show ExS _ _ _ _ _ _
            have tops : (treeF ns 2).toD = .tup [.list ((outF ns 2).2.1.map D.int), .list (List.replicate (((outF ns 2).2.1.map D.int).length : Int).toNat (.int (cell ns 6))), .list ((outF ns 2).1.map T.toD)] := by
              show (topT (cell ns 6) (outF ns 2)).toD = _
              rw [topT, T.toD_node, Li, Li, List.map_replicate, Int.toNat_natCast, List.length_map]
            refine ExS.ret (d := .tup [(treeF ns 2).toD, .int (outF ns 2).2.2]) ?_ (.inl rfl)
            rw [tops]
            exact Ev.tuple (EvL.cons (Ev.tuple (EvL.cons (by walk_at "m.ev") (EvL.cons (Ev.binop (by walk_at "m.ev") (by walk_at "m.ev") (op_rep (by omega) (by rw [List.length_map]; omega))) (EvL.cons (by walk_at "m.ev") EvL.nil fun _ => rfl) fun _ => rfl) fun _ => rfl) (Nat.le_of_ble_eq_true rfl)) (EvL.cons (by walk_at "m.ev") EvL.nil fun _ => rfl) fun _ => rfl) (Nat.le_of_ble_eq_true rfl)

theorem CallX.mono {X : Cx} {n n' : Nat} {f : Str} {ds : List D} {C : Addr} (h : CallX X n f ds C) (l : n ≤ n') : CallX X n' f ds C :=
  ⟨h.1, fun A E s M fa vs Q base l' ok i r rm => h.2 A E s M fa vs Q base l' ok i r ⟨rm.hh, by have := rm.depth; omega, by have := rm.units; omega⟩⟩
theorem wf_plain : ∀ (h : Nat) (n : T), T.Wf h n → Plain (2 * h + 2) n.toD
  | 0, n, w => by
    rw [T.toD_eq, w.leafKids]
    refine .tup fun d hd => ?_
    simp only [List.mem_cons, List.not_mem_nil, or_false] at hd
    rcases hd with rfl | rfl | rfl
    · exact Plain.ints _
    · exact Plain.ints _
    · exact .list fun d hd => nomatch hd
  | h + 1, n, w => by
    rw [T.toD_eq]
    refine .tup (k := 2 * h + 3) fun d hd => ?_
    simp only [List.mem_cons, List.not_mem_nil, or_false] at hd
    rcases hd with rfl | rfl | rfl
    · exact (Plain.ints _).mono (by omega)
    · exact (Plain.ints _).mono (by omega)
    · refine .list (k := 2 * h + 2) fun d hd => ?_
      obtain ⟨c, hc, rfl⟩ := List.mem_map.mp hd
      exact wf_plain h c (w.kids.2 c hc)
theorem due_is (ns : List Int) (k : Int) (m : Nat) : slot (keysAt (keyF ns) 0 m) k = ((((rngI 0 ((m : Int) - 0).toNat).filter fun p => decide (cell ns 4 + (1 + (cell ns 5).fmod 3) * p < k)).map D.int)).length := by
  rw [List.length_map, slot, keysAt, rngI_eq, List.range'_eq_map_range, List.map_map, Int.sub_zero, Int.toNat_natCast, List.filter_map, List.filter_map, List.length_map, List.length_map]
  congr 2

theorem law_ok {X : Cx} {C : Addr} {fd : Fn} (hg : getFn PP "law" = some fd) (hfd : fd ∈ X.fns) (hO : ∀ h, X.Ok h → ExcCls "DepthError" C X.mg h)
    (ce : ∀ {ns : List Int} {i : Int}, 0 ≤ i → CallOk X 1 "_law_cell" [Li ns, .int i] (.int (cell ns i)))
    (bu : ∀ (ns : List Int) {lv : Nat}, lv ≤ 2 → CallOk X 2 "_law_build" [Li ns, .int lv] (.tup [(treeF ns lv).toD, .int (sizeF ns lv)]))
    (ra : ∀ (h d : Nat) (n : T) (k : Int), T.Wf h n → h < d → CallOk X (h + 2) "rank_of" [n.toD, .int k, .int d] (.int (T.rankN h n k)))
    (rx : ∀ (d h : Nat) (n : T) (k : Int), T.Wf h n → d ≤ h → CallX X (d + 2) "rank_of" [n.toD, .int k, .int d] C)
    (ns : List Int) : CallTop X 5 "law" [Li ns] (.bool true) := by
  cases (show getFn PP "law" = some _ from rfl).symm.trans hg
  clear hg
  refine callTop_cells (fd := Fn.mk _ _ _ _) (xs := ["script"]) [.local] hfd (by decide) rfl (fun pm cd doc vs hv => ?_) (by decide) ?_ rfl rfl rfl
  · match vs, hv with
    | [a], _ => rfl
  · show ExF _ _ _ [("script", .val (Li ns))] _ _
    clear hfd
    dsimp only
    have c0 := (ce (ns := ns) (i := 0) (by decide)).mono (n' := 4) (by omega)
    have c1 := (ce (ns := ns) (i := 1) (by decide)).mono (n' := 4) (by omega)
    have c2 := (ce (ns := ns) (i := 2) (by decide)).mono (n' := 4) (by omega)
    have c3 := (ce (ns := ns) (i := 3) (by decide)).mono (n' := 4) (by omega)
    have c4 := (ce (ns := ns) (i := 4) (by decide)).mono (n' := 4) (by omega)
    have c5 := (ce (ns := ns) (i := 5) (by decide)).mono (n' := 4) (by omega)
    refine ExF.cons ?_
    walk_at "m.asg"
    refine ExS.nil ⟨rfl, ?_⟩
    obtain ⟨lv, hlv⟩ : ∃ lv : Nat, (cell ns 0).fmod 3 = lv := ⟨((cell ns 0).fmod 3).toNat, by have := fmod_lt (cell ns 0) (m := 3) (by decide); omega⟩
    have hl2 : lv ≤ 2 := by have := fmod_lt (cell ns 0) (m := 3) (by decide); omega
    rw [hlv]
    clear hlv
    refine ExF.cons ?_
    walk_at "m.asg"
    refine ExS.nil ⟨rfl, ?_⟩
    refine ExF.cons ?_
    refine ExS.ifJoin (fun ρ' => ∃ dp : Nat, ∀ q ∈ ([("depth", .val (.int dp)), ("levels", .val (.int lv)), ("script", .val (Li ns))] : Rho), q ∈ ρ') (by walk_at "m.tr") ?_ ?_ ?_
    · intro _
      walk_at "m.asg"
      refine ExS.nil ⟨64, ?_⟩
      show ∀ q ∈ ([("depth", .val (.int 64)), ("levels", .val (.int lv)), ("script", .val (Li ns))] : Rho), _
      walk_at "m.sub"
    · intro _
      obtain ⟨dp, hdp⟩ : ∃ lv : Nat, (cell ns 1).fmod 8 = lv := ⟨((cell ns 1).fmod 8).toNat, by have := fmod_lt (cell ns 1) (m := 8) (by decide); omega⟩
      rw [hdp]
      exact ExS.nil ⟨dp, by walk_at "m.sub"⟩
    rintro ρ' ⟨dp, hsub⟩
    refine ExT.sub hsub (ExS.nil ⟨rfl, ?_⟩)
    clear hsub ρ'
    have b1 := (bu ns hl2).mono (n' := 4) (by omega)
    obtain ⟨t1, t2, t3⟩ := treeF_ok ns hl2
    refine ExF.cons ?_
    walk_at "m.asg"
    refine ExS.nil ⟨rfl, ?_⟩
    refine ExF.cons ?_
    walk_at "m.asg"
    refine ExS.nil ⟨rfl, ?_⟩
    refine ExF.cons ?_
    walk_at "m.asg"
    refine ExS.nil ⟨rfl, ?_⟩
    refine ExF.cons ?_
    walk_at "m.cel"
    refine ExS.nil ⟨rfl, ?_⟩
    refine ExF.cons ?_
    walk_at "m.cel"
    refine ExS.nil ⟨rfl, ?_⟩
    refine ExF.cons ?_
    walk_at "m.asg"
    refine ExS.nil ⟨rfl, ?_⟩
    refine ExF.cons ?_
    walk_at "m.cel"
    refine ExS.nil ⟨rfl, ?_⟩
    refine ExF.cons ?_
    refine ExS.ifJoin (fun ρ' => ∃ kk : Int, ∀ q ∈ ([("key", .cel (.int kk)), ("gap", .cel (.int (1 + (cell ns 5).fmod 3))), ("first", .cel (.int (cell ns 4))), ("total", .val (.int (sizeF ns lv))), ("tree", .val (treeF ns lv).toD), ("depth", .val (.int dp)), ("levels", .val (.int lv)), ("script", .val (Li ns))] : Rho), q ∈ ρ') (by walk_at "m.tr") ?_ ?_ ?_
    · intro _
      refine ExS.assignC (d := .int (cell ns 4 + (1 + (cell ns 5).fmod 3) * (cell ns 3).fmod ((sizeF ns lv : Nat) + 1) + (cell ns 2).fmod 4 - 2)) ?_ (by walk_at "m.drop") (ExS.nil ⟨_, by walk_at "m.sub"⟩) rfl rfl (fun _ => rfl)
      exact Ev.binop (Ev.binop (Ev.binop (by walk_at "m.ev") (Ev.binop (by walk_at "m.ev") (Ev.binop (by walk_at "m.ev") (by walk_at "m.ev") (op_mod_int (by omega))) (op_mul_int (gap_mul ns _))) op_add_int) (by walk_at "m.ev") op_add_int) (by walk_at "m.ev") op_sub_int
    · intro _
      exact ExS.nil ⟨_, by walk_at "m.sub"⟩
    rintro ρ' ⟨kk, hsub⟩
    refine ExT.sub hsub (ExS.nil ⟨rfl, ?_⟩)
    clear hsub ρ'
    refine ExF.cons ?_
    refine ExS.assign (d := .int (T.rankN lv (treeF ns lv) kk)) ?_ (by walk_at "m.drop") (ExS.nil ⟨rfl, ?_⟩) rfl rfl (fun _ => rfl)
    · rw [rank_is kk lv _ t1 (by rw [t2]; exact keysAt_sorted (keyF_mono ns) _ _), t2, due_is]
      refine Ev.len (EvN.ev (EvN.compRange (p := fun p => decide (cell ns 4 + (1 + (cell ns 5).fmod 3) * p < kk)) (f := D.int) [("first", .int (cell ns 4)), ("gap", .int (1 + (cell ns 5).fmod 3)), ("key", .int kk)] ["first", "gap", "key"] (lo := 0) (hi := (sizeF ns lv : Nat)) (by walk_at "m.rng") (by omega) (by omega) (by omega) (by omega) ?_ (by decide) rfl ?_ (fun i _ _ => Ifs.one ?_) (fun i _ _ _ => ?_) (fun _ => trivial) (fun _ _ => rfl))) rfl (fun _ => rfl)
      · show ((sizeF ns lv : Int) - 0).toNat ≤ 1048576; omega
      · show ∀ q ∈ ([("first", .cel (.int (cell ns 4))), ("gap", .cel (.int (1 + (cell ns 5).fmod 3))), ("key", .cel (.int kk))] : Rho), _
        walk_at "m.sub"
      · show Tr _ _ _ [("p", .val (.int i)), ("first", .cel (.int (cell ns 4))), ("gap", .cel (.int (1 + (cell ns 5).fmod 3))), ("key", .cel (.int kk))] _ _
        exact Tr.cmp (Ev.binop (by walk_at "m.ev") (Ev.binop (by walk_at "m.ev") (by walk_at "m.ev") (op_mul_int (gap_mul ns i))) op_add_int) (by walk_at "m.ev") op_lt_int rfl
      · show Ev _ _ _ [("p", .val (.int i)), ("first", .cel (.int (cell ns 4))), ("gap", .cel (.int (1 + (cell ns 5).fmod 3))), ("key", .cel (.int kk))] _ _
        walk_at "m.ev"
    refine ExF.cons ?_
    walk_at "m.asg"
    refine ExS.nil ⟨rfl, ?_⟩
    refine ExF.cons ?_
    walk_at "m.asg"
    refine ExS.nil ⟨rfl, ?_⟩
    have same : ∀ {ρ : Rho} {sc : Scope}, Op2 (compareOp .NotEq) (treeF ns lv).toD (treeF ns lv).toD (.bool false) := op_ne_data (wf_plain lv _ t1) (wf_plain lv _ t1) (by omega) (by simp)
    by_cases hd : lv < dp
    · have r1 := (ra lv dp (treeF ns lv) kk t1 hd).mono (n' := 4) (by omega)
      refine ExF.of (ExS.tryOk ?_)
      walk_at "m.asg"
      refine ExS.nil ?_
      show ExS _ _ _ _ _ _
      refine ExS.iff (b := false) (Tr.cmp (by walk_at "m.ev") (by walk_at "m.ev") (same (ρ := []) (sc := default)) rfl) (fun h => nomatch h) fun _ => ExS.nil ?_
      show ExS _ _ _ _ _ _
      walk_at "m.if"
      · intro hb
        have := of_decide_eq_true hb; omega
      · intro _
        refine ExS.iff (b := false) (Tr.val (by walk_at "m.ev") rfl fun _ _ => rfl) (fun h => nomatch h) fun _ => ExS.nil ?_
        show ExS _ _ _ _ _ _
        refine ExS.iff (b := !true) (Tr.not (Tr.typeIsInt (by walk_at "m.ev") rfl rfl (fun _ => rfl))) (fun h => nomatch h) fun _ => ExS.nil ?_
        show ExS _ _ _ _ _ _
        walk_at "m.if"
        · intro hb; simp at hb
        · intro _
          refine ExS.nil (ExS.nil ?_)
          show ExS _ _ _ _ _ _
          walk_at "m.ret"
          rfl
    · have r1 := (rx dp lv (treeF ns lv) kk t1 (by omega)).mono (n' := 4) (by omega)
      refine ExF.tryCaught (C := C) (EvX.call (by walk_at "m.evl") r1 rfl rfl (fun _ => rfl)) hO (by walk_at "m.drop") ?_ (fun _ => rfl) rfl rfl rfl rfl
      refine ExS.iff (b := false) (Tr.cmp (by walk_at "m.ev") (by walk_at "m.ev") (same (ρ := []) (sc := default)) rfl) (fun h => nomatch h) fun _ => ExS.nil ?_
      show ExS _ _ _ _ _ _
      walk_at "m.if"
      · intro _
        refine ExS.iff (b := !true) (Tr.not (Tr.val (by walk_at "m.ev") rfl fun _ _ => rfl)) (fun h => nomatch h) fun _ => ExS.nil (ExS.nil ?_)
        show ExS _ _ _ _ _ _
        walk_at "m.ret"
        rfl
      · intro hb
        have := of_decide_eq_false hb; omega

/-- the functions that the law comes to -/
def names : List Str := ["find_slot", "count_keys", "rank_of", "_law_cell", "_law_leaf", "_law_build", "law"]
theorem all_ok {X : Cx} {C : Addr} (hm : ∀ nm ∈ names, ∀ fd, getFn PP nm = some fd → fd ∈ X.fns) (hO : ∀ h, X.Ok h → ExcCls "DepthError" C X.mg h) (ns : List Int) : CallTop X 5 "law" [Li ns] (.bool true) := by
  obtain ⟨f1, g1⟩ : ∃ fd, getFn PP "find_slot" = some fd := ⟨_, rfl⟩
  obtain ⟨f2, g2⟩ : ∃ fd, getFn PP "count_keys" = some fd := ⟨_, rfl⟩
  obtain ⟨f3, g3⟩ : ∃ fd, getFn PP "rank_of" = some fd := ⟨_, rfl⟩
  obtain ⟨f4, g4⟩ : ∃ fd, getFn PP "_law_cell" = some fd := ⟨_, rfl⟩
  obtain ⟨f5, g5⟩ : ∃ fd, getFn PP "_law_leaf" = some fd := ⟨_, rfl⟩
  obtain ⟨f6, g6⟩ : ∃ fd, getFn PP "_law_build" = some fd := ⟨_, rfl⟩
  obtain ⟨f7, g7⟩ : ∃ fd, getFn PP "law" = some fd := ⟨_, rfl⟩
  have fs := fun {ks : List Int} {k : Int} => find_slot_ok (X := X) g1 (hm _ (by simp [names]) _ g1) (ks := ks) (k := k)
  have ce := fun {ns : List Int} {i : Int} => cell_ok (X := X) g4 (hm _ (by simp [names]) _ g4) (ns := ns) (i := i)
  exact law_ok g7 (hm _ (by simp [names]) _ g7) hO ce (fun ns {lv} hl => build_ok g6 (hm _ (by simp [names]) _ g6) ce (leaf_ok g5 (hm _ (by simp [names]) _ g5)) ns hl)
    (rank_ok g3 (hm _ (by simp [names]) _ g3) fs (count_ok g2 (hm _ (by simp [names]) _ g2))) (rank_x g3 (hm _ (by simp [names]) _ g3) hO fs (count_x g2 (hm _ (by simp [names]) _ g2) hO)) ns
open PySem.W in
theorem law_callT {X : Cx} {n : Nat} {name : Str} {ns : List Int} {vs : List Value} {l fa : Addr} {s : Shared} {E : Value → Shared → Prop} {Q : Value → Shared → Prop} {P : Params} {xs : List WData}
    (C : CallTop X n name [.list (ns.map .int)] (.bool true)) (ok : X.Ok s.heap) (W : Well P s.heap (.ref l) (.list xs)) (hL : s.heap.IsList l vs.toArray) (hI : IntsAre vs ns) (hn : ns.length ≤ 1048576) (hfa : X.mg name = some (.ref fa)) (hr : n ≤ 500)
    (q : ∀ h' tk, Keeps s.heap h' → Q (.bool true) { s with heap := h', toks := tk }) : wpAny (model X.prog X.w) callerA (call (.ref fa) [.ref l]) Q E s := by
  have g := well_list W hL
  refine C callerA E s (fun a => if a = l then some (listO vs 0) else none) fa [.ref l] Q rfl ok (ledIn_one g) (.cons (.list (n := 0) (if_pos rfl) (rpl_ints hI) (by rw [List.length_map]; exact hn)) .nil) ⟨rfl, ?_, ?_⟩ hfa (fun v h' tk M' i x r => by
    cases r; exact q h' tk x.keep)
  · have : callerA.depth = 1 + claimMargin := rfl
    rw [this]
    have : 1 + claimMargin + 500 < recursionLimit := by decide
    omega
  · show 4 + 8 * n + 200 < cLine
    have : cLine = 9900 := rfl
    omega
open PySem.W in
/-- the end: what the row's head leaves -/
theorem law_end {q : Program} {w : World} {mg mb : Str → Option Value} {loose : List Str} {mean : ExcName → Option Value} {s : Shared} (T : Top q loose mean mg mb s.heap) (hb : biOk q loose = true) (hsp : specOf q "DepthError" = some ("Exception.__new__", [.type "Exception", .type "BaseException", .type "object"]))
    (hf : (names.map fun nm => ((recsOf q).map toFn).find? fun d => d.name == nm) = names.map (getFn PP)) {ns : List Int} {vs : List Value} {l fa : Addr} {E : Value → Shared → Prop} {Q : Value → Shared → Prop} {P : Params} {xs : List WData}
    (W : Well P s.heap (.ref l) (.list xs)) (hL : s.heap.IsList l vs.toArray) (hI : IntsAre vs ns) (hn : ns.length ≤ 1048576) (hfa : mg "law" = some (.ref fa))
    (k : ∀ h' tk, Keeps s.heap h' → Q (.bool true) { s with heap := h', toks := tk }) : wpAny (model PP w) callerA (call (.ref fa) [.ref l]) Q E s := by
  obtain ⟨C, O, _⟩ := T.ownAt hsp
  exact law_callT (X := topCx PP w mg mb q (fun h => ExcCls "DepthError" C mg h) fun _ _ k O => OwnClsQ.keeps O k) (all_ok (X := topCx PP w mg mb q (fun h => ExcCls "DepthError" C mg h) fun _ _ k O => OwnClsQ.keeps O k) (C := C) (fun nm hn fd hg => mem_fns (f := fun d => d.name == nm) (List.map_inj_left.mp hf nm hn) hg) (fun h ok => ok.ex) ns) (topCx_ok T hb O) W hL hI hn hfa (by omega) k

end Mine

open PySem PySem.W PyProof.Rows
set_option Elab.async false
set_option maxRecDepth 100000 in
set_option maxHeartbeats 8000000 in
theorem PySem.Challenge.cw_k16_0024_holds : PySem.Challenge.rw_k16_0024.Holds := by
  w_on; o_law; k_head
  (case hw => w_witness2)
  k_fill
  intro w s₀ s₁ mg mb G Y fa o pm cd doc dV kV ho hd hcd hD hmg hg args vals as hpre hlay hrd hwl hlo
  refine Ground.open G ?_
  intro T B D TE TW
  wrow_args hpre hlay hrd hwl hlo
  clear Y hd hcd hD ho G B D TE TW
  rename (IntsAre _ _) => hI
  rename (Well _ _ _ _) => hW
  rename (s₁.heap.IsList _ _) => hL
  rename (¬ ((63 : Nat) : Int) < _) => hlen
  refine Mine.law_end T (by kernel_rfl) (by kernel_rfl) (by kernel_rfl) hW hL hI (by omega) hmg fun h' tk k => ?_
  exact GoodW.toG ⟨.inl ⟨.bool true, .bool true, [], rfl, fun _ => rfl, .bool true, postW_of rfl (w_eq_bool (w_res rfl) w_lit) rfl, unshared_nil⟩, k, rfl, hg⟩
