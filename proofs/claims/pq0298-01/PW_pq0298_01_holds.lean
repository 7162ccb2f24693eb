import PyProof.Rows.All
import Wide.All
import OpenK.AllK
import Wide.FinOn
import Lean
import PySem.Challenge.RW_pq0298_01
open PySem PySem.W PyProof.Rows
set_option Elab.async false
set_option linter.all false
set_option maxRecDepth 100000
set_option genSizeOf false
set_option compiler.extract_closed false
set_option genInjectivity false
namespace Mine
local macro_rules | `(tactic| omega) => `(tactic| lia)
theorem elim4_9 {α β γ δ : Type} {p1 p2 p3 p4 p5 p6 p7 p8 p9 : α → β → γ → δ → Prop} {G : Prop} (h : ∃ a b c d, p1 a b c d ∧ p2 a b c d ∧ p3 a b c d ∧ p4 a b c d ∧ p5 a b c d ∧ p6 a b c d ∧ p7 a b c d ∧ p8 a b c d ∧ p9 a b c d) (k : ∀ a b c d, p1 a b c d → p2 a b c d → p3 a b c d → p4 a b c d → p5 a b c d → p6 a b c d → p7 a b c d → p8 a b c d → p9 a b c d → G) : G := by
  obtain ⟨a, b, c, d, h1, h2, h3, h4, h5, h6, h7, h8, h9⟩ := h
  exact k a b c d h1 h2 h3 h4 h5 h6 h7 h8 h9
theorem elim4_10 {α β γ δ : Type} {p1 p2 p3 p4 p5 p6 p7 p8 p9 p10 : α → β → γ → δ → Prop} {G : Prop} (h : ∃ a b c d, p1 a b c d ∧ p2 a b c d ∧ p3 a b c d ∧ p4 a b c d ∧ p5 a b c d ∧ p6 a b c d ∧ p7 a b c d ∧ p8 a b c d ∧ p9 a b c d ∧ p10 a b c d) (k : ∀ a b c d, p1 a b c d → p2 a b c d → p3 a b c d → p4 a b c d → p5 a b c d → p6 a b c d → p7 a b c d → p8 a b c d → p9 a b c d → p10 a b c d → G) : G := by
  obtain ⟨a, b, c, d, h1, h2, h3, h4, h5, h6, h7, h8, h9, h10⟩ := h
  exact k a b c d h1 h2 h3 h4 h5 h6 h7 h8 h9 h10
theorem len1 {α : Type} {vs : List α} (h : vs.length = 1) : ∃ a, vs = [a] := List.length_eq_one_iff.mp h
theorem len2 {α : Type} {vs : List α} (h : vs.length = 2) : ∃ a b, vs = [a, b] := by
  cases vs with
  | nil => cases h
  | cons a r =>
    obtain ⟨b, e⟩ := len1 (Nat.succ.inj h)
    exact ⟨a, b, e ▸ rfl⟩
theorem len3 {α : Type} {vs : List α} (h : vs.length = 3) : ∃ a b c, vs = [a, b, c] := by
  cases vs with
  | nil => cases h
  | cons a r =>
    obtain ⟨b, c, e⟩ := len2 (Nat.succ.inj h)
    exact ⟨a, b, c, e ▸ rfl⟩
theorem len4 {α : Type} {vs : List α} (h : vs.length = 4) : ∃ a b c d, vs = [a, b, c, d] := by
  cases vs with
  | nil => cases h
  | cons a r =>
    obtain ⟨b, c, d, e⟩ := len3 (Nat.succ.inj h)
    exact ⟨a, b, c, d, e ▸ rfl⟩
theorem len5 {α : Type} {vs : List α} (h : vs.length = 5) : ∃ a b c d e, vs = [a, b, c, d, e] := by
  cases vs with
  | nil => cases h
  | cons a r =>
    obtain ⟨b, c, d, e, q⟩ := len4 (Nat.succ.inj h)
    exact ⟨a, b, c, d, e, q ▸ rfl⟩
inductive Rd (h : Heap) : Value → PyData → Prop
  | none : Rd h .none .none
  | bool (b) : Rd h (.bool b) (.bool b)
  | int (i t) : Rd h (.int i t) (.int i)
  | str (x t) : Rd h (.str x t) (.str x)
  | list {a : Addr} {vs : Array Value} {n : Nat} {xs : List PyData} : h.get? a = some { cls := .type "list", dict := none, data := .seq vs n, slots := #[] } → vs.toList.length = xs.length → (∀ (i : Nat) (v : Value) (x : PyData), vs.toList[i]? = some v → xs[i]? = some x → Rd h v x) → Rd h (.ref a) (.list xs)
  | tuple {a : Addr} {vs : Array Value} {n : Nat} {xs : List PyData} : h.get? a = some { cls := .type "tuple", dict := none, data := .seq vs n, slots := #[] } → vs.toList.length = xs.length → (∀ (i : Nat) (v : Value) (x : PyData), vs.toList[i]? = some v → xs[i]? = some x → Rd h v x) → Rd h (.ref a) (.tuple xs)
noncomputable def RdAll (h : Heap) (vs : List Value) (xs : List PyData) : Prop := vs.length = xs.length ∧ ∀ (i : Nat) (v : Value) (x : PyData), vs[i]? = some v → xs[i]? = some x → Rd h v x
theorem RdAll.nil {h : Heap} : RdAll h [] [] := ⟨rfl, fun i v x e => by simp at e⟩
theorem RdAll.cons {h : Heap} {v : Value} {x : PyData} {vs : List Value} {xs : List PyData} (a : Rd h v x) (b : RdAll h vs xs) : RdAll h (v :: vs) (x :: xs) := by
  refine ⟨by simp [b.1], fun i v' x' e1 e2 => ?_⟩
  cases i with
  | zero => simp at e1 e2; subst e1; subst e2; exact a
  | succ i => simp at e1 e2; exact b.2 i v' x' e1 e2
theorem RdAll.uncons {h : Heap} {vs : List Value} {x : PyData} {xs : List PyData} (b : RdAll h vs (x :: xs)) : ∃ v vs', vs = v :: vs' ∧ Rd h v x ∧ RdAll h vs' xs := by
  obtain ⟨l, a⟩ := b
  cases vs with
  | nil => simp at l
  | cons v vs => exact ⟨v, vs, rfl, a 0 v x rfl rfl, by simpa using l, fun i v' x' e1 e2 => a (i + 1) v' x' (by simpa using e1) (by simpa using e2)⟩
theorem RdAll.unnil {h : Heap} {vs : List Value} (b : RdAll h vs []) : vs = [] := List.length_eq_zero_iff.mp b.1
noncomputable def SeqKept (h h' : Heap) : Prop := ∀ a o vs n, h.get? a = some o → o.data = .seq vs n → h'.get? a = some o
theorem Rd.mono {h h' : Heap} (k : SeqKept h h') {v : Value} {x : PyData} (r : Rd h v x) : Rd h' v x := by
  induction r with
  | none => exact .none
  | bool b => exact .bool b
  | int i t => exact .int i t
  | str x t => exact .str x t
  | list a d _ ih => exact .list (k _ _ _ _ a rfl) d ih
  | tuple a d _ ih => exact .tuple (k _ _ _ _ a rfl) d ih
theorem RdAll.mono {h h' : Heap} (k : SeqKept h h') {vs : List Value} {xs : List PyData} (r : RdAll h vs xs) : RdAll h' vs xs := ⟨r.1, fun i v x a b => (r.2 i v x a b).mono k⟩
theorem readsAll_of {h : Heap} : ∀ {vs : List Value} {xs : List PyData}, vs.length = xs.length → (∀ (i : Nat) (v : Value) (x : PyData), vs[i]? = some v → xs[i]? = some x → ∃ as, Reads h v x as) → ∃ as, ReadsAll h vs xs as
  | [], [], _, _ => ⟨_, .nil⟩
  | v :: vs, x :: xs, l, a => by
    obtain ⟨as, r⟩ := a 0 v x rfl rfl
    obtain ⟨bs, q⟩ := readsAll_of (vs := vs) (xs := xs) (by simpa using l) fun i v' x' e1 e2 => a (i + 1) v' x' (by simpa using e1) (by simpa using e2)
    exact ⟨_, .cons r q⟩
theorem Rd.reads {h : Heap} {v : Value} {x : PyData} (r : Rd h v x) : ∃ as, Reads h v x as := by
  induction r with
  | none => exact ⟨_, .none⟩
  | bool b => exact ⟨_, .bool b⟩
  | int i t => exact ⟨_, .int i t⟩
  | str x t => exact ⟨_, .str x t⟩
  | list a d _ ih => obtain ⟨as, q⟩ := readsAll_of d ih; exact ⟨_, .list a rfl rfl q⟩
  | tuple a d _ ih => obtain ⟨as, q⟩ := readsAll_of d ih; exact ⟨_, .tuple a rfl rfl q⟩
theorem rd_int {h : Heap} {v : Value} {i : Int} (r : Rd h v (.int i)) : ∃ t, v = .int i t := by cases r; exact ⟨_, rfl⟩
theorem rd_bool {h : Heap} {v : Value} {b : Bool} (r : Rd h v (.bool b)) : v = .bool b := by cases r; rfl
theorem rd_none {h : Heap} {v : Value} (r : Rd h v .none) : v = .none := by cases r; rfl
theorem rd_tuple {h : Heap} {v : Value} {xs : List PyData} (r : Rd h v (.tuple xs)) : ∃ a vs n, v = .ref a ∧ h.get? a = some { cls := .type "tuple", dict := none, data := .seq vs n, slots := #[] } ∧ RdAll h vs.toList xs := by
  cases r with
  | tuple a d e => exact ⟨_, _, _, rfl, a, d, e⟩
theorem rd_list {h : Heap} {v : Value} {xs : List PyData} (r : Rd h v (.list xs)) : ∃ a vs n, v = .ref a ∧ h.get? a = some { cls := .type "list", dict := none, data := .seq vs n, slots := #[] } ∧ RdAll h vs.toList xs := by
  cases r with
  | list a d e => exact ⟨_, _, _, rfl, a, d, e⟩
structure Sg where
  prog : Program
  view : Program
  w : World
  K : Frag
  loose : List Str
  mg : Str → Option Value
  mb : Str → Option Value
  base : Heap
structure Sg.Ok (S : Sg) : Prop where
  k : S.K.In S.base
  tb : TopRead S.view S.loose S.mg S.mb S.base
structure Sg.On (S : Sg) (h : Heap) : Prop where
  ok : S.Ok
  keep : ∀ b ob, S.base.get? b = some ob → h.get? b = some ob
  size : S.base.objs.size ≤ h.objs.size
theorem Sg.On.x {S : Sg} {h : Heap} (o : S.On h) : S.K.In h := o.ok.k.keeps o.keep
theorem Sg.On.t {S : Sg} {h : Heap} (o : S.On h) : TopRead S.view S.loose S.mg S.mb h := o.ok.tb.keeps o.keep
noncomputable def Room (n : Nat) (A : Around) : Prop := A.depth + n < recursionLimit ∧ A.units + 16 * n + 200 < cLine ∧ A.handled = none
theorem Room.deeper {n : Nat} {A : Around} (r : Room (n + 1) A) (env : Env) : Room n (A.deeper env) := by
  obtain ⟨a, b, c⟩ := r
  exact ⟨by show A.depth + 1 + n < recursionLimit; omega, by show A.units + 3 + 16 * n + 200 < cLine; omega, c⟩
theorem Room.le {n k : Nat} {A : Around} (r : Room n A) (h : k ≤ n) : Room k A := by
  obtain ⟨a, b, c⟩ := r
  exact ⟨by omega, by omega, c⟩
noncomputable def IntsAt (h : Heap) (l : Addr) (cs : List Int) : Prop := Rd h (.ref l) (.list (cs.map .int))
noncomputable def topStmt (i : Nat) : Stmt := PySem.Challenge.pw_pq0298_01.main.body.getD i (.Pass default)
noncomputable def stArgs : Stmt → Arguments
  | .FunctionDef _ a _ _ _ _ _ _ _ _ => a
  | _ => { posonlyargs := [], args := [], vararg := none, kwonlyargs := [], kw_defaults := [], kwarg := none, defaults := [] }
noncomputable def stBody : Stmt → List Stmt
  | .FunctionDef _ _ b _ _ _ _ _ _ _ => b
  | .ClassDef _ _ _ b _ _ _ _ _ _ _ => b
  | _ => []
noncomputable def stScope : Stmt → Scope
  | .FunctionDef _ _ _ _ _ _ sc _ _ _ => sc
  | _ => default
noncomputable def inCls (i k : Nat) : Stmt := (stBody (topStmt i)).getD k (.Pass default)
structure FnAt (S : Sg) (st : Stmt) (f : Addr) : Prop where
  fd : ∃ o name qual doc pm an cdv ct, S.K.lookup f = some o ∧ o.data = .func (fnX name qual (stArgs st) (stBody st) (stScope st) [] .none .none doc pm an cdv ct) ∧ codeIn S.K cdv qual = true
  keep : keepIn S.K (.ref f) = true
  fn : isFn S.K (.ref f) = true
structure MethAt (S : Sg) (C : Addr) (name : Str) (st : Stmt) : Prop where
  at_ : ∃ f, findIn S.K (.ref C) name = some (some (.ref f)) ∧ FnAt S st f
structure PlainCls (S : Sg) (C : Addr) : Prop where
  get : ∀ n, plainGet S.K C n = true
  dict : hasDictIn S.K C = true
structure RowCls (S : Sg) (C : Addr) : Prop extends PlainCls S C where
  noCodes : findIn S.K (.ref C) "codes" = some none
  noPlace : findIn S.K (.ref C) "place" = some none
  mBegin : MethAt S C "begin" (inCls 89 1)
  mEnd : MethAt S C "end" (inCls 89 2)
  mCode : MethAt S C "code_at" (inCls 89 3)
structure GapCls (S : Sg) (C : Addr) : Prop extends PlainCls S C where
  noCells : findIn S.K (.ref C) "cells" = some none
  noStart : findIn S.K (.ref C) "gap_start" = some none
  noEnd : findIn S.K (.ref C) "gap_end" = some none
  mCode : MethAt S C "code" (inCls 42 2)
structure BufCls (S : Sg) (C : Addr) : Prop extends PlainCls S C where
  noBegv : findIn S.K (.ref C) "begv" = some none
  noZv : findIn S.K (.ref C) "zv" = some none
  noText : findIn S.K (.ref C) "text" = some none
  mBegin : MethAt S C "begin" (inCls 48 3)
  mEnd : MethAt S C "end" (inCls 48 4)
  mCode : MethAt S C "code_at" (inCls 48 6)
noncomputable def Own (h : Heap) (x C : Addr) (es : List DictEntry) : Prop := ∃ ox n, PySem.W.InstAt h x ox C (some (dictOf es n))
theorem Own.keeps {h h' : Heap} {x C : Addr} {es : List DictEntry} (o : Own h x C es) (k : ∀ b ob, h.get? b = some ob → h'.get? b = some ob) : Own h' x C es := by
  obtain ⟨ox, n, I⟩ := o
  refine ⟨ox, n, k _ _ I.at_, I.cls, I.no, ?_⟩
  have d := I.dict
  revert d
  cases ox.dict with
  | none => exact fun d => d
  | some dx => exact fun d => k _ _ d
theorem IntsAt.keeps {h h' : Heap} {l : Addr} {cs : List Int} (o : IntsAt h l cs) (k : ∀ b ob, h.get? b = some ob → h'.get? b = some ob) : IntsAt h' l cs :=
  Rd.mono (fun a o vs n e _ => k a o e) o
structure RowX where
  x : Addr
  C : Addr
  es : List DictEntry
  l : Addr
  tb : Tok
structure RowE (S : Sg) (h : Heap) (v : Value) (b : Int) (cs : List Int) (i : RowX) : Prop where
  vx : v = .ref i.x
  cls : RowCls S i.C
  own : Own h i.x i.C i.es
  codes : getL "codes" i.es = some (some (.ref i.l))
  place : getL "place" i.es = some (some (.int b i.tb))
  begin : getL "begin" i.es = some none
  end_ : getL "end" i.es = some none
  code_at : getL "code_at" i.es = some none
  isx : IntsAt h i.l cs
noncomputable def RowAt (S : Sg) (h : Heap) (v : Value) (b : Int) (cs : List Int) : Prop := ∃ i, RowE S h v b cs i
structure BufX where
  x : Addr
  C : Addr
  es : List DictEntry
  g : Addr
  Cg : Addr
  gs : List DictEntry
  l : Addr
  tb : Tok
  tz : Tok
  gst : Int
  ts : Tok
  gen : Int
  te : Tok
  all : List Int
structure BufE (S : Sg) (h : Heap) (v : Value) (b : Int) (cs : List Int) (i : BufX) : Prop where
  vx : v = .ref i.x
  cls : BufCls S i.C
  own : Own h i.x i.C i.es
  begv : getL "begv" i.es = some (some (.int b i.tb))
  zv : getL "zv" i.es = some (some (.int (b + cs.length) i.tz))
  text : getL "text" i.es = some (some (.ref i.g))
  begin : getL "begin" i.es = some none
  end_ : getL "end" i.es = some none
  code_at : getL "code_at" i.es = some none
  gcls : GapCls S i.Cg
  gown : Own h i.g i.Cg i.gs
  cells : getL "cells" i.gs = some (some (.ref i.l))
  start : getL "gap_start" i.gs = some (some (.int i.gst i.ts))
  gend : getL "gap_end" i.gs = some (some (.int i.gen i.te))
  code : getL "code" i.gs = some none
  isx : IntsAt h i.l i.all
  low : b - 1 + cs.length ≤ i.gst
  high : i.gst ≤ i.all.length
  get : ∀ k : Nat, k < cs.length → i.all[(b - 1 + k).toNat]? = cs[k]?
noncomputable def BufAt (S : Sg) (h : Heap) (v : Value) (b : Int) (cs : List Int) : Prop := ∃ i, BufE S h v b cs i
structure ViewAt (S : Sg) (h : Heap) (v : Value) (b : Int) (cs : List Int) : Prop where
  one : RowAt S h v b cs ∨ BufAt S h v b cs
  low : 1 ≤ b
  high : b + cs.length ≤ 1000
theorem ViewAt.keeps {S : Sg} {h h' : Heap} {v : Value} {b : Int} {cs : List Int} (o : ViewAt S h v b cs) (k : ∀ b ob, h.get? b = some ob → h'.get? b = some ob) : ViewAt S h' v b cs := by
  refine ⟨?_, o.low, o.high⟩
  rcases o.one with o | o
  · obtain ⟨i, r⟩ := o
    exact .inl ⟨i, { r with own := r.own.keeps k, isx := r.isx.keeps k }⟩
  · obtain ⟨i, r⟩ := o
    exact .inr ⟨i, { r with own := r.own.keeps k, gown := r.gown.keeps k, isx := r.isx.keeps k }⟩
inductive PV where
  | d (x : PyData)
  | r (v : Value)
  | v (b : Int) (cs : List Int)
  | o (P : Heap → Value → Prop)
noncomputable def Mono (P : Heap → Value → Prop) : Prop := ∀ h h' v, (∀ b ob, h.get? b = some ob → h'.get? b = some ob) → P h v → P h' v
noncomputable def Rep (S : Sg) (h₀ h : Heap) (v : Value) : PV → Prop
  | .d x => Rd h v x
  | .r u => v = u
  | .v b cs => ViewAt S h₀ v b cs
  | .o P => P h₀ v ∧ Mono P
noncomputable abbrev Loc := List (Str × PV)
noncomputable abbrev it (i : Int) : PV := .d (.int i)
noncomputable abbrev bl (b : Bool) : PV := .d (.bool b)
structure Has (env : Env) (h : Heap) (mv : Str → Option Value) (x : Str) (v : Value) : Prop where
  loc : env.kindOf x = some .local → mv x = some v
  cell : env.kindOf x = some .cell → ∃ c, env.cells.lookup x = some c ∧ h.IsCell c (some v)
theorem Has.keeps {env : Env} {h h' : Heap} {mv : Str → Option Value} {x : Str} {v : Value} (a : Has env h mv x v) (k : ∀ b o, h.get? b = some o → h'.get? b = some o) : Has env h' mv x v :=
  ⟨a.loc, fun e => let ⟨c, p, q⟩ := a.cell e; ⟨c, p, q.keeps k⟩⟩
structure FrameAt (S : Sg) (h₀ : Heap) (env : Env) (m : Loc) (h : Heap) : Prop where
  fr : ∃ mv, Fr S.base env.locals h mv ∧ ∀ x pv, (x, pv) ∈ m → ∃ v, Has env h mv x v ∧ Rep S h₀ h v pv
  old : ∀ b o, h₀.get? b = some o → h.get? b = some o
  out : h₀.get? env.locals = none
structure Ext (s s' : Shared) : Prop where
  keep : ∀ b o, s.heap.get? b = some o → s'.heap.get? b = some o
  gens : s'.gens = s.gens
  os : s'.os = s.os
theorem Ext.refl (s : Shared) : Ext s s := ⟨fun _ _ e => e, rfl, rfl⟩
theorem Ext.trans {a b c : Shared} (x : Ext a b) (y : Ext b c) : Ext a c := ⟨fun b o e => y.keep _ _ (x.keep b o e), y.gens.trans x.gens, y.os.trans x.os⟩
theorem Ext.toks (s : Shared) (t : Nat) : Ext s { s with toks := t } := ⟨fun _ _ e => e, rfl, rfl⟩
theorem Ext.push (s : Shared) (o : Obj) : Ext s { s with heap := s.heap.push o } := ⟨fun _ _ e => Heap.get?_push_of_some _ e, rfl, rfl⟩
theorem Ext.heap {s : Shared} {h' : Heap} (k : ∀ b o, s.heap.get? b = some o → h'.get? b = some o) (t : Nat) : Ext s { s with heap := h', toks := t } := ⟨k, rfl, rfl⟩
theorem seqKept_of {h h' : Heap} (k : ∀ b o, h.get? b = some o → h'.get? b = some o) : SeqKept h h' := fun _ _ _ _ e _ => k _ _ e
theorem Rep.keeps {S : Sg} {h₀ h h' : Heap} {v : Value} {pv : PV} (k : ∀ b o, h.get? b = some o → h'.get? b = some o) (r : Rep S h₀ h v pv) : Rep S h₀ h' v pv := by
  cases pv with
  | d x => exact Rd.mono (seqKept_of k) r
  | r u => exact r
  | v b cs => exact r
  | o P => exact r
theorem FrameAt.keeps {S : Sg} {h₀ h h' : Heap} {env : Env} {m : Loc} (F : FrameAt S h₀ env m h) (k : ∀ b o, h.get? b = some o → h'.get? b = some o) : FrameAt S h₀ env m h' := by
  obtain ⟨⟨mv, f, r⟩, o, u⟩ := F
  exact ⟨⟨mv, f.keeps k, fun x pv hm => let ⟨v, a, b⟩ := r x pv hm; ⟨v, a.keeps k, b.keeps k⟩⟩, fun b o' e => k b o' (o b o' e), u⟩
structure At (S : Sg) (sc : Scope) (n : Nat) (A : Around) (env : Env) : Prop where
  room : Room n A
  ok : S.Ok
  kind : sc.kind = .function
  sc : env.scope = sc
  gl : env.globals = mainGlobals
  bi : env.builtins = builtinsNs
theorem At.fn {S : Sg} {sc : Scope} {n : Nat} {A : Around} {env : Env} (a : At S sc n A env) : env.scope.kind = .function := a.sc ▸ a.kind
theorem At.of {S : Sg} {sc : Scope} {n : Nat} {A : Around} {env : Env} (a : At S sc n A env) {x : Str} {k : NameKind} (e : sc.names.lookup x = some k) : env.kindOf x = some k := by
  show env.scope.names.lookup x = _
  rw [a.sc]; exact e
theorem At.plain {S : Sg} {sc : Scope} {n : Nat} {A : Around} {env : Env} (a : At S sc n A env) (L g : Addr) : (env.scope.kind == .class || (env.scope.kind == .module && L != g)) = false := by rw [a.fn]; rfl
noncomputable abbrev NoE : Value → Shared → Prop := fun _ _ => False
noncomputable def EvT (S : Sg) (n : Nat) (sc : Scope) (m : Loc) (e : PySem.Expr) (pv : PV) : Prop :=
  ∀ A h₀ env s (Q : Value → Shared → Prop), At S sc n A env → FrameAt S h₀ env m s.heap → (∀ v s', Ext s s' → Rep S h₀ s'.heap v pv → Q v s') →
    wpAny (model S.prog S.w) A (eval e env) Q NoE s
noncomputable def TrT (S : Sg) (n : Nat) (sc : Scope) (m : Loc) (e : PySem.Expr) (b : Bool) : Prop :=
  ∀ A h₀ env s (Q : Bool → Shared → Prop), At S sc n A env → FrameAt S h₀ env m s.heap → (∀ s', Ext s s' → Q b s') →
    wpAny (model S.prog S.w) A (isTrue e env (eval e env)) Q NoE s
noncomputable def EvsT (S : Sg) (n : Nat) (sc : Scope) (m : Loc) (es : List PySem.Expr) (pvs : List PV) : Prop :=
  ∀ A h₀ env pos s (Q : List Value → Shared → Prop), At S sc n A env → FrameAt S h₀ env m s.heap →
    (∀ vs s', Ext s s' → vs.length = pvs.length → (∀ (i : Nat) v pv, vs[i]? = some v → pvs[i]? = some pv → Rep S h₀ s'.heap v pv) → Q vs s') →
    wpAny (model S.prog S.w) A (spliced (backTo pos (starEach es env))) Q NoE s
section
variable {S : Sg} {n : Nat} {sc : Scope} {m : Loc}
theorem EvT.loc {x : Str} {pos : Pos} {pv : PV} (hx : sc.names.lookup x = some .local) (hm : (x, pv) ∈ m) (hd : (x == ("__debug__" : Str)) = false := by decide +kernel) : EvT S n sc m (.Name x pos) pv := by
  intro A h₀ env s Q a F k
  obtain ⟨mv, F, r⟩ := F.fr
  obtain ⟨v, e, g⟩ := r x pv hm
  exact wpAny_Name (wpAny_loadName_local a.fn (a.of hx) F.ns (e.loc (a.of hx)) (k v s (.refl s) g)) hd
theorem EvT.cel {x : Str} {pos : Pos} {pv : PV} (hx : sc.names.lookup x = some .cell) (hm : (x, pv) ∈ m) (hd : (x == ("__debug__" : Str)) = false := by decide +kernel) : EvT S n sc m (.Name x pos) pv := by
  intro A h₀ env s Q a F k
  obtain ⟨mv, F, r⟩ := F.fr
  obtain ⟨v, e, g⟩ := r x pv hm
  obtain ⟨c, p, q⟩ := e.cell (a.of hx)
  exact wpAny_Name (wpAny_loadName_cell a.fn (a.of hx) p q (k v s (.refl s) g)) hd
theorem ld_glob {A : Around} {env : Env} {s : Shared} {mv : Str → Option Value} {x : Str} {pos : Pos} {v : Value} {Q : Value → Shared → Prop} (a : At S sc n A env) (F : Fr S.base env.locals s.heap mv) (e : nsIn S.K mainGlobals x = some (some v)) (hx : sc.names.lookup x = some .globalImplicit)
    (hd : (x == ("__debug__" : Str)) = false) (h : Q v s) : wpAny (model S.prog S.w) A (eval (.Name x pos) env) Q NoE s :=
  PySem.Calls.Name_function_global a.fn (a.of hx) (PySem.Calls.loadGlobal_global (by rw [a.gl]; exact a.ok.tb.g.keeps F.keep) (mg_of a.ok.k a.ok.tb.g e) h) hd
theorem ld_bi {A : Around} {env : Env} {s : Shared} {mv : Str → Option Value} {x : Str} {pos : Pos} {v : Value} {Q : Value → Shared → Prop} (a : At S sc n A env) (F : Fr S.base env.locals s.heap mv) (e : nsIn S.K mainGlobals x = some none) (hx : sc.names.lookup x = some .globalImplicit)
    (hv : bootBuiltins x = some v) (hn : x ≠ "__name__") (hd : (x == ("__debug__" : Str)) = false) (h : Q v s) : wpAny (model S.prog S.w) A (eval (.Name x pos) env) Q NoE s :=
  PySem.Calls.Name_function_global a.fn (a.of hx) (PySem.Calls.loadGlobal_builtin (by rw [a.gl]; exact a.ok.tb.g.keeps F.keep) (mg_none_of a.ok.k a.ok.tb.g e) (by rw [a.bi]; exact a.ok.tb.b.keeps F.keep) ((a.ok.tb.builtins x hn).trans hv) h) hd
theorem EvT.glob {x : Str} {pos : Pos} {v : Value} (e : nsIn S.K mainGlobals x = some (some v)) (hx : sc.names.lookup x = some .globalImplicit) (hd : (x == ("__debug__" : Str)) = false := by decide +kernel) :
    EvT S n sc m (.Name x pos) (.r v) := by
  intro A h₀ env s Q a F k
  obtain ⟨mv, F, r⟩ := F.fr
  exact ld_glob a F e hx hd (k v s (.refl s) rfl)
theorem EvT.globI {x : Str} {pos : Pos} {i : Int} {t : Tok} (e : nsIn S.K mainGlobals x = some (some (.int i t))) (hx : sc.names.lookup x = some .globalImplicit) (hd : (x == ("__debug__" : Str)) = false := by decide +kernel) :
    EvT S n sc m (.Name x pos) (it i) := by
  intro A h₀ env s Q a F k
  obtain ⟨mv, F, r⟩ := F.fr
  exact ld_glob a F e hx hd (k _ s (.refl s) (.int i t))
theorem EvT.globS {x : Str} {pos : Pos} {i : Str} {t : Tok} (e : nsIn S.K mainGlobals x = some (some (.str i t))) (hx : sc.names.lookup x = some .globalImplicit) (hd : (x == ("__debug__" : Str)) = false := by decide +kernel) :
    EvT S n sc m (.Name x pos) (.d (.str i)) := by
  intro A h₀ env s Q a F k
  obtain ⟨mv, F, r⟩ := F.fr
  exact ld_glob a F e hx hd (k _ s (.refl s) (.str i t))
theorem EvT.bi {x : Str} {pos : Pos} {v : Value} (e : nsIn S.K mainGlobals x = some none) (hx : sc.names.lookup x = some .globalImplicit) (hv : bootBuiltins x = some v := by decide +kernel) (hn : x ≠ "__name__" := by decide +kernel)
    (hd : (x == ("__debug__" : Str)) = false := by decide +kernel) : EvT S n sc m (.Name x pos) (.r v) := by
  intro A h₀ env s Q a F k
  obtain ⟨mv, F, r⟩ := F.fr
  exact ld_bi a F e hx hv hn hd (k v s (.refl s) rfl)
theorem EvT.int {i : Int} {k' : Nat} {pos : Pos} : EvT S n sc m (.Constant (.int i) k' pos) (it i) := by
  intro A h₀ env s Q a F k
  exact wpAny_Constant_int (k _ _ (.toks _ _) (.int i _))
theorem EvT.none {k' : Nat} {pos : Pos} : EvT S n sc m (.Constant .none k' pos) (.d .none) := by
  intro A h₀ env s Q a F k
  exact wpAny_Constant_none (k _ _ (.refl _) .none)
theorem EvT.bool {b : Bool} {k' : Nat} {pos : Pos} : EvT S n sc m (.Constant (.bool b) k' pos) (bl b) := by
  intro A h₀ env s Q a F k
  exact Constant_bool (k _ _ (.refl _) (.bool b))
end
section
noncomputable abbrev PW : Program := PySem.Challenge.pw_pq0298_01
noncomputable def qV : Program := view PW [106]
noncomputable def looseV : List Str := (PW.main.scope.names.map (·.1)).filter (· != "law")
noncomputable def hdEnv : Env := { scope := PW.main.scope, locals := mainNs, globals := mainNs, cells := [], code := .ref 13, frame := some 14 }
noncomputable abbrev p00 : Pos := { line := 0, col := 0, endLine := 0, endCol := 0 }
noncomputable def hdBody : List Stmt := behindTheImports PW
noncomputable def hdCode : Code := .body hdBody hdEnv
noncomputable def o11 : Obj := { cls := .type "tuple", data := .seq #[] }
noncomputable def o12 : Obj := { cls := .none, data := .fields #[] }
noncomputable def o13 : Obj := { cls := .type "code", data := .fields #[.str "<module>" 182, .str "<module>" 183, .str "/claim/cut.py" 184, .int 1 0, .int 0 0, .int 0 0, .int 0 0, .int 0 0, .ref 11, .bool false, .int 181 0, .ref 12, .none, .none, .none, .none, .int 185 0, .int 1 0, .str "/claim/cut.py" 186] }
noncomputable def o14 : Obj := { cls := .type "frame", slots := #[some (.ref 13), some (.ref 3), some (.ref 3), none, some (.str "__main__" 164), none, some (.ref 0)] }
noncomputable def heapA (P : Params) : Heap := { objs := ⟨[boot_o_0 P, boot_o_1 P, boot_o_2 P, boot_o_3 P, boot_o_4 P, boot_o_5 P, boot_o_6 P, boot_o_7 P, boot_o_8 P, boot_o_9 P, boot_o_10 P, o11, o12, o13, o14]⟩ }
noncomputable def treeA (P : Params) : BT := .node (boot_o_0 P) (.node (boot_o_1 P) (.node (boot_o_3 P) (.node (boot_o_7 P) .nil .nil) (.node o11 .nil .nil)) (.node (boot_o_5 P) (.node (boot_o_9 P) .nil .nil) (.node o13 .nil .nil)))
  (.node (boot_o_2 P) (.node (boot_o_4 P) (.node (boot_o_8 P) .nil .nil) (.node o12 .nil .nil)) (.node (boot_o_6 P) (.node (boot_o_10 P) .nil .nil) (.node o14 .nil .nil)))
noncomputable def shA (w : World) (os : OsState) : SharedT := { tree := treeA w.params, n := 15, life := {}, gens := ⟨[]⟩, drawn := {}, toks := 187, os := os }
end
theorem hd_pre (w : World) (os : OsState) : topGo treeTable PW w 11 (some (.ref 6)) 12 ⟨boot_heap w.params, ⟨[]⟩, boot_drawn, boot_toks, os⟩ (topStub PW) = some (⟨heapA w.params, ⟨[]⟩, {}, 187, os⟩, ⟨denote treeTable hdCode, hdCode, p00, [topFrame p00]⟩) := by
  rw [PySem.W.Fast.te15667345088766844465, PySem.W.Fast.te14364793385576792824, PySem.W.Fast.te11892475500146522536]
  kernel_rfl
theorem hd_block (w : World) (os : OsState) : segRun treeTable PW w 11 (some (.ref 6)) 1 1 ⟨heapA w.params, ⟨[]⟩, {}, 187, os⟩ (blockOf hdBody hdEnv hdCode p00 [topFrame p00]) = some (.next, (shA w os).abs, hdCode, p00) := by
  rw [PySem.W.Fast.te14374325043358763698, PySem.W.Fast.te14364793385576792824]
  kernel_rfl
theorem hd_open : opening PW = plainProg PW.main.scope.names := by kernel_rfl
theorem hd_fence (s : Shared) : fenceModules? PW s = some s := by kernel_rfl
theorem hd_fin (w : World) (s : Shared) : topRun treeTable PW w 11 (some (.ref 6)) 2 s (restOf [] hdEnv hdCode { line := 589, col := 0, endLine := 614, endCol := 62 } [topFrame p00]) = some s := by kernel_rfl
noncomputable abbrev hdLooks (p q : Program) (loose : List Str) (Xt : Shared → Bool) {α : Type} (YT : SharedT → α) (B : Heap) (S : SharedT) :=
  ((staticsOk (importedModules p.main.body) B S.abs.heap && namesBound p S.abs.heap && gensDone S.abs && laidKept B S.abs.heap, openSeen q loose (importedModules p.main.body) Xt true S.abs), YT S)
noncomputable def lookT (S : SharedT) (a : Addr) : Option Obj := match Nat.blt a S.n with
  | true => (S.tree.get a).bind alive
  | false => none
theorem lookT_some {S : SharedT} {a : Addr} {o : Obj} (h : lookT S a = some o) : S.abs.heap.get? a = some o := by
  unfold lookT at h
  cases e : Nat.blt a S.n with
  | false => rw [e] at h; cases h
  | true =>
    rw [e] at h
    obtain ⟨o', e1, e2⟩ := Option.bind_eq_some_iff.mp h
    have hl : a < S.n := by simpa [Nat.blt_eq] using e
    exact (abs_get hl e1).trans e2
theorem look_all {S : SharedT} : ∀ {as : List Addr} {K : Frag}, as.map (lookT S) = K.map (fun p => some p.2) → as.map S.abs.heap.get? = K.map (fun p => some p.2)
  | [], [], _ => rfl
  | [], _ :: _, h => nomatch h
  | _ :: _, [], h => nomatch h
  | a :: as, p :: K, h => by
    obtain ⟨h1, h2⟩ := List.cons.inj h
    rw [List.map_cons, List.map_cons, lookT_some h1, look_all h2]
theorem left_gen {p q : Program} {loose : List Str} {Xt : Shared → Bool} {α : Type} {Yf : Shared → α} {Ya : World → α} {YT : SharedT → α} {B A : Params → Heap} {d0 : Drawn} {k0 k1 n1 n2 n3 n4 N K m0 : Nat} {ann : Option Value} {body : List Stmt} {env : Env} {code : Code} {p0 p1 : Pos} {T : World → OsState → SharedT}
    (opn : ∀ w : World, (fencedOpening treeTable p w N).map (fun s => (s.heap, s.gens, s.drawn, s.toks)) = some (B w.params, #[], d0, k0))
    (size : ∀ w : World, ((B w.params).isNs mainGlobals && (#[] : Array GenState).size == 0, (B w.params).objs.size, (B w.params).nsMap mainGlobals "__annotations__") = (true, m0, ann))
    (pre : ∀ w os, topGo treeTable p w m0 ann n1 ⟨B w.params, #[], d0, k0, os⟩ (topStub p) = some (⟨A w.params, #[], {}, k1, os⟩, ⟨denote treeTable (.body body env), code, p0, [topFrame p0]⟩))
    (block : ∀ w os, segRun treeTable p w m0 ann 1 n2 ⟨A w.params, #[], {}, k1, os⟩ (blockOf body env code p0 [topFrame p0]) = some (.next, (T w os).abs, code, p0))
    (fin : ∀ w s, topRun treeTable p w m0 ann n4 s (restOf [] env code p1 [topFrame p0]) = some s) (hN : n1 + (n2 + (n3 + n4)) + K = N) (hY : ∀ w S, YT S = Ya w → Yf S.abs = Ya w)
    (h : ∀ w os, (segRunT treeTable p w m0 ann 1 n3 (T w os) (piecesOf body env code p0 [topFrame p0])).map (fun r => (r.1, r.2.2.1, r.2.2.2, hdLooks p q loose Xt YT (B w.params) r.2.1)) = some (.next, code, p1, (true, openGood q loose), Ya w)) : LeftO p q loose Xt Yf Ya N := fun w => by
  obtain ⟨⟨hp, gs, d, k, os⟩, e, e'⟩ := Option.map_eq_some_iff.mp (opn w)
  obtain ⟨rfl, rfl, rfl, rfl⟩ : hp = B w.params ∧ gs = #[] ∧ d = d0 ∧ k = k0 := by simpa using e'
  obtain ⟨z1, z2, z3⟩ : _ ∧ _ ∧ _ := by simpa only [Prod.mk.injEq] using size w
  obtain ⟨⟨f, S, c, pp⟩, e1, e2⟩ := Option.map_eq_some_iff.mp (h w os)
  have q1 : f = .next := congrArg (fun x => x.1) e2
  have q2 : c = code := congrArg (fun x => x.2.1) e2
  have q3 : pp = p1 := congrArg (fun x => x.2.2.1) e2
  have l1 := congrArg (fun x => x.2.2.2.1.1) e2
  have l2 := congrArg (fun x => x.2.2.2.1.2) e2
  have l3 := hY w S (congrArg (fun x => x.2.2.2.2) e2)
  dsimp only at l1 l2
  subst q1
  subst q2
  subst q3
  have r0 := piece_app (rest := []) (segRun_of e1) (fin w S.abs)
  rw [List.append_nil] at r0
  have r1 := piece_block (block w os) r0
  have r := topRun_mono K _ _ _ _ (go_top (pre w os) r1)
  rw [hN] at r
  have t : topFrom treeTable p w N ⟨B w.params, #[], d, k, os⟩ = some S.abs := by
    unfold topFrom
    dsimp only
    rw [z1, z2, z3, r]
    show (match staticsOk (importedModules p.main.body) (B w.params) S.abs.heap && namesBound p S.abs.heap && gensDone S.abs && laidKept (B w.params) S.abs.heap with | true => _ | false => _) = _
    rw [show (staticsOk (importedModules p.main.body) (B w.params) S.abs.heap && namesBound p S.abs.heap && gensDone S.abs && laidKept (B w.params) S.abs.heap) = true from l1]
  unfold openEnds
  rw [e]
  show (topFrom treeTable p w N _).map _ = _
  rw [t]
  exact congrArg some (Prod.ext l2 l3)
theorem hd_size (w : World) : ((boot_heap w.params).isNs mainGlobals && (#[] : Array GenState).size == 0, (boot_heap w.params).objs.size, (boot_heap w.params).nsMap mainGlobals "__annotations__") = (true, 11, some (.ref 6)) := by kernel_rfl
noncomputable abbrev hdEnd : Pos := { line := 589, col := 0, endLine := 614, endCol := 62 }
theorem hd_left {q : Program} {loose : List Str} {Xt : Shared → Bool} {K : Params → Frag} {as : List Addr} {e : ∀ P, as = (K P).map (·.1)}
    (h : ∀ w os, (segRunT treeTable PW w 11 (some (.ref 6)) 1 5100 (shA w os) (piecesOf hdBody hdEnv hdCode p00 [topFrame p00])).map (fun r => (r.1, r.2.2.1, r.2.2.2, hdLooks PW q loose Xt (fun S => as.map (lookT S)) (boot_heap w.params) r.2.1)) = some (.next, hdCode, hdEnd, (true, openGood q loose), (K w.params).map fun p => some p.2)) :
    LeftO PW q loose Xt (kHook K as e).obs (kHook K as e).val 6000 :=
  left_gen (B := boot_heap) (A := heapA) (d0 := boot_drawn) (k0 := boot_toks) (k1 := 187) (n1 := 12) (n2 := 1) (n3 := 5100) (n4 := 2) (K := 885) (m0 := 11) (ann := some (.ref 6)) (body := hdBody) (env := hdEnv) (code := hdCode) (p0 := p00) (p1 := hdEnd) (T := shA)
    (boot_open hd_open (by decide) hd_fence) hd_size hd_pre hd_block hd_fin rfl (fun w S => look_all) h
noncomputable def kCo (n q : Str) (t : Nat) (l a f : Int) (c : Addr) (u : Int) : Obj := { cls := .type "code", data := .fields #[.str n t, .str q (t + 1), .str "/claim/cut.py" (t + 2), .int l 0, .int a 0, .int 0 0, .int 0 0, .int f 0, .ref (c - 5), .bool true, .int 181 0, .ref (c - 4), .none, .ref (c - 3), .ref (c - 2), .ref (c - 1), .int u 0, .int l 0, .str "/claim/cut.py" (u.toNat + 1)] }
noncomputable def kFo (n q : Str) (st : Stmt) (dV pm : Value) (c : Addr) : Obj := { cls := .type "function", data := .func (fnX n q (stArgs st) (stBody st) (stScope st) [] dV .none .none pm none (.ref c) .none) }
noncomputable def kE (P : Params) (x : Str) (t : Nat) (v : Value) : DictEntry := ⟨PyData.keyHash P x, .str x t, v⟩
noncomputable def hdK (P : Params) : Frag := [
  (3, { cls := .type "dict", data := .dict #[kE P "__name__" 165 (.str "law_pq0298_01" 1354), kE P "__doc__" 166 (.none), kE P "__package__" 167 (.none), kE P "__loader__" 168 (.builtin "__main__.__loader__#opaque"), kE P "__spec__" 169 (.none), kE P "__annotations__" 170 (.ref 6), kE P "__builtins__" 171 (.ref 4), kE P "__file__" 173 (.str "/claim/cut.py" 172), kE P "__cached__" 174 (.none), kE P "_wall" 193 (.ref 21), kE P "NEWLINE" 197 (.int 10 196), kE P "SPACE" 199 (.int 32 198), kE P "TAB" 201 (.int 9 200), kE P "BLANKS" 202 (.ref 22), kE P "line_start" 211 (.ref 29), kE P "line_end" 220 (.ref 36), kE P "next_start" 229 (.ref 43), kE P "lines_target" 240 (.ref 50), kE P "blanks_end" 249 (.ref 57), kE P "blanks_begin" 258 (.ref 64), kE P "is_line_end" 266 (.ref 71), kE P "is_blank_line" 274 (.ref 78), kE P "FORM_FEED" 278 (.int 12 277), kE P "PARTING" 279 (.ref 79), kE P "parts" 287 (.ref 86), kE P "begins" 295 (.ref 93), kE P "line_behind" 304 (.ref 620), kE P "line_behind_paragraphs" 305 (.ref 100), kE P "past_parting" 314 (.ref 107), kE P "one_forward" 323 (.ref 114), kE P "is_behind_empty" 331 (.ref 121), kE P "first_line" 339 (.ref 128), kE P "one_backward" 349 (.ref 135), kE P "paragraphs_target" 360 (.ref 142), kE P "text_end" 371 (.ref 149), kE P "text_begin" 382 (.ref 156), kE P "paragraph_bounds" 391 (.ref 163), kE P "STOPS" 397 (.ref 164), kE P "CLOSING" 403 (.ref 165), kE P "SPACES" 404 (.ref 166), kE P "closed_at" 413 (.ref 173), kE P "gap_behind" 421 (.ref 180), kE P "end_match" 431 (.ref 187), kE P "spaces_begin" 441 (.ref 194), kE P "one_forward_sentence" 452 (.ref 201), kE P "one_backward_sentence" 463 (.ref 208), kE P "sentences_target" 474 (.ref 215), kE P "GapText" 594 (.ref 302), kE P "Markers" 688 (.ref 372), kE P "Opaque" 732 (.ref 407), kE P "Buffer" 871 (.ref 513), kE P "AT_BEGIN" 875 (.str "beginning-of-buffer" 874), kE P "AT_END" 877 (.str "end-of-buffer" 876), kE P "clamped" 885 (.ref 522), kE P "chars_target" 896 (.ref 529), kE P "tenths_of" 905 (.ref 536), kE P "begin_target" 915 (.ref 543), kE P "end_target" 923 (.ref 550), kE P "line_number_target" 931 (.ref 557), kE P "DELETE" 935 (.int 127 934), kE P "width_at" 944 (.ref 564), kE P "column_at" 955 (.ref 571), kE P "place_at" 968 (.ref 578), kE P "indentation_at" 979 (.ref 585), kE P "horizontal_edit" 990 (.ref 592), kE P "just_edit" 999 (.ref 599), kE P "blank_run" 1008 (.ref 606), kE P "behind_blanks" 1017 (.ref 613), kE P "line_behind_deletion" 1027 (.ref 620), kE P "blank_lines_edits" 1033 (.ref 625), kE P "trailing_edits" 1045 (.ref 632), kE P "LispSignal" 1078 (.ref 649), kE P "LONGEST" 1084 (.int 4194304 1083), kE P "need_writable" 1091 (.ref 659), kE P "need_room" 1099 (.ref 666), kE P "reached" 1110 (.ref 673), kE P "tell_ahead" 1120 (.ref 680), kE P "tell_behind" 1131 (.ref 687), kE P "text_in" 1140 (.ref 694), kE P "hung_in" 1150 (.ref 701), kE P "put_in" 1161 (.ref 708), kE P "insert" 1170 (.ref 716), kE P "narrow" 1183 (.ref 723), kE P "TextRow" 1239 (.ref 762), kE P "codes_between" 1247 (.ref 771), kE P "in_order" 1257 (.ref 778), kE P "regions_edit" 1269 (.ref 785), kE P "unit_around" 1281 (.ref 792), kE P "units_regions" 1295 (.ref 799), kE P "by_chars" 1305 (.ref 806), kE P "chars_regions" 1314 (.ref 813), kE P "chars_edit" 1326 (.ref 820), kE P "lines_ahead" 1337 (.ref 827), kE P "lines_edit" 1353 (.ref 834), kE P "_law_draw" 1363 (.ref 841), kE P "_law_places" 1373 (.ref 848), kE P "_law_others" 1384 (.ref 855), kE P "_law_chars" 1394 (.ref 862), kE P "law" 1400 (.ref 867)] 99 }),
  (22, { cls := .type "tuple", data := .seq #[.int 32 198, .int 9 200] }),
  (28, kCo "line_start" "line_start" 203 9 2 3 28 209),
  (29, kFo "line_start" "line_start" (topStmt 6) .none (.str "emacs.lines" 194) 28),
  (35, kCo "line_end" "line_end" 212 14 2 3 35 218),
  (36, kFo "line_end" "line_end" (topStmt 7) .none (.str "emacs.lines" 194) 35),
  (42, kCo "next_start" "next_start" 221 19 2 3 42 227),
  (43, kFo "next_start" "next_start" (topStmt 8) .none (.str "emacs.lines" 194) 42),
  (49, kCo "lines_target" "lines_target" 230 22 3 3 49 238),
  (50, kFo "lines_target" "lines_target" (topStmt 9) .none (.str "emacs.lines" 194) 49),
  (56, kCo "blanks_end" "blanks_end" 241 37 2 3 56 247),
  (57, kFo "blanks_end" "blanks_end" (topStmt 10) .none (.str "emacs.lines" 194) 56),
  (63, kCo "blanks_begin" "blanks_begin" 250 42 2 3 63 256),
  (64, kFo "blanks_begin" "blanks_begin" (topStmt 11) .none (.str "emacs.lines" 194) 63),
  (70, kCo "is_line_end" "is_line_end" 259 47 2 3 70 264),
  (71, kFo "is_line_end" "is_line_end" (topStmt 12) .none (.str "emacs.lines" 194) 70),
  (77, kCo "is_blank_line" "is_blank_line" 267 49 2 3 77 272),
  (78, kFo "is_blank_line" "is_blank_line" (topStmt 13) .none (.str "emacs.lines" 194) 77),
  (79, { cls := .type "tuple", data := .seq #[.int 32 198, .int 9 200, .int 12 277] }),
  (85, kCo "parts" "parts" 280 54 2 3 85 285),
  (86, kFo "parts" "parts" (topStmt 17) .none (.str "emacs.paragraphs" 275) 85),
  (92, kCo "begins" "begins" 288 58 2 3 92 293),
  (93, kFo "begins" "begins" (topStmt 18) .none (.str "emacs.paragraphs" 275) 92),
  (99, kCo "line_behind" "line_behind" 296 60 2 3 99 302),
  (100, kFo "line_behind" "line_behind" (topStmt 19) .none (.str "emacs.paragraphs" 275) 99),
  (106, kCo "past_parting" "past_parting" 306 64 2 3 106 312),
  (107, kFo "past_parting" "past_parting" (topStmt 21) .none (.str "emacs.paragraphs" 275) 106),
  (113, kCo "one_forward" "one_forward" 315 69 2 3 113 321),
  (114, kFo "one_forward" "one_forward" (topStmt 22) .none (.str "emacs.paragraphs" 275) 113),
  (120, kCo "is_behind_empty" "is_behind_empty" 324 74 2 3 120 329),
  (121, kFo "is_behind_empty" "is_behind_empty" (topStmt 23) .none (.str "emacs.paragraphs" 275) 120),
  (127, kCo "first_line" "first_line" 332 78 2 3 127 337),
  (128, kFo "first_line" "first_line" (topStmt 24) .none (.str "emacs.paragraphs" 275) 127),
  (134, kCo "one_backward" "one_backward" 340 82 2 3 134 347),
  (135, kFo "one_backward" "one_backward" (topStmt 25) .none (.str "emacs.paragraphs" 275) 134),
  (141, kCo "paragraphs_target" "paragraphs_target" 350 97 3 3 141 358),
  (142, kFo "paragraphs_target" "paragraphs_target" (topStmt 26) .none (.str "emacs.paragraphs" 275) 141),
  (148, kCo "text_end" "text_end" 361 104 2 3 148 369),
  (149, kFo "text_end" "text_end" (topStmt 27) .none (.str "emacs.paragraphs" 275) 148),
  (155, kCo "text_begin" "text_begin" 372 112 2 3 155 380),
  (156, kFo "text_begin" "text_begin" (topStmt 28) .none (.str "emacs.paragraphs" 275) 155),
  (162, kCo "paragraph_bounds" "paragraph_bounds" 383 124 2 3 162 389),
  (163, kFo "paragraph_bounds" "paragraph_bounds" (topStmt 29) .none (.str "emacs.paragraphs" 275) 162),
  (164, { cls := .type "tuple", data := .seq #[.int 46 394, .int 63 395, .int 33 396] }),
  (165, { cls := .type "tuple", data := .seq #[.int 93 398, .int 34 399, .int 39 400, .int 41 401, .int 125 402] }),
  (166, { cls := .type "tuple", data := .seq #[.int 32 198, .int 9 200, .int 10 196] }),
  (172, kCo "closed_at" "closed_at" 405 131 2 3 172 411),
  (173, kFo "closed_at" "closed_at" (topStmt 34) .none (.str "emacs.sentences" 392) 172),
  (179, kCo "gap_behind" "gap_behind" 414 138 2 3 179 419),
  (180, kFo "gap_behind" "gap_behind" (topStmt 35) .none (.str "emacs.sentences" 392) 179),
  (186, kCo "end_match" "end_match" 422 148 3 3 186 429),
  (187, kFo "end_match" "end_match" (topStmt 36) .none (.str "emacs.sentences" 392) 186),
  (193, kCo "spaces_begin" "spaces_begin" 432 156 3 3 193 439),
  (194, kFo "spaces_begin" "spaces_begin" (topStmt 37) .none (.str "emacs.sentences" 392) 193),
  (200, kCo "one_forward_sentence" "one_forward_sentence" 442 161 2 3 200 450),
  (201, kFo "one_forward_sentence" "one_forward_sentence" (topStmt 38) .none (.str "emacs.sentences" 392) 200),
  (207, kCo "one_backward_sentence" "one_backward_sentence" 453 168 2 3 207 461),
  (208, kFo "one_backward_sentence" "one_backward_sentence" (topStmt 39) .none (.str "emacs.sentences" 392) 207),
  (214, kCo "sentences_target" "sentences_target" 464 175 3 3 214 472),
  (215, kFo "sentences_target" "sentences_target" (topStmt 40) .none (.str "emacs.sentences" 392) 214),
  (228, kCo "__init__" "GapText.__init__" 489 185 3 3 228 495),
  (229, kFo "__init__" "GapText.__init__" (inCls 42 0) .none (.str "emacs.gap" 475) 228),
  (235, kCo "size" "GapText.size" 498 191 1 3 235 502),
  (236, kFo "size" "GapText.size" (inCls 42 1) .none (.str "emacs.gap" 475) 235),
  (242, kCo "code" "GapText.code" 505 194 2 3 242 510),
  (243, kFo "code" "GapText.code" (inCls 42 2) .none (.str "emacs.gap" 475) 242),
  (249, kCo "codes" "GapText.codes" 513 199 3 3 249 520),
  (250, kFo "codes" "GapText.codes" (inCls 42 3) .none (.str "emacs.gap" 475) 249),
  (256, kCo "move_gap" "GapText.move_gap" 523 207 2 3 256 529),
  (257, kFo "move_gap" "GapText.move_gap" (inCls 42 4) .none (.str "emacs.gap" 475) 256),
  (263, kCo "widen_gap" "GapText.widen_gap" 532 218 2 3 263 538),
  (264, kFo "widen_gap" "GapText.widen_gap" (inCls 42 5) .none (.str "emacs.gap" 475) 263),
  (270, kCo "insert" "GapText.insert" 541 224 3 3 270 547),
  (271, kFo "insert" "GapText.insert" (inCls 42 6) .none (.str "emacs.gap" 475) 270),
  (301, { cls := .type "dict", data := .dict #[kE P "__module__" 484 (.str "emacs.gap" 475), kE P "__firstlineno__" 488 (.int 183 487), kE P "__init__" 497 (.ref 229), kE P "size" 504 (.ref 236), kE P "code" 512 (.ref 243), kE P "codes" 522 (.ref 250), kE P "move_gap" 531 (.ref 257), kE P "widen_gap" 540 (.ref 264), kE P "insert" 549 (.ref 271), kE P "delete" 559 (.ref 278), kE P "put" 568 (.ref 285), kE P "narrow_gap" 575 (.ref 292), kE P "is_whole" 582 (.ref 299), kE P "__static_attributes__" 587 (.ref 300), kE P "__dict__" 589 (.ref 303), kE P "__weakref__" 591 (.ref 304), kE P "__doc__" 592 (.none)] 4 }),
  (302, { cls := .type "type", data := .cls { name := "GapText", bases := [.type "object"], mro := [.ref 302, .type "object"], ns := 301, qualname := "GapText" }, slots := #[none, none, some (.str "GapText" 477), some (.str "GapText" 485), some (.builtin "object.__new__"), some (.bool true)] }),
  (319, kCo "__init__" "Markers.__init__" 609 251 1 3 319 613),
  (320, kFo "__init__" "Markers.__init__" (inCls 44 0) .none (.str "emacs.markers" 595) 319),
  (326, kCo "numbers" "Markers.numbers" 616 254 1 3 326 620),
  (327, kFo "numbers" "Markers.numbers" (inCls 44 1) .none (.str "emacs.markers" 595) 326),
  (354, kCo "inserted" "Markers.inserted" 649 266 4 3 354 658),
  (355, kFo "inserted" "Markers.inserted" (inCls 44 5) .none (.str "emacs.markers" 595) 354),
  (371, { cls := .type "dict", data := .dict #[kE P "__module__" 604 (.str "emacs.markers" 595), kE P "__firstlineno__" 608 (.int 249 607), kE P "__init__" 615 (.ref 320), kE P "numbers" 622 (.ref 327), kE P "put" 631 (.ref 334), kE P "drop" 639 (.ref 341), kE P "within" 648 (.ref 348), kE P "inserted" 660 (.ref 355), kE P "deleted" 669 (.ref 362), kE P "replaced" 679 (.ref 369), kE P "__static_attributes__" 681 (.ref 370), kE P "__dict__" 683 (.ref 373), kE P "__weakref__" 685 (.ref 374), kE P "__doc__" 686 (.none)] 4 }),
  (372, { cls := .type "type", data := .cls { name := "Markers", bases := [.type "object"], mro := [.ref 372, .type "object"], ns := 371, qualname := "Markers" }, slots := #[none, none, some (.str "Markers" 597), some (.str "Markers" 605), some (.builtin "object.__new__"), some (.bool true)] }),
  (406, { cls := .type "dict", data := .dict #[kE P "__module__" 698 (.str "emacs.objects" 689), kE P "__firstlineno__" 702 (.int 278 701), kE P "shown" 709 (.ref 390), kE P "kind" 716 (.ref 397), kE P "same_as" 724 (.ref 404), kE P "__static_attributes__" 725 (.ref 405), kE P "__dict__" 727 (.ref 408), kE P "__weakref__" 729 (.ref 409), kE P "__doc__" 730 (.none)] 4 }),
  (407, { cls := .type "type", data := .cls { name := "Opaque", bases := [.type "object"], mro := [.ref 407, .type "object"], ns := 406, qualname := "Opaque", subclasses := [.ref 513] }, slots := #[none, none, some (.str "Opaque" 691), some (.str "Opaque" 699), some (.builtin "object.__new__"), some (.bool true)] }),
  (419, { cls := .type "tuple", data := .seq #[.int 8 747] }),
  (425, kCo "__init__" "Buffer.__init__" 748 291 4 3 425 755),
  (426, kFo "__init__" "Buffer.__init__" (inCls 48 0) (.ref 419) (.str "emacs.buffer" 733) 425),
  (446, kCo "begin" "Buffer.begin" 772 319 1 3 446 776),
  (447, kFo "begin" "Buffer.begin" (inCls 48 3) .none (.str "emacs.buffer" 733) 446),
  (453, kCo "end" "Buffer.end" 779 322 1 3 453 783),
  (454, kFo "end" "Buffer.end" (inCls 48 4) .none (.str "emacs.buffer" 733) 453),
  (460, kCo "size" "Buffer.size" 786 325 1 3 460 790),
  (461, kFo "size" "Buffer.size" (inCls 48 5) .none (.str "emacs.buffer" 733) 460),
  (467, kCo "code_at" "Buffer.code_at" 793 328 2 3 467 798),
  (468, kFo "code_at" "Buffer.code_at" (inCls 48 6) .none (.str "emacs.buffer" 733) 467),
  (474, kCo "codes" "Buffer.codes" 801 333 3 3 474 807),
  (475, kFo "codes" "Buffer.codes" (inCls 48 7) .none (.str "emacs.buffer" 733) 474),
  (481, kCo "goto" "Buffer.goto" 810 336 2 3 481 815),
  (482, kFo "goto" "Buffer.goto" (inCls 48 8) .none (.str "emacs.buffer" 733) 481),
  (509, kCo "touch" "Buffer.touch" 840 349 2 3 509 845),
  (510, kFo "touch" "Buffer.touch" (inCls 48 12) .none (.str "emacs.buffer" 733) 509),
  (512, { cls := .type "dict", data := .dict #[kE P "__module__" 742 (.str "emacs.buffer" 733), kE P "__firstlineno__" 746 (.int 289 745), kE P "__init__" 757 (.ref 426), kE P "shown" 764 (.ref 433), kE P "kind" 771 (.ref 440), kE P "begin" 778 (.ref 447), kE P "end" 785 (.ref 454), kE P "size" 792 (.ref 461), kE P "code_at" 800 (.ref 468), kE P "codes" 809 (.ref 475), kE P "goto" 817 (.ref 482), kE P "tick" 824 (.ref 489), kE P "is_modified" 831 (.ref 496), kE P "set_modified" 839 (.ref 503), kE P "touch" 847 (.ref 510), kE P "__static_attributes__" 868 (.ref 511), kE P "__doc__" 869 (.none)] 2 }),
  (513, { cls := .type "type", data := .cls { name := "Buffer", bases := [.ref 407], mro := [.ref 513, .ref 407, .type "object"], ns := 512, qualname := "Buffer" }, slots := #[some (.ref 412), none, some (.str "Buffer" 735), some (.str "Buffer" 743), some (.builtin "object.__new__"), some (.bool true)] }),
  (521, kCo "clamped" "clamped" 878 356 2 3 521 883),
  (522, kFo "clamped" "clamped" (topStmt 52) .none (.str "emacs.charmotion" 872) 521),
  (528, kCo "chars_target" "chars_target" 886 358 3 3 528 894),
  (529, kFo "chars_target" "chars_target" (topStmt 53) .none (.str "emacs.charmotion" 872) 528),
  (535, kCo "tenths_of" "tenths_of" 897 364 2 3 535 903),
  (536, kFo "tenths_of" "tenths_of" (topStmt 54) .none (.str "emacs.charmotion" 872) 535),
  (542, kCo "begin_target" "begin_target" 906 367 2 3 542 913),
  (543, kFo "begin_target" "begin_target" (topStmt 55) .none (.str "emacs.charmotion" 872) 542),
  (549, kCo "end_target" "end_target" 916 373 2 3 549 921),
  (550, kFo "end_target" "end_target" (topStmt 56) .none (.str "emacs.charmotion" 872) 549),
  (556, kCo "line_number_target" "line_number_target" 924 377 2 3 556 929),
  (557, kFo "line_number_target" "line_number_target" (topStmt 57) .none (.str "emacs.charmotion" 872) 556),
  (563, kCo "width_at" "width_at" 936 381 3 3 563 942),
  (564, kFo "width_at" "width_at" (topStmt 60) .none (.str "emacs.columns" 932) 563),
  (570, kCo "column_at" "column_at" 945 387 3 3 570 953),
  (571, kFo "column_at" "column_at" (topStmt 61) .none (.str "emacs.columns" 932) 570),
  (577, kCo "place_at" "place_at" 956 392 4 3 577 966),
  (578, kFo "place_at" "place_at" (topStmt 62) .none (.str "emacs.columns" 932) 577),
  (584, kCo "indentation_at" "indentation_at" 969 400 3 3 584 977),
  (585, kFo "indentation_at" "indentation_at" (topStmt 63) .none (.str "emacs.columns" 932) 584),
  (591, kCo "horizontal_edit" "horizontal_edit" 982 408 3 3 591 988),
  (592, kFo "horizontal_edit" "horizontal_edit" (topStmt 65) .none (.str "emacs.deletion" 980) 591),
  (598, kCo "just_edit" "just_edit" 991 410 3 3 598 997),
  (599, kFo "just_edit" "just_edit" (topStmt 66) .none (.str "emacs.deletion" 980) 598),
  (605, kCo "blank_run" "blank_run" 1000 412 2 3 605 1006),
  (606, kFo "blank_run" "blank_run" (topStmt 67) .none (.str "emacs.deletion" 980) 605),
  (612, kCo "behind_blanks" "behind_blanks" 1009 417 2 3 612 1015),
  (613, kFo "behind_blanks" "behind_blanks" (topStmt 68) .none (.str "emacs.deletion" 980) 612),
  (619, kCo "line_behind" "line_behind" 1018 422 2 3 619 1024),
  (620, kFo "line_behind" "line_behind" (topStmt 69) .none (.str "emacs.deletion" 980) 619),
  (624, { cls := .type "code", data := .fields #[.str "blank_lines_edits" 1028, .str "blank_lines_edits" 1029, .str "/claim/cut.py" 1030, .int 426 0, .int 2 0, .int 0 0, .int 0 0, .int 3 0, .ref 621, .bool true, .int 181 0, .ref 622, .none, .none, .none, .ref 623, .int 1031 0, .int 426 0, .str "/claim/cut.py" 1032] }),
  (625, kFo "blank_lines_edits" "blank_lines_edits" (topStmt 71) .none (.str "emacs.deletion" 980) 624),
  (631, kCo "trailing_edits" "trailing_edits" 1034 437 3 3 631 1043),
  (632, kFo "trailing_edits" "trailing_edits" (topStmt 72) .none (.str "emacs.deletion" 980) 631),
  (645, kCo "__init__" "LispSignal.__init__" 1060 449 3 3 645 1066),
  (646, kFo "__init__" "LispSignal.__init__" (inCls 74 0) .none (.str "emacs.errors" 1046) 645),
  (648, { cls := .type "dict", data := .dict #[kE P "__module__" 1055 (.str "emacs.errors" 1046), kE P "__firstlineno__" 1059 (.int 447 1058), kE P "__init__" 1068 (.ref 646), kE P "__static_attributes__" 1071 (.ref 647), kE P "__weakref__" 1073 (.ref 650), kE P "__doc__" 1074 (.none)] 3 }),
  (649, { cls := .type "type", data := .cls { name := "LispSignal", bases := [.type "Exception"], mro := [.ref 649, .type "Exception", .type "BaseException", .type "object"], ns := 648, qualname := "LispSignal" }, slots := #[some (.ref 633), none, some (.str "LispSignal" 1048), some (.str "LispSignal" 1056), some (.builtin "Exception.__new__"), some (.bool true)] }),
  (658, kCo "need_writable" "need_writable" 1085 454 1 3 658 1089),
  (659, kFo "need_writable" "need_writable" (topStmt 77) .none (.str "emacs.editing" 1079) 658),
  (665, kCo "need_room" "need_room" 1092 457 2 3 665 1097),
  (666, kFo "need_room" "need_room" (topStmt 78) .none (.str "emacs.editing" 1079) 665),
  (672, kCo "reached" "reached" 1100 460 3 3 672 1108),
  (673, kFo "reached" "reached" (topStmt 79) .none (.str "emacs.editing" 1079) 672),
  (679, kCo "tell_ahead" "tell_ahead" 1111 465 3 3 679 1118),
  (680, kFo "tell_ahead" "tell_ahead" (topStmt 80) .none (.str "emacs.editing" 1079) 679),
  (686, kCo "tell_behind" "tell_behind" 1121 468 4 3 686 1129),
  (687, kFo "tell_behind" "tell_behind" (topStmt 81) .none (.str "emacs.editing" 1079) 686),
  (693, kCo "text_in" "text_in" 1132 472 3 3 693 1138),
  (694, kFo "text_in" "text_in" (topStmt 82) .none (.str "emacs.editing" 1079) 693),
  (700, kCo "hung_in" "hung_in" 1141 479 4 3 700 1148),
  (701, kFo "hung_in" "hung_in" (topStmt 83) .none (.str "emacs.editing" 1079) 700),
  (707, kCo "put_in" "put_in" 1151 484 5 3 707 1159),
  (708, kFo "put_in" "put_in" (topStmt 84) .none (.str "emacs.editing" 1079) 707),
  (709, { cls := .type "tuple", data := .seq #[.bool false] }),
  (715, kCo "insert" "insert" 1162 497 3 3 715 1168),
  (716, kFo "insert" "insert" (topStmt 85) (.ref 709) (.str "emacs.editing" 1079) 715),
  (722, kCo "narrow" "narrow" 1173 500 3 3 722 1181),
  (723, kFo "narrow" "narrow" (topStmt 87) .none (.str "emacs.narrowing" 1171) 722),
  (731, { cls := .type "tuple", data := .seq #[.int 1 1198] }),
  (737, kCo "__init__" "TextRow.__init__" 1199 509 3 3 737 1205),
  (738, kFo "__init__" "TextRow.__init__" (inCls 89 0) (.ref 731) (.str "emacs.textrow" 1184) 737),
  (744, kCo "begin" "TextRow.begin" 1208 513 1 3 744 1212),
  (745, kFo "begin" "TextRow.begin" (inCls 89 1) .none (.str "emacs.textrow" 1184) 744),
  (751, kCo "end" "TextRow.end" 1215 516 1 3 751 1219),
  (752, kFo "end" "TextRow.end" (inCls 89 2) .none (.str "emacs.textrow" 1184) 751),
  (758, kCo "code_at" "TextRow.code_at" 1222 519 2 3 758 1227),
  (759, kFo "code_at" "TextRow.code_at" (inCls 89 3) .none (.str "emacs.textrow" 1184) 758),
  (761, { cls := .type "dict", data := .dict #[kE P "__module__" 1193 (.str "emacs.textrow" 1184), kE P "__firstlineno__" 1197 (.int 507 1196), kE P "__init__" 1207 (.ref 738), kE P "begin" 1214 (.ref 745), kE P "end" 1221 (.ref 752), kE P "code_at" 1229 (.ref 759), kE P "__static_attributes__" 1232 (.ref 760), kE P "__dict__" 1234 (.ref 763), kE P "__weakref__" 1236 (.ref 764), kE P "__doc__" 1237 (.none)] 4 }),
  (762, { cls := .type "type", data := .cls { name := "TextRow", bases := [.type "object"], mro := [.ref 762, .type "object"], ns := 761, qualname := "TextRow" }, slots := #[none, none, some (.str "TextRow" 1186), some (.str "TextRow" 1194), some (.builtin "object.__new__"), some (.bool true)] }),
  (770, { cls := .type "code", data := .fields #[.str "codes_between" 1242, .str "codes_between" 1243, .str "/claim/cut.py" 1244, .int 524 0, .int 3 0, .int 0 0, .int 0 0, .int 3 0, .ref 767, .bool true, .int 181 0, .ref 768, .none, .none, .none, .ref 769, .int 1245 0, .int 524 0, .str "/claim/cut.py" 1246] }),
  (771, kFo "codes_between" "codes_between" (topStmt 91) .none (.str "emacs.transpose" 1240) 770),
  (777, kCo "in_order" "in_order" 1248 526 2 3 777 1255),
  (778, kFo "in_order" "in_order" (topStmt 92) .none (.str "emacs.transpose" 1240) 777),
  (784, kCo "regions_edit" "regions_edit" 1258 531 3 3 784 1267),
  (785, kFo "regions_edit" "regions_edit" (topStmt 93) .none (.str "emacs.transpose" 1240) 784),
  (791, kCo "unit_around" "unit_around" 1270 535 4 3 791 1279),
  (792, kFo "unit_around" "unit_around" (topStmt 94) .none (.str "emacs.transpose" 1240) 791),
  (798, kCo "units_regions" "units_regions" 1282 539 4 3 798 1293),
  (799, kFo "units_regions" "units_regions" (topStmt 95) .none (.str "emacs.transpose" 1240) 798),
  (805, kCo "by_chars" "by_chars" 1296 546 3 3 805 1303),
  (806, kFo "by_chars" "by_chars" (topStmt 96) .none (.str "emacs.transpose" 1240) 805),
  (812, kCo "chars_regions" "chars_regions" 1306 553 3 3 812 1312),
  (813, kFo "chars_regions" "chars_regions" (topStmt 97) .none (.str "emacs.transpose" 1240) 812),
  (819, kCo "chars_edit" "chars_edit" 1315 557 3 3 819 1324),
  (820, kFo "chars_edit" "chars_edit" (topStmt 98) .none (.str "emacs.transpose" 1240) 819),
  (826, kCo "lines_ahead" "lines_ahead" 1327 560 3 3 826 1335),
  (827, kFo "lines_ahead" "lines_ahead" (topStmt 99) .none (.str "emacs.transpose" 1240) 826),
  (833, kCo "lines_edit" "lines_edit" 1338 563 3 3 833 1351),
  (834, kFo "lines_edit" "lines_edit" (topStmt 100) .none (.str "emacs.transpose" 1240) 833),
  (840, kCo "_law_draw" "_law_draw" 1356 571 2 3 840 1361),
  (841, kFo "_law_draw" "_law_draw" (topStmt 102) .none (.str "law_pq0298_01" 1354) 840),
  (847, kCo "_law_places" "_law_places" 1364 576 4 3 847 1371),
  (848, kFo "_law_places" "_law_places" (topStmt 103) .none (.str "law_pq0298_01" 1354) 847),
  (854, kCo "_law_others" "_law_others" 1374 578 4 3 854 1382),
  (855, kFo "_law_others" "_law_others" (topStmt 104) .none (.str "law_pq0298_01" 1354) 854),
  (861, kCo "_law_chars" "_law_chars" 1385 584 3 3 861 1392),
  (862, kFo "_law_chars" "_law_chars" (topStmt 105) .none (.str "law_pq0298_01" 1354) 861)]
noncomputable abbrev hdAs : List Addr := [3, 22, 28, 29, 35, 36, 42, 43, 49, 50, 56, 57, 63, 64, 70, 71, 77, 78, 79, 85, 86, 92, 93, 99, 100, 106, 107, 113, 114, 120, 121, 127, 128, 134, 135, 141, 142, 148, 149, 155, 156, 162, 163, 164, 165, 166, 172, 173, 179, 180, 186, 187, 193, 194, 200, 201, 207, 208, 214, 215, 228, 229, 235, 236, 242, 243, 249, 250, 256, 257, 263, 264, 270, 271, 301, 302, 319, 320, 326, 327, 354, 355, 371, 372, 406, 407, 419, 425, 426, 446, 447, 453, 454, 460, 461, 467, 468, 474, 475, 481, 482, 509, 510, 512, 513, 521, 522, 528, 529, 535, 536, 542, 543, 549, 550, 556, 557, 563, 564, 570, 571, 577, 578, 584, 585, 591, 592, 598, 599, 605, 606, 612, 613, 619, 620, 624, 625, 631, 632, 645, 646, 648, 649, 658, 659, 665, 666, 672, 673, 679, 680, 686, 687, 693, 694, 700, 701, 707, 708, 709, 715, 716, 722, 723, 731, 737, 738, 744, 745, 751, 752, 758, 759, 761, 762, 770, 771, 777, 778, 784, 785, 791, 792, 798, 799, 805, 806, 812, 813, 819, 820, 826, 827, 833, 834, 840, 841, 847, 848, 854, 855, 861, 862]
theorem hd_as (P : Params) : hdAs = (hdK P).map (·.1) := by kernel_rfl
abbrev LW : OpenLaw := PySem.Challenge.rw_pq0298_01
theorem lo1 : sreFenced PW.main = true := by rw [PySem.W.Fast.te11788848310118352699]; kernel_rfl
theorem lo2 : ((moduleNames PW.main.body).isEmpty || lookedIntoSs (moduleNames PW.main.body) PW.main.body) = true := by kernel_rfl
theorem lo3 : namesResolve PW = true := by rw [PySem.W.Fast.te8377067652309620493]; kernel_rfl
theorem lo4 : PW.boundNames.all (fun n => !worldNames.contains n) = true := by rw [PySem.W.Fast.te18344453789297297638]; kernel_rfl
theorem lo5 : noRoadLSs { strict := !(importedModules PW.main.body).all cThrough.contains, foot := none, bare := (["vars", "dir", "locals"] : List Str).filter (readsOut PW PW.main.body) } PW.main.body = true := by rw [PySem.W.Fast.te8326940854005059898, PySem.W.Fast.te13343964577679436407]; kernel_rfl
theorem lo6 : (namesMeet PW PW.main.body fun _ n => attrL n) = true := by rw [PySem.W.Fast.te17119622794617984870, PySem.W.Fast.te17868728402115742887]; kernel_rfl
theorem law_open : looksOpen PW = true := by unfold looksOpen; exact look_both (look_both (look_both (look_both (look_both lo1 lo2) lo3) lo4) lo5) lo6
theorem law_part : LW.row.partSaid = true := by
  unfold OpenRow.partSaid
  rw [show looksOpen LW.row.prog = true from law_open]
  kernel_rfl
theorem law_row : LW.row.wellSaid = true := by
  unfold OpenRow.wellSaid
  rw [law_part]
  kernel_rfl
theorem law_said : LW.wellSaid = true := by
  unfold OpenLaw.wellSaid
  rw [law_row, PySem.W.Fast.te8326940854005059898, PySem.W.Fast.te17119622794617984870, PySem.W.Fast.named_eq]
  kernel_rfl
noncomputable def lawRec : DefRec := ⟨"law", stArgs (topStmt 106), stBody (topStmt 106), stScope (topStmt 106), hdEnd⟩
noncomputable def hdXP (_ : Str → Option Value) (h : Heap) : Prop := (h.get? sysModules).isSome = true
theorem hdXP_keeps (mg : Str → Option Value) (h h' : Heap) (x : hdXP mg h) (k : ∀ b o, h.get? b = some o → h'.get? b = some o) : hdXP mg h' := by
  obtain ⟨o, e⟩ := Option.isSome_iff_exists.mp x
  exact Option.isSome_iff_exists.mpr ⟨o, k _ _ e⟩
noncomputable abbrev hdXt (s : Shared) : Bool := recOk LW.row.records s && (s.heap.get? sysModules).isSome
theorem hd_run (w : World) (os : OsState) : (segRunT treeTable PW w 11 (some (.ref 6)) 1 5100 (shA w os) (piecesOf hdBody hdEnv hdCode p00 [topFrame p00])).map (fun r => (r.1, r.2.2.1, r.2.2.2, hdLooks PW qV looseV hdXt (fun S => hdAs.map (lookT S)) (boot_heap w.params) r.2.1)) = some (.next, hdCode, hdEnd, (true, openGood qV looseV), (hdK w.params).map fun p => some p.2) := by
  rw [PySem.W.Fast.te10110043849684766642, PySem.W.Fast.te14364793385576792824]
  kernel_rfl
set_option maxHeartbeats 8000000 in
theorem hd_of (call : WalkO qV looseV hdXP (kHook hdK hdAs hd_as).says LW.row.toRowW lawRec [] fun f vs => PySem.call f vs) : LW.Holds := by
  refine holds_law law_said fun said => ?_
  refine holds_open (r := LW.row) (d := lawRec) (kwd := []) (q := qV) (loose := looseV) (Xt := hdXt) (XP := hdXP) (Yf := (kHook hdK hdAs hd_as).obs) (Ya := (kHook hdK hdAs hd_as).val) (YP := (kHook hdK hdAs hd_as).says) (N := 6000)
    (hd_left hd_run) (kHook hdK hdAs hd_as).of (kHook hdK hdAs hd_as).keeps (fun s e => (Bool.and_eq_true_iff.mp e).2) hdXP_keeps (by kernel_rfl) (by kernel_rfl) (by kernel_rfl) (fun s e => recFacts_of (Bool.and_eq_true_iff.mp e).1) (by kernel_rfl) law_row (by decide +kernel) ⟨rfl, rfl, rfl, rfl, rfl, by decide +kernel⟩ ?hw call
  case hw => w_witness2
section
variable {S : Sg} {n : Nat} {sc : Scope} {m : Loc}
theorem EvT.two {a b : PySem.Expr} {x y : PV} {A : Around} {h₀ : Heap} {env : Env} {s : Shared} {T : Value → Value → Sem Value} {Q : Value → Shared → Prop}
    (ha : EvT S n sc m a x) (hb : EvT S n sc m b y) (at_ : At S sc n A env) (F : FrameAt S h₀ env m s.heap)
    (k : ∀ v u s', Ext s s' → Rep S h₀ s'.heap v x → Rep S h₀ s'.heap u y → wpAny (model S.prog S.w) A (T v u) Q NoE s') :
    wpAny (model S.prog S.w) A (eval a env) (fun v s₁ => wpAny (model S.prog S.w) A (eval b env) (fun u s₂ => wpAny (model S.prog S.w) A (T v u) Q NoE s₂) NoE s₁) NoE s :=
  ha A h₀ env s _ at_ F fun v s₁ x₁ r₁ => hb A h₀ env s₁ _ at_ (F.keeps x₁.keep) fun u s₂ x₂ r₂ => k v u s₂ (x₁.trans x₂) (r₁.keeps x₂.keep) r₂
theorem EvT.bin {a b : PySem.Expr} {x y z : PV} {op : Operator} {pos : Pos} (ha : EvT S n sc m a x) (hb : EvT S n sc m b y)
    (k : ∀ A h₀ s v u (Q : Value → Shared → Prop), Room n A → Rep S h₀ s.heap v x → Rep S h₀ s.heap u y → (∀ w s', Ext s s' → Rep S h₀ s'.heap w z → Q w s') → wpAny (model S.prog S.w) A (binaryOp op v u) Q NoE s) :
    EvT S n sc m (.BinOp a op b pos) z := by
  intro A h₀ env s Q at_ F kk
  refine wpAny_BinOp (EvT.two ha hb at_ F fun v u s' e r₁ r₂ => k A h₀ s' v u Q at_.room r₁ r₂ fun w s'' e' r => kk w s'' (e.trans e') r)
theorem EvT.add {a b : PySem.Expr} {i j : Int} {pos : Pos} (ha : EvT S n sc m a (it i)) (hb : EvT S n sc m b (it j)) : EvT S n sc m (.BinOp a .Add b pos) (it (i + j)) :=
  ha.bin hb fun A h₀ s v u Q _ r₁ r₂ k => by
    obtain ⟨_, rfl⟩ := rd_int r₁
    obtain ⟨_, rfl⟩ := rd_int r₂
    exact PyProof.Rows.add_int (k _ _ (.toks _ _) (.int _ _))
theorem EvT.sub {a b : PySem.Expr} {i j : Int} {pos : Pos} (ha : EvT S n sc m a (it i)) (hb : EvT S n sc m b (it j)) : EvT S n sc m (.BinOp a .Sub b pos) (it (i - j)) :=
  ha.bin hb fun A h₀ s v u Q _ r₁ r₂ k => by
    obtain ⟨_, rfl⟩ := rd_int r₁
    obtain ⟨_, rfl⟩ := rd_int r₂
    exact PyProof.Rows.sub_int (k _ _ (.toks _ _) (.int _ _))
theorem EvT.mul {a b : PySem.Expr} {i j : Int} {pos : Pos} (ha : EvT S n sc m a (it i)) (hb : EvT S n sc m b (it j)) (hm : IntMulOk i j) : EvT S n sc m (.BinOp a .Mult b pos) (it (i * j)) :=
  ha.bin hb fun A h₀ s v u Q _ r₁ r₂ k => by
    obtain ⟨_, rfl⟩ := rd_int r₁
    obtain ⟨_, rfl⟩ := rd_int r₂
    exact PyProof.Rows.mul_int (k _ _ (.toks _ _) (.int _ _)) hm
theorem EvT.mod {a b : PySem.Expr} {i j : Int} {pos : Pos} (ha : EvT S n sc m a (it i)) (hb : EvT S n sc m b (it j)) (hj : j ≠ 0) : EvT S n sc m (.BinOp a .Mod b pos) (it (i.fmod j)) :=
  ha.bin hb fun A h₀ s v u Q _ r₁ r₂ k => by
    obtain ⟨_, rfl⟩ := rd_int r₁
    obtain ⟨_, rfl⟩ := rd_int r₂
    exact PyProof.Rows.mod_int hj (k _ _ (.toks _ _) (.int _ _))
theorem EvT.neg {i : Int} {k' : Nat} {p pos : Pos} : EvT S n sc m (.UnaryOp .USub (.Constant (.int i) k' p) pos) (it (-i)) := by
  intro A h₀ env s Q at_ F k
  refine UnaryOp_ (wpAny_Constant_int ?_)
  exact PyProof.Rows.neg_int (k _ _ ((Ext.toks _ _).trans (.toks _ _)) (.int _ _))
theorem EvT.cmp {a b : PySem.Expr} {x y : PV} {c : Bool} {op : CmpOp} {pos : Pos} (ha : EvT S n sc m a x) (hb : EvT S n sc m b y)
    (k : ∀ A h₀ s v u (Q : Value → Shared → Prop), Room n A → Rep S h₀ s.heap v x → Rep S h₀ s.heap u y → (∀ s', Ext s s' → Q (.bool c) s') → wpAny (model S.prog S.w) A (compareOp op v u) Q NoE s)
    (hm : behindInMarks op b = false) : EvT S n sc m (.Compare a [op] [b] pos) (bl c) := by
  intro A h₀ env s Q at_ F kk
  exact wpAny_Compare1 (EvT.two ha hb at_ F fun v u s' e r₁ r₂ => k A h₀ s' v u Q at_.room r₁ r₂ fun s'' e' => kk _ s'' (e.trans e') (.bool _)) hm
theorem TrT.cmp {a b : PySem.Expr} {x y : PV} {c : Bool} {op : CmpOp} {pos : Pos} (ha : EvT S n sc m a x) (hb : EvT S n sc m b y)
    (k : ∀ A h₀ s v u (Q : Value → Shared → Prop), Room n A → Rep S h₀ s.heap v x → Rep S h₀ s.heap u y → (∀ s', Ext s s' → Q (.bool c) s') → wpAny (model S.prog S.w) A (compareOp op v u) Q NoE s)
    (hm : behindInMarks op b = false) : TrT S n sc m (.Compare a [op] [b] pos) c := by
  intro A h₀ env s Q at_ F kk
  exact wpAny_isTrue_Compare1 (EvT.two (T := fun a b => compareOp op a b) (Q := fun c s₃ => wpAny (model S.prog S.w) A (truthy c) Q NoE s₃) ha hb at_ F fun v u s' e r₁ r₂ => k A h₀ s' v u _ at_.room r₁ r₂ fun s'' e' => wpAny_truthy_bool (kk s'' (e.trans e'))) hm
noncomputable def icmp : CmpOp → Int → Int → Bool
  | .Lt, a, b => decide (a < b)
  | .LtE, a, b => decide (a ≤ b)
  | .Gt, a, b => decide (b < a)
  | .GtE, a, b => decide (b ≤ a)
  | .Eq, a, b => a == b
  | .NotEq, a, b => a != b
  | _, _, _ => false
noncomputable def icmpOk : CmpOp → Bool
  | .Lt | .LtE | .Gt | .GtE | .Eq | .NotEq => true
  | _ => false
theorem icmp_wp {prog : Program} {w : World} {A : Around} {E : Value → Shared → Prop} {s : Shared} {op : CmpOp} {a b : Int} {t u : Tok} {Q : Value → Shared → Prop} (ho : icmpOk op = true) (h : Q (.bool (icmp op a b)) s) :
    wpAny (model prog w) A (compareOp op (.int a t) (.int b u)) Q E s := by
  cases op with
  | Lt => exact PyProof.Rows.lt_int h
  | LtE => exact PyProof.Rows.le_int h
  | Gt => exact PyProof.Rows.gt_int h
  | GtE => exact P.ge_int h
  | Eq => exact PyProof.Rows.eq_int h
  | NotEq => exact PyProof.Rows.ne_int h
  | _ => exact Bool.noConfusion ho
theorem EvT.icmp {a b : PySem.Expr} {i j : Int} {op : CmpOp} {pos : Pos} (ha : EvT S n sc m a (it i)) (hb : EvT S n sc m b (it j)) (ho : icmpOk op = true := by with_unfolding_all rfl) (hm : behindInMarks op b = false := by with_unfolding_all rfl) :
    EvT S n sc m (.Compare a [op] [b] pos) (bl (Mine.icmp op i j)) :=
  ha.cmp hb (fun A h₀ s v u Q _ r₁ r₂ k => by
    obtain ⟨_, rfl⟩ := rd_int r₁
    obtain ⟨_, rfl⟩ := rd_int r₂
    exact icmp_wp ho (k _ (.refl _))) hm
theorem TrT.icmp {a b : PySem.Expr} {i j : Int} {op : CmpOp} {pos : Pos} {c : Bool} (ha : EvT S n sc m a (it i)) (hb : EvT S n sc m b (it j)) (hc : Mine.icmp op i j = c) (ho : icmpOk op = true := by with_unfolding_all rfl) (hm : behindInMarks op b = false := by with_unfolding_all rfl) :
    TrT S n sc m (.Compare a [op] [b] pos) c :=
  hc ▸ TrT.cmp ha hb (fun A h₀ s v u Q _ r₁ r₂ k => by
    obtain ⟨_, rfl⟩ := rd_int r₁
    obtain ⟨_, rfl⟩ := rd_int r₂
    exact icmp_wp ho (k _ (.refl _))) hm
theorem TrT.chain {a b c : PySem.Expr} {i j k : Int} {op₁ op₂ : CmpOp} {pos : Pos} {r : Bool} (ha : EvT S n sc m a (it i)) (hb : EvT S n sc m b (it j)) (hc : EvT S n sc m c (it k))
    (hr : (Mine.icmp op₁ i j && Mine.icmp op₂ j k) = r) (h₁ : icmpOk op₁ = true := by with_unfolding_all rfl) (h₂ : icmpOk op₂ = true := by with_unfolding_all rfl) (hm : lastMarks [op₁, op₂] [b, c] = false := by with_unfolding_all rfl) :
    TrT S n sc m (.Compare a [op₁, op₂] [b, c] pos) r := by
  intro A h₀ env s Q at_ F kk
  refine isTrue_chain (ha A h₀ env s _ at_ F fun v s₁ x₁ r₁ => ?_) hm
  refine test_link (hb A h₀ env s₁ _ at_ (F.keeps x₁.keep) fun u s₂ x₂ r₂ => ?_)
  obtain ⟨_, rfl⟩ := rd_int r₁
  obtain ⟨_, rfl⟩ := rd_int r₂
  refine icmp_wp h₁ (wpAny_truthy_bool ?_)
  cases e : Mine.icmp op₁ i j with
  | false =>
    rw [e] at hr
    simp only [Bool.false_and] at hr
    simp only [Bool.false_eq_true, if_false]
    exact hr ▸ kk _ (x₁.trans x₂)
  | true =>
    rw [e] at hr
    simp only [Bool.true_and] at hr
    simp only [if_true]
    refine test_last (hc A h₀ env s₂ _ at_ (F.keeps (x₁.trans x₂).keep) fun w s₃ x₃ r₃ => ?_)
    obtain ⟨_, rfl⟩ := rd_int r₃
    exact icmp_wp h₂ (wpAny_truthy_bool (hr ▸ kk _ ((x₁.trans x₂).trans x₃)))
theorem TrT.not {x : PySem.Expr} {b c : Bool} {pos : Pos} (h : TrT S n sc m x b) (hc : (!b) = c := by with_unfolding_all rfl) : TrT S n sc m (.UnaryOp .Not x pos) c := by
  intro A h₀ env s Q at_ F k
  exact isTrue_not (h A h₀ env s _ at_ F fun s' e => hc ▸ k s' e)
noncomputable def TrsT (S : Sg) (n : Nat) (sc : Scope) (m : Loc) (op : BoolOp) (es : List PySem.Expr) (b : Bool) : Prop :=
  ∀ A h₀ env s pos whole (Q : Bool → Shared → Prop), At S sc n A env → FrameAt S h₀ env m s.heap → (∀ s', Ext s s' → Q b s') →
    wpAny (model S.prog S.w) A (isTrue (.BoolOp op es pos) env whole) Q NoE s
theorem TrsT.nilA : TrsT S n sc m .And [] true := by
  intro A h₀ env s pos whole Q at_ F k
  exact isTrue_and_nil (k _ (.refl _))
theorem TrsT.nilO : TrsT S n sc m .Or [] false := by
  intro A h₀ env s pos whole Q at_ F k
  exact isTrue_or_nil (k _ (.refl _))
theorem TrsT.consA {x : PySem.Expr} {rest : List PySem.Expr} {b c : Bool} (h : TrT S n sc m x b) (g : b = true → TrsT S n sc m .And rest c) : TrsT S n sc m .And (x :: rest) (b && c) := by
  intro A h₀ env s pos whole Q at_ F k
  refine isTrue_and (h A h₀ env s _ at_ F fun s' e => ?_)
  cases b with
  | false => exact k _ e
  | true => exact g rfl A h₀ env s' pos whole Q at_ (F.keeps e.keep) fun s'' e' => k _ (e.trans e')
theorem TrsT.consO {x : PySem.Expr} {rest : List PySem.Expr} {b c : Bool} (h : TrT S n sc m x b) (g : b = false → TrsT S n sc m .Or rest c) : TrsT S n sc m .Or (x :: rest) (b || c) := by
  intro A h₀ env s pos whole Q at_ F k
  refine isTrue_or (h A h₀ env s _ at_ F fun s' e => ?_)
  cases b with
  | true => exact k _ e
  | false => exact g rfl A h₀ env s' pos whole Q at_ (F.keeps e.keep) fun s'' e' => k _ (e.trans e')
theorem TrT.bops {op : BoolOp} {es : List PySem.Expr} {b : Bool} {pos : Pos} (h : TrsT S n sc m op es b) : TrT S n sc m (.BoolOp op es pos) b := by
  intro A h₀ env s Q at_ F k
  exact h A h₀ env s pos _ Q at_ F k
theorem TrT.val {e : PySem.Expr} {b : Bool} (h : EvT S n sc m e (bl b)) (he : ∀ env whole, isTrue e env whole = (do let v ← whole; standAt e.pos; holding [v] (truthy v)) := by intro _ _; with_unfolding_all rfl) : TrT S n sc m e b := by
  intro A h₀ env s Q at_ F k
  refine isTrue_plain (h A h₀ env s _ at_ F fun v s' e r => ?_) (he _ _)
  rw [rd_bool r]
  exact wpAny_truthy_bool (k _ e)
theorem EvT.or2 {x y : PySem.Expr} {b c : Bool} {pos : Pos} (h : EvT S n sc m x (bl b)) (g : b = false → EvT S n sc m y (bl c)) : EvT S n sc m (.BoolOp .Or [x, y] pos) (bl (b || c)) := by
  intro A h₀ env s Q at_ F k
  refine BoolOp_or (h A h₀ env s _ at_ F fun v s' e r => ?_)
  rw [rd_bool r]
  refine wpAny_truthy_bool ?_
  cases b with
  | true => exact k _ _ e (.bool _)
  | false => exact BoolOp_one (g rfl A h₀ env s' _ at_ (F.keeps e.keep) fun v s'' e' r' => k _ _ (e.trans e') r')
theorem EvT.ifexp {t x y : PySem.Expr} {b : Bool} {pv : PV} {pos : Pos} (h : TrT S n sc m t b) (g : if b then EvT S n sc m x pv else EvT S n sc m y pv) : EvT S n sc m (.IfExp t x y pos) pv := by
  intro A h₀ env s Q at_ F k
  refine IfExp_ (h A h₀ env s _ at_ F fun s' e => ?_)
  cases b with
  | true => exact g A h₀ env s' _ at_ (F.keeps e.keep) fun v s'' e' r => k _ _ (e.trans e') r
  | false => exact g A h₀ env s' _ at_ (F.keeps e.keep) fun v s'' e' r => k _ _ (e.trans e') r
theorem EvsT.nil : EvsT S n sc m [] [] := by
  intro A h₀ env pos s Q at_ F k
  exact spliced_none (k [] s (.refl _) rfl fun i v pv e => by simp at e)
theorem EvsT.cons {x : PySem.Expr} {rest : List PySem.Expr} {pv : PV} {pvs : List PV} (h : EvT S n sc m x pv) (g : EvsT S n sc m rest pvs) (he : ∀ env, starEach (x :: rest) env = (false, eval x env) :: starEach rest env := by intro _; with_unfolding_all rfl) :
    EvsT S n sc m (x :: rest) (pv :: pvs) := by
  intro A h₀ env pos s Q at_ F k
  refine spliced_more (h A h₀ env s _ at_ F fun v s₁ e₁ r₁ => ?_) (he _)
  refine g A h₀ env pos s₁ _ at_ (F.keeps e₁.keep) fun vs s₂ e₂ l₂ r₂ => k _ _ (e₁.trans e₂) (by simp [l₂]) fun i w pw ew ep => ?_
  cases i with
  | zero => simp at ew ep; subst ew; subst ep; exact r₁.keeps e₂.keep
  | succ i => simp at ew ep; exact r₂ i w pw ew ep
theorem rdAll_of {S : Sg} {h₀ h : Heap} {vs : List Value} {xs : List PyData} (l : vs.length = (xs.map PV.d).length) (r : ∀ (i : Nat) v pv, vs[i]? = some v → (xs.map PV.d)[i]? = some pv → Rep S h₀ h v pv) : RdAll h vs xs := by
  refine ⟨by simpa using l, fun i v x ev ex => ?_⟩
  exact r i v (.d x) ev (by simp [ex])
theorem newSeq {prog : Program} {w : World} {A : Around} {T : String} {vs : List Value} {s : Shared} {Q : Value → Shared → Prop} (hl : vs.length ≤ 1000)
    (k : Q (.ref s.heap.objs.size) { s with heap := s.heap.push { cls := .type T, dict := none, data := .seq vs.toArray } }) : wpAny (model prog w) A (newObj (.type T) (.seq vs.toArray) none) Q NoE s :=
  wpAny_newObj_type k (by show vs.toArray.size ≤ sizeLine; rw [List.size_toArray, sizeLine_eq]; omega)
theorem EvT.tup {es : List PySem.Expr} {xs : List PyData} {k' : Nat} {pos : Pos} (h : EvsT S n sc m es (xs.map .d)) (hl : xs.length ≤ 1000 := by decide) : EvT S n sc m (.Tuple es k' pos) (.d (.tuple xs)) := by
  intro A h₀ env s Q at_ F k
  refine Tuple_ (h A h₀ env pos s _ at_ F fun vs s' e l r => ?_)
  have R := rdAll_of l r
  refine newSeq (by rw [R.1]; exact hl) (k _ _ (e.trans (.push _ _)) ?_)
  exact .tuple (Heap.get?_push_size _ rfl) R.1 fun i v x a b => (R.2 i v x a b).mono (seqKept_of fun _ _ e => Heap.get?_push_of_some _ e)
theorem EvT.lst {es : List PySem.Expr} {xs : List PyData} {pos : Pos} (h : EvsT S n sc m es (xs.map .d)) (hl : xs.length ≤ 1000 := by decide) : EvT S n sc m (.List es pos) (.d (.list xs)) := by
  intro A h₀ env s Q at_ F k
  refine List_ (h A h₀ env pos s _ at_ F fun vs s' e l r => ?_)
  have R := rdAll_of l r
  refine newSeq (by rw [R.1]; exact hl) (k _ _ (e.trans (.push _ _)) ?_)
  exact .list (Heap.get?_push_size _ rfl) R.1 fun i v x a b => (R.2 i v x a b).mono (seqKept_of fun _ _ e => Heap.get?_push_of_some _ e)
end
inductive Out where
  | next (m : Loc)
  | brk (m : Loc)
  | cont (m : Loc)
  | ret (x : PyData)
noncomputable def OutR (S : Sg) (h₀ : Heap) (env : Env) (h' : Heap) (fl : Flow) : Out → Prop
  | .next m => fl = .next ∧ FrameAt S h₀ env m h'
  | .brk m => fl = .brk ∧ FrameAt S h₀ env m h'
  | .cont m => fl = .cont ∧ FrameAt S h₀ env m h'
  | .ret x => ∃ v, fl = .ret v ∧ Rd h' v x
structure SExt (L : Addr) (s s' : Shared) : Prop where
  keep : ∀ b o, b ≠ L → s.heap.get? b = some o → s'.heap.get? b = some o
  gens : s'.gens = s.gens
  os : s'.os = s.os
theorem Ext.sExt {L : Addr} {s s' : Shared} (x : Ext s s') : SExt L s s' := ⟨fun b o _ e => x.keep b o e, x.gens, x.os⟩
theorem SExt.refl (L : Addr) (s : Shared) : SExt L s s := (Ext.refl s).sExt
theorem SExt.trans {L : Addr} {a b c : Shared} (x : SExt L a b) (y : SExt L b c) : SExt L a c := ⟨fun b o n e => y.keep _ _ n (x.keep b o n e), y.gens.trans x.gens, y.os.trans x.os⟩
noncomputable def StT (S : Sg) (n : Nat) (sc : Scope) (m : Loc) (st : Stmt) (out : Out) : Prop :=
  ∀ A h₀ env s (Q : Flow → Shared → Prop), At S sc n A env → FrameAt S h₀ env m s.heap → (∀ fl s', SExt env.locals s s' → OutR S h₀ env s'.heap fl out → Q fl s') →
    wpAny (model S.prog S.w) A (exec st env) Q NoE s
noncomputable def ExT (S : Sg) (n : Nat) (sc : Scope) (m : Loc) (ss : List Stmt) (out : Out) : Prop :=
  ∀ A h₀ env s (Q : Flow → Shared → Prop), At S sc n A env → FrameAt S h₀ env m s.heap → (∀ fl s', SExt env.locals s s' → OutR S h₀ env s'.heap fl out → Q fl s') →
    wpAny (model S.prog S.w) A (execs ss env) Q NoE s
noncomputable def SetAt (m : Loc) (x : Str) (pv : PV) (m' : Loc) : Prop := ∀ y p, (y, p) ∈ m' → (y = x ∧ p = pv) ∨ ((y, p) ∈ m ∧ y ≠ x)
theorem SetAt.new {x : Str} {pv : PV} : SetAt [] x pv [(x, pv)] := fun y p h => by simp at h; exact .inl h
theorem SetAt.head {x : Str} {pv old : PV} {r : Loc} (h : (r.all fun p => !(p.1 == x)) = true) : SetAt ((x, old) :: r) x pv ((x, pv) :: r) := fun y p hm => by
  rcases List.mem_cons.mp hm with e | e
  · cases e; exact .inl ⟨rfl, rfl⟩
  · refine .inr ⟨.tail _ e, fun q => ?_⟩
    have := List.all_eq_true.mp h _ e
    simp [q] at this
theorem SetAt.tail {x y : Str} {pv old : PV} {r r' : Loc} (h : (y == x) = false) (g : SetAt r x pv r') : SetAt ((y, old) :: r) x pv ((y, old) :: r') := fun z p hm => by
  rcases List.mem_cons.mp hm with e | e
  · cases e; exact .inr ⟨.head _, fun q => by simp [q] at h⟩
  · rcases g z p e with a | a
    · exact .inl a
    · exact .inr ⟨.tail _ a.1, a.2⟩
theorem FrameAt.drop {S : Sg} {h₀ h : Heap} {env : Env} {m m' : Loc} (F : FrameAt S h₀ env m h) (hs : ∀ p ∈ m', p ∈ m) : FrameAt S h₀ env m' h :=
  let ⟨⟨mv, f, r⟩, o, u⟩ := F; ⟨⟨mv, f, fun x pv hm => r x pv (hs _ hm)⟩, o, u⟩
theorem FrameAt.locals {S : Sg} {h₀ h : Heap} {env : Env} {m : Loc} (F : FrameAt S h₀ env m h) : ∃ o es ep, h.get? env.locals = some o ∧ o.data = .dict es ep := by
  obtain ⟨mv, f, _⟩ := F.fr
  obtain ⟨o, es, ep, a, b, _⟩ := f.ns
  exact ⟨o, es, ep, a, b⟩
theorem FrameAt.on {S : Sg} {h₀ h : Heap} {env : Env} {m : Loc} (F : FrameAt S h₀ env m h) (o : S.Ok) : S.On h := let ⟨_, f, _⟩ := F.fr; ⟨o, f.keep, Nat.le_of_lt (Nat.lt_of_le_of_lt f.above f.ns.lt)⟩
theorem FrameAt.apart {S : Sg} {h₀ h : Heap} {env : Env} {m : Loc} (F : FrameAt S h₀ env m h) : ∀ b o, h₀.get? b = some o → b ≠ env.locals := fun b o e => by
  intro q
  rw [q, F.out] at e
  cases e
theorem seqKept_but {S : Sg} {h₀ h h' : Heap} {env : Env} {m : Loc} (F : FrameAt S h₀ env m h) (k : ∀ b o, b ≠ env.locals → h.get? b = some o → h'.get? b = some o) : SeqKept h h' := fun a o vs n e d => by
  refine k a o (fun q => ?_) e
  obtain ⟨o', es, ep, e', d'⟩ := F.locals
  subst q
  rw [e] at e'; cases e'
  rw [d] at d'; cases d'
theorem FrameAt.store {S : Sg} {h₀ h h' : Heap} {env : Env} {m m' : Loc} {mv : Str → Option Value} {x : Str} {v : Value} {pv : PV} (F : FrameAt S h₀ env m h) (hv : Rep S h₀ h v pv) (hx : env.kindOf x = some .local) (f : Fr S.base env.locals h mv)
    (r : ∀ x pv, (x, pv) ∈ m → ∃ v, Has env h mv x v ∧ Rep S h₀ h v pv) (hn : h'.Ns env.locals (fun y => if y = x then some v else mv y)) (hs : Heap.SameBut env.locals h h') (t : SetAt m x pv m') : FrameAt S h₀ env m' h' := by
  have sk : SeqKept h h' := seqKept_but F fun b o nb e => (hs.2 b nb).trans e
  have rk : ∀ v pv, Rep S h₀ h v pv → Rep S h₀ h' v pv := fun v pv => by
    cases pv with
    | d x => exact Rd.mono sk
    | r u => exact id
    | v b cs => exact id
    | o P => exact id
  refine ⟨⟨_, f.set hn hs, fun y p hm => ?_⟩, fun b o e => (hs.2 b (fun q => by rw [q, F.out] at e; cases e)).trans (F.old b o e), F.out⟩
  rcases t y p hm with ⟨rfl, rfl⟩ | ⟨a, b⟩
  · exact ⟨v, ⟨fun _ => by simp, fun q => by rw [hx] at q; cases q⟩, rk _ _ hv⟩
  · obtain ⟨u, e, g⟩ := r y p a
    refine ⟨u, ⟨fun q => by simp [b, e.loc q], fun q => ?_⟩, rk _ _ g⟩
    obtain ⟨c, e1, e2⟩ := e.cell q
    refine ⟨c, e1, e2.sameBut hs fun q => ?_⟩
    obtain ⟨o', es, ep, e', d'⟩ := F.locals
    obtain ⟨oc, c1, c2⟩ := e2
    rw [q, e'] at c1; cases c1
    rw [d'] at c2; cases c2
section
variable {S : Sg} {n : Nat} {sc : Scope} {m m' : Loc}
theorem ExT.nil : ExT S n sc m [] (.next m) := by
  intro A h₀ env s Q at_ F k
  exact wpAny_execs_nil (k _ _ (.refl _ _) ⟨rfl, F⟩)
theorem ExT.cons {st : Stmt} {rest : List Stmt} {out : Out} (h : StT S n sc m st (.next m')) (g : ExT S n sc m' rest out) : ExT S n sc m (st :: rest) out := by
  intro A h₀ env s Q at_ F k
  refine wpAny_execs_cons (h A h₀ env s _ at_ F fun fl s' e o => ?_)
  obtain ⟨rfl, F'⟩ := o
  exact g A h₀ env s' Q at_ F' fun fl s'' e' o' => k _ _ (e.trans e') o'
theorem ExT.stop {st : Stmt} {rest : List Stmt} {out : Out} (h : StT S n sc m st out) (g : match out with | .next _ => False | _ => True) : ExT S n sc m (st :: rest) out := by
  intro A h₀ env s Q at_ F k
  refine wpAny_execs_cons (h A h₀ env s _ at_ F fun fl s' e o => ?_)
  cases out with
  | next m' => exact g.elim
  | brk m' => have o' := o; obtain ⟨rfl, _⟩ := o'; exact k _ _ e o
  | cont m' => have o' := o; obtain ⟨rfl, _⟩ := o'; exact k _ _ e o
  | ret x => have o' := o; obtain ⟨v, rfl, _⟩ := o'; exact k _ _ e o
theorem ExT.drop {ss : List Stmt} {m₂ : Loc} (h : ExT S n sc m ss (.next m')) (hs : ∀ p ∈ m₂, p ∈ m') : ExT S n sc m ss (.next m₂) := by
  intro A h₀ env s Q at_ F k
  exact h A h₀ env s Q at_ F fun fl s' e o => k _ _ e ⟨o.1, o.2.drop hs⟩
theorem StT.assign {x : Str} {p pos : Pos} {e : PySem.Expr} {pv : PV} (h : EvT S n sc m e pv) (t : SetAt m x pv m') (hx : sc.names.lookup x = some .local)
    (hs : ∀ env, swapsWith e (some (.Name x p)) pos.line env = pure false := by intro _; with_unfolding_all rfl) : StT S n sc m (.Assign [.Name x p] e pos) (.next m') := by
  intro A h₀ env s Q at_ F k
  refine wpAny_Assign_Name (h A h₀ env s _ at_ F fun v s' e r => ?_) (hs _)
  have F' := F.keeps e.keep
  obtain ⟨mv, f', r'⟩ := F'.fr
  refine wpAny_storeName_local (at_.of hx) f'.ns (fun h' hn hs => ?_) (at_.plain _ _)
  exact k _ _ (e.sExt.trans ⟨fun b o nb e => (hs.2 b nb).trans e, rfl, rfl⟩) ⟨rfl, F'.store r (at_.of hx) f' r' hn hs t⟩
theorem StT.ret {pos : Pos} {e : PySem.Expr} {x : PyData} (h : EvT S n sc m e (.d x)) : StT S n sc m (.Return (some e) pos) (.ret x) := by
  intro A h₀ env s Q at_ F k
  exact wpAny_Return_some (h A h₀ env s _ at_ F fun v s' e r => k _ _ e.sExt ⟨v, rfl, r⟩)
theorem StT.ite {pos : Pos} {t : PySem.Expr} {b : Bool} {body orelse : List Stmt} {out : Out} (h : TrT S n sc m t b) (g : if b then ExT S n sc m body out else ExT S n sc m orelse out) : StT S n sc m (.If t body orelse pos) out := by
  intro A h₀ env s Q at_ F k
  refine wpAny_If (h A h₀ env s _ at_ F fun s' e => ?_)
  cases b with
  | true => exact g A h₀ env s' Q at_ (F.keeps e.keep) fun fl s'' e' o => k _ _ (e.sExt.trans e') o
  | false => exact g A h₀ env s' Q at_ (F.keeps e.keep) fun fl s'' e' o => k _ _ (e.sExt.trans e') o
theorem StT.brk {pos : Pos} : StT S n sc m (.Break pos) (.brk m) := by
  intro A h₀ env s Q at_ F k
  exact wpAny_Break (k _ _ (.refl _ _) ⟨rfl, F⟩)
noncomputable def WhT (S : Sg) (n : Nat) (sc : Scope) (m : Loc) (test : PySem.Expr) (body : List Stmt) (out : Out) : Prop :=
  ∀ A h₀ env s (R : Result → Shared → Prop), At S sc n A env → FrameAt S h₀ env m s.heap → (∀ fl s', SExt env.locals s s' → OutR S h₀ env s'.heap fl out → R (.ok fl) s') →
    codeAny (model S.prog S.w) A (.whileLoop test body [] env) R s
theorem while_turn {A : Around} {R : Result → Shared → Prop} {s : Shared} {prog : Program} {w : World} {test : PySem.Expr} {body orelse : List Stmt} {env : Env}
    (h : wpAny (model prog w) A (isTrue test env (eval test env)) (fun b s₂ =>
        if b then wpAny (model prog w) A (execs body env) (fun f s₃ => match f with
            | .next | .cont => codeAny (model prog w) A (.whileLoop test body orelse env) R s₃
            | .brk => R (.ok .next) s₃
            | .ret v => R (.ok (.ret v)) s₃) NoE s₂
        else wpAny (model prog w) A (execs orelse env) (fun f s₃ => R (.ok f) s₃) NoE s₂) NoE s) : codeAny (model prog w) A (.whileLoop test body orelse env) R s := by
  refine codeAny_of_tree ?_
  show wpAny _ A ((whileTurn test body orelse env).onRaise (fun x => do noteFrame x env; theTreesLotGoes x)) _ _ s
  refine wpAny_onRaise (wpAny_mono ?_ (fun _ _ q => q) fun _ _ (x : False) => x.elim)
  simp only [whileTurn]
  refine wpAny_bind (wpAny_mono h (fun b s₂ h₂ => ?_) fun _ _ h' => h')
  cases b with
  | false =>
    simp only [Bool.false_eq_true, if_false] at h₂ ⊢
    exact wpAny_bind (wpAny_mono h₂ (fun f s₃ h₃ => wpAny_pure h₃) fun _ _ h' => h')
  | true =>
    simp only [if_true] at h₂ ⊢
    refine wpAny_bind (wpAny_mono h₂ (fun f s₃ h₃ => ?_) fun _ _ h' => h')
    cases f with
    | next => exact wpAny_pure ⟨rfl, h₃⟩
    | cont => exact wpAny_pure ⟨rfl, h₃⟩
    | brk => exact wpAny_pure h₃
    | ret v => exact wpAny_pure h₃
end
section
variable {S : Sg} {n : Nat} {sc : Scope} {m m' : Loc} {test : PySem.Expr} {body : List Stmt}
theorem WhT.done (h : TrT S n sc m test false) : WhT S n sc m test body (.next m) := by
  intro A h₀ env s R at_ F k
  refine while_turn (h A h₀ env s _ at_ F fun s' e => ?_)
  simp only [Bool.false_eq_true, if_false]
  exact wpAny_execs_nil (k _ _ e.sExt ⟨rfl, F.keeps e.keep⟩)
theorem WhT.step {out : Out} (h : TrT S n sc m test true) (b : ExT S n sc m body (.next m')) (g : WhT S n sc m' test body out) : WhT S n sc m test body out := by
  intro A h₀ env s R at_ F k
  refine while_turn (h A h₀ env s _ at_ F fun s' e => ?_)
  simp only [if_true]
  refine b A h₀ env s' _ at_ (F.keeps e.keep) fun fl s'' e' o => ?_
  obtain ⟨rfl, F'⟩ := o
  exact g A h₀ env s'' R at_ F' fun fl s3 e3 o3 => k _ _ ((e.sExt.trans e').trans e3) o3
theorem WhT.ret {x : PyData} (h : TrT S n sc m test true) (b : ExT S n sc m body (.ret x)) : WhT S n sc m test body (.ret x) := by
  intro A h₀ env s R at_ F k
  refine while_turn (h A h₀ env s _ at_ F fun s' e => ?_)
  simp only [if_true]
  refine b A h₀ env s' _ at_ (F.keeps e.keep) fun fl s'' e' o => ?_
  obtain ⟨v, rfl, r⟩ := o
  exact k _ _ (e.sExt.trans e') ⟨v, rfl, r⟩
theorem StT.whl {pos : Pos} {out : Out} (h : WhT S n sc m test body out) : StT S n sc m (.While test body [] pos) out := by
  intro A h₀ env s Q at_ F k
  refine wpAny_While (h A h₀ env s _ at_ F fun fl s' e o => k _ _ e o)
theorem size_none (h : Heap) : h.get? h.objs.size = none := by
  cases e : h.get? h.objs.size with
  | none => rfl
  | some o => exact absurd (Heap.lt_size e) (Nat.lt_irrefl _)
noncomputable def FoT (S : Sg) (n : Nat) (sc : Scope) (m : Loc) (x : Str) (body : List Stmt) (a c : Int) (k : Nat) (out : Out) : Prop :=
  ∀ A h₀ env px s I (R : Result → Shared → Prop), At S sc n A env → FrameAt S h₀ env m s.heap → IsRangeIter s.heap I a k c → env.locals < I → h₀.get? I = none →
    (∀ fl s', (∀ b o, b ≠ env.locals → b ≠ I → s.heap.get? b = some o → s'.heap.get? b = some o) → s'.gens = s.gens → s'.os = s.os → OutR S h₀ env s'.heap fl out → R (.ok fl) s') →
    codeAny (model S.prog S.w) A (.forLoop (.Name x px) (.ref I) body [] env) R s
theorem for_turn {A : Around} {R : Result → Shared → Prop} {s : Shared} {prog : Program} {w : World} {target : PySem.Expr} {it : Value} {body orelse : List Stmt} {env : Env}
    (h : wpAny (model prog w) A (pyNext it) (fun r s₁ => match r with
      | none => wpAny (model prog w) A (execs orelse env) (fun f s₃ => R (.ok f) s₃) NoE s₁
      | some v => wpAny (model prog w) A (assign target env v) (fun _ s₂ => wpAny (model prog w) A (execs body env) (fun f s₃ => match f with
          | .next | .cont => codeAny (model prog w) A (.forLoop target it body orelse env) R s₃
          | .brk => R (.ok .next) s₃
          | .ret v => R (.ok (.ret v)) s₃) NoE s₂) NoE s₁) NoE s)
    (ht : ∀ v, letOwnedTupleGo target it v = pure () := by intro _; with_unfolding_all rfl) : codeAny (model prog w) A (.forLoop target it body orelse env) R s := by
  refine codeAny_of_tree ?_
  show wpAny _ _ ((forTurn target it body orelse env).onRaise (fun x => do noteFrame x env; theTreesLotGoes x)) _ _ s
  refine wpAny_onRaise (wpAny_mono ?_ (fun _ _ q => q) fun _ _ (x : False) => x.elim)
  simp only [forTurn]
  refine wpAny_bind (wpAny_standAt (wpAny_bind (wpAny_onRaise (wpAny_mono h (fun r s₁ h₁ => ?_) fun _ _ h' => wpAny_standAt h'))))
  cases r with
  | none => exact wpAny_pure ⟨rfl, codeAny_block (wpAny_mono h₁ (fun _ _ x => x) fun _ _ (x : False) => x.elim)⟩
  | some v =>
    refine wpAny_bind (wpAny_of_eq (ht v) ?_)
    refine wpAny_bind (wpAny_mono h₁ (fun _ s₂ h₂ => wpAny_bind (wpAny_mono h₂ (fun f s₃ h₃ => ?_) fun _ _ h' => h')) fun _ _ h' => h')
    cases f with
    | next => exact wpAny_pure ⟨rfl, h₃⟩
    | cont => exact wpAny_pure ⟨rfl, h₃⟩
    | brk => exact wpAny_pure h₃
    | ret v => exact wpAny_pure h₃
theorem isIter_ns {h : Heap} {I : Addr} {a k c : Int} (hi : IsRangeIter h I a k c) {o : Obj} (e : h.get? I = some o) : ∃ vs, o.data = .fields vs := by
  rw [hi] at e; cases e; exact ⟨_, rfl⟩
theorem FrameAt.but {S : Sg} {h₀ h h' : Heap} {env : Env} {I : Addr} {m : Loc} (F : FrameAt S h₀ env m h) (hI : env.locals < I) (h0 : h₀.get? I = none) (hd : ∀ o, h.get? I = some o → (∀ vs n, o.data ≠ .seq vs n) ∧ ∀ v, o.data ≠ .cell v)
    (k : ∀ b o, b ≠ I → h.get? b = some o → h'.get? b = some o) : FrameAt S h₀ env m h' := by
  obtain ⟨mv, f, r⟩ := F.fr
  have sk : SeqKept h h' := fun a o vs n e d => k a o (fun q => (hd o (q ▸ e)).1 vs n d) e
  refine ⟨⟨mv, ⟨?_, fun b o e => k b o (fun q => Nat.lt_irrefl _ (Nat.lt_of_lt_of_le (Nat.lt_trans hI (q ▸ Heap.lt_size e)) f.above)) (f.keep b o e), f.above⟩, fun x pv hm => ?_⟩, fun b o e => k b o (fun q => by rw [q, h0] at e; cases e) (F.old b o e), F.out⟩
  · obtain ⟨o, es, ep, e, d⟩ := f.ns
    exact ⟨o, es, ep, k _ _ (Nat.ne_of_lt hI) e, d⟩
  · obtain ⟨v, e, g⟩ := r x pv hm
    refine ⟨v, ⟨e.loc, fun q => let ⟨c, p, oc, c1, c2⟩ := e.cell q; ⟨c, p, oc, k _ _ (fun z => (hd oc (z ▸ c1)).2 _ c2) c1, c2⟩⟩, ?_⟩
    cases pv with
    | d x => exact Rd.mono sk g
    | r u => exact g
    | v b cs => exact g
    | o P => exact g
theorem FoT.done {x : Str} {a c : Int} : FoT S n sc m x body a c 0 (.next m) := by
  intro A h₀ env px s I R at_ F hit hI h0 kk
  refine for_turn ?_
  refine wpAny_pyNext_range_end at_.room.2.2 hit (by simp) fun h₁ he => wpAny_execs_nil ?_
  refine kk _ _ (fun b o _ nb e => he b o nb e) rfl rfl ⟨rfl, F.but hI h0 (fun o e => by obtain ⟨vs', d⟩ := isIter_ns hit e; rw [d]; exact ⟨fun _ _ q => (by cases q), fun _ q => (by cases q)⟩) he⟩
theorem FoT.turn {x : Str} {a c : Int} {k : Nat} {out bout : Out} (hx : sc.names.lookup x = some .local) (t : SetAt m x (it a) m') (b : ExT S n sc m' body bout)
    (g : match bout with
      | .next m₂ => FoT S n sc m₂ x body (a + c) c k out
      | .cont m₂ => FoT S n sc m₂ x body (a + c) c k out
      | .brk m₂ => out = .next m₂
      | .ret y => out = .ret y) : FoT S n sc m x body a c (k + 1) out := by
  intro A h₀ env px s I R at_ F hit hI h0 kk
  refine for_turn ?_
  refine wpAny_pyNext_range_item hit (by omega) fun h₁ hit₁ hs₁ => ?_
  have F₁ : FrameAt S h₀ env m h₁ := F.but hI h0 (fun o e => by obtain ⟨vs', d⟩ := isIter_ns hit e; rw [d]; exact ⟨fun _ _ q => (by cases q), fun _ q => (by cases q)⟩) fun b o nb e => (hs₁.2 b nb).trans e
  obtain ⟨mv, f₁, r₁⟩ := F₁.fr
  refine wpAny_assign_Name (wpAny_storeName_local (at_.of hx) f₁.ns (fun h₂ hn₂ hs₂ => ?_) (at_.plain _ _))
  have F₂ : FrameAt S h₀ env m' h₂ := F₁.store (v := .int a s.toks) (pv := it a) (Rd.int _ _) (at_.of hx) f₁ r₁ hn₂ hs₂ t
  refine b A h₀ env _ _ at_ F₂ fun fl s₃ e₃ o₃ => ?_
  have hit₃ : IsRangeIter s₃.heap I (a + c) k c := by
    have : IsRangeIter h₂ I (a + c) k c := (hs₂.2 I (Nat.ne_of_gt hI)).trans (by simpa using hit₁)
    exact e₃.keep _ _ (Nat.ne_of_gt hI) this
  have ke : ∀ b o, b ≠ env.locals → b ≠ I → s.heap.get? b = some o → s₃.heap.get? b = some o := fun b o nL nI e => e₃.keep b o nL ((hs₂.2 b nL).trans ((hs₁.2 b nI).trans e))
  cases bout with
  | next m₂ =>
    obtain ⟨rfl, F₃⟩ := o₃
    exact g A h₀ env px s₃ I R at_ F₃ hit₃ hI h0 fun fl s' e g o os => kk fl s' (fun b o nL nI e' => e b o nL nI (ke b o nL nI e')) (g.trans e₃.gens) (o.trans e₃.os) os
  | cont m₂ =>
    obtain ⟨rfl, F₃⟩ := o₃
    exact g A h₀ env px s₃ I R at_ F₃ hit₃ hI h0 fun fl s' e g o os => kk fl s' (fun b o nL nI e' => e b o nL nI (ke b o nL nI e')) (g.trans e₃.gens) (o.trans e₃.os) os
  | brk m₂ =>
    obtain ⟨rfl, F₃⟩ := o₃
    exact kk _ _ ke e₃.gens e₃.os (g ▸ ⟨rfl, F₃⟩)
  | ret y =>
    obtain ⟨v, rfl, r⟩ := o₃
    exact kk _ _ ke e₃.gens e₃.os (g ▸ ⟨v, rfl, r⟩)
noncomputable def RgT (S : Sg) (n : Nat) (sc : Scope) (m : Loc) (e : PySem.Expr) (a c : Int) (k : Nat) : Prop :=
  ∀ A h₀ env s (Q : Value → Shared → Prop), At S sc n A env → FrameAt S h₀ env m s.heap →
    (∀ r b t u v s', Ext s s' → IsRange s'.heap r a b c t u v → Builtin.Range.small a b c = true → Builtin.Range.rangeSize a b c = k → Q (.ref r) s') →
    wpAny (model S.prog S.w) A (eval e env) Q NoE s
theorem StT.for {x : Str} {px pos : Pos} {iter : PySem.Expr} {a c : Int} {k : Nat} {out : Out} (hr : RgT S n sc m iter a c k) (h : FoT S n sc m x body a c k out)
    (hs : ∀ env x, foldedSetIterable iter env x = pure x := by intro _ _; with_unfolding_all rfl) : StT S n sc m (.For (.Name x px) iter body [] pos) out := by
  intro A h₀ env s Q at_ F kk
  refine wpAny_For (hr A h₀ env s _ at_ F fun r b t u v s₁ e₁ hr hsm hsz => ?_) (hs _)
  refine wpAny_pyIter_range hr hsm ?_
  rw [hsz]
  have F₁ := F.keeps e₁.keep
  have hp : ∀ b o, s₁.heap.get? b = some o → (s₁.heap.push { cls := .type "range_iterator", data := .fields #[rawInt a, rawInt k, rawInt c] }).get? b = some o := fun b o e => Heap.get?_push_of_some _ e
  have hI : env.locals < s₁.heap.objs.size := by
    obtain ⟨o, _, _, e, _⟩ := F₁.locals
    exact Heap.lt_size e
  have h0 : h₀.get? s₁.heap.objs.size = none := by
    cases e : h₀.get? s₁.heap.objs.size with
    | none => rfl
    | some o => exact absurd (Heap.lt_size (F₁.old _ _ e)) (Nat.lt_irrefl _)
  refine h A h₀ env px _ s₁.heap.objs.size _ at_ (F₁.keeps hp) (Heap.get?_push_size _ rfl) hI h0 fun fl s' k' g o os => ?_
  refine kk fl s' (e₁.sExt.trans ⟨fun b o nb e => k' b o nb (Nat.ne_of_lt (Heap.lt_size e)) (hp b o e), g, o⟩) os
noncomputable def CallT (S : Sg) (n : Nat) (st : Stmt) (args : List PV) (res : PyData) : Prop :=
  ∀ A s f vs (R : Result → Shared → Prop), Room n A → S.On s.heap → FnAt S st f → vs.length = args.length → (∀ (i : Nat) v pv, vs[i]? = some v → args[i]? = some pv → Rep S s.heap s.heap v pv) →
    (∀ v s', Ext s s' → Rd s'.heap v res → R (.ok (.ret v)) s') → codeAny (model S.prog S.w) A (.call (.ref f) ⟨vs, []⟩) R s
theorem repUp {S : Sg} {h₀ h h' : Heap} {v : Value} {pv : PV} (r : Rep S h₀ h v pv) (k0 : ∀ b o, h₀.get? b = some o → h'.get? b = some o) (k : ∀ b o, h.get? b = some o → h'.get? b = some o) : Rep S h' h' v pv := by
  cases pv with
  | d x => exact Rd.mono (seqKept_of k) r
  | r u => exact r
  | v b cs => exact ViewAt.keeps r k0
  | o P => exact ⟨r.2 _ _ _ k0 r.1, r.2⟩
noncomputable def defCheck (st : Stmt) (names : List Str) : Bool := decide names.Nodup && (names.all fun x => decide ((stScope st).names.lookup x = some .local)) && ((stScope st).names.all fun x => decide (x.2 ≠ .cell)) && !(stScope st).isCoroutine && !(stScope st).isGenerator && decide ((stScope st).kind = .function)
structure DefSc (st : Stmt) (names : List Str) : Prop where
  nd : names.Nodup
  loc : ∀ x ∈ names, (stScope st).names.lookup x = some .local
  cell : ∀ x ∈ (stScope st).names, x.2 ≠ .cell
  co : (stScope st).isCoroutine = false
  gen : (stScope st).isGenerator = false
  k : (stScope st).kind = .function
theorem defSc {st : Stmt} {names : List Str} (h : defCheck st names = true) : DefSc st names := by
  simp only [defCheck, Bool.and_eq_true, decide_eq_true_eq, List.all_eq_true, Bool.not_eq_true'] at h
  obtain ⟨⟨⟨⟨⟨a, b⟩, c⟩, d⟩, e⟩, f⟩ := h
  exact ⟨a, b, c, d, e, f⟩
theorem CallT.of {st : Stmt} {names : List Str} {args : List PV} {res : PyData} {out : Out} (hn : names.length = args.length)
    (hbind : ∀ name qual doc pm an cdv ct vs, vs.length = names.length → bindArgs (fnX name qual (stArgs st) (stBody st) (stScope st) [] .none .none doc pm an cdv ct) ⟨vs, []⟩ = pure (names.zip vs))
    (hnd : names.Nodup) (hloc : ∀ x ∈ names, (stScope st).names.lookup x = some .local) (hcell : ∀ x ∈ (stScope st).names, x.2 ≠ .cell)
    (hco : (stScope st).isCoroutine = false) (hgen : (stScope st).isGenerator = false) (hk : (stScope st).kind = .function)
    (ho : out = .ret res ∨ (∃ m, out = .next m) ∧ res = .none)
    (h : ExT S n (stScope st) (names.zip args) (stBody st) out) : CallT S (n + 1) st args res := by
  intro A s f vs R room on fn hl hr kk
  obtain ⟨o, name, qual, doc, pm, an, cdv, ct, e1, e2, e3⟩ := fn.fd
  have hln : vs.length = names.length := hl.trans hn.symm
  have hO := on.x _ _ e1
  have lz : ∀ {α : Type} (l : List Str) (w : List α) x v, (x, v) ∈ l.zip w → x ∈ l := fun l w x v hm => (List.of_mem_zip hm).1
  refine codeAny_call_def (binds := names.zip vs) (by have := room.1; omega) hO e2 on.t.nolimit (codeRec_of on.x e3) rfl (.of_eq (hbind name qual doc pm an cdv ct vs hln)) hcell
    (fun x hx => hloc _ (lz _ _ x.1 x.2 hx)) (fun h₁ hns hk₁ => ?_) hco hgen hk
  have key : ∀ (l : List Str) (w : List Value) (a : List PV), l.Nodup → w.length = l.length → a.length = l.length → ∀ x pv, (x, pv) ∈ l.zip a → ∃ v, (l.zip w).reverse.lookup x = some v ∧ ∃ i : Nat, w[i]? = some v ∧ a[i]? = some pv := by
    intro l
    induction l with
    | nil => intro w a _ _ _ x pv hm; simp at hm
    | cons y l ih =>
      intro w a nd lw la x pv hm
      cases w with
      | nil => simp at lw
      | cons w0 w =>
        cases a with
        | nil => simp at la
        | cons a0 a =>
          simp only [List.zip_cons_cons, List.reverse_cons, List.lookup_append] 
          rw [List.zip_cons_cons] at hm
          have nd' := List.nodup_cons.mp nd
          rcases List.mem_cons.mp hm with e | e
          · cases e
            have none' : (l.zip w).reverse.lookup y = none := by
              rw [List.lookup_eq_none_iff]
              intro p hp
              have := lz _ _ p.1 p.2 (List.mem_reverse.mp hp)
              simp only [bne_iff_ne, ne_eq]
              intro q
              exact nd'.1 (q ▸ this)
            exact ⟨w0, by simp [none', List.lookup], 0, rfl, rfl⟩
          · obtain ⟨v, ev, i, e1, e2⟩ := ih w a nd'.2 (by simpa using lw) (by simpa using la) x pv e
            exact ⟨v, by simp [ev], i + 1, by simpa using e1, by simpa using e2⟩
  have F : FrameAt S s.heap (callEnv (fnX name qual (stArgs st) (stBody st) (stScope st) [] .none .none doc pm an cdv ct) s.heap.objs.size f) (names.zip args) h₁ := by
    refine ⟨⟨_, ⟨hns, fun b o e => hk₁ b o (on.keep b o e), on.size⟩, fun x pv hm => ?_⟩, hk₁, size_none _⟩
    obtain ⟨v, ev, i, e1, e2⟩ := key names vs args hnd hln hn.symm x pv hm
    refine ⟨v, ⟨fun _ => ev, fun q => ?_⟩, ?_⟩
    · have := hloc x (lz _ _ _ _ hm)
      rw [show (stScope st).names.lookup x = some .cell from q] at this
      cases this
    have := hr i v pv e1 e2
    exact this.keeps hk₁
  refine wpAny_mono (h (A.deeper _) s.heap _ _ _ ⟨room.deeper _, on.ok, hk, rfl, rfl, rfl⟩ F fun fl s' e o => ?_) (fun _ _ x => x) (fun _ _ (x : False) => x.elim)
  have ee : Ext s s' := ⟨fun b o e' => e.keep b o (Nat.ne_of_lt (Heap.lt_size e')) (hk₁ b o e'), e.gens, e.os⟩
  rcases ho with rfl | ⟨⟨m₂, rfl⟩, rfl⟩
  · obtain ⟨v, rfl, r⟩ := o
    exact kk v s' ee r
  · obtain ⟨rfl, _⟩ := o
    exact kk _ s' ee .none
theorem CallT.ofC {st : Stmt} {names : List Str} {args : List PV} {res : PyData} {out : Out} (hn : names.length = args.length)
    (hbind : ∀ name qual doc pm an cdv ct vs, vs.length = names.length → bindArgs (fnX name qual (stArgs st) (stBody st) (stScope st) [] .none .none doc pm an cdv ct) ⟨vs, []⟩ = pure (names.zip vs))
    (hc : defCheck st names = true) (ho : out = .ret res ∨ (∃ m, out = .next m) ∧ res = .none)
    (h : ExT S n (stScope st) (names.zip args) (stBody st) out) : CallT S (n + 1) st args res :=
  let c := defSc hc
  CallT.of hn hbind c.nd c.loc c.cell c.co c.gen c.k ho h
end
noncomputable def GFn (S : Sg) (x : Str) (st : Stmt) : Prop := ∃ f, nsIn S.K mainGlobals x = some (some (.ref f)) ∧ FnAt S st f
section
variable {S : Sg} {n : Nat} {sc : Scope} {m m' : Loc}
theorem call_core {A : Around} {h₀ : Heap} {env : Env} {g : Addr} {pos : Pos} {s : Shared} {st : Stmt} {args : List PySem.Expr} {pvs : List PV} {res : PyData} {Q : Value → Shared → Prop}
    (at_ : At S sc n A env) (F : FrameAt S h₀ env m s.heap) (fn : FnAt S st g) {first : List Value} {fpv : List PV} (hfl : first.length = fpv.length) (hf : ∀ (i : Nat) v pv, first[i]? = some v → fpv[i]? = some pv → Rep S h₀ s.heap v pv)
    (ha : EvsT S n sc m args pvs) (c : CallT S n st (fpv ++ pvs) res) (k : ∀ v s', Ext s s' → Rd s'.heap v res → Q v s')
    (hc : (args = [] ∧ pvs = []) ∨ ∃ e rest, args = e :: rest ∧ (∀ env, starEach (e :: rest) env = (false, eval e env) :: starEach rest env) ∧ ∀ env pos, (backTo pos (starEach rest env)).any (·.1) = false) :
    wpAny (model S.prog S.w) A (callWith pos (.ref g) first (backTo pos (starEach args env)) []) Q NoE s := by
  have fin : ∀ vs s', Ext s s' → vs.length = pvs.length → (∀ (i : Nat) v pv, vs[i]? = some v → pvs[i]? = some pv → Rep S h₀ s'.heap v pv) → wpAny (model S.prog S.w) A (call (.ref g) (first ++ vs)) Q NoE s' := by
    intro vs s' e l r
    refine wpAny_call (c A s' g (first ++ vs) _ at_.room ((F.keeps e.keep).on at_.ok) fn (by simp [hfl, l]) (fun i v pv ev ep => ?_) fun v s'' e' r' => k v s'' (e.trans e') r')
    have up : Rep S h₀ s'.heap v pv := by
      by_cases hi : i < first.length
      · rw [List.getElem?_append_left hi] at ev
        rw [List.getElem?_append_left (hfl ▸ hi)] at ep
        exact (hf i v pv ev ep).keeps e.keep
      · rw [List.getElem?_append_right (by omega)] at ev
        rw [List.getElem?_append_right (by omega)] at ep
        exact r _ v pv ev (hfl ▸ ep)
    exact repUp up (fun b o e' => e.keep b o (F.old b o e')) (fun _ _ e => e)
  rcases hc with ⟨rfl, rfl⟩ | ⟨e, rest, rfl, he, hp⟩
  · refine callWith_K0 (K := S.K) (F.on at_.ok).x fn.keep ?_
    exact fin [] s (.refl _) rfl fun i v pv e => by simp at e
  · exact callWith_K (K := S.K) at_.ok.k fn.keep (ha A h₀ env pos s _ at_ F fun vs s' e l r => ⟨((F.keeps e.keep).on at_.ok).x, fin vs s' e l r⟩) (he _) (hp _ _)
noncomputable def PlainArgs (args : List PySem.Expr) (pvs : List PV) : Prop :=
  (args = [] ∧ pvs = []) ∨ ∃ e rest, args = e :: rest ∧ (∀ env, starEach (e :: rest) env = (false, eval e env) :: starEach rest env) ∧ ∀ env pos, (backTo pos (starEach rest env)).any (·.1) = false
theorem EvT.callG {x : Str} {xp pos : Pos} {st : Stmt} {args : List PySem.Expr} {pvs : List PV} {res : PyData} (g : GFn S x st) (ha : EvsT S n sc m args pvs) (c : CallT S n st pvs res)
    (hx : sc.names.lookup x = some .globalImplicit) (hc : PlainArgs args pvs)
    (he : ∀ env, eval (.Call (.Name x xp) args [] pos) env = (do callWith pos (← eval (.Name x xp) env) [] (backTo pos (starEach args env)) (backToKw pos (keywordEach [] env))) := by intro _; with_unfolding_all rfl)
    (hd : (x == ("__debug__" : Str)) = false := by decide +kernel) : EvT S n sc m (.Call (.Name x xp) args [] pos) (.d res) := by
  intro A h₀ env s Q at_ F k
  obtain ⟨g, e, fn⟩ := g
  refine Call_ (EvT.glob e hx hd A h₀ env s _ at_ F fun v s' e' r => ?_) (he _)
  cases r
  exact call_core at_ (F.keeps e'.keep) fn (first := []) (fpv := []) rfl (fun i v pv e => by simp at e) ha c (fun v s'' e'' r => k v s'' (e'.trans e'') r) hc
theorem EvT.callL {x : Str} {xp pos : Pos} {st : Stmt} {args : List PySem.Expr} {pvs : List PV} {res : PyData} {g : Addr} (fn : FnAt S st g) (hm : (x, .r (.ref g)) ∈ m) (ha : EvsT S n sc m args pvs) (c : CallT S n st pvs res)
    (hx : sc.names.lookup x = some .local) (hc : PlainArgs args pvs)
    (he : ∀ env, eval (.Call (.Name x xp) args [] pos) env = (do callWith pos (← eval (.Name x xp) env) [] (backTo pos (starEach args env)) (backToKw pos (keywordEach [] env))) := by intro _; with_unfolding_all rfl)
    (hd : (x == ("__debug__" : Str)) = false := by decide +kernel) : EvT S n sc m (.Call (.Name x xp) args [] pos) (.d res) := by
  intro A h₀ env s Q at_ F k
  refine Call_ (EvT.loc hx hm hd A h₀ env s _ at_ F fun v s' e' r => ?_) (he _)
  cases r
  exact call_core at_ (F.keeps e'.keep) fn (first := []) (fpv := []) rfl (fun i v pv e => by simp at e) ha c (fun v s'' e'' r => k v s'' (e'.trans e'') r) hc
theorem EvT.meth {recv : PySem.Expr} {name : Str} {ap pos : Pos} {P P' : Heap → Value → Prop} {st : Stmt} {args : List PySem.Expr} {pvs : List PV} {res : PyData} {pl : Env → Sem Bool} (hr : EvT S n sc m recv (.o P)) (mono : Mono P')
    (look : ∀ h v, P h v → ∃ x C es f, v = .ref x ∧ PlainCls S C ∧ Own h x C es ∧ findIn S.K (.ref C) name = some (some (.ref f)) ∧ FnAt S st f ∧ getL name es = some Option.none ∧ P' h v)
    (ha : EvsT S n sc m args pvs) (c : CallT S n st (.o P' :: pvs) res) (hc : PlainArgs args pvs)
    (he : ∀ env, eval (.Call (.Attribute recv name ap) args [] pos) env = (do
      let ov ← eval recv env
      standAt ap.atName
      let (f, first) ← holding [ov] (getMethod ov name (pl env))
      callWith pos f first (backTo pos (starEach args env)) []) := by intro _; with_unfolding_all rfl) : EvT S n sc m (.Call (.Attribute recv name ap) args [] pos) (.d res) := by
  intro A h₀ env s Q at_ F k
  refine MethodCall_ (pl := pl _) (hr A h₀ env s _ at_ F fun v s' e' r => ?_) (he _)
  obtain ⟨x, C, es, g, rfl, pc, ow, hf, fn, hl, p'⟩ := look _ _ r.1
  have F' := F.keeps e'.keep
  obtain ⟨ox, nn, I⟩ := ow.keeps F'.old
  obtain ⟨mv, f', _⟩ := F'.fr
  refine method_inst f' at_.ok.k I (pc.get _) hf fn.fn hl ?_
  refine call_core at_ F' fn (first := [.ref x]) (fpv := [.o P']) rfl (fun i v pv ev ep => ?_) ha c (fun v s'' e'' r => k v s'' (e'.trans e'') r) hc
  cases i with
  | zero => simp at ev ep; subst ev; subst ep; exact ⟨p', mono⟩
  | succ i => simp at ev
theorem EvT.attr {recv : PySem.Expr} {name : Str} {pos : Pos} {P : Heap → Value → Prop} {pv : PV} (hr : EvT S n sc m recv (.o P))
    (look : ∀ h v, P h v → ∃ x C es u, v = .ref x ∧ PlainCls S C ∧ Own h x C es ∧ findIn S.K (.ref C) name = some Option.none ∧ getL name es = some (some u) ∧ handedIn u = true ∧ Rep S h h u pv)
    (he : ∀ env, eval (.Attribute recv name pos) env = (do
      let o ← eval recv env
      standAt pos.atName
      let r ← holding [o] (getAttr o name true)
      letTemporaryGo recv o r
      pure r) := by intro _; with_unfolding_all rfl) : EvT S n sc m (.Attribute recv name pos) pv := by
  intro A h₀ env s Q at_ F k
  refine Attribute_any_ (hr A h₀ env s _ at_ F fun v s' e' r => ?_) (he _)
  obtain ⟨x, C, es, u, rfl, pc, ow, hf, hl, hh, p'⟩ := look _ _ r.1
  have F' := F.keeps e'.keep
  obtain ⟨ox, nn, I⟩ := ow.keeps F'.old
  obtain ⟨mv, f', _⟩ := F'.fr
  refine get_own f' at_.ok.k I (pc.get _) pc.dict hf rfl hl hh ?_
  refine k _ _ (e'.trans (.toks _ _)) ?_
  cases pv with
  | d x => exact Rd.mono (seqKept_of F'.old) p'
  | r u => exact p'
  | v b cs => exact p'
  | o P => exact p'
end
section
variable {S : Sg} {n : Nat} {sc : Scope} {m m' : Loc}
theorem EvT.callB {x : Str} {id : String} {xp pos : Pos} {a : PySem.Expr} {rest : List PySem.Expr} {pvs : List PV} {pv : PV} (e : nsIn S.K mainGlobals x = some Option.none) (hx : sc.names.lookup x = some .globalImplicit)
    (hv : bootBuiltins x = some (.builtin id)) (hn : x ≠ "__name__") (ha : EvsT S n sc m (a :: rest) pvs)
    (k : ∀ A h₀ s vs (Q : Value → Shared → Prop), Room n A → vs.length = pvs.length → (∀ (i : Nat) v pv, vs[i]? = some v → pvs[i]? = some pv → Rep S h₀ s.heap v pv) →
      (∀ v s', Ext s s' → Rep S h₀ s'.heap v pv → Q v s') → wpAny (model S.prog S.w) A (call (.builtin id) vs) Q NoE s)
    (hse : ∀ env, starEach (a :: rest) env = (false, eval a env) :: starEach rest env := by intro _; with_unfolding_all rfl) (hpl : ∀ env pos, (backTo pos (starEach rest env)).any (·.1) = false := by intro _ _; with_unfolding_all rfl)
    (he : ∀ env, eval (.Call (.Name x xp) (a :: rest) [] pos) env = (do callWith pos (← eval (.Name x xp) env) [] (backTo pos (starEach (a :: rest) env)) (backToKw pos (keywordEach [] env))) := by intro _; with_unfolding_all rfl)
    (hd : (x == ("__debug__" : Str)) = false := by decide +kernel) : EvT S n sc m (.Call (.Name x xp) (a :: rest) [] pos) pv := by
  intro A h₀ env s Q at_ F kk
  refine Call_ (EvT.bi e hx hv hn hd A h₀ env s _ at_ F fun v s' e' r => ?_) (he _)
  cases r
  have h2 := ha A h₀ env pos s' (fun vs s'' => wpAny (model S.prog S.w) A (call (.builtin id) vs) Q NoE s'') at_ (F.keeps e'.keep)
    (fun vs s'' e'' l r => k A h₀ s'' vs Q at_.room l r fun v s3 e3 r3 => kk v s3 ((e'.trans e'').trans e3) r3)
  rw [hse] at h2 ⊢
  exact Calls.callWith_builtin (by show (false || (backTo pos (starEach rest _)).any (·.1)) = false; rw [hpl]; rfl) (Calls.evalArgs_plain h2)
theorem EvT.callTy {x : Str} {T : String} {xp pos : Pos} {a : PySem.Expr} {rest : List PySem.Expr} {pvs : List PV} {A : Around} {h₀ : Heap} {env : Env} {s : Shared} {Q : Value → Shared → Prop}
    (e : nsIn S.K mainGlobals x = some Option.none) (hx : sc.names.lookup x = some .globalImplicit)
    (hv : bootBuiltins x = some (.type T)) (hn : x ≠ "__name__") (ha : EvsT S n sc m (a :: rest) pvs) (at_ : At S sc n A env) (F : FrameAt S h₀ env m s.heap)
    (k : ∀ vs s', Ext s s' → vs.length = pvs.length → (∀ (i : Nat) v pv, vs[i]? = some v → pvs[i]? = some pv → Rep S h₀ s'.heap v pv) → wpAny (model S.prog S.w) A (call (.type T) vs) Q NoE s')
    (hse : ∀ env, starEach (a :: rest) env = (false, eval a env) :: starEach rest env := by intro _; with_unfolding_all rfl) (hpl : ∀ env pos, (backTo pos (starEach rest env)).any (·.1) = false := by intro _ _; with_unfolding_all rfl)
    (he : ∀ env, eval (.Call (.Name x xp) (a :: rest) [] pos) env = (do callWith pos (← eval (.Name x xp) env) [] (backTo pos (starEach (a :: rest) env)) (backToKw pos (keywordEach [] env))) := by intro _; with_unfolding_all rfl)
    (hd : (x == ("__debug__" : Str)) = false := by decide +kernel) : wpAny (model S.prog S.w) A (eval (.Call (.Name x xp) (a :: rest) [] pos) env) Q NoE s := by
  refine Call_ (EvT.bi e hx hv hn hd A h₀ env s _ at_ F fun v s' e' r => ?_) (he _)
  cases r
  exact Pv.callWith_type1 (ha A h₀ env pos s' _ at_ (F.keeps e'.keep) fun vs s'' e'' l r => k vs s'' (e'.trans e'') l r) (hse _) (hpl _ _)
theorem two_of {S : Sg} {h₀ h : Heap} {vs : List Value} {p q : PV} (l : vs.length = [p, q].length) (r : ∀ (i : Nat) v pv, vs[i]? = some v → [p, q][i]? = some pv → Rep S h₀ h v pv) : ∃ a b, vs = [a, b] ∧ Rep S h₀ h a p ∧ Rep S h₀ h b q := by
  obtain ⟨a, b, e⟩ := len2 l
  subst e
  exact ⟨a, b, rfl, r 0 a p rfl rfl, r 1 b q rfl rfl⟩
theorem one_of {S : Sg} {h₀ h : Heap} {vs : List Value} {p : PV} (l : vs.length = [p].length) (r : ∀ (i : Nat) v pv, vs[i]? = some v → [p][i]? = some pv → Rep S h₀ h v pv) : ∃ a, vs = [a] ∧ Rep S h₀ h a p := by
  obtain ⟨a, e⟩ := len1 l
  subst e
  exact ⟨a, rfl, r 0 a p rfl rfl⟩
theorem three_of {S : Sg} {h₀ h : Heap} {vs : List Value} {p q t : PV} (l : vs.length = [p, q, t].length) (r : ∀ (i : Nat) v pv, vs[i]? = some v → [p, q, t][i]? = some pv → Rep S h₀ h v pv) :
    ∃ a b c, vs = [a, b, c] ∧ Rep S h₀ h a p ∧ Rep S h₀ h b q ∧ Rep S h₀ h c t := by
  obtain ⟨a, b, c, e⟩ := len3 l
  subst e
  exact ⟨a, b, c, rfl, r 0 a p rfl rfl, r 1 b q rfl rfl, r 2 c t rfl rfl⟩
theorem EvT.max2 {xp pos : Pos} {a b : PySem.Expr} {i j : Int} (e : nsIn S.K mainGlobals "max" = some Option.none) (ha : EvT S n sc m a (it i)) (hb : EvT S n sc m b (it j)) (hx : sc.names.lookup (Str.ofString "max") = some .globalImplicit)
    (h1 : ∀ env, starEach [a, b] env = [(false, eval a env), (false, eval b env)] := by intro _; with_unfolding_all rfl) (h2 : ∀ env, starEach [b] env = [(false, eval b env)] := by intro _; with_unfolding_all rfl) :
    EvT S n sc m (.Call (.Name "max" xp) [a, b] [] pos) (it (if j > i then j else i)) :=
  EvT.callB (id := "max") e hx boot_max (by decide +kernel) (EvsT.cons ha (EvsT.cons hb .nil h2) (fun env => by rw [h1, h2])) (fun A h₀ s vs Q at_ l r k => by
    obtain ⟨u, v, rfl, r1, r2⟩ := two_of l r
    obtain ⟨t1, rfl⟩ := rd_int r1
    obtain ⟨t2, rfl⟩ := rd_int r2
    refine max_two_ints at_.2.2 fun h' tk hk => k _ _ (.heap hk tk) ?_
    by_cases h : j > i
    · rw [if_pos h, if_pos h]; exact .int _ _
    · rw [if_neg h, if_neg h]; exact .int _ _) (fun env => by rw [h1, h2]) (fun env pos => by rw [h2]; rfl)
theorem EvT.min2 {xp pos : Pos} {a b : PySem.Expr} {i j : Int} (e : nsIn S.K mainGlobals "min" = some Option.none) (ha : EvT S n sc m a (it i)) (hb : EvT S n sc m b (it j)) (hx : sc.names.lookup (Str.ofString "min") = some .globalImplicit)
    (h1 : ∀ env, starEach [a, b] env = [(false, eval a env), (false, eval b env)] := by intro _; with_unfolding_all rfl) (h2 : ∀ env, starEach [b] env = [(false, eval b env)] := by intro _; with_unfolding_all rfl) :
    EvT S n sc m (.Call (.Name "min" xp) [a, b] [] pos) (it (if j < i then j else i)) :=
  EvT.callB (id := "min") e hx boot_min (by decide +kernel) (EvsT.cons ha (EvsT.cons hb .nil h2) (fun env => by rw [h1, h2])) (fun A h₀ s vs Q at_ l r k => by
    obtain ⟨u, v, rfl, r1, r2⟩ := two_of l r
    obtain ⟨t1, rfl⟩ := rd_int r1
    obtain ⟨t2, rfl⟩ := rd_int r2
    refine min_two_ints at_.2.2 fun h' tk hk => k _ _ (.heap hk tk) ?_
    by_cases h : j < i
    · rw [if_pos h, if_pos h]; exact .int _ _
    · rw [if_neg h, if_neg h]; exact .int _ _) (fun env => by rw [h1, h2]) (fun env pos => by rw [h2]; rfl)
theorem EvT.abs {xp pos : Pos} {a : PySem.Expr} {i : Int} (e : nsIn S.K mainGlobals "abs" = some Option.none) (ha : EvT S n sc m a (it i)) (hx : sc.names.lookup (Str.ofString "abs") = some .globalImplicit)
    (h1 : ∀ env, starEach [a] env = [(false, eval a env)] := by intro _; with_unfolding_all rfl) : EvT S n sc m (.Call (.Name "abs" xp) [a] [] pos) (it (if i < 0 then -i else i)) :=
  EvT.callB (id := "abs") e hx (by decide +kernel) (by decide +kernel) (EvsT.cons ha .nil (fun env => by rw [h1]; rfl)) (fun A h₀ s vs Q at_ l r k => by
    obtain ⟨u, rfl, r1⟩ := one_of l r
    obtain ⟨t1, rfl⟩ := rd_int r1
    exact call_abs_int fun u tk => k _ _ (.toks _ _) (.int _ _)) (fun env => by rw [h1]; rfl) (fun env pos => rfl)
theorem EvT.len {xp pos : Pos} {a : PySem.Expr} {xs : List PyData} (e : nsIn S.K mainGlobals "len" = some Option.none) (ha : EvT S n sc m a (.d (.list xs))) (hl : xs.length < 2 ^ 60) (hx : sc.names.lookup (Str.ofString "len") = some .globalImplicit)
    (h1 : ∀ env, starEach [a] env = [(false, eval a env)] := by intro _; with_unfolding_all rfl) : EvT S n sc m (.Call (.Name "len" xp) [a] [] pos) (it xs.length) :=
  EvT.callB (id := "len") e hx (by decide +kernel) (by decide +kernel) (EvsT.cons ha .nil (fun env => by rw [h1]; rfl)) (fun A h₀ s vs Q at_ l r k => by
    obtain ⟨u, rfl, r1⟩ := one_of l r
    obtain ⟨l', vs', nn, rfl, ho, ra⟩ := rd_list r1
    have hs : vs'.size = xs.length := by rw [← ra.1, Array.length_toList]
    refine Calls.call_len_list ⟨_, ho, rfl, nn, rfl⟩ (by omega) (k _ _ (.toks _ _) ?_)
    rw [hs]
    exact .int _ _) (fun env => by rw [h1]; rfl) (fun env pos => rfl)
theorem EvT.intB {xp pos : Pos} {a : PySem.Expr} {b : Bool} (e : nsIn S.K mainGlobals "int" = some Option.none) (ha : EvT S n sc m a (bl b)) (hx : sc.names.lookup (Str.ofString "int") = some .globalImplicit)
    (h1 : ∀ env, starEach [a] env = [(false, eval a env)] := by intro _; with_unfolding_all rfl) : EvT S n sc m (.Call (.Name "int" xp) [a] [] pos) (it (if b then 1 else 0)) := by
  intro A h₀ env s Q at_ F k
  refine EvT.callTy (T := "int") e hx (by decide +kernel) (by decide +kernel) (EvsT.cons ha .nil (fun env => by rw [h1]; rfl)) at_ F (fun vs s' e' l r => ?_) (fun env => by rw [h1]; rfl) (fun env pos => rfl)
  obtain ⟨u, rfl, r1⟩ := one_of l r
  rw [rd_bool r1]
  exact call_int_bool (k _ _ (e'.trans (.toks _ _)) (.int _ _))
end
section
variable {S : Sg} {n : Nat} {sc : Scope} {m m' : Loc}
theorem RgT.r2 {xp pos : Pos} {a b : PySem.Expr} {i j : Int} (e : nsIn S.K mainGlobals "range" = some Option.none) (ha : EvT S n sc m a (it i)) (hb : EvT S n sc m b (it j)) (hi : -1000000 ≤ i) (hi' : i ≤ 1000000) (hj : -1000000 ≤ j) (hj' : j ≤ 1000000)
    (hx : sc.names.lookup (Str.ofString "range") = some .globalImplicit)
    (h1 : ∀ env, starEach [a, b] env = [(false, eval a env), (false, eval b env)] := by intro _; with_unfolding_all rfl) (h2 : ∀ env, starEach [b] env = [(false, eval b env)] := by intro _; with_unfolding_all rfl) :
    RgT S n sc m (.Call (.Name "range" xp) [a, b] [] pos) i 1 (j - i).toNat := by
  intro A h₀ env s Q at_ F k
  refine EvT.callTy (T := "range") e hx (by decide +kernel) (by decide +kernel) (EvsT.cons ha (EvsT.cons hb .nil h2) (fun env => by rw [h1, h2])) at_ F (fun vs s' e' l r => ?_) (fun env => by rw [h1, h2]) (fun env pos => by rw [h2]; rfl)
  obtain ⟨u, v, rfl, r1, r2⟩ := two_of l r
  obtain ⟨t1, rfl⟩ := rd_int r1
  obtain ⟨t2, rfl⟩ := rd_int r2
  refine call_range_2 (k _ j _ _ _ _ (e'.trans (.heap (fun _ _ e => Heap.get?_push_of_some _ e) _)) (IsRange.new ..) (small_one (by omega) (by omega) (by omega) (by omega)) ?_)
  rw [rangeSize_one]
  split <;> omega
theorem RgT.r1 {xp pos : Pos} {b : PySem.Expr} {j : Int} (e : nsIn S.K mainGlobals "range" = some Option.none) (hb : EvT S n sc m b (it j)) (hj : -1000000 ≤ j) (hj' : j ≤ 1000000)
    (hx : sc.names.lookup (Str.ofString "range") = some .globalImplicit) (h2 : ∀ env, starEach [b] env = [(false, eval b env)] := by intro _; with_unfolding_all rfl) :
    RgT S n sc m (.Call (.Name "range" xp) [b] [] pos) 0 1 j.toNat := by
  intro A h₀ env s Q at_ F k
  refine EvT.callTy (T := "range") e hx (by decide +kernel) (by decide +kernel) (EvsT.cons hb .nil (fun env => by rw [h2]; rfl)) at_ F (fun vs s' e' l r => ?_) (fun env => by rw [h2]; rfl) (fun env pos => rfl)
  obtain ⟨v, rfl, r2⟩ := one_of l r
  obtain ⟨t2, rfl⟩ := rd_int r2
  refine call_range_1 (k _ j _ _ _ _ (e'.trans (.heap (fun _ _ e => Heap.get?_push_of_some _ e) _)) (IsRange.new ..) (small_one (by omega) (by omega) (by omega) (by omega)) ?_)
  rw [rangeSize_one]
  split <;> omega
theorem rangeSize_down (a b : Int) : Builtin.Range.rangeSize a b (-1) = if b < a then a - b else 0 := by
  unfold Builtin.Range.rangeSize
  simp only [show ¬ ((-1 : Int) > 0) by decide, if_false, Int.neg_neg, Int.ediv_one]
  split <;> omega
theorem small_down {a b : Int} (ha : -1000000 ≤ a) (ha' : a ≤ 1000000) (hb : -1000000 ≤ b) (hb' : b ≤ 1000000) : Builtin.Range.small a b (-1) = true := by
  unfold Builtin.Range.small
  rw [rangeSize_down]
  simp only [Builtin.Range.rangeFitsLong, Bool.and_eq_true, Bool.or_eq_true, decide_eq_true_eq, beq_iff_eq, show ¬ ((-1 : Int) > 0) by decide, if_false]
  split <;> omega
theorem RgT.rd {xp pos : Pos} {a b c : PySem.Expr} {i j : Int} (e : nsIn S.K mainGlobals "range" = some Option.none) (ha : EvT S n sc m a (it i)) (hb : EvT S n sc m b (it j)) (hc : EvT S n sc m c (it (-1))) (hi : -1000 ≤ i) (hi' : i ≤ 1000) (hj : -1000 ≤ j) (hj' : j ≤ 1000)
    (hx : sc.names.lookup (Str.ofString "range") = some .globalImplicit)
    (h1 : ∀ env, starEach [a, b, c] env = [(false, eval a env), (false, eval b env), (false, eval c env)] := by intro _; with_unfolding_all rfl) (h2 : ∀ env, starEach [b, c] env = [(false, eval b env), (false, eval c env)] := by intro _; with_unfolding_all rfl) (h3 : ∀ env, starEach [c] env = [(false, eval c env)] := by intro _; with_unfolding_all rfl) :
    RgT S n sc m (.Call (.Name "range" xp) [a, b, c] [] pos) i (-1) (i - j).toNat := by
  intro A h₀ env s Q at_ F k
  refine EvT.callTy (T := "range") e hx (by decide +kernel) (by decide +kernel) (EvsT.cons ha (EvsT.cons hb (EvsT.cons hc .nil h3) (fun env => by rw [h2, h3])) (fun env => by rw [h1, h2])) at_ F (fun vs s' e' l r => ?_) (fun env => by rw [h1, h2]) (fun env pos => by rw [h2]; rfl)
  obtain ⟨u, v, w, rfl, r1, r2, r3⟩ := three_of l r
  obtain ⟨t1, rfl⟩ := rd_int r1
  obtain ⟨t2, rfl⟩ := rd_int r2
  obtain ⟨t3, rfl⟩ := rd_int r3
  refine call_range_3 (by decide) (k _ j _ _ _ _ (e'.trans (.heap (fun _ _ e => Heap.get?_push_of_some _ e) _)) (IsRange.new ..) (small_down (by omega) (by omega) (by omega) (by omega)) ?_) (Or.inl (PyProof.noPylong_small (by omega)))
  rw [rangeSize_down]
  split <;> omega
theorem EvT.globD {x : Str} {pos : Pos} {v : Value} {d : PyData} (e : nsIn S.K mainGlobals x = some (some v)) (hv : ∀ h, S.K.In h → Rd h v d) (hx : sc.names.lookup x = some .globalImplicit) (hd : (x == ("__debug__" : Str)) = false := by decide +kernel) :
    EvT S n sc m (.Name x pos) (.d d) := by
  intro A h₀ env s Q a F k
  obtain ⟨mv, F', r⟩ := F.fr
  exact ld_glob a F' e hx hd (k v s (.refl s) (hv _ (F.on a.ok).x))
theorem ints_of {h : Heap} : ∀ {vs : List Value} {ns : List Int}, RdAll h vs (ns.map .int) → IntsAre vs ns
  | vs, [], r => by rw [RdAll.unnil r]; exact .nil
  | vs, i :: ns, r => by
    obtain ⟨v, vs', rfl, a, b⟩ := RdAll.uncons r
    obtain ⟨t, rfl⟩ := rd_int a
    exact .cons _ _ (ints_of b)
theorem of_ints {h : Heap} {vs : List Value} {ns : List Int} (r : IntsAre vs ns) : RdAll h vs (ns.map .int) := by
  induction r with
  | nil => exact .nil
  | cons n t _ ih => exact .cons (.int _ _) ih
theorem inTup_wp {A : Around} {h₀ : Heap} {s : Shared} {v u : Value} {i : Int} {ns : List Int} {Q : Value → Shared → Prop} (r₁ : Rep S h₀ s.heap v (it i)) (r₂ : Rep S h₀ s.heap u (.d (.tuple (ns.map .int)))) (k : Q (.bool (ns.any (· == i))) s) :
    wpAny (model S.prog S.w) A (compareOp .In v u) Q NoE s := by
  obtain ⟨_, rfl⟩ := rd_int r₁
  obtain ⟨a, vs, nn, rfl, ho, ra⟩ := rd_tuple r₂
  exact in_tuple_ints ⟨_, ho, rfl, _, rfl⟩ (ints_of ra) k
theorem notInTup_wp {A : Around} {h₀ : Heap} {s : Shared} {v u : Value} {i : Int} {ns : List Int} {Q : Value → Shared → Prop} (r₁ : Rep S h₀ s.heap v (it i)) (r₂ : Rep S h₀ s.heap u (.d (.tuple (ns.map .int)))) (k : Q (.bool (!(ns.any (· == i)))) s) :
    wpAny (model S.prog S.w) A (compareOp .NotIn v u) Q NoE s := by
  obtain ⟨_, rfl⟩ := rd_int r₁
  obtain ⟨a, vs, nn, rfl, ho, ra⟩ := rd_tuple r₂
  exact notin_tuple_ints ⟨_, ho, rfl, _, rfl⟩ (ints_of ra) k
theorem TrT.inTup {a b : PySem.Expr} {i : Int} {ns : List Int} {pos : Pos} {c : Bool} (ha : EvT S n sc m a (it i)) (hb : EvT S n sc m b (.d (.tuple (ns.map .int)))) (hc : (ns.any (· == i)) = c) (hm : behindInMarks .In b = false := by with_unfolding_all rfl) :
    TrT S n sc m (.Compare a [.In] [b] pos) c :=
  hc ▸ TrT.cmp ha hb (fun A h₀ s v u Q _ r₁ r₂ k => inTup_wp r₁ r₂ (k _ (.refl _))) hm
theorem TrT.notInTup {a b : PySem.Expr} {i : Int} {ns : List Int} {pos : Pos} {c : Bool} (ha : EvT S n sc m a (it i)) (hb : EvT S n sc m b (.d (.tuple (ns.map .int)))) (hc : (!(ns.any (· == i))) = c) (hm : behindInMarks .NotIn b = false := by with_unfolding_all rfl) :
    TrT S n sc m (.Compare a [.NotIn] [b] pos) c :=
  hc ▸ TrT.cmp ha hb (fun A h₀ s v u Q _ r₁ r₂ k => notInTup_wp r₁ r₂ (k _ (.refl _))) hm
theorem TrT.isNone {a : PySem.Expr} {k' : Nat} {p pos : Pos} {d : PyData} {c : Bool} (ha : EvT S n sc m a (.d d)) (hc : (d = .none ∧ c = true) ∨ ((∃ i, d = .int i) ∧ c = false)) :
    TrT S n sc m (.Compare a [.Is] [.Constant .none k' p] pos) c := by
  refine TrT.cmp ha EvT.none (fun A h₀ s v u Q _ r₁ r₂ k => ?_) rfl
  rw [rd_none r₂]
  rcases hc with ⟨rfl, rfl⟩ | ⟨⟨i, rfl⟩, rfl⟩
  · rw [rd_none r₁]
    exact wpAny_of_eq (a := .bool true) rfl (k _ (.refl _))
  · obtain ⟨_, rfl⟩ := rd_int r₁
    exact wpAny_of_eq (a := .bool false) rfl (k _ (.refl _))
theorem EvT.item {value slice : PySem.Expr} {pos : Pos} {xs : List PyData} {k : Nat} {x : PyData} {i : Int} (hv : EvT S n sc m value (.d (.tuple xs))) (hs : EvT S n sc m slice (it i)) (hi : i = k) (hk : k < 2 ^ 60) (hx : xs[k]? = some x)
    (hsub : ∀ t k u, subscripted slice false (.ref t) (.int k u) = operate [.ref t, .int k u] (getItem (.ref t) (.int k u)) := by intro _ _ _; with_unfolding_all rfl) : EvT S n sc m (.Subscript value slice pos) (.d x) := by
  intro A h₀ env s Q at_ F kk
  refine Subscript_ (hv A h₀ env s _ at_ F fun v s₁ e₁ r₁ => hs A h₀ env s₁ _ at_ (F.keeps e₁.keep) fun u s₂ e₂ r₂ => ?_)
  obtain ⟨t, vs, nn, rfl, ho, ra⟩ := rd_tuple (r₁.keeps e₂.keep)
  obtain ⟨tk, rfl⟩ := rd_int r₂
  have hlt : k < vs.toList.length := by
    rw [ra.1]
    exact (List.getElem?_eq_some_iff.mp hx).1
  have hval : vs.toList[k]? = some vs.toList[k] := List.getElem?_eq_getElem hlt
  refine item_tupleT (l := vs.toList) ⟨_, ho, rfl, nn, by simp⟩ (by omega) (by omega) (j := k) ?_ hval (kk _ _ (e₁.trans e₂) (ra.2 k _ x hval hx)) (hsub _ _ _)
  subst hi
  have h9 : ¬ ((k : Int) < 0) := by omega
  have h8 : k < vs.size := by simpa using hlt
  simp [seqIndex?, h9, h8]
theorem EvT.itemL {value slice : PySem.Expr} {pos : Pos} {xs : List PyData} {k : Nat} {x : PyData} {i : Int} (hv : EvT S n sc m value (.d (.list xs))) (hs : EvT S n sc m slice (it i)) (hi : i = k) (hk : k < 2 ^ 60) (hx : xs[k]? = some x)
    (hsub : ∀ t k u, subscripted slice false (.ref t) (.int k u) = operate [.ref t, .int k u] (getItem (.ref t) (.int k u)) := by intro _ _ _; with_unfolding_all rfl) : EvT S n sc m (.Subscript value slice pos) (.d x) := by
  intro A h₀ env s Q at_ F kk
  refine Subscript_ (hv A h₀ env s _ at_ F fun v s₁ e₁ r₁ => hs A h₀ env s₁ _ at_ (F.keeps e₁.keep) fun u s₂ e₂ r₂ => ?_)
  obtain ⟨t, vs, nn, rfl, ho, ra⟩ := rd_list (r₁.keeps e₂.keep)
  obtain ⟨tk, rfl⟩ := rd_int r₂
  have hlt : k < vs.toList.length := by
    rw [ra.1]
    exact (List.getElem?_eq_some_iff.mp hx).1
  have hval : vs.toList[k]? = some vs.toList[k] := List.getElem?_eq_getElem hlt
  have hl : s₂.heap.IsList t vs := ⟨_, ho, rfl, nn, rfl⟩
  subst hi
  exact tail_any hl.typeIs slot_list_getitem.lookup (wpAny_getItem_list hl (by omega) (by omega) (by simpa using hval) (kk _ _ (e₁.trans e₂) (ra.2 k _ x hval hx))) (hsub _ _ _)
theorem EvT.addL {a b : PySem.Expr} {xs ys : List PyData} {pos : Pos} (ha : EvT S n sc m a (.d (.list xs))) (hb : EvT S n sc m b (.d (.list ys))) (hl : xs.length + ys.length ≤ 10000) : EvT S n sc m (.BinOp a .Add b pos) (.d (.list (xs ++ ys))) :=
  ha.bin hb fun A h₀ s v u Q _ r₁ r₂ k => by
    obtain ⟨l, vs, n1, rfl, ho, ra⟩ := rd_list r₁
    obtain ⟨b, ws, n2, rfl, ho2, rb⟩ := rd_list r₂
    have z1 : vs.size = xs.length := by rw [← ra.1, Array.length_toList]
    have z2 : ws.size = ys.length := by rw [← rb.1, Array.length_toList]
    refine concat_meets ⟨_, ho, rfl⟩ ⟨_, ho2, rfl⟩ noFill_list_add seq_list_add PySem.F.slot_list_add PySem.F.entry_list_add (PySem.F.args_list_add_2 _ _) (list_addW l b vs ws n1 n2 Option.none Option.none #[] #[] (by rw [sizeLine_eq]; omega)) ⟨ho, ho2, ?_⟩
    have kk : ∀ b o, s.heap.get? b = some o → (s.heap.push ({ cls := .type "list", dict := Option.none, data := .seq (vs ++ ws) } : Obj)).get? b = some o := fun _ _ e => Heap.get?_push_of_some _ e
    refine k _ { s with heap := _, toks := _ } (.heap kk _) ?_
    refine .list (Heap.get?_push_size _ rfl) (by simp [z1, z2]) fun i v x ev ex => ?_
    simp only [Array.toList_append] at ev
    by_cases hi : i < vs.toList.length
    · rw [List.getElem?_append_left hi] at ev
      rw [List.getElem?_append_left (by rw [← ra.1]; exact hi)] at ex
      exact (ra.2 i v x ev ex).mono (seqKept_of kk)
    · rw [List.getElem?_append_right (by omega)] at ev
      rw [List.getElem?_append_right (by rw [← ra.1]; omega)] at ex
      exact (rb.2 _ v x ev (by rw [ra.1]; exact ex)).mono (seqKept_of kk)
end
section
variable {S : Sg} {n : Nat}
theorem vs1 {α : Type} {vs : List α} {x : Str} (h : vs.length = [x].length) : ∃ a, vs = [a] := len1 h
theorem vs2 {α : Type} {vs : List α} {x y : Str} (h : vs.length = [x, y].length) : ∃ a b, vs = [a, b] := len2 h
theorem vs3 {α : Type} {vs : List α} {x y z : Str} (h : vs.length = [x, y, z].length) : ∃ a b c, vs = [a, b, c] := len3 h
theorem vs4 {α : Type} {vs : List α} {x y z w : Str} (h : vs.length = [x, y, z, w].length) : ∃ a b c d, vs = [a, b, c, d] := len4 h
theorem row_mono {b : Int} {cs : List Int} : Mono (fun h v => RowAt S h v b cs) := fun h h' v k o => by
  obtain ⟨i, r⟩ := o
  exact ⟨i, { r with own := r.own.keeps k, isx := r.isx.keeps k }⟩
theorem row_begin {b : Int} {cs : List Int} : CallT S (n + 1) (inCls 89 1) [.o (fun h v => RowAt S h v b cs)] (.int b) := by
  refine CallT.ofC (names := ["self"]) (out := .ret (.int b)) rfl ?_ (by kernel_rfl) (.inl rfl) ?_
  · intro _ _ _ _ _ _ _ vs h
    obtain ⟨a, rfl⟩ := vs1 h
    rfl
  · refine ExT.stop (StT.ret (EvT.attr (P := fun h v => RowAt S h v b cs) (EvT.loc (by decide +kernel) (.head _)) fun h v p => ?_)) trivial
    obtain ⟨i, r⟩ := p
    exact ⟨i.x, i.C, i.es, _, r.vx, r.cls.toPlainCls, r.own, r.cls.noPlace, r.place, rfl, .int _ _⟩
noncomputable abbrev selfRow (S : Sg) (b : Int) (cs : List Int) : PV := .o (fun h v => RowAt S h v b cs)
noncomputable abbrev selfBuf (S : Sg) (b : Int) (cs : List Int) : PV := .o (fun h v => BufAt S h v b cs)
theorem row_place {m : Loc} {sc : Scope} {b : Int} {cs : List Int} {p q : Pos} (hx : sc.names.lookup (Str.ofString "self") = some .local) (hm : (Str.ofString "self", selfRow S b cs) ∈ m) : EvT S n sc m (.Attribute (.Name "self" p) "place" q) (it b) :=
  EvT.attr (EvT.loc hx hm) fun h v p => by
    obtain ⟨i, r⟩ := p
    exact ⟨i.x, i.C, i.es, _, r.vx, r.cls.toPlainCls, r.own, r.cls.noPlace, r.place, rfl, .int _ _⟩
theorem row_codes {m : Loc} {sc : Scope} {b : Int} {cs : List Int} {p q : Pos} (hx : sc.names.lookup (Str.ofString "self") = some .local) (hm : (Str.ofString "self", selfRow S b cs) ∈ m) : EvT S n sc m (.Attribute (.Name "self" p) "codes" q) (.d (.list (cs.map .int))) :=
  EvT.attr (EvT.loc hx hm) fun h v p => by
    obtain ⟨i, r⟩ := p
    exact ⟨i.x, i.C, i.es, _, r.vx, r.cls.toPlainCls, r.own, r.cls.noCodes, r.codes, rfl, r.isx⟩
theorem EvT.lenI {m : Loc} {sc : Scope} {xp pos : Pos} {a : PySem.Expr} {cs : List Int} (e : nsIn S.K mainGlobals "len" = some Option.none) (ha : EvT S n sc m a (.d (.list (cs.map .int)))) (hl : cs.length < 2 ^ 60) (hx : sc.names.lookup (Str.ofString "len") = some .globalImplicit)
    (h1 : ∀ env, starEach [a] env = [(false, eval a env)] := by intro _; with_unfolding_all rfl) : EvT S n sc m (.Call (.Name "len" xp) [a] [] pos) (it cs.length) := by
  have := EvT.len (xp := xp) (pos := pos) e ha (by simpa using hl) hx h1
  rwa [List.length_map] at this
theorem EvT.cast {m : Loc} {sc : Scope} {e : PySem.Expr} {p p' : PV} (h : EvT S n sc m e p) (q : p = p') : EvT S n sc m e p' := q ▸ h
theorem row_end {b : Int} {cs : List Int} (e : nsIn S.K mainGlobals "len" = some none) (hl : cs.length < 2 ^ 60) : CallT S (n + 1) (inCls 89 2) [selfRow S b cs] (.int (b + cs.length)) := by
  refine CallT.ofC (names := ["self"]) (out := .ret (.int (b + cs.length))) rfl ?_ (by kernel_rfl) (.inl rfl) ?_
  · intro _ _ _ _ _ _ _ vs h
    obtain ⟨a, rfl⟩ := vs1 h
    rfl
  · exact ExT.stop (StT.ret (EvT.add (row_place (by decide +kernel) (.head _)) (EvT.lenI e (row_codes (by decide +kernel) (.head _)) hl (by decide +kernel)))) trivial
noncomputable def codeAt (cs : List Int) (k : Int) : Int := if 0 ≤ k ∧ k < cs.length then cs.getD k.toNat 0 else -1
theorem row_code {b p : Int} {cs : List Int} (e : nsIn S.K mainGlobals "len" = some none) (hl : cs.length < 2 ^ 59) : CallT S (n + 1) (inCls 89 3) [selfRow S b cs, it p] (.int (codeAt cs (p - b))) := by
  refine CallT.ofC (names := ["self", "place"]) (out := .ret (.int (codeAt cs (p - b)))) rfl ?_ (by kernel_rfl) (.inl rfl) ?_
  · intro _ _ _ _ _ _ _ vs h
    obtain ⟨a, b, rfl⟩ := vs2 h
    rfl
  · have test : (icmp .LtE b p && icmp .Lt p (b + cs.length)) = decide (0 ≤ p - b ∧ p - b < cs.length) := by
      simp only [icmp, ← Bool.decide_and]
      congr 1
      apply propext
      omega
    by_cases h : 0 ≤ p - b ∧ p - b < cs.length
    · refine ExT.stop (StT.ite (b := true) (TrT.chain (row_place (by decide +kernel) (.head _)) (EvT.loc (by decide +kernel) (.tail _ (.head _))) (EvT.add (row_place (by decide +kernel) (.head _)) (EvT.lenI e (row_codes (by decide +kernel) (.head _)) (by omega) (by decide +kernel))) (by rw [test, decide_eq_true h])) ?_) trivial
      refine ExT.stop (StT.ret ?_) trivial
      refine EvT.itemL (k := (p - b).toNat) (row_codes (by decide +kernel) (.head _)) (EvT.sub (EvT.loc (by decide +kernel) (.tail _ (.head _))) (row_place (by decide +kernel) (.head _))) (by omega) (by omega) ?_
      have hk : (p - b).toNat < cs.length := by omega
      simp only [codeAt, if_pos h, List.getElem?_map, List.getElem?_eq_getElem hk, Option.map_some, List.getD_eq_getElem?_getD, Option.getD_some]
    · refine ExT.cons (StT.ite (b := false) (TrT.chain (row_place (by decide +kernel) (.head _)) (EvT.loc (by decide +kernel) (.tail _ (.head _))) (EvT.add (row_place (by decide +kernel) (.head _)) (EvT.lenI e (row_codes (by decide +kernel) (.head _)) (by omega) (by decide +kernel))) (by rw [test, decide_eq_false h])) ExT.nil) ?_
      refine ExT.stop (StT.ret ?_) trivial
      rw [codeAt, if_neg h]
      exact EvT.neg
end
section
variable {S : Sg} {n : Nat}
structure GapX where
  g : Addr
  Cg : Addr
  gs : List DictEntry
  l : Addr
  ts : Tok
  gen : Int
  te : Tok
structure GapE (S : Sg) (h : Heap) (v : Value) (gst : Int) (all : List Int) (i : GapX) : Prop where
  vx : v = .ref i.g
  cls : GapCls S i.Cg
  own : Own h i.g i.Cg i.gs
  cells : getL "cells" i.gs = some (some (.ref i.l))
  start : getL "gap_start" i.gs = some (some (.int gst i.ts))
  gend : getL "gap_end" i.gs = some (some (.int i.gen i.te))
  code : getL "code" i.gs = some none
  isx : IntsAt h i.l all
noncomputable def GapAt (S : Sg) (h : Heap) (v : Value) (gst : Int) (all : List Int) : Prop := ∃ i, GapE S h v gst all i
theorem gap_mono {gst : Int} {all : List Int} : Mono (fun h v => GapAt S h v gst all) := fun h h' v k o => by
  obtain ⟨i, r⟩ := o
  exact ⟨i, { r with own := r.own.keeps k, isx := r.isx.keeps k }⟩
theorem gap_code {gst k : Int} {all : List Int} {x : Int} (h0 : 0 ≤ k) (h1 : k < gst) (hx : all[k.toNat]? = some x) (hk : k < 1000000) : CallT S (n + 1) (inCls 42 2) [.o (fun h v => GapAt S h v gst all), it k] (.int x) := by
  refine CallT.ofC (names := ["self", "at"]) (out := .ret (.int x)) rfl ?_ (by kernel_rfl) (.inl rfl) ?_
  · intro _ _ _ _ _ _ _ vs h
    obtain ⟨a, b, rfl⟩ := vs2 h
    rfl
  · refine ExT.stop (StT.ite (b := true) (TrT.icmp (j := gst) (EvT.loc (by decide +kernel) (.tail _ (.head _))) (EvT.attr (EvT.loc (by decide +kernel) (.head _)) fun h v p => ?_) (by simp [icmp, h1])) ?_) trivial
    · obtain ⟨i, r⟩ := p
      exact ⟨i.g, i.Cg, i.gs, _, r.vx, r.cls.toPlainCls, r.own, r.cls.noStart, r.start, rfl, .int _ _⟩
    · refine ExT.stop (StT.ret ?_) trivial
      refine EvT.itemL (k := k.toNat) (xs := all.map .int) (EvT.attr (EvT.loc (by decide +kernel) (.head _)) fun h v p => ?_) (EvT.loc (by decide +kernel) (.tail _ (.head _))) (by omega) (by omega) (by simp [hx])
      obtain ⟨i, r⟩ := p
      exact ⟨i.g, i.Cg, i.gs, _, r.vx, r.cls.toPlainCls, r.own, r.cls.noCells, r.cells, rfl, r.isx⟩
theorem buf_mono {b : Int} {cs : List Int} : Mono (fun h v => BufAt S h v b cs) := fun h h' v k o => by
  obtain ⟨i, r⟩ := o
  exact ⟨i, { r with own := r.own.keeps k, gown := r.gown.keeps k, isx := r.isx.keeps k }⟩
theorem buf_begv {m : Loc} {sc : Scope} {b : Int} {cs : List Int} {p q : Pos} (hx : sc.names.lookup (Str.ofString "self") = some .local) (hm : (Str.ofString "self", selfBuf S b cs) ∈ m) : EvT S n sc m (.Attribute (.Name "self" p) "begv" q) (it b) :=
  EvT.attr (EvT.loc hx hm) fun h v p => by
    obtain ⟨i, r⟩ := p
    exact ⟨i.x, i.C, i.es, _, r.vx, r.cls.toPlainCls, r.own, r.cls.noBegv, r.begv, rfl, .int _ _⟩
theorem buf_zv {m : Loc} {sc : Scope} {b : Int} {cs : List Int} {p q : Pos} (hx : sc.names.lookup (Str.ofString "self") = some .local) (hm : (Str.ofString "self", selfBuf S b cs) ∈ m) : EvT S n sc m (.Attribute (.Name "self" p) "zv" q) (it (b + cs.length)) :=
  EvT.attr (EvT.loc hx hm) fun h v p => by
    obtain ⟨i, r⟩ := p
    exact ⟨i.x, i.C, i.es, _, r.vx, r.cls.toPlainCls, r.own, r.cls.noZv, r.zv, rfl, .int _ _⟩
theorem buf_begin {b : Int} {cs : List Int} : CallT S (n + 1) (inCls 48 3) [selfBuf S b cs] (.int b) := by
  refine CallT.ofC (names := ["self"]) (out := .ret (.int b)) rfl ?_ (by kernel_rfl) (.inl rfl) ?_
  · intro _ _ _ _ _ _ _ vs h
    obtain ⟨a, rfl⟩ := vs1 h
    rfl
  · exact ExT.stop (StT.ret (buf_begv (by decide +kernel) (.head _))) trivial
theorem buf_end {b : Int} {cs : List Int} : CallT S (n + 1) (inCls 48 4) [selfBuf S b cs] (.int (b + cs.length)) := by
  refine CallT.ofC (names := ["self"]) (out := .ret (.int (b + cs.length))) rfl ?_ (by kernel_rfl) (.inl rfl) ?_
  · intro _ _ _ _ _ _ _ vs h
    obtain ⟨a, rfl⟩ := vs1 h
    rfl
  · exact ExT.stop (StT.ret (buf_zv (by decide +kernel) (.head _))) trivial
theorem CallT.split {st : Stmt} {P : Heap → Value → Prop} {ι : Type} {R : ι → Heap → Value → Prop} {args : List PV} {res : PyData} (hm : ∀ i, Mono (R i)) (hs : ∀ h v, P h v → ∃ i, R i h v) (h : ∀ i, (∃ h v, R i h v) → CallT S n st (.o (R i) :: args) res) : CallT S n st (.o P :: args) res := by
  intro A s f vs R' room on fn hl hr kk
  cases vs with
  | nil => simp at hl
  | cons v vs =>
    have h0 := hr 0 v (.o P) rfl rfl
    obtain ⟨i, hi⟩ := hs _ _ h0.1
    refine h i ⟨_, _, hi⟩ A s f (v :: vs) R' room on fn (by simpa using hl) (fun j w pv ew ep => ?_) kk
    cases j with
    | zero => simp at ew ep; subst ew; subst ep; exact ⟨hi, hm i⟩
    | succ j => exact hr (j + 1) w pv (by simpa using ew) (by simpa using ep)
structure BufIx where
  gst : Int
  all : List Int
structure BufIY where
  x : Addr
  C : Addr
  es : List DictEntry
  g : Addr
  tb : Tok
  tz : Tok
structure BufIE (S : Sg) (b : Int) (cs : List Int) (i : BufIx) (h : Heap) (v : Value) (j : BufIY) : Prop where
  vx : v = .ref j.x
  cls : BufCls S j.C
  own : Own h j.x j.C j.es
  begv : getL "begv" j.es = some (some (.int b j.tb))
  zv : getL "zv" j.es = some (some (.int (b + cs.length) j.tz))
  text : getL "text" j.es = some (some (.ref j.g))
  gap : GapAt S h (.ref j.g) i.gst i.all
  low : b - 1 + cs.length ≤ i.gst
  high : i.gst ≤ i.all.length
  get : ∀ k : Nat, k < cs.length → i.all[(b - 1 + k).toNat]? = cs[k]?
noncomputable def BufIn (S : Sg) (b : Int) (cs : List Int) (i : BufIx) (h : Heap) (v : Value) : Prop := ∃ j, BufIE S b cs i h v j
theorem bufIn_mono {b : Int} {cs : List Int} (i : BufIx) : Mono (BufIn S b cs i) := fun h h' v k o => by
  obtain ⟨j, r⟩ := o
  exact ⟨j, { r with own := r.own.keeps k, gap := gap_mono h h' _ k r.gap }⟩
theorem buf_code {b p : Int} {cs : List Int} (hb : 1 ≤ b) (hl : b + cs.length ≤ 1000) : CallT S (n + 2) (inCls 48 6) [selfBuf S b cs, it p] (.int (codeAt cs (p - b))) := by
  refine CallT.split (R := BufIn S b cs) bufIn_mono (fun h v o => ?_) fun i hi => ?_
  · obtain ⟨i, r⟩ := o
    exact ⟨⟨i.gst, i.all⟩, ⟨i.x, i.C, i.es, i.g, i.tb, i.tz⟩, ⟨r.vx, r.cls, r.own, r.begv, r.zv, r.text, ⟨⟨i.g, i.Cg, i.gs, i.l, i.ts, i.gen, i.te⟩, ⟨rfl, r.gcls, r.gown, r.cells, r.start, r.gend, r.code, r.isx⟩⟩, r.low, r.high, r.get⟩⟩
  obtain ⟨_, _, _, i0⟩ := hi
  have i1 := i0.low
  have i2 := i0.high
  have i3 := i0.get
  have begv : ∀ {m : Loc} {sc : Scope} {p q : Pos}, sc.names.lookup (Str.ofString "self") = some .local → (Str.ofString "self", PV.o (BufIn S b cs i)) ∈ m → EvT S (n + 1) sc m (.Attribute (.Name "self" p) "begv" q) (it b) := fun hx hm =>
    EvT.attr (EvT.loc hx hm) fun h v p => by
      obtain ⟨j, r⟩ := p
      exact ⟨j.x, j.C, j.es, _, r.vx, r.cls.toPlainCls, r.own, r.cls.noBegv, r.begv, rfl, .int _ _⟩
  have zv : ∀ {m : Loc} {sc : Scope} {p q : Pos}, sc.names.lookup (Str.ofString "self") = some .local → (Str.ofString "self", PV.o (BufIn S b cs i)) ∈ m → EvT S (n + 1) sc m (.Attribute (.Name "self" p) "zv" q) (it (b + cs.length)) := fun hx hm =>
    EvT.attr (EvT.loc hx hm) fun h v p => by
      obtain ⟨j, r⟩ := p
      exact ⟨j.x, j.C, j.es, _, r.vx, r.cls.toPlainCls, r.own, r.cls.noZv, r.zv, rfl, .int _ _⟩
  have text : ∀ {m : Loc} {sc : Scope} {p q : Pos}, sc.names.lookup (Str.ofString "self") = some .local → (Str.ofString "self", PV.o (BufIn S b cs i)) ∈ m → EvT S (n + 1) sc m (.Attribute (.Name "self" p) "text" q) (.o (fun h v => GapAt S h v i.gst i.all)) := fun hx hm =>
    EvT.attr (EvT.loc hx hm) fun h v p => by
      obtain ⟨j, r⟩ := p
      exact ⟨j.x, j.C, j.es, _, r.vx, r.cls.toPlainCls, r.own, r.cls.noText, r.text, rfl, r.gap, gap_mono⟩
  refine CallT.ofC (names := ["self", "place"]) (out := .ret (.int (codeAt cs (p - b)))) rfl ?_ (by kernel_rfl) (.inl rfl) ?_
  · intro _ _ _ _ _ _ _ vs h
    obtain ⟨a, b, rfl⟩ := vs2 h
    rfl
  by_cases h : 0 ≤ p - b ∧ p - b < cs.length
  · have hk : (p - b).toNat < cs.length := by omega
    refine ExT.cons (StT.ite (b := false) (TrT.bops (TrsT.consO (b := false) (TrT.icmp (EvT.loc (by decide +kernel) (.tail _ (.head _))) (begv (by decide +kernel) (.head _)) (by simp [icmp]; omega)) fun _ => TrsT.consO (b := false) (TrT.icmp (EvT.loc (by decide +kernel) (.tail _ (.head _))) (zv (by decide +kernel) (.head _)) (by simp [icmp]; omega)) fun _ => TrsT.nilO)) ExT.nil) ?_
    refine ExT.stop (StT.ret ?_) trivial
    refine EvT.meth (P' := fun h v => GapAt S h v i.gst i.all) (pvs := [it (p - 1)]) (text (by decide +kernel) (.head _)) gap_mono (fun h v o => ?_) (EvsT.cons (EvT.sub (EvT.loc (by decide +kernel) (.tail _ (.head _))) EvT.int) .nil) (gap_code (k := p - 1) (by omega) (by omega) ?_ (by omega)) (.inr ⟨_, _, rfl, fun _ => rfl, fun _ _ => rfl⟩)
    · obtain ⟨j, r⟩ := id o
      obtain ⟨f, e1, e2⟩ := r.cls.mCode.at_
      exact ⟨j.g, j.Cg, j.gs, f, r.vx, r.cls.toPlainCls, r.own, e1, e2, r.code, o⟩
    · have := i3 (p - b).toNat hk
      rw [show b - 1 + ((p - b).toNat : Int) = p - 1 by omega] at this
      rw [this, codeAt, if_pos h, List.getD_eq_getElem?_getD, List.getElem?_eq_getElem hk]
      rfl
  · have ret : ExT S (n + 1) (stScope (inCls 48 6)) ((["self", "place"] : List Str).zip [PV.o (BufIn S b cs i), it p]) (stBody (inCls 48 6)) (.ret (.int (-1))) := by
      by_cases hp : p < b
      · exact ExT.stop (StT.ite (b := true) (TrT.bops (TrsT.consO (b := true) (c := true) (TrT.icmp (EvT.loc (by decide +kernel) (.tail _ (.head _))) (begv (by decide +kernel) (.head _)) (by simp [icmp]; omega)) fun h => nomatch h)) (ExT.stop (StT.ret EvT.neg) trivial)) trivial
      · exact ExT.stop (StT.ite (b := true) (TrT.bops (TrsT.consO (b := false) (c := true) (TrT.icmp (EvT.loc (by decide +kernel) (.tail _ (.head _))) (begv (by decide +kernel) (.head _)) (by simp [icmp]; omega)) fun _ =>
          TrsT.consO (b := true) (c := true) (TrT.icmp (EvT.loc (by decide +kernel) (.tail _ (.head _))) (zv (by decide +kernel) (.head _)) (by simp [icmp]; omega)) fun h => nomatch h)) (ExT.stop (StT.ret EvT.neg) trivial)) trivial
    rw [codeAt, if_neg h]
    exact ret
/-! what a view is asked -/
theorem EvT.vmeth {m : Loc} {sc : Scope} {recv : PySem.Expr} {name : Str} {ap pos : Pos} {b : Int} {cs : List Int} {args : List PySem.Expr} {pvs : List PV} {res : PyData} {pl : Env → Sem Bool} {sr sb : Stmt} (hr : EvT S n sc m recv (.v b cs))
    (mr : ∀ C, RowCls S C → MethAt S C name sr) (mb : ∀ C, BufCls S C → MethAt S C name sb) (nr : ∀ h v, RowAt S h v b cs → ∃ x C es, v = .ref x ∧ RowCls S C ∧ Own h x C es ∧ getL name es = some Option.none)
    (nb : ∀ h v, BufAt S h v b cs → ∃ x C es, v = .ref x ∧ BufCls S C ∧ Own h x C es ∧ getL name es = some Option.none)
    (ha : EvsT S n sc m args pvs) (cr : 1 ≤ b → b + cs.length ≤ 1000 → CallT S n sr (selfRow S b cs :: pvs) res) (cb : 1 ≤ b → b + cs.length ≤ 1000 → CallT S n sb (selfBuf S b cs :: pvs) res) (hc : PlainArgs args pvs)
    (he : ∀ env, eval (.Call (.Attribute recv name ap) args [] pos) env = (do
      let ov ← eval recv env
      standAt ap.atName
      let (f, first) ← holding [ov] (getMethod ov name (pl env))
      callWith pos f first (backTo pos (starEach args env)) []) := by intro _; with_unfolding_all rfl) : EvT S n sc m (.Call (.Attribute recv name ap) args [] pos) (.d res) := by
  intro A h₀ env s Q at_ F k
  refine MethodCall_ (pl := pl _) (hr A h₀ env s _ at_ F fun v s' e' r => ?_) (he _)
  have F' := F.keeps e'.keep
  have low := r.low
  have high := r.high
  rcases r.one with r | r
  · obtain ⟨x, C, es, rfl, rc, ow, hl⟩ := nr _ _ r
    obtain ⟨g, hf, fn⟩ := (mr C rc).at_
    obtain ⟨ox, nn, I⟩ := ow.keeps F'.old
    obtain ⟨mv, f', _⟩ := F'.fr
    refine method_inst f' at_.ok.k I (rc.get _) hf fn.fn hl ?_
    refine call_core at_ F' fn (first := [.ref x]) (fpv := [selfRow S b cs]) rfl (fun i v pv ev ep => ?_) ha (cr low high) (fun v s'' e'' r => k v s'' (e'.trans e'') r) hc
    cases i with
    | zero => simp at ev ep; subst ev; subst ep; exact ⟨r, row_mono⟩
    | succ i => simp at ev
  · obtain ⟨x, C, es, rfl, rc, ow, hl⟩ := nb _ _ r
    obtain ⟨g, hf, fn⟩ := (mb C rc).at_
    obtain ⟨ox, nn, I⟩ := ow.keeps F'.old
    obtain ⟨mv, f', _⟩ := F'.fr
    refine method_inst f' at_.ok.k I (rc.get _) hf fn.fn hl ?_
    refine call_core at_ F' fn (first := [.ref x]) (fpv := [selfBuf S b cs]) rfl (fun i v pv ev ep => ?_) ha (cb low high) (fun v s'' e'' r => k v s'' (e'.trans e'') r) hc
    cases i with
    | zero => simp at ev ep; subst ev; subst ep; exact ⟨r, buf_mono⟩
    | succ i => simp at ev
theorem EvT.vbegin {pl : Env → Sem Bool} {m : Loc} {sc : Scope} {recv : PySem.Expr} {ap pos : Pos} {b : Int} {cs : List Int} (hr : EvT S (n + 1) sc m recv (.v b cs))
    (he : ∀ env, eval (.Call (.Attribute recv "begin" ap) [] [] pos) env = (do
      let ov ← eval recv env
      standAt ap.atName
      let (f, first) ← holding [ov] (getMethod ov "begin" (pl env))
      callWith pos f first (backTo pos (starEach [] env)) []) := by intro _; with_unfolding_all rfl) : EvT S (n + 1) sc m (.Call (.Attribute recv "begin" ap) [] [] pos) (it b) :=
  EvT.vmeth hr (fun C c => c.mBegin) (fun C c => c.mBegin) (fun h v o => by
    obtain ⟨i, r⟩ := o
    exact ⟨i.x, i.C, i.es, r.vx, r.cls, r.own, r.begin⟩) (fun h v o => by
    obtain ⟨i, r⟩ := o
    exact ⟨i.x, i.C, i.es, r.vx, r.cls, r.own, r.begin⟩) .nil (fun _ _ => row_begin) (fun _ _ => buf_begin) (.inl ⟨rfl, rfl⟩) he
theorem EvT.vend {pl : Env → Sem Bool} {m : Loc} {sc : Scope} {recv : PySem.Expr} {ap pos : Pos} {b : Int} {cs : List Int} (e : nsIn S.K mainGlobals "len" = some Option.none) (hr : EvT S (n + 1) sc m recv (.v b cs))
    (he : ∀ env, eval (.Call (.Attribute recv "end" ap) [] [] pos) env = (do
      let ov ← eval recv env
      standAt ap.atName
      let (f, first) ← holding [ov] (getMethod ov "end" (pl env))
      callWith pos f first (backTo pos (starEach [] env)) []) := by intro _; with_unfolding_all rfl) : EvT S (n + 1) sc m (.Call (.Attribute recv "end" ap) [] [] pos) (it (b + cs.length)) :=
  EvT.vmeth hr (fun C c => c.mEnd) (fun C c => c.mEnd) (fun h v o => by
    obtain ⟨i, r⟩ := o
    exact ⟨i.x, i.C, i.es, r.vx, r.cls, r.own, r.end_⟩) (fun h v o => by
    obtain ⟨i, r⟩ := o
    exact ⟨i.x, i.C, i.es, r.vx, r.cls, r.own, r.end_⟩) .nil (fun _ _ => row_end e (by omega)) (fun _ _ => buf_end) (.inl ⟨rfl, rfl⟩) he
theorem EvT.vcode {pl : Env → Sem Bool} {m : Loc} {sc : Scope} {recv a : PySem.Expr} {ap pos : Pos} {b p c : Int} {cs : List Int} (e : nsIn S.K mainGlobals "len" = some Option.none) (hr : EvT S (n + 2) sc m recv (.v b cs)) (ha : EvT S (n + 2) sc m a (it p)) (hc : codeAt cs (p - b) = c)
    (he : ∀ env, eval (.Call (.Attribute recv "code_at" ap) [a] [] pos) env = (do
      let ov ← eval recv env
      standAt ap.atName
      let (f, first) ← holding [ov] (getMethod ov "code_at" (pl env))
      callWith pos f first (backTo pos (starEach [a] env)) []) := by intro _; with_unfolding_all rfl)
    (h1 : ∀ env, starEach [a] env = [(false, eval a env)] := by intro _; with_unfolding_all rfl) : EvT S (n + 2) sc m (.Call (.Attribute recv "code_at" ap) [a] [] pos) (it c) :=
  hc ▸ EvT.vmeth hr (fun C c => c.mCode) (fun C c => c.mCode) (fun h v o => by
    obtain ⟨i, r⟩ := o
    exact ⟨i.x, i.C, i.es, r.vx, r.cls, r.own, r.code_at⟩) (fun h v o => by
    obtain ⟨i, r⟩ := o
    exact ⟨i.x, i.C, i.es, r.vx, r.cls, r.own, r.code_at⟩) (EvsT.cons ha .nil (fun env => by rw [h1]; rfl)) (fun _ _ => row_code e (by omega)) (fun _ _ => buf_code (by omega) (by omega)) (.inr ⟨_, _, rfl, fun env => by rw [h1]; rfl, fun _ _ => rfl⟩) he
end
structure DefOk (st : Stmt) (names : List Str) : Prop where
  bind : ∀ name qual doc pm an cdv ct vs, vs.length = names.length → bindArgs (fnX name qual (stArgs st) (stBody st) (stScope st) [] .none .none doc pm an cdv ct) ⟨vs, []⟩ = pure (names.zip vs)
  nd : names.Nodup
  loc : ∀ x ∈ names, (stScope st).names.lookup x = some .local
  cell : ∀ x ∈ (stScope st).names, x.2 ≠ .cell
  co : (stScope st).isCoroutine = false
  gen : (stScope st).isGenerator = false
  k : (stScope st).kind = .function
theorem DefOk.of {st : Stmt} {names : List Str} (bind : ∀ name qual doc pm an cdv ct vs, vs.length = names.length → bindArgs (fnX name qual (stArgs st) (stBody st) (stScope st) [] .none .none doc pm an cdv ct) ⟨vs, []⟩ = pure (names.zip vs)) (h : defCheck st names = true) : DefOk st names :=
  let c := defSc h
  ⟨bind, c.nd, c.loc, c.cell, c.co, c.gen, c.k⟩
theorem zip_parts : ∀ m : Loc, (m.map (·.1)).zip (m.map (·.2)) = m
  | [] => rfl
  | (x, p) :: r => by simp [zip_parts r]
theorem CallT.mk {S : Sg} {n : Nat} {st : Stmt} (m : Loc) {args : List PV} {res : PyData} (ok : DefOk st (m.map (·.1))) (ha : m.map (·.2) = args) (h : ExT S n (stScope st) m (stBody st) (.ret res)) : CallT S (n + 1) st args res := by
  subst ha
  exact CallT.of (names := m.map (·.1)) (by simp) ok.bind ok.nd ok.loc ok.cell ok.co ok.gen ok.k (.inl rfl) (by rw [zip_parts]; exact h)
theorem CallT.up {S : Sg} {n k : Nat} {st : Stmt} {args : List PV} {res : PyData} (h : CallT S k st args res) (le : k ≤ n := by decide) : CallT S n st args res :=
  fun A s f vs R room on fn hl hr kk => h A s f vs R (room.le le) on fn hl hr kk
theorem ExT.forget {S : Sg} {n : Nat} {sc : Scope} {m m₂ : Loc} {ss : List Stmt} {out : Out} (hs : ∀ p ∈ m₂, p ∈ m) (h : ExT S n sc m₂ ss out) : ExT S n sc m ss out :=
  fun A h₀ env s Q at_ F k => h A h₀ env s Q at_ (F.drop hs) k
theorem WhT.forget {S : Sg} {n : Nat} {sc : Scope} {m m₂ : Loc} {t : PySem.Expr} {ss : List Stmt} {out : Out} (hs : ∀ p ∈ m₂, p ∈ m) (h : WhT S n sc m₂ t ss out) : WhT S n sc m t ss out :=
  fun A h₀ env s Q at_ F k => h A h₀ env s Q at_ (F.drop hs) k
theorem EvT.castI {S : Sg} {n : Nat} {sc : Scope} {m : Loc} {e : PySem.Expr} {x y : Int} (h : EvT S n sc m e (it x)) (q : x = y) : EvT S n sc m e (it y) := q ▸ h
theorem EvT.castB {S : Sg} {n : Nat} {sc : Scope} {m : Loc} {e : PySem.Expr} {x y : Bool} (h : EvT S n sc m e (bl x)) (q : x = y) : EvT S n sc m e (bl y) := q ▸ h
theorem EvT.castD {S : Sg} {n : Nat} {sc : Scope} {m : Loc} {e : PySem.Expr} {x y : PyData} (h : EvT S n sc m e (.d x)) (q : x = y) : EvT S n sc m e (.d y) := q ▸ h
noncomputable def GInt (S : Sg) (x : Str) (i : Int) : Prop := ∃ t, nsIn S.K mainGlobals x = some (some (.int i t))
noncomputable def GStr (S : Sg) (x y : Str) : Prop := ∃ t, nsIn S.K mainGlobals x = some (some (.str y t))
noncomputable def GTup (S : Sg) (x : Str) (ns : List Int) : Prop := ∃ v, nsIn S.K mainGlobals x = some (some v) ∧ ∀ h, S.K.In h → Rd h v (.tuple (ns.map .int))
theorem EvT.gint {S : Sg} {n : Nat} {sc : Scope} {m : Loc} {x : Str} {pos : Pos} {i : Int} (g : GInt S x i) (hx : sc.names.lookup x = some .globalImplicit) (hd : (x == ("__debug__" : Str)) = false) : EvT S n sc m (.Name x pos) (it i) :=
  let ⟨_, e⟩ := g; EvT.globI e hx hd
theorem EvT.gstr {S : Sg} {n : Nat} {sc : Scope} {m : Loc} {x y : Str} {pos : Pos} (g : GStr S x y) (hx : sc.names.lookup x = some .globalImplicit) (hd : (x == ("__debug__" : Str)) = false) : EvT S n sc m (.Name x pos) (.d (.str y)) :=
  let ⟨_, e⟩ := g; EvT.globS e hx hd
theorem EvT.gtup {S : Sg} {n : Nat} {sc : Scope} {m : Loc} {x : Str} {ns : List Int} {pos : Pos} (g : GTup S x ns) (hx : sc.names.lookup x = some .globalImplicit) (hd : (x == ("__debug__" : Str)) = false) : EvT S n sc m (.Name x pos) (.d (.tuple (ns.map .int))) :=
  let ⟨_, e, k⟩ := g; EvT.globD e k hx hd
structure KF (S : Sg) : Prop where
  b_len : nsIn S.K mainGlobals "len" = some none
  b_max : nsIn S.K mainGlobals "max" = some none
  b_min : nsIn S.K mainGlobals "min" = some none
  b_abs : nsIn S.K mainGlobals "abs" = some none
  b_int : nsIn S.K mainGlobals "int" = some none
  b_range : nsIn S.K mainGlobals "range" = some none
  b_list : nsIn S.K mainGlobals "list" = some none
  c_NEWLINE : GInt S "NEWLINE" 10
  c_SPACE : GInt S "SPACE" 32
  c_TAB : GInt S "TAB" 9
  c_FORM_FEED : GInt S "FORM_FEED" 12
  c_DELETE : GInt S "DELETE" 127
  c_LONGEST : GInt S "LONGEST" 4194304
  c_AT_BEGIN : GStr S "AT_BEGIN" "beginning-of-buffer"
  c_AT_END : GStr S "AT_END" "end-of-buffer"
  c_BLANKS : GTup S "BLANKS" [32, 9]
  c_PARTING : GTup S "PARTING" [32, 9, 12]
  c_STOPS : GTup S "STOPS" [46, 63, 33]
  c_CLOSING : GTup S "CLOSING" [93, 34, 39, 41, 125]
  c_SPACES : GTup S "SPACES" [32, 9, 10]
  f_line_start : GFn S "line_start" (topStmt 6)
  f_line_end : GFn S "line_end" (topStmt 7)
  f_next_start : GFn S "next_start" (topStmt 8)
  f_lines_target : GFn S "lines_target" (topStmt 9)
  f_blanks_end : GFn S "blanks_end" (topStmt 10)
  f_blanks_begin : GFn S "blanks_begin" (topStmt 11)
  f_is_line_end : GFn S "is_line_end" (topStmt 12)
  f_is_blank_line : GFn S "is_blank_line" (topStmt 13)
  f_parts : GFn S "parts" (topStmt 17)
  f_begins : GFn S "begins" (topStmt 18)
  f_past_parting : GFn S "past_parting" (topStmt 21)
  f_one_forward : GFn S "one_forward" (topStmt 22)
  f_is_behind_empty : GFn S "is_behind_empty" (topStmt 23)
  f_first_line : GFn S "first_line" (topStmt 24)
  f_one_backward : GFn S "one_backward" (topStmt 25)
  f_paragraphs_target : GFn S "paragraphs_target" (topStmt 26)
  f_text_end : GFn S "text_end" (topStmt 27)
  f_text_begin : GFn S "text_begin" (topStmt 28)
  f_paragraph_bounds : GFn S "paragraph_bounds" (topStmt 29)
  f_closed_at : GFn S "closed_at" (topStmt 34)
  f_gap_behind : GFn S "gap_behind" (topStmt 35)
  f_end_match : GFn S "end_match" (topStmt 36)
  f_spaces_begin : GFn S "spaces_begin" (topStmt 37)
  f_one_forward_sentence : GFn S "one_forward_sentence" (topStmt 38)
  f_one_backward_sentence : GFn S "one_backward_sentence" (topStmt 39)
  f_sentences_target : GFn S "sentences_target" (topStmt 40)
  f_clamped : GFn S "clamped" (topStmt 52)
  f_chars_target : GFn S "chars_target" (topStmt 53)
  f_tenths_of : GFn S "tenths_of" (topStmt 54)
  f_begin_target : GFn S "begin_target" (topStmt 55)
  f_end_target : GFn S "end_target" (topStmt 56)
  f_line_number_target : GFn S "line_number_target" (topStmt 57)
  f_width_at : GFn S "width_at" (topStmt 60)
  f_column_at : GFn S "column_at" (topStmt 61)
  f_place_at : GFn S "place_at" (topStmt 62)
  f_indentation_at : GFn S "indentation_at" (topStmt 63)
  f_horizontal_edit : GFn S "horizontal_edit" (topStmt 65)
  f_just_edit : GFn S "just_edit" (topStmt 66)
  f_blank_run : GFn S "blank_run" (topStmt 67)
  f_behind_blanks : GFn S "behind_blanks" (topStmt 68)
  f_blank_lines_edits : GFn S "blank_lines_edits" (topStmt 71)
  f_trailing_edits : GFn S "trailing_edits" (topStmt 72)
  f_need_writable : GFn S "need_writable" (topStmt 77)
  f_need_room : GFn S "need_room" (topStmt 78)
  f_reached : GFn S "reached" (topStmt 79)
  f_tell_ahead : GFn S "tell_ahead" (topStmt 80)
  f_tell_behind : GFn S "tell_behind" (topStmt 81)
  f_text_in : GFn S "text_in" (topStmt 82)
  f_hung_in : GFn S "hung_in" (topStmt 83)
  f_put_in : GFn S "put_in" (topStmt 84)
  f_narrow : GFn S "narrow" (topStmt 87)
  f_codes_between : GFn S "codes_between" (topStmt 91)
  f_in_order : GFn S "in_order" (topStmt 92)
  f_regions_edit : GFn S "regions_edit" (topStmt 93)
  f_unit_around : GFn S "unit_around" (topStmt 94)
  f_units_regions : GFn S "units_regions" (topStmt 95)
  f_by_chars : GFn S "by_chars" (topStmt 96)
  f_chars_regions : GFn S "chars_regions" (topStmt 97)
  f_chars_edit : GFn S "chars_edit" (topStmt 98)
  f_lines_ahead : GFn S "lines_ahead" (topStmt 99)
  f_lines_edit : GFn S "lines_edit" (topStmt 100)
  f_law_draw : GFn S "_law_draw" (topStmt 102)
  f_law_places : GFn S "_law_places" (topStmt 103)
  f_law_others : GFn S "_law_others" (topStmt 104)
  f_law_chars : GFn S "_law_chars" (topStmt 105)
  f_line_behind_paragraphs : GFn S "line_behind_paragraphs" (topStmt 19)
  f_line_behind_deletion : GFn S "line_behind_deletion" (topStmt 69)
section
variable {S : Sg} {k : Nat} {sc : Scope} {m m' : Loc}
theorem TrT.andF {t : PySem.Expr} {rest : List PySem.Expr} {pos : Pos} (h : TrT S k sc m t false) : TrT S k sc m (.BoolOp .And (t :: rest) pos) false :=
  TrT.bops (TrsT.consA (b := false) (c := false) h fun e => nomatch e)
theorem TrT.and2 {t u : PySem.Expr} {pos : Pos} {b c : Bool} (h : TrT S k sc m t b) (g : b = true → TrT S k sc m u c) : TrT S k sc m (.BoolOp .And [t, u] pos) (b && c) :=
  TrT.bops (TrsT.consA h fun e => by have := TrsT.consA (b := c) (c := true) (g e) fun _ => TrsT.nilA; rwa [Bool.and_true] at this)
theorem TrT.or2 {t u : PySem.Expr} {pos : Pos} {b c : Bool} (h : TrT S k sc m t b) (g : b = false → TrT S k sc m u c) : TrT S k sc m (.BoolOp .Or [t, u] pos) (b || c) :=
  TrT.bops (TrsT.consO h fun e => by have := TrsT.consO (b := c) (c := false) (g e) fun _ => TrsT.nilO; rwa [Bool.or_false] at this)
theorem TrT.or3 {t u v : PySem.Expr} {pos : Pos} {b c d : Bool} (h : TrT S k sc m t b) (g : b = false → TrT S k sc m u c) (f : b = false → c = false → TrT S k sc m v d) : TrT S k sc m (.BoolOp .Or [t, u, v] pos) (b || (c || d)) :=
  TrT.bops (TrsT.consO h fun e => TrsT.consO (g e) fun e' => by have := TrsT.consO (b := d) (c := false) (f e e') fun _ => TrsT.nilO; rwa [Bool.or_false] at this)
theorem TrT.cast {t : PySem.Expr} {b c : Bool} (h : TrT S k sc m t b) (e : b = c) : TrT S k sc m t c := e ▸ h
noncomputable def scanF (p : Int → Bool) (cs : List Int) (lim i : Nat) : Nat := if i < lim ∧ p (codeAt cs i) = true then scanF p cs lim (i + 1) else i
termination_by lim - i
noncomputable def scanB (p : Int → Bool) (cs : List Int) (low : Nat) : Nat → Nat
  | 0 => 0
  | i + 1 => if low < i + 1 ∧ p (codeAt cs i) = true then scanB p cs low i else i + 1
theorem scanF_ge {p : Int → Bool} {cs : List Int} {lim : Nat} (i : Nat) : i ≤ scanF p cs lim i := by
  generalize h : lim - i = d
  induction d generalizing i with
  | zero => rw [scanF, if_neg (by omega)]; exact Nat.le_refl _
  | succ d ih =>
    rw [scanF]
    split
    · exact Nat.le_trans (Nat.le_succ _) (ih (i + 1) (by omega))
    · exact Nat.le_refl _
theorem scanF_le {p : Int → Bool} {cs : List Int} {lim : Nat} (i : Nat) (hi : i ≤ lim) : scanF p cs lim i ≤ lim := by
  generalize h : lim - i = d
  induction d generalizing i with
  | zero => rw [scanF, if_neg (by omega)]; exact hi
  | succ d ih =>
    rw [scanF]
    split
    · exact ih (i + 1) (by omega) (by omega)
    · exact hi
theorem scanB_le {p : Int → Bool} {cs : List Int} {low : Nat} : ∀ i : Nat, scanB p cs low i ≤ i
  | 0 => Nat.le_refl _
  | i + 1 => by
    unfold scanB
    split
    · exact Nat.le_succ_of_le (scanB_le i)
    · exact Nat.le_refl _
theorem WhT.up {cs : List Int} {lim : Nat} {p : Int → Bool} {test : PySem.Expr} {body : List Stmt} (M : Nat → Loc) (ht : ∀ i ≤ lim, TrT S k sc (M i) test (decide (i < lim) && p (codeAt cs i))) (hb : ∀ i < lim, ExT S k sc (M i) body (.next (M (i + 1)))) :
    ∀ i ≤ lim, WhT S k sc (M i) test body (.next (M (scanF p cs lim i))) := by
  intro i hi
  generalize h : lim - i = d
  induction d generalizing i with
  | zero =>
    rw [scanF, if_neg (by omega)]
    exact WhT.done ((ht i hi).cast (by rw [decide_eq_false (by omega)]; rfl))
  | succ d ih =>
    rw [scanF]
    by_cases q : p (codeAt cs i) = true
    · rw [if_pos ⟨by omega, q⟩]
      exact WhT.step ((ht i hi).cast (by rw [decide_eq_true (by omega), q]; rfl)) (hb i (by omega)) (ih (i + 1) (by omega) (by omega))
    · rw [if_neg (fun x => q x.2)]
      exact WhT.done ((ht i hi).cast (by rw [Bool.not_eq_true] at q; rw [q, Bool.and_false]))
theorem WhT.down {cs : List Int} {low top : Nat} {p : Int → Bool} {test : PySem.Expr} {body : List Stmt} (M : Nat → Loc) (ht : ∀ i ≤ top, TrT S k sc (M i) test (decide (low < i) && p (codeAt cs ((i : Int) - 1)))) (hb : ∀ i, i + 1 ≤ top → ExT S k sc (M (i + 1)) body (.next (M i))) :
    ∀ i ≤ top, WhT S k sc (M i) test body (.next (M (scanB p cs low i))) := by
  intro i hi
  induction i with
  | zero => exact WhT.done ((ht 0 hi).cast (by rw [decide_eq_false (by omega)]; rfl))
  | succ i ih =>
    have e : (((i + 1 : Nat) : Int) - 1) = i := by omega
    rw [scanB]
    by_cases q : low < i + 1 ∧ p (codeAt cs i) = true
    · rw [if_pos q]
      exact WhT.step ((ht _ hi).cast (by rw [decide_eq_true q.1, e, q.2]; rfl)) (hb i hi) (ih (by omega))
    · rw [if_neg q]
      refine WhT.done ((ht _ hi).cast ?_)
      rw [e]
      cases h1 : decide (low < i + 1) with
      | false => rfl
      | true =>
        cases h2 : p (codeAt cs i) with
        | false => rfl
        | true => exact absurd ⟨of_decide_eq_true h1, h2⟩ q
end
section
variable {S : Sg} {k : Nat} {sc : Scope} {m m' : Loc}
theorem EvT.call1 {x : Str} {xp pos : Pos} {st : Stmt} {a : PySem.Expr} {p : PV} {res : PyData} (g : GFn S x st) (h1 : EvT S k sc m a p) (c : CallT S k st [p] res) (hx : sc.names.lookup x = some .globalImplicit)
    (s1 : ∀ env, starEach [a] env = [(false, eval a env)] := by intro _; with_unfolding_all rfl)
    (he : ∀ env, eval (.Call (.Name x xp) [a] [] pos) env = (do callWith pos (← eval (.Name x xp) env) [] (backTo pos (starEach [a] env)) (backToKw pos (keywordEach [] env))) := by intro _; with_unfolding_all rfl)
    (hd : (x == ("__debug__" : Str)) = false := by decide +kernel) : EvT S k sc m (.Call (.Name x xp) [a] [] pos) (.d res) :=
  EvT.callG g (EvsT.cons h1 .nil (fun env => by rw [s1]; rfl)) c hx (.inr ⟨_, _, rfl, fun env => by rw [s1]; rfl, fun _ _ => rfl⟩) he hd
theorem EvT.call2 {x : Str} {xp pos : Pos} {st : Stmt} {a b : PySem.Expr} {p q : PV} {res : PyData} (g : GFn S x st) (h1 : EvT S k sc m a p) (h2 : EvT S k sc m b q) (c : CallT S k st [p, q] res) (hx : sc.names.lookup x = some .globalImplicit)
    (s1 : ∀ env, starEach [a, b] env = [(false, eval a env), (false, eval b env)] := by intro _; with_unfolding_all rfl) (s2 : ∀ env, starEach [b] env = [(false, eval b env)] := by intro _; with_unfolding_all rfl)
    (he : ∀ env, eval (.Call (.Name x xp) [a, b] [] pos) env = (do callWith pos (← eval (.Name x xp) env) [] (backTo pos (starEach [a, b] env)) (backToKw pos (keywordEach [] env))) := by intro _; with_unfolding_all rfl)
    (hd : (x == ("__debug__" : Str)) = false := by decide +kernel) : EvT S k sc m (.Call (.Name x xp) [a, b] [] pos) (.d res) :=
  EvT.callG g (EvsT.cons h1 (EvsT.cons h2 .nil (fun env => by rw [s2]; rfl)) (fun env => by rw [s1, s2])) c hx (.inr ⟨_, _, rfl, fun env => by rw [s1, s2], fun env _ => by rw [s2]; rfl⟩) he hd
theorem EvT.call3 {x : Str} {xp pos : Pos} {st : Stmt} {a b d : PySem.Expr} {p q r : PV} {res : PyData} (g : GFn S x st) (h1 : EvT S k sc m a p) (h2 : EvT S k sc m b q) (h3 : EvT S k sc m d r) (c : CallT S k st [p, q, r] res) (hx : sc.names.lookup x = some .globalImplicit)
    (s1 : ∀ env, starEach [a, b, d] env = [(false, eval a env), (false, eval b env), (false, eval d env)] := by intro _; with_unfolding_all rfl) (s2 : ∀ env, starEach [b, d] env = [(false, eval b env), (false, eval d env)] := by intro _; with_unfolding_all rfl)
    (s3 : ∀ env, starEach [d] env = [(false, eval d env)] := by intro _; with_unfolding_all rfl)
    (he : ∀ env, eval (.Call (.Name x xp) [a, b, d] [] pos) env = (do callWith pos (← eval (.Name x xp) env) [] (backTo pos (starEach [a, b, d] env)) (backToKw pos (keywordEach [] env))) := by intro _; with_unfolding_all rfl)
    (hd : (x == ("__debug__" : Str)) = false := by decide +kernel) : EvT S k sc m (.Call (.Name x xp) [a, b, d] [] pos) (.d res) :=
  EvT.callG g (EvsT.cons h1 (EvsT.cons h2 (EvsT.cons h3 .nil (fun env => by rw [s3]; rfl)) (fun env => by rw [s2, s3])) (fun env => by rw [s1, s2])) c hx (.inr ⟨_, _, rfl, fun env => by rw [s1, s2], fun env _ => by rw [s2]; rfl⟩) he hd
theorem EvT.call4 {x : Str} {xp pos : Pos} {st : Stmt} {a b d e : PySem.Expr} {p q r t : PV} {res : PyData} (g : GFn S x st) (h1 : EvT S k sc m a p) (h2 : EvT S k sc m b q) (h3 : EvT S k sc m d r) (h4 : EvT S k sc m e t) (c : CallT S k st [p, q, r, t] res) (hx : sc.names.lookup x = some .globalImplicit)
    (s1 : ∀ env, starEach [a, b, d, e] env = [(false, eval a env), (false, eval b env), (false, eval d env), (false, eval e env)] := by intro _; with_unfolding_all rfl) (s2 : ∀ env, starEach [b, d, e] env = [(false, eval b env), (false, eval d env), (false, eval e env)] := by intro _; with_unfolding_all rfl)
    (s3 : ∀ env, starEach [d, e] env = [(false, eval d env), (false, eval e env)] := by intro _; with_unfolding_all rfl) (s4 : ∀ env, starEach [e] env = [(false, eval e env)] := by intro _; with_unfolding_all rfl)
    (he : ∀ env, eval (.Call (.Name x xp) [a, b, d, e] [] pos) env = (do callWith pos (← eval (.Name x xp) env) [] (backTo pos (starEach [a, b, d, e] env)) (backToKw pos (keywordEach [] env))) := by intro _; with_unfolding_all rfl)
    (hd : (x == ("__debug__" : Str)) = false := by decide +kernel) : EvT S k sc m (.Call (.Name x xp) [a, b, d, e] [] pos) (.d res) :=
  EvT.callG g (EvsT.cons h1 (EvsT.cons h2 (EvsT.cons h3 (EvsT.cons h4 .nil (fun env => by rw [s4]; rfl)) (fun env => by rw [s3, s4])) (fun env => by rw [s2, s3])) (fun env => by rw [s1, s2])) c hx (.inr ⟨_, _, rfl, fun env => by rw [s1, s2], fun env _ => by rw [s2]; rfl⟩) he hd
theorem StT.asg {x : Str} {p pos : Pos} {e : PySem.Expr} {i j : Int} (t : SetAt m x (it j) m') (h : EvT S k sc m e (it i)) (q : i = j) (hx : sc.names.lookup x = some .local)
    (hs : ∀ env, swapsWith e (some (.Name x p)) pos.line env = pure false := by intro _; with_unfolding_all rfl) : StT S k sc m (.Assign [.Name x p] e pos) (.next m') := StT.assign (q ▸ h) t hx hs
theorem StT.asgD {x : Str} {p pos : Pos} {e : PySem.Expr} {pv : PV} (t : SetAt m x pv m') (h : EvT S k sc m e pv) (hx : sc.names.lookup x = some .local)
    (hs : ∀ env, swapsWith e (some (.Name x p)) pos.line env = pure false := by intro _; with_unfolding_all rfl) : StT S k sc m (.Assign [.Name x p] e pos) (.next m') := StT.assign h t hx hs
end
section
variable {S : Sg} {k : Nat} {sc : Scope} {m m' m₁ m₂ : Loc}
theorem EvT.tup2 {a b : PySem.Expr} {x y : PyData} {k' : Nat} {pos : Pos} (h1 : EvT S k sc m a (.d x)) (h2 : EvT S k sc m b (.d y)) (s1 : ∀ env, starEach [a, b] env = [(false, eval a env), (false, eval b env)] := by intro _; with_unfolding_all rfl) (s2 : ∀ env, starEach [b] env = [(false, eval b env)] := by intro _; with_unfolding_all rfl) :
    EvT S k sc m (.Tuple [a, b] k' pos) (.d (.tuple [x, y])) := EvT.tup (xs := [x, y]) (EvsT.cons h1 (EvsT.cons h2 .nil (fun env => by rw [s2]; rfl)) (fun env => by rw [s1, s2])) (by simp)
theorem EvT.tup3 {a b c : PySem.Expr} {x y z : PyData} {k' : Nat} {pos : Pos} (h1 : EvT S k sc m a (.d x)) (h2 : EvT S k sc m b (.d y)) (h3 : EvT S k sc m c (.d z)) (s1 : ∀ env, starEach [a, b, c] env = [(false, eval a env), (false, eval b env), (false, eval c env)] := by intro _; with_unfolding_all rfl)
    (s2 : ∀ env, starEach [b, c] env = [(false, eval b env), (false, eval c env)] := by intro _; with_unfolding_all rfl) (s3 : ∀ env, starEach [c] env = [(false, eval c env)] := by intro _; with_unfolding_all rfl) :
    EvT S k sc m (.Tuple [a, b, c] k' pos) (.d (.tuple [x, y, z])) := EvT.tup (xs := [x, y, z]) (EvsT.cons h1 (EvsT.cons h2 (EvsT.cons h3 .nil (fun env => by rw [s3]; rfl)) (fun env => by rw [s2, s3])) (fun env => by rw [s1, s2])) (by simp)
theorem EvT.lst0 {pos : Pos} : EvT S k sc m (.List [] pos) (.d (.list [])) := EvT.lst (xs := []) .nil (by simp)
theorem EvT.lst1 {a : PySem.Expr} {x : PyData} {pos : Pos} (h1 : EvT S k sc m a (.d x)) (s1 : ∀ env, starEach [a] env = [(false, eval a env)] := by intro _; with_unfolding_all rfl) : EvT S k sc m (.List [a] pos) (.d (.list [x])) :=
  EvT.lst (xs := [x]) (EvsT.cons h1 .nil (fun env => by rw [s1]; rfl)) (by simp)
theorem EvT.lst2 {a b : PySem.Expr} {x y : PyData} {pos : Pos} (h1 : EvT S k sc m a (.d x)) (h2 : EvT S k sc m b (.d y)) (s1 : ∀ env, starEach [a, b] env = [(false, eval a env), (false, eval b env)] := by intro _; with_unfolding_all rfl) (s2 : ∀ env, starEach [b] env = [(false, eval b env)] := by intro _; with_unfolding_all rfl) :
    EvT S k sc m (.List [a, b] pos) (.d (.list [x, y])) := EvT.lst (xs := [x, y]) (EvsT.cons h1 (EvsT.cons h2 .nil (fun env => by rw [s2]; rfl)) (fun env => by rw [s1, s2])) (by simp)
theorem StT.unpack2 {x y : Str} {px py tp pos : Pos} {k' : Nat} {e : PySem.Expr} {p q : PyData} (h : EvT S k sc m e (.d (.tuple [p, q]))) (t₁ : SetAt m x (.d p) m₁) (t₂ : SetAt m₁ y (.d q) m₂)
    (hx : sc.names.lookup x = some .local) (hy : sc.names.lookup y = some .local)
    (hs : ∀ env, swapsWithSole [.Tuple [.Name x px, .Name y py] k' tp] e pos.line env = pure false := by intro _; with_unfolding_all rfl)
    (hw : ∀ env, swappedStores [.Tuple [.Name x px, .Name y py] k' tp] e env = pure Option.none := by intro _; with_unfolding_all rfl) :
    StT S k sc m (.Assign [.Tuple [.Name x px, .Name y py] k' tp] e pos) (.next m₂) := by
  intro A h₀ env s Q at_ F kk
  refine Assign_Tuple (h A h₀ env s _ at_ F fun v s₁ e₁ r₁ => ?_) (hs _) (hw _)
  obtain ⟨a, vs, n, rfl, ho, ra⟩ := rd_tuple r₁
  obtain ⟨u, us, e1, ru, rr⟩ := RdAll.uncons ra
  obtain ⟨w, ws, e2, rw_, rn⟩ := RdAll.uncons rr
  have e3 := RdAll.unnil rn
  subst e3
  subst e2
  have hsz : vs.size = 2 := by rw [← Array.length_toList, e1]; rfl
  refine assign_Tuple_tuple at_.room.2.2 ⟨_, ho, rfl, n, rfl⟩ (by show 2 = vs.size; rw [hsz]) (by rfl) fun h' he => ?_
  have k₁ : ∀ b o, s₁.heap.get? b = some o → h'.get? b = some o := fun b o e => he b o (Nat.ne_of_lt (Heap.lt_size e)) e
  have F₁ := (F.keeps e₁.keep).keeps k₁
  have ru' := ru.mono (seqKept_of k₁)
  have rw' := rw_.mono (seqKept_of k₁)
  rw [e1]
  refine assignInOrder_cons (assign_Name ?_)
  obtain ⟨mv, f₁, r₁⟩ := F₁.fr
  refine wpAny_storeName_local (at_.of hx) f₁.ns (fun h₂ hn₂ hs₂ => ?_) (at_.plain _ _)
  have F₂ := F₁.store (pv := .d p) ru' (at_.of hx) f₁ r₁ hn₂ hs₂ t₁
  have sk : SeqKept h' h₂ := seqKept_but F₁ fun b o nb e => (hs₂.2 b nb).trans e
  refine assignInOrder_cons (assign_Name ?_)
  obtain ⟨mv₂, f₂, r₂⟩ := F₂.fr
  refine wpAny_storeName_local (at_.of hy) f₂.ns (fun h₃ hn₃ hs₃ => ?_) (at_.plain _ _)
  have F₃ := F₂.store (pv := .d q) (rw'.mono sk) (at_.of hy) f₂ r₂ hn₃ hs₃ t₂
  refine assignInOrder_nil (kk _ _ ⟨fun b o nb e => ?_, e₁.gens, e₁.os⟩ ⟨rfl, F₃⟩)
  exact (hs₃.2 b nb).trans ((hs₂.2 b nb).trans (k₁ b o (e₁.keep b o e)))
theorem StT.swap2 {x y : Str} {px py tp pos : Pos} {k' : Nat} {e : PySem.Expr} {p q : PyData} (h : EvT S k sc m e (.d (.tuple [p, q]))) (t₂ : SetAt m y (.d q) m₁) (t₁ : SetAt m₁ x (.d p) m₂)
    (hx : sc.names.lookup x = some .local) (hy : sc.names.lookup y = some .local)
    (hs : ∀ env, swapsWithSole [.Tuple [.Name x px, .Name y py] k' tp] e pos.line env = pure false := by intro _; with_unfolding_all rfl)
    (hw : ∀ env : Env, env.scope = sc → swappedStores [.Tuple [.Name x px, .Name y py] k' tp] e env = pure (some [x, y]) := by intro env h; obtain ⟨a, b, c, d, e, f, g, h, i⟩ := env; dsimp only at h; subst h; with_unfolding_all rfl) :
    StT S k sc m (.Assign [.Tuple [.Name x px, .Name y py] k' tp] e pos) (.next m₂) := by
  intro A h₀ env s Q at_ F kk
  refine Assign_Tuple_swapped (h A h₀ env s _ at_ F fun v s₁ e₁ r₁ => ?_) (hs _) (hw _ at_.sc)
  obtain ⟨a, vs, n, rfl, ho, ra⟩ := rd_tuple r₁
  obtain ⟨u, us, e1, ru, rr⟩ := RdAll.uncons ra
  obtain ⟨w, ws, e2, rw_, rn⟩ := RdAll.uncons rr
  have e3 := RdAll.unnil rn
  subst e3
  subst e2
  have hsz : 2 = vs.size := by rw [← Array.length_toList, e1]; rfl
  show wpAny _ A (unpackItems (.ref a) 2 Option.none) _ _ _
  rw [hsz]
  refine unpackItems_tuple at_.room.2.2 ⟨_, ho, rfl, n, rfl⟩ fun h' he => ?_
  have k₁ : ∀ b o, s₁.heap.get? b = some o → h'.get? b = some o := fun b o e => he b o (Nat.ne_of_lt (Heap.lt_size e)) e
  have F₁ := (F.keeps e₁.keep).keeps k₁
  have ru' := ru.mono (seqKept_of k₁)
  have rw' := rw_.mono (seqKept_of k₁)
  rw [e1]
  refine assignInOrder_cons (bindName_ ?_)
  obtain ⟨mv, f₁, r₁⟩ := F₁.fr
  refine wpAny_storeName_local (at_.of hy) f₁.ns (fun h₂ hn₂ hs₂ => ?_) (at_.plain _ _)
  have F₂ := F₁.store (pv := .d q) rw' (at_.of hy) f₁ r₁ hn₂ hs₂ t₂
  have sk : SeqKept h' h₂ := seqKept_but F₁ fun b o nb e => (hs₂.2 b nb).trans e
  refine assignInOrder_cons (bindName_ ?_)
  obtain ⟨mv₂, f₂, r₂⟩ := F₂.fr
  refine wpAny_storeName_local (at_.of hx) f₂.ns (fun h₃ hn₃ hs₃ => ?_) (at_.plain _ _)
  have F₃ := F₂.store (pv := .d p) (ru'.mono sk) (at_.of hx) f₂ r₂ hn₃ hs₃ t₁
  refine assignInOrder_nil (kk _ _ ⟨fun b o nb e => ?_, e₁.gens, e₁.os⟩ ⟨rfl, F₃⟩)
  exact (hs₃.2 b nb).trans ((hs₂.2 b nb).trans (k₁ b o (e₁.keep b o e)))
end
section
variable {S : Sg} {n : Nat} {sc : Scope} {m : Loc}
theorem EvT.str {x : Str} {k' : Nat} {pos : Pos} : EvT S n sc m (.Constant (.str x) k' pos) (.d (.str x)) := by
  intro A h₀ env s Q a F k
  exact wpAny_Constant_str (k _ _ (.toks _ _) (.str x _))
end
local macro_rules | `(tactic| kaf_pre) => `(tactic| (repeat (first | (with_reducible exact List.mem_cons_self) | (with_reducible refine List.mem_cons_of_mem _ ?_))))
local macro_rules | `(tactic| kaf_suf) => `(tactic| (repeat (first | (with_reducible exact SetAt.new) | (with_reducible exact SetAt.head (by kernel_rfl)) | (with_reducible apply SetAt.tail (by kernel_rfl)))))
local macro_rules | `(tactic| kwd_less) => `(tactic| (simp only [Mine.icmp, decide_eq_true_eq, decide_eq_false_iff_not, beq_iff_eq, bne_iff_ne, beq_eq_false_iff_ne, bne_eq_false_iff_eq, ne_eq, Decidable.not_not, Int.not_lt, Int.not_le, decide_eq_decide] <;> omega))
local macro_rules | `(tactic| kas_out) => `(tactic| ((case g => first | exact KF.c_NEWLINE ‹_› | exact KF.c_SPACE ‹_› | exact KF.c_TAB ‹_› | exact KF.c_FORM_FEED ‹_› | exact KF.c_DELETE ‹_› | exact KF.c_BLANKS ‹_› | exact KF.c_PARTING ‹_› | exact KF.c_STOPS ‹_› | exact KF.c_CLOSING ‹_› | exact KF.c_SPACES ‹_› | exact KF.c_AT_BEGIN ‹_› | exact KF.c_AT_END ‹_›); all_goals kernel_rfl))
local macro_rules | `(tactic| kwd_rel) => `(tactic| first
  | (with_reducible exact EvT.int)
  | (with_reducible refine' EvT.loc ?k ?a ?d; (case a => kaf_pre); all_goals kernel_rfl)
  | (with_reducible refine' EvT.gint ?g ?k ?d; kas_out)
  | (with_reducible refine' EvT.gtup ?g ?k ?d; kas_out)
  | (with_reducible refine' EvT.gstr ?g ?k ?d; kas_out)
  | (with_reducible refine' EvT.add ?a ?b; (case a => kwd_rel); (case b => kwd_rel))
  | (with_reducible refine' EvT.sub ?a ?b; (case a => kwd_rel); (case b => kwd_rel))
  | (with_reducible exact EvT.neg)
  | (with_reducible refine' EvT.vbegin ?a; (case a => kwd_rel))
  | (with_reducible refine' EvT.vend (KF.b_len ‹_›) ?a; (case a => kwd_rel))
  | (with_reducible refine' EvT.vcode (KF.b_len ‹_›) ?v ?a ?c; (case v => kwd_rel); (case a => kwd_rel); (case c => first | rfl | (refine congrArg (codeAt _) ?_; omega)))
  | (with_reducible refine' EvT.tup2 ?a ?b; (case a => kwd_rel); (case b => kwd_rel))
  | (with_reducible exact EvT.lst0)
  | (with_reducible refine' EvT.tup3 ?a ?b ?c; (case a => kwd_rel); (case b => kwd_rel); (case c => kwd_rel))
  | (with_reducible exact EvT.str)
  | (with_reducible exact EvT.none))
local macro_rules | `(tactic| ktd_rel) => `(tactic| (refine DefOk.of (fun _ _ _ _ _ _ _ vs h => ?_) (by kernel_rfl); first | (obtain ⟨a, e⟩ := vs1 h; subst e; rfl) | (obtain ⟨a, b, e⟩ := vs2 h; subst e; rfl) | (obtain ⟨a, b, c, e⟩ := vs3 h; subst e; rfl) | (obtain ⟨a, b, c, d, e⟩ := vs4 h; subst e; rfl)))
local macro_rules | `(tactic| krn_off) => `(tactic| (repeat (first | exact List.forall_mem_nil _ | (refine List.forall_mem_cons.mpr ⟨by kaf_pre, ?_⟩))))
section
variable {S : Sg} {b : Int} {cs : List Int}
noncomputable abbrev notNl : Int → Bool := fun c => c != 10
noncomputable abbrev isBlank : Int → Bool := fun c => [32, 9].any (· == c)
noncomputable def lineStart (cs : List Int) (i : Nat) : Nat := scanB notNl cs 0 i
noncomputable def lineEnd (cs : List Int) (i : Nat) : Nat := scanF notNl cs cs.length i
noncomputable def blanksEnd (cs : List Int) (i : Nat) : Nat := scanF isBlank cs cs.length i
noncomputable def blanksBegin (cs : List Int) (i : Nat) : Nat := scanB isBlank cs 0 i
theorem lineStart_le (i : Nat) : lineStart cs i ≤ i := scanB_le i
theorem lineEnd_ge (i : Nat) : i ≤ lineEnd cs i := scanF_ge i
theorem lineEnd_le (i : Nat) (hi : i ≤ cs.length) : lineEnd cs i ≤ cs.length := scanF_le i hi
theorem blanksEnd_le (i : Nat) (hi : i ≤ cs.length) : blanksEnd cs i ≤ cs.length := scanF_le i hi
theorem blanksEnd_ge (i : Nat) : i ≤ blanksEnd cs i := scanF_ge i
theorem blanksBegin_le (i : Nat) : blanksBegin cs i ≤ i := scanB_le i
theorem ok_line_start : DefOk (topStmt 6) ["view", "place"] := by ktd_rel
theorem s_line_start (H : KF S) (i : Nat) (hi : i ≤ cs.length) : CallT S 3 (topStmt 6) [.v b cs, it (b + i)] (.int (b + lineStart cs i)) := by
  refine CallT.mk [("view", .v b cs), ("place", it (b + i))] ok_line_start rfl ?_
  refine ExT.cons (StT.assign (by kwd_rel) (by kaf_suf) (by kernel_rfl)) ?_
  refine ExT.forget (m₂ := [("view", .v b cs), ("at", it (b + i))]) (by intro p hp; simp at hp ⊢; rcases hp with rfl | rfl <;> simp) ?_
  refine ExT.cons (m' := [("view", .v b cs), ("at", it (b + lineStart cs i))]) (StT.whl (WhT.down (cs := cs) (low := 0) (top := cs.length) (p := notNl) (fun i => [("view", .v b cs), ("at", it (b + i))]) (fun i hi => ?_) (fun i hi => ?_) i hi)) (ExT.stop (StT.ret (by kwd_rel)) trivial)
  · exact TrT.and2 (TrT.icmp (by kwd_rel) (by kwd_rel) (by kwd_less)) fun _ => TrT.icmp (i := codeAt cs ((i : Int) - 1)) (by kwd_rel) (by kwd_rel) rfl
  · exact ExT.cons (StT.asg (by kaf_suf) (by kwd_rel) (by omega) (by kernel_rfl)) ExT.nil
theorem ok_line_end : DefOk (topStmt 7) ["view", "place"] := by ktd_rel
theorem s_line_end (H : KF S) (i : Nat) (hi : i ≤ cs.length) : CallT S 3 (topStmt 7) [.v b cs, it (b + i)] (.int (b + lineEnd cs i)) := by
  refine CallT.mk [("view", .v b cs), ("place", it (b + i))] ok_line_end rfl ?_
  refine ExT.cons (StT.assign (by kwd_rel) (by kaf_suf) (by kernel_rfl)) ?_
  refine ExT.forget (m₂ := [("view", .v b cs), ("at", it (b + i))]) (by intro p hp; simp at hp ⊢; rcases hp with rfl | rfl <;> simp) ?_
  refine ExT.cons (m' := [("view", .v b cs), ("at", it (b + lineEnd cs i))]) (StT.whl (WhT.up (cs := cs) (lim := cs.length) (p := notNl) (fun i => [("view", .v b cs), ("at", it (b + i))]) (fun i hi => ?_) (fun i hi => ?_) i hi)) (ExT.stop (StT.ret (by kwd_rel)) trivial)
  · exact TrT.and2 (TrT.icmp (by kwd_rel) (by kwd_rel) (by kwd_less)) fun _ => TrT.icmp (i := codeAt cs (i : Int)) (by kwd_rel) (by kwd_rel) rfl
  · exact ExT.cons (StT.asg (by kaf_suf) (by kwd_rel) (by omega) (by kernel_rfl)) ExT.nil
theorem ok_blanks_end : DefOk (topStmt 10) ["view", "place"] := by ktd_rel
theorem s_blanks_end (H : KF S) (i : Nat) (hi : i ≤ cs.length) : CallT S 3 (topStmt 10) [.v b cs, it (b + i)] (.int (b + blanksEnd cs i)) := by
  refine CallT.mk [("view", .v b cs), ("place", it (b + i))] ok_blanks_end rfl ?_
  refine ExT.cons (StT.assign (by kwd_rel) (by kaf_suf) (by kernel_rfl)) ?_
  refine ExT.forget (m₂ := [("view", .v b cs), ("at", it (b + i))]) (by intro p hp; simp at hp ⊢; rcases hp with rfl | rfl <;> simp) ?_
  refine ExT.cons (m' := [("view", .v b cs), ("at", it (b + blanksEnd cs i))]) (StT.whl (WhT.up (cs := cs) (lim := cs.length) (p := isBlank) (fun i => [("view", .v b cs), ("at", it (b + i))]) (fun i hi => ?_) (fun i hi => ?_) i hi)) (ExT.stop (StT.ret (by kwd_rel)) trivial)
  · exact TrT.and2 (TrT.icmp (by kwd_rel) (by kwd_rel) (by kwd_less)) fun _ => TrT.inTup (i := codeAt cs (i : Int)) (by kwd_rel) (by kwd_rel) rfl
  · exact ExT.cons (StT.asg (by kaf_suf) (by kwd_rel) (by omega) (by kernel_rfl)) ExT.nil
theorem ok_blanks_begin : DefOk (topStmt 11) ["view", "place"] := by ktd_rel
theorem s_blanks_begin (H : KF S) (i : Nat) (hi : i ≤ cs.length) : CallT S 3 (topStmt 11) [.v b cs, it (b + i)] (.int (b + blanksBegin cs i)) := by
  refine CallT.mk [("view", .v b cs), ("place", it (b + i))] ok_blanks_begin rfl ?_
  refine ExT.cons (StT.assign (by kwd_rel) (by kaf_suf) (by kernel_rfl)) ?_
  refine ExT.forget (m₂ := [("view", .v b cs), ("at", it (b + i))]) (by intro p hp; simp at hp ⊢; rcases hp with rfl | rfl <;> simp) ?_
  refine ExT.cons (m' := [("view", .v b cs), ("at", it (b + blanksBegin cs i))]) (StT.whl (WhT.down (cs := cs) (low := 0) (top := cs.length) (p := isBlank) (fun i => [("view", .v b cs), ("at", it (b + i))]) (fun i hi => ?_) (fun i hi => ?_) i hi)) (ExT.stop (StT.ret (by kwd_rel)) trivial)
  · exact TrT.and2 (TrT.icmp (by kwd_rel) (by kwd_rel) (by kwd_less)) fun _ => TrT.inTup (i := codeAt cs ((i : Int) - 1)) (by kwd_rel) (by kwd_rel) rfl
  · exact ExT.cons (StT.asg (by kaf_suf) (by kwd_rel) (by omega) (by kernel_rfl)) ExT.nil
noncomputable def posO (b : Int) : Option Nat → Int
  | none => -1
  | some j => b + j
noncomputable def nextStart (cs : List Int) (i : Nat) : Option Nat := if lineEnd cs i < cs.length then some (lineEnd cs i + 1) else none
theorem nextStart_gt {i j : Nat} (h : nextStart cs i = some j) : i < j ∧ j ≤ cs.length := by
  unfold nextStart at h
  split at h
  · cases h; have := lineEnd_ge (cs := cs) i; omega
  · cases h
theorem ok_next_start : DefOk (topStmt 8) ["view", "place"] := by ktd_rel
theorem s_next_start (H : KF S) (i : Nat) (hi : i ≤ cs.length) : CallT S 4 (topStmt 8) [.v b cs, it (b + i)] (.int (posO b (nextStart cs i))) := by
  refine CallT.mk [("view", .v b cs), ("place", it (b + i))] ok_next_start rfl ?_
  refine ExT.cons (StT.assign (EvT.call2 H.f_line_end (by kwd_rel) (by kwd_rel) (s_line_end H i hi).up (by kernel_rfl)) (by kaf_suf) (by kernel_rfl)) ?_
  refine ExT.stop (StT.ret (EvT.ifexp (b := decide (lineEnd cs i < cs.length)) (TrT.icmp (by kwd_rel) (by kwd_rel) (by kwd_less)) ?_)) trivial
  unfold nextStart
  by_cases h : lineEnd cs i < cs.length
  · simp only [h, decide_true, if_true, posO]
    exact EvT.castI (by kwd_rel) (by omega)
  · simp only [h, decide_false, if_false, posO]
    exact EvT.neg
end
section
variable {S : Sg} {b : Int} {cs : List Int}
noncomputable def linesBack (cs : List Int) : Nat → Nat → Nat × Nat
  | 0, a => (a, 0)
  | k + 1, a => if 0 < a then linesBack cs k (lineStart cs (a - 1)) else (a, k + 1)
noncomputable def linesFwd (cs : List Int) : Nat → Nat → Nat × Nat
  | 0, a => (a, 0)
  | k + 1, a => match nextStart cs a with
    | none => (cs.length, k + 1 - (if a < cs.length then 1 else 0))
    | some j => linesFwd cs k j
theorem linesBack_le : ∀ (k a : Nat), (linesBack cs k a).1 ≤ a
  | 0, a => Nat.le_refl _
  | k + 1, a => by
    unfold linesBack
    split
    · exact Nat.le_trans (linesBack_le k _) (Nat.le_trans (lineStart_le _) (Nat.sub_le _ _))
    · exact Nat.le_refl _
theorem linesFwd_le : ∀ (k a : Nat), a ≤ cs.length → (linesFwd cs k a).1 ≤ cs.length
  | 0, a, h => h
  | k + 1, a, h => by
    unfold linesFwd
    cases e : nextStart cs a with
    | none => exact Nat.le_refl _
    | some j => exact linesFwd_le k j (nextStart_gt e).2
noncomputable def linesTarget (cs : List Int) (i : Nat) (many : Int) : Nat × Int :=
  if many ≤ 0 then ((linesBack cs (-many).toNat (lineStart cs i)).1, -((linesBack cs (-many).toNat (lineStart cs i)).2 : Int))
  else ((linesFwd cs many.toNat i).1, (linesFwd cs many.toNat i).2)
theorem linesTarget_le (i : Nat) (many : Int) (hi : i ≤ cs.length) : (linesTarget cs i many).1 ≤ cs.length := by
  unfold linesTarget
  split
  · exact Nat.le_trans (linesBack_le _ _) (Nat.le_trans (lineStart_le _) hi)
  · exact linesFwd_le _ _ hi
theorem ok_lines_target : DefOk (topStmt 9) ["view", "place", "many"] := by ktd_rel
theorem s_lines_target (H : KF S) (hb : 1 ≤ b) (i : Nat) (hi : i ≤ cs.length) (many : Int) :
    CallT S 5 (topStmt 9) [.v b cs, it (b + i), it many] (.tuple [.int (b + (linesTarget cs i many).1), .int (linesTarget cs i many).2]) := by
  refine CallT.mk [("view", .v b cs), ("place", it (b + i)), ("many", it many)] ok_lines_target rfl ?_
  by_cases hm : many ≤ 0
  · obtain ⟨k, rfl⟩ : ∃ k : Nat, many = -(k : Int) := ⟨(-many).toNat, by omega⟩
    have hk : (-(-(k : Int))).toNat = k := by omega
    rw [linesTarget, if_pos hm, hk]
    refine ExT.stop (StT.ite (b := true) (TrT.icmp (by kwd_rel) (by kwd_rel) (by kwd_less)) ?_) trivial
    refine ExT.cons (StT.assign (EvT.call2 H.f_line_start (by kwd_rel) (by kwd_rel) (s_line_start H i hi).up (by kernel_rfl)) (by kaf_suf) (by kernel_rfl)) ?_
    refine ExT.forget (m₂ := [("view", .v b cs), ("at", it (b + lineStart cs i)), ("many", it (-(k : Int)))]) (by krn_off) ?_
    have ha := Nat.le_trans (lineStart_le (cs := cs) i) hi
    generalize lineStart cs i = a at ha
    refine ExT.cons (m' := [("view", .v b cs), ("at", it (b + (linesBack cs k a).1)), ("many", it (-((linesBack cs k a).2 : Int)))]) (StT.whl ?_) (ExT.stop (StT.ret (by kwd_rel)) trivial)
    clear hm hk
    induction k generalizing a with
    | zero => exact WhT.done (TrT.andF (TrT.icmp (by kwd_rel) (by kwd_rel) (by kwd_less)))
    | succ k ih =>
      rw [linesBack]
      by_cases h0 : 0 < a
      · rw [if_pos h0]
        refine WhT.step ((TrT.and2 (b := true) (c := true) (TrT.icmp (by kwd_rel) (by kwd_rel) (by kwd_less)) fun _ => TrT.icmp (by kwd_rel) (by kwd_rel) (by kwd_less)).cast rfl) (m' := [("view", .v b cs), ("at", it (b + lineStart cs (a - 1))), ("many", it (-(k : Int)))]) ?_
          (ih _ (by have := lineStart_le (cs := cs) (a - 1); omega))
        refine ExT.cons (StT.assign (EvT.call2 H.f_line_start (by kwd_rel) (EvT.castI (by kwd_rel) (by omega)) (s_line_start H (a - 1) (by omega)).up (by kernel_rfl)) (by kaf_suf) (by kernel_rfl)) ?_
        exact ExT.cons (StT.asg (by kaf_suf) (by kwd_rel) (by omega) (by kernel_rfl)) ExT.nil
      · rw [if_neg h0]
        exact WhT.done ((TrT.and2 (b := true) (c := false) (TrT.icmp (by kwd_rel) (by kwd_rel) (by kwd_less)) fun _ => TrT.icmp (by kwd_rel) (by kwd_rel) (by kwd_less)).cast rfl)
  · obtain ⟨k, rfl⟩ : ∃ k : Nat, many = (k : Int) := ⟨many.toNat, by omega⟩
    have hk : (k : Int).toNat = k := by omega
    rw [linesTarget, if_neg hm, hk]
    refine ExT.cons (StT.ite (b := false) (TrT.icmp (by kwd_rel) (by kwd_rel) (by kwd_less)) ExT.nil) ?_
    refine ExT.cons (StT.assign (by kwd_rel) (by kaf_suf) (by kernel_rfl)) ?_
    refine ExT.forget (m₂ := [("view", .v b cs), ("at", it (b + i)), ("many", it (k : Int))]) (by krn_off) ?_
    clear hm hk
    have loop : ∀ rest, (∀ a : Nat, ExT S 4 (stScope (topStmt 9)) [("view", .v b cs), ("at", it (b + a)), ("many", it 0)] rest (.ret (.tuple [.int (b + a), .int 0]))) → ∀ (k i : Nat), i ≤ cs.length → ∀ test body pos,
        (∀ (k i : Nat), TrT S 4 (stScope (topStmt 9)) [("view", .v b cs), ("at", it (b + i)), ("many", it (k : Int))] test (decide (0 < k))) →
        (∀ (k i : Nat), i ≤ cs.length → nextStart cs i = none → ExT S 4 (stScope (topStmt 9)) [("view", .v b cs), ("at", it (b + i)), ("many", it ((k + 1 : Nat) : Int))] body (.ret (.tuple [.int (b + cs.length), .int ((k + 1 - (if i < cs.length then 1 else 0) : Nat) : Int)]))) →
        (∀ (k i j : Nat), i ≤ cs.length → nextStart cs i = some j → ExT S 4 (stScope (topStmt 9)) [("view", .v b cs), ("at", it (b + i)), ("many", it ((k + 1 : Nat) : Int))] body (.next [("view", .v b cs), ("at", it (b + j)), ("many", it (k : Int))])) →
        ExT S 4 (stScope (topStmt 9)) [("view", .v b cs), ("at", it (b + i)), ("many", it (k : Int))] (.While test body [] pos :: rest) (.ret (.tuple [.int (b + (linesFwd cs k i).1), .int ((linesFwd cs k i).2 : Int)])) := by
      intro rest hr k i hi test body pos ht hn hs
      have out : WhT S 4 (stScope (topStmt 9)) [("view", .v b cs), ("at", it (b + i)), ("many", it (k : Int))] test body (.ret (.tuple [.int (b + (linesFwd cs k i).1), .int ((linesFwd cs k i).2 : Int)])) ∨
          (WhT S 4 (stScope (topStmt 9)) [("view", .v b cs), ("at", it (b + i)), ("many", it (k : Int))] test body (.next [("view", .v b cs), ("at", it (b + (linesFwd cs k i).1)), ("many", it 0)]) ∧ (linesFwd cs k i).2 = 0) := by
        induction k generalizing i with
        | zero => exact .inr ⟨WhT.done ((ht 0 i).cast rfl), rfl⟩
        | succ k ih =>
          rw [linesFwd]
          cases e : nextStart cs i with
          | none => exact .inl (WhT.ret ((ht _ i).cast (by simp)) (hn k i hi e))
          | some j =>
            rcases ih j (nextStart_gt e).2 with q | ⟨q, z⟩
            · exact .inl (WhT.step ((ht _ i).cast (by simp)) (hs k i j hi e) q)
            · exact .inr ⟨WhT.step ((ht _ i).cast (by simp)) (hs k i j hi e) q, z⟩
      rcases out with q | ⟨q, z⟩
      · exact ExT.stop (StT.whl q) trivial
      · rw [z]
        exact ExT.cons (StT.whl q) (hr _)
    refine loop _ (fun a => ?_) k i hi _ _ _ (fun k i => ?_) (fun k i hi e => ?_) (fun k i j hi e => ?_)
    · exact ExT.stop (StT.ret (by kwd_rel)) trivial
    · exact TrT.icmp (by kwd_rel) (by kwd_rel) (by kwd_less)
    · refine ExT.cons (StT.assign (EvT.call2 H.f_next_start (by kwd_rel) (by kwd_rel) (s_next_start H i hi).up (by kernel_rfl)) (by kaf_suf) (by kernel_rfl)) ?_
      rw [e]
      refine ExT.stop (StT.ite (b := true) (TrT.icmp (by kwd_rel) (by kwd_rel) rfl) ?_) trivial
      refine ExT.stop (StT.ret (EvT.tup2 (by kwd_rel) (EvT.castI (EvT.sub (by kwd_rel) (EvT.intB (b := decide (i < cs.length)) H.b_int (EvT.castB (EvT.icmp (by kwd_rel) (by kwd_rel)) (by kwd_less)) (by kernel_rfl))) ?_))) trivial
      by_cases h : i < cs.length <;> simp [h] <;> omega
    · refine ExT.cons (StT.assign (EvT.call2 H.f_next_start (by kwd_rel) (by kwd_rel) (s_next_start H i hi).up (by kernel_rfl)) (by kaf_suf) (by kernel_rfl)) ?_
      rw [e]
      simp only [posO]
      refine ExT.cons (StT.ite (b := false) (TrT.icmp (by kwd_rel) (by kwd_rel) (by kwd_less)) ExT.nil) ?_
      refine ExT.cons (StT.assign (by kwd_rel) (by kaf_suf) (by kernel_rfl)) ?_
      refine ExT.forget (m₂ := [("view", .v b cs), ("at", it (b + j)), ("many", it ((k + 1 : Nat) : Int))]) (by krn_off) ?_
      exact ExT.cons (StT.asg (by kaf_suf) (by kwd_rel) (by omega) (by kernel_rfl)) ExT.nil
end
section
variable {cs : List Int}
noncomputable def isLineEnd (cs : List Int) (i : Nat) : Bool := decide (i = cs.length) || (codeAt cs i == 10)
noncomputable def isBlankLine (cs : List Int) (i : Nat) : Bool := isLineEnd cs (blanksEnd cs (lineStart cs i))
noncomputable abbrev isParting : Int → Bool := fun c => [32, 9, 12].any (· == c)
noncomputable def parts (cs : List Int) (i : Nat) : Bool := isLineEnd cs (scanF isParting cs cs.length i)
noncomputable def begins (cs : List Int) (i : Nat) : Bool := (codeAt cs i == 12) || parts cs i
noncomputable def lineBehind (cs : List Int) (i : Nat) : Nat := (nextStart cs i).getD cs.length
theorem scanF_off {p : Int → Bool} {cs : List Int} {lim : Nat} (j : Nat) : ∀ i, j < lim → p (codeAt cs j) = false → i ≤ j → scanF p cs lim i ≤ j := by
  intro i hj hp hi
  generalize h : j - i = d
  induction d generalizing i with
  | zero =>
    have : i = j := by omega
    subst this
    rw [scanF, if_neg (by rw [hp]; simp)]
    exact Nat.le_refl _
  | succ d ih =>
    rw [scanF]
    split
    · exact ih (i + 1) (by omega) (by omega)
    · exact hi
theorem scanF_on {p : Int → Bool} {cs : List Int} {lim : Nat} (a : Nat) : ∀ i, a ≤ lim → (∀ j, i ≤ j → j < a → p (codeAt cs j) = true) → i ≤ a → a ≤ scanF p cs lim i := by
  intro i ha hp hi
  generalize h : a - i = d
  induction d generalizing i with
  | zero =>
    have : i = a := by omega
    subst this
    exact scanF_ge _
  | succ d ih =>
    rw [scanF, if_pos ⟨by omega, hp i (Nat.le_refl _) (by omega)⟩]
    exact ih (i + 1) (fun j h1 h2 => hp j (by omega) h2) (by omega) (by omega)
theorem lineStart_no {a : Nat} : ∀ j, lineStart cs a ≤ j → j < a → notNl (codeAt cs j) = true := by
  induction a with
  | zero => intro j _ h; omega
  | succ a ih =>
    intro j h1 h2
    unfold lineStart at h1
    rw [scanB] at h1
    split at h1
    · rename_i q
      by_cases e : j = a
      · subst e; exact q.2
      · exact ih j h1 (by omega)
    · omega
theorem lineEnd_reach {a p : Nat} (ha : a ≤ cs.length) (h : lineStart cs a ≤ p) : a ≤ lineEnd cs p := by
  by_cases q : p ≤ a
  · exact scanF_on a p ha (fun j h1 h2 => lineStart_no j (by omega) h2) q
  · have := lineEnd_ge (cs := cs) p; omega
theorem lineBehind_le (i : Nat) : lineBehind cs i ≤ cs.length := by
  unfold lineBehind
  cases e : nextStart cs i with
  | none => exact Nat.le_refl _
  | some j => exact (nextStart_gt e).2
theorem lineBehind_gt {i : Nat} (hi : i < cs.length) : i < lineBehind cs i := by
  unfold lineBehind
  cases e : nextStart cs i with
  | none => exact hi
  | some j => exact (nextStart_gt e).1
theorem lineBehind_reach {a p : Nat} (ha : a ≤ cs.length) (h : lineStart cs a ≤ p) : a < lineBehind cs p ∨ lineBehind cs p = cs.length := by
  have := lineEnd_reach ha h
  unfold lineBehind nextStart
  split
  · left; simp; omega
  · right; rfl
noncomputable def IsStart (cs : List Int) (x : Nat) : Prop := x = 0 ∨ notNl (codeAt cs ((x - 1 : Nat) : Int)) = false
theorem lineStart_start (a : Nat) : IsStart cs (lineStart cs a) := by
  induction a with
  | zero => left; rfl
  | succ a ih =>
    unfold lineStart
    rw [scanB]
    split
    · exact ih
    · rename_i q
      right
      have : notNl (codeAt cs a) ≠ true := fun e => q ⟨by omega, e⟩
      simpa using this
theorem lineBehind_stop {a x : Nat} (hx : IsStart cs x) (h : a < x) (hn : x ≤ cs.length) : lineBehind cs a ≤ x := by
  rcases hx with rfl | hx
  · omega
  · have : lineEnd cs a ≤ x - 1 := scanF_off (x - 1) a (by omega) hx (by omega)
    unfold lineBehind nextStart
    rw [if_pos (by omega)]
    simp; omega
noncomputable def skipL (q : Nat → Bool) (cs : List Int) (a : Nat) : Nat := if h : a < cs.length ∧ q a = true then skipL q cs (lineBehind cs a) else a
termination_by cs.length - a
decreasing_by have := lineBehind_gt h.1; omega
theorem skipL_le {q : Nat → Bool} (a : Nat) (ha : a ≤ cs.length) : skipL q cs a ≤ cs.length := by
  generalize h : cs.length - a = d
  induction d using Nat.strongRecOn generalizing a with
  | ind d ih =>
    rw [skipL]
    split
    · rename_i g
      have := lineBehind_gt g.1
      exact ih _ (by omega) _ (lineBehind_le _) rfl
    · exact ha
theorem skipL_ge {q : Nat → Bool} (a : Nat) : a ≤ skipL q cs a := by
  generalize h : cs.length - a = d
  induction d using Nat.strongRecOn generalizing a with
  | ind d ih =>
    rw [skipL]
    split
    · rename_i g
      have := lineBehind_gt g.1
      exact Nat.le_trans (Nat.le_of_lt this) (ih _ (by omega) _ rfl)
    · exact Nat.le_refl _
theorem skipL_stop {q : Nat → Bool} {x : Nat} (hx : IsStart cs x) (hq : q x = false) (hn : x ≤ cs.length) (a : Nat) (ha : a ≤ x) : skipL q cs a ≤ x := by
  generalize h : cs.length - a = d
  induction d using Nat.strongRecOn generalizing a with
  | ind d ih =>
    rw [skipL]
    split
    · rename_i g
      have hne : a ≠ x := fun e => by rw [e, hq] at g; exact absurd g.2 (by simp)
      have := lineBehind_gt g.1
      exact ih _ (by omega) _ (lineBehind_stop hx (by omega) hn) rfl
    · exact ha
noncomputable def backL (q : Nat → Bool) (cs : List Int) (a : Nat) : Nat := if h : 0 < a ∧ q a = true then backL q cs (lineStart cs (a - 1)) else a
termination_by a
decreasing_by have := lineStart_le (cs := cs) (a - 1); omega
theorem backL_le {q : Nat → Bool} (a : Nat) : backL q cs a ≤ a := by
  induction a using Nat.strongRecOn with
  | ind a ih =>
    rw [backL]
    split
    · rename_i g
      have := lineStart_le (cs := cs) (a - 1)
      exact Nat.le_trans (ih _ (by omega)) (by omega)
    · exact Nat.le_refl _
theorem backL_start {q : Nat → Bool} (a : Nat) (ha : IsStart cs a) : IsStart cs (backL q cs a) ∧ (backL q cs a = 0 ∨ q (backL q cs a) = false) := by
  induction a using Nat.strongRecOn with
  | ind a ih =>
    rw [backL]
    split
    · rename_i g
      have := lineStart_le (cs := cs) (a - 1)
      exact ih _ (by omega) (lineStart_start _)
    · rename_i g
      refine ⟨ha, ?_⟩
      by_cases h : a = 0
      · exact .inl h
      · right
        cases e : q a with
        | false => rfl
        | true => exact absurd ⟨by omega, e⟩ g
noncomputable def pastParting (cs : List Int) (i : Nat) : Nat := skipL (parts cs) cs (lineStart cs i)
noncomputable def oneForward (cs : List Int) (i : Nat) : Nat := skipL (fun a => !begins cs a) cs (lineBehind cs (pastParting cs i))
theorem pastParting_le (i : Nat) (hi : i ≤ cs.length) : pastParting cs i ≤ cs.length := skipL_le _ (Nat.le_trans (lineStart_le _) hi)
theorem oneForward_le (i : Nat) : oneForward cs i ≤ cs.length := skipL_le _ (lineBehind_le _)
theorem oneForward_gt (i : Nat) (hi : i ≤ cs.length) : i < oneForward cs i ∨ oneForward cs i = cs.length := by
  have h1 := skipL_ge (cs := cs) (q := parts cs) (lineStart cs i)
  have h2 := skipL_ge (cs := cs) (q := fun a => !begins cs a) (lineBehind cs (pastParting cs i))
  have h3 := oneForward_le (cs := cs) i
  unfold oneForward at *
  rcases lineBehind_reach hi h1 with h | h
  · left; exact Nat.lt_of_lt_of_le h h2
  · right
    unfold pastParting at *
    omega
noncomputable def isBehindEmpty (cs : List Int) (i : Nat) : Bool := if i = 0 ∨ codeAt cs ((i : Int) - 1) ≠ 10 ∨ parts cs i = true then false else decide (lineStart cs (i - 1) = i - 1)
noncomputable def firstLine (cs : List Int) (i : Nat) : Nat := backL (fun a => !begins cs a) cs i
noncomputable def oneBackward (cs : List Int) (i : Nat) : Nat :=
  if i = 0 ∨ isBehindEmpty cs i = true then i - 1 else
  let a := backL (parts cs) cs (lineStart cs (i - 1))
  if a = 0 then a else
  let f := firstLine cs a
  if begins cs f = false then f else
  let p := pastParting cs f
  if 0 < p ∧ lineStart cs (p - 1) = p - 1 then p - 1 else p
theorem oneBackward_lt (i : Nat) (hi : i ≤ cs.length) : oneBackward cs i ≤ i - 1 := by
  unfold oneBackward
  split
  · exact Nat.le_refl _
  · rename_i h0
    have l1 := lineStart_le (cs := cs) (i - 1)
    have l2 := backL_le (cs := cs) (q := parts cs) (lineStart cs (i - 1))
    have l3 := backL_start (cs := cs) (q := parts cs) (lineStart cs (i - 1)) (lineStart_start _)
    generalize backL (parts cs) cs (lineStart cs (i - 1)) = a at l2 l3
    dsimp only
    split
    · omega
    · rename_i h1
      have l4 := backL_le (cs := cs) (q := fun a => !begins cs a) a
      split
      · unfold firstLine; omega
      · have l5 : pastParting cs (firstLine cs a) ≤ a := by
          unfold pastParting
          refine skipL_stop l3.1 (l3.2.resolve_left h1) (by omega) _ (Nat.le_trans (lineStart_le _) ?_)
          unfold firstLine; exact l4
        split <;> omega
end
section
variable {S : Sg} {k : Nat} {sc : Scope} {b : Int} {cs : List Int}
theorem WhT.skip {q : Nat → Bool} {test : PySem.Expr} {body : List Stmt} (M : Nat → Loc) (ht : ∀ a ≤ cs.length, TrT S k sc (M a) test (decide (a < cs.length) && q a)) (hb : ∀ a < cs.length, ExT S k sc (M a) body (.next (M (lineBehind cs a)))) :
    ∀ a ≤ cs.length, WhT S k sc (M a) test body (.next (M (skipL q cs a))) := by
  intro a ha
  generalize h : cs.length - a = d
  induction d using Nat.strongRecOn generalizing a with
  | ind d ih =>
    rw [skipL]
    split
    · rename_i g
      have := lineBehind_gt g.1
      exact WhT.step ((ht a ha).cast (by rw [decide_eq_true g.1, g.2]; rfl)) (hb a g.1) (ih _ (by omega) _ (lineBehind_le _) rfl)
    · rename_i g
      refine WhT.done ((ht a ha).cast ?_)
      cases h1 : decide (a < cs.length) with
      | false => rfl
      | true =>
        cases h2 : q a with
        | false => rfl
        | true => exact absurd ⟨of_decide_eq_true h1, h2⟩ g
theorem WhT.back {q : Nat → Bool} {test : PySem.Expr} {body : List Stmt} (M : Nat → Loc) (ht : ∀ a ≤ cs.length, TrT S k sc (M a) test (decide (0 < a) && q a)) (hb : ∀ a ≤ cs.length, 0 < a → ExT S k sc (M a) body (.next (M (lineStart cs (a - 1))))) :
    ∀ a ≤ cs.length, WhT S k sc (M a) test body (.next (M (backL q cs a))) := by
  intro a
  induction a using Nat.strongRecOn with
  | ind a ih =>
    intro ha
    rw [backL]
    split
    · rename_i g
      have := lineStart_le (cs := cs) (a - 1)
      exact WhT.step ((ht a ha).cast (by rw [decide_eq_true g.1, g.2]; rfl)) (hb a ha g.1) (ih _ (by omega) (by omega))
    · rename_i g
      refine WhT.done ((ht a ha).cast ?_)
      cases h1 : decide (0 < a) with
      | false => rfl
      | true =>
        cases h2 : q a with
        | false => rfl
        | true => exact absurd ⟨of_decide_eq_true h1, h2⟩ g
end
section
variable {S : Sg} {b : Int} {cs : List Int}
theorem ok_is_line_end : DefOk (topStmt 12) ["view", "place"] := by ktd_rel
theorem s_is_line_end (H : KF S) (i : Nat) : CallT S 3 (topStmt 12) [.v b cs, it (b + i)] (.bool (isLineEnd cs i)) := by
  refine CallT.mk [("view", .v b cs), ("place", it (b + i))] ok_is_line_end rfl ?_
  exact ExT.stop (StT.ret (EvT.or2 (EvT.castB (EvT.icmp (by kwd_rel) (by kwd_rel)) (by simp only [icmp]; rw [Bool.eq_iff_iff]; simp; omega)) fun _ => EvT.castB (EvT.icmp (i := codeAt cs i) (by kwd_rel) (by kwd_rel)) rfl)) trivial
theorem ok_is_blank_line : DefOk (topStmt 13) ["view", "place"] := by ktd_rel
theorem s_is_blank_line (H : KF S) (i : Nat) (hi : i ≤ cs.length) : CallT S 4 (topStmt 13) [.v b cs, it (b + i)] (.bool (isBlankLine cs i)) := by
  refine CallT.mk [("view", .v b cs), ("place", it (b + i))] ok_is_blank_line rfl ?_
  exact ExT.stop (StT.ret (EvT.call2 H.f_is_line_end (by kwd_rel) (EvT.call2 H.f_blanks_end (by kwd_rel) (EvT.call2 H.f_line_start (by kwd_rel) (by kwd_rel) (s_line_start H i hi).up (by kernel_rfl)) (s_blanks_end H _ (Nat.le_trans (lineStart_le i) hi)).up (by kernel_rfl)) (s_is_line_end H _).up (by kernel_rfl))) trivial
theorem ok_parts : DefOk (topStmt 17) ["view", "at"] := by ktd_rel
theorem s_parts (H : KF S) (i : Nat) (hi : i ≤ cs.length) : CallT S 4 (topStmt 17) [.v b cs, it (b + i)] (.bool (parts cs i)) := by
  refine CallT.mk [("view", .v b cs), ("at", it (b + i))] ok_parts rfl ?_
  refine ExT.cons (StT.whl (WhT.up (cs := cs) (lim := cs.length) (p := isParting) (fun i => [("view", .v b cs), ("at", it (b + i))]) (fun i hi => ?_) (fun i hi => ?_) i hi)) (ExT.stop (StT.ret (EvT.call2 H.f_is_line_end (by kwd_rel) (by kwd_rel) (s_is_line_end H _).up (by kernel_rfl))) trivial)
  · exact TrT.and2 (TrT.icmp (by kwd_rel) (by kwd_rel) (by kwd_less)) fun _ => TrT.inTup (i := codeAt cs (i : Int)) (by kwd_rel) (by kwd_rel) rfl
  · exact ExT.cons (StT.asg (by kaf_suf) (by kwd_rel) (by omega) (by kernel_rfl)) ExT.nil
theorem ok_begins : DefOk (topStmt 18) ["view", "at"] := by ktd_rel
theorem s_begins (H : KF S) (i : Nat) (hi : i ≤ cs.length) : CallT S 5 (topStmt 18) [.v b cs, it (b + i)] (.bool (begins cs i)) := by
  refine CallT.mk [("view", .v b cs), ("at", it (b + i))] ok_begins rfl ?_
  exact ExT.stop (StT.ret (EvT.or2 (EvT.castB (EvT.icmp (i := codeAt cs i) (by kwd_rel) (by kwd_rel)) rfl) fun _ => EvT.call2 H.f_parts (by kwd_rel) (by kwd_rel) (s_parts H i hi).up (by kernel_rfl))) trivial
theorem ok_line_behind : DefOk (topStmt 19) ["view", "at"] := by ktd_rel
theorem s_line_behind (H : KF S) (hb : 1 ≤ b) (i : Nat) (hi : i ≤ cs.length) : CallT S 5 (topStmt 19) [.v b cs, it (b + i)] (.int (b + lineBehind cs i)) := by
  refine CallT.mk [("view", .v b cs), ("at", it (b + i))] ok_line_behind rfl ?_
  refine ExT.cons (StT.assign (EvT.call2 H.f_next_start (by kwd_rel) (by kwd_rel) (s_next_start H i hi).up (by kernel_rfl)) (by kaf_suf) (by kernel_rfl)) ?_
  unfold lineBehind
  cases e : nextStart cs i with
  | none => exact ExT.stop (StT.ret (EvT.ifexp (b := true) (TrT.icmp (by kwd_rel) (by kwd_rel) rfl) (by simp only [if_true]; exact EvT.castI (by kwd_rel) (by simp)))) trivial
  | some j =>
    simp only [posO]
    exact ExT.stop (StT.ret (EvT.ifexp (b := false) (TrT.icmp (by kwd_rel) (by kwd_rel) (by kwd_less)) (by simp only [Bool.false_eq_true, if_false]; exact EvT.castI (by kwd_rel) (by simp)))) trivial
theorem ok_past_parting : DefOk (topStmt 21) ["view", "place"] := by ktd_rel
theorem s_past_parting (H : KF S) (hb : 1 ≤ b) (i : Nat) (hi : i ≤ cs.length) : CallT S 6 (topStmt 21) [.v b cs, it (b + i)] (.int (b + pastParting cs i)) := by
  refine CallT.mk [("view", .v b cs), ("place", it (b + i))] ok_past_parting rfl ?_
  refine ExT.cons (StT.assign (EvT.call2 H.f_line_start (by kwd_rel) (by kwd_rel) (s_line_start H i hi).up (by kernel_rfl)) (by kaf_suf) (by kernel_rfl)) ?_
  refine ExT.forget (m₂ := [("view", .v b cs), ("at", it (b + lineStart cs i))]) (by krn_off) ?_
  refine ExT.cons (m' := [("view", .v b cs), ("at", it (b + pastParting cs i))]) (StT.whl (WhT.skip (cs := cs) (q := parts cs) (fun i => [("view", .v b cs), ("at", it (b + i))]) (fun i hi => ?_) (fun i hi => ?_) _ (Nat.le_trans (lineStart_le i) hi))) (ExT.stop (StT.ret (by kwd_rel)) trivial)
  · exact TrT.and2 (TrT.icmp (by kwd_rel) (by kwd_rel) (by kwd_less)) fun _ => TrT.val (EvT.call2 H.f_parts (by kwd_rel) (by kwd_rel) (s_parts H i hi).up (by kernel_rfl))
  · exact ExT.cons (StT.asgD (by kaf_suf) (EvT.call2 H.f_line_behind_paragraphs (by kwd_rel) (by kwd_rel) (s_line_behind H hb i (Nat.le_of_lt hi)).up (by kernel_rfl)) (by kernel_rfl)) ExT.nil
theorem ok_one_forward : DefOk (topStmt 22) ["view", "place"] := by ktd_rel
theorem s_one_forward (H : KF S) (hb : 1 ≤ b) (i : Nat) (hi : i ≤ cs.length) : CallT S 7 (topStmt 22) [.v b cs, it (b + i)] (.int (b + oneForward cs i)) := by
  refine CallT.mk [("view", .v b cs), ("place", it (b + i))] ok_one_forward rfl ?_
  refine ExT.cons (StT.assign (EvT.call2 H.f_line_behind_paragraphs (by kwd_rel) (EvT.call2 H.f_past_parting (by kwd_rel) (by kwd_rel) (s_past_parting H hb i hi).up (by kernel_rfl)) (s_line_behind H hb _ (pastParting_le i hi)).up (by kernel_rfl)) (by kaf_suf) (by kernel_rfl)) ?_
  refine ExT.forget (m₂ := [("view", .v b cs), ("at", it (b + lineBehind cs (pastParting cs i)))]) (by krn_off) ?_
  refine ExT.cons (m' := [("view", .v b cs), ("at", it (b + oneForward cs i))]) (StT.whl (WhT.skip (cs := cs) (q := fun a => !begins cs a) (fun i => [("view", .v b cs), ("at", it (b + i))]) (fun i hi => ?_) (fun i hi => ?_) _ (lineBehind_le _))) (ExT.stop (StT.ret (by kwd_rel)) trivial)
  · exact TrT.and2 (TrT.icmp (by kwd_rel) (by kwd_rel) (by kwd_less)) fun _ => TrT.not (TrT.val (EvT.call2 H.f_begins (by kwd_rel) (by kwd_rel) (s_begins H i hi).up (by kernel_rfl))) rfl
  · exact ExT.cons (StT.asgD (by kaf_suf) (EvT.call2 H.f_line_behind_paragraphs (by kwd_rel) (by kwd_rel) (s_line_behind H hb i (Nat.le_of_lt hi)).up (by kernel_rfl)) (by kernel_rfl)) ExT.nil
theorem ok_is_behind_empty : DefOk (topStmt 23) ["view", "place"] := by ktd_rel
theorem s_is_behind_empty (H : KF S) (i : Nat) (hi : i ≤ cs.length) : CallT S 5 (topStmt 23) [.v b cs, it (b + i)] (.bool (isBehindEmpty cs i)) := by
  refine CallT.mk [("view", .v b cs), ("place", it (b + i))] ok_is_behind_empty rfl ?_
  unfold isBehindEmpty
  by_cases h : i = 0 ∨ codeAt cs ((i : Int) - 1) ≠ 10 ∨ parts cs i = true
  · rw [if_pos h]
    exact ExT.stop (StT.ite (b := true) ((TrT.or3 (b := decide (i = 0)) (c := codeAt cs ((i : Int) - 1) != 10) (d := parts cs i) (TrT.icmp (by kwd_rel) (by kwd_rel) (by kwd_less)) (fun _ => TrT.icmp (i := codeAt cs ((i : Int) - 1)) (by kwd_rel) (by kwd_rel) rfl) fun _ _ => TrT.val (EvT.call2 H.f_parts (by kwd_rel) (by kwd_rel) (s_parts H i hi).up (by kernel_rfl))).cast (by first | (rw [Bool.eq_iff_iff]; simpa using h) | (rw [← Bool.not_eq_true]; simpa using h))) (ExT.stop (StT.ret EvT.bool) trivial)) trivial
  · rw [if_neg h]
    refine ExT.cons (StT.ite (b := false) ((TrT.or3 (b := decide (i = 0)) (c := codeAt cs ((i : Int) - 1) != 10) (d := parts cs i) (TrT.icmp (by kwd_rel) (by kwd_rel) (by kwd_less)) (fun _ => TrT.icmp (i := codeAt cs ((i : Int) - 1)) (by kwd_rel) (by kwd_rel) rfl) fun _ _ => TrT.val (EvT.call2 H.f_parts (by kwd_rel) (by kwd_rel) (s_parts H i hi).up (by kernel_rfl))).cast (by first | (rw [Bool.eq_iff_iff]; simpa using h) | (rw [← Bool.not_eq_true]; simpa using h))) ExT.nil) ?_
    have hi0 : i ≠ 0 := fun e => h (.inl e)
    refine ExT.stop (StT.ret (EvT.castB (EvT.icmp (EvT.call2 H.f_line_start (by kwd_rel) (EvT.castI (by kwd_rel) (by omega)) (s_line_start H (i - 1) (by omega)).up (by kernel_rfl)) (by kwd_rel)) ?_)) trivial
    have := lineStart_le (cs := cs) (i - 1)
    simp only [icmp]
    rw [Bool.eq_iff_iff]
    simp
    omega
theorem ok_first_line : DefOk (topStmt 24) ["view", "at"] := by ktd_rel
theorem s_first_line (H : KF S) (i : Nat) (hi : i ≤ cs.length) : CallT S 6 (topStmt 24) [.v b cs, it (b + i)] (.tuple [.int (b + firstLine cs i), .bool (begins cs (firstLine cs i))]) := by
  refine CallT.mk [("view", .v b cs), ("at", it (b + i))] ok_first_line rfl ?_
  refine ExT.cons (m' := [("view", .v b cs), ("at", it (b + firstLine cs i))]) (StT.whl (WhT.back (cs := cs) (q := fun a => !begins cs a) (fun i => [("view", .v b cs), ("at", it (b + i))]) (fun i hi => ?_) (fun i hi h0 => ?_) _ hi)) ?_
  · exact TrT.and2 (TrT.icmp (by kwd_rel) (by kwd_rel) (by kwd_less)) fun _ => TrT.not (TrT.val (EvT.call2 H.f_begins (by kwd_rel) (by kwd_rel) (s_begins H i hi).up (by kernel_rfl))) rfl
  · exact ExT.cons (StT.asgD (by kaf_suf) (EvT.call2 H.f_line_start (by kwd_rel) (EvT.castI (by kwd_rel) (by omega)) (s_line_start H (i - 1) (by omega)).up (by kernel_rfl)) (by kernel_rfl)) ExT.nil
  · exact ExT.stop (StT.ret (EvT.tup2 (by kwd_rel) (EvT.call2 H.f_begins (by kwd_rel) (by kwd_rel) (s_begins H (firstLine cs i) (Nat.le_trans (backL_le _) hi)).up (by kernel_rfl)))) trivial
theorem ok_one_backward : DefOk (topStmt 25) ["view", "place"] := by ktd_rel
theorem s_one_backward (H : KF S) (hb : 1 ≤ b) (i : Nat) (hi : i ≤ cs.length) : CallT S 7 (topStmt 25) [.v b cs, it (b + i)] (.int (b + oneBackward cs i)) := by
  refine CallT.mk [("view", .v b cs), ("place", it (b + i))] ok_one_backward rfl ?_
  unfold oneBackward
  by_cases h : i = 0 ∨ isBehindEmpty cs i = true
  · rw [if_pos h]
    refine ExT.stop (StT.ite (b := true) ((TrT.or2 (b := decide (i = 0)) (c := isBehindEmpty cs i) (TrT.icmp (by kwd_rel) (by kwd_rel) (by rw [Bool.eq_iff_iff]; simp [icmp]; omega)) fun _ => TrT.val (EvT.call2 H.f_is_behind_empty (by kwd_rel) (by kwd_rel) (s_is_behind_empty H i hi).up (by kernel_rfl))).cast (by simpa using h)) ?_) trivial
    exact ExT.stop (StT.ret (EvT.castI (EvT.max2 H.b_max (by kwd_rel) (by kwd_rel) (by kernel_rfl)) (by split <;> omega))) trivial
  · rw [if_neg h]
    have hi0 : i ≠ 0 := fun e => h (.inl e)
    refine ExT.cons (StT.ite (b := false) ((TrT.or2 (b := decide (i = 0)) (c := isBehindEmpty cs i) (TrT.icmp (by kwd_rel) (by kwd_rel) (by rw [Bool.eq_iff_iff]; simp [icmp]; omega)) fun _ => TrT.val (EvT.call2 H.f_is_behind_empty (by kwd_rel) (by kwd_rel) (s_is_behind_empty H i hi).up (by kernel_rfl))).cast (by simpa using h)) ExT.nil) ?_
    refine ExT.cons (StT.assign (EvT.call2 H.f_line_start (by kwd_rel) (EvT.castI (by kwd_rel) (by omega)) (s_line_start H (i - 1) (by omega)).up (by kernel_rfl)) (by kaf_suf) (by kernel_rfl)) ?_
    refine ExT.forget (m₂ := [("view", .v b cs), ("at", it (b + lineStart cs (i - 1)))]) (by krn_off) ?_
    have l1 := lineStart_le (cs := cs) (i - 1)
    have l2 := backL_le (cs := cs) (q := parts cs) (lineStart cs (i - 1))
    refine ExT.cons (m' := [("view", .v b cs), ("at", it (b + backL (parts cs) cs (lineStart cs (i - 1))))]) (StT.whl (WhT.back (cs := cs) (q := parts cs) (fun i => [("view", .v b cs), ("at", it (b + i))]) (fun i hi => ?_) (fun i hi h0 => ?_) _ (by omega))) ?_
    · exact TrT.and2 (TrT.icmp (by kwd_rel) (by kwd_rel) (by kwd_less)) fun _ => TrT.val (EvT.call2 H.f_parts (by kwd_rel) (by kwd_rel) (s_parts H i hi).up (by kernel_rfl))
    · exact ExT.cons (StT.asgD (by kaf_suf) (EvT.call2 H.f_line_start (by kwd_rel) (EvT.castI (by kwd_rel) (by omega)) (s_line_start H (i - 1) (by omega)).up (by kernel_rfl)) (by kernel_rfl)) ExT.nil
    generalize backL (parts cs) cs (lineStart cs (i - 1)) = a at l2
    dsimp only
    by_cases h1 : a = 0
    · rw [if_pos h1]
      exact ExT.stop (StT.ite (b := true) (TrT.icmp (by kwd_rel) (by kwd_rel) (by kwd_less)) (ExT.stop (StT.ret (by kwd_rel)) trivial)) trivial
    · rw [if_neg h1]
      refine ExT.cons (StT.ite (b := false) (TrT.icmp (by kwd_rel) (by kwd_rel) (by kwd_less)) ExT.nil) ?_
      refine ExT.cons (StT.unpack2 (EvT.call2 H.f_first_line (by kwd_rel) (by kwd_rel) (s_first_line H a (by omega)).up (by kernel_rfl)) (by kaf_suf) (by kaf_suf) (by kernel_rfl) (by kernel_rfl)) ?_
      have l3 : firstLine cs a ≤ a := backL_le _
      by_cases h2 : begins cs (firstLine cs a) = false
      · rw [if_pos h2, h2]
        exact ExT.stop (StT.ite (b := true) (TrT.not (TrT.val (by kwd_rel)) rfl) (ExT.stop (StT.ret (by kwd_rel)) trivial)) trivial
      · rw [if_neg h2]
        rw [Bool.not_eq_false] at h2
        rw [h2]
        refine ExT.cons (StT.ite (b := false) (TrT.not (TrT.val (by kwd_rel)) rfl) ExT.nil) ?_
        refine ExT.cons (StT.assign (EvT.call2 H.f_past_parting (by kwd_rel) (by kwd_rel) (s_past_parting H hb _ (by omega)).up (by kernel_rfl)) (by kaf_suf) (by kernel_rfl)) ?_
        have l4 := pastParting_le (cs := cs) (firstLine cs a) (by omega)
        generalize pastParting cs (firstLine cs a) = p at l4
        have l5 := lineStart_le (cs := cs) (p - 1)
        by_cases h3 : 0 < p ∧ lineStart cs (p - 1) = p - 1
        · rw [if_pos h3]
          exact ExT.stop (StT.ite (b := true) ((TrT.and2 (b := decide (0 < p)) (c := decide (lineStart cs (p - 1) = p - 1)) (TrT.icmp (by kwd_rel) (by kwd_rel) (by kwd_less)) (fun h0 => TrT.icmp (EvT.call2 H.f_line_start (by kwd_rel) (EvT.castI (by kwd_rel) (by have h0' := of_decide_eq_true h0; omega)) (s_line_start H (p - 1) (by omega)).up (by kernel_rfl)) (by kwd_rel) (by have h0' := of_decide_eq_true h0; rw [Bool.eq_iff_iff]; simp [icmp]; omega))).cast (by simpa using h3)) (ExT.stop (StT.ret (EvT.castI (by kwd_rel) (by omega))) trivial)) trivial
        · rw [if_neg h3]
          exact ExT.cons (StT.ite (b := false) ((TrT.and2 (b := decide (0 < p)) (c := decide (lineStart cs (p - 1) = p - 1)) (TrT.icmp (by kwd_rel) (by kwd_rel) (by kwd_less)) (fun h0 => TrT.icmp (EvT.call2 H.f_line_start (by kwd_rel) (EvT.castI (by kwd_rel) (by have h0' := of_decide_eq_true h0; omega)) (s_line_start H (p - 1) (by omega)).up (by kernel_rfl)) (by kwd_rel) (by have h0' := of_decide_eq_true h0; rw [Bool.eq_iff_iff]; simp [icmp]; omega))).cast (by simpa using h3)) ExT.nil) (ExT.stop (StT.ret (by kwd_rel)) trivial)
end
section
variable {cs : List Int}
theorem codeAt_off {i : Nat} (h : cs.length ≤ i) : codeAt cs i = -1 := by unfold codeAt; rw [if_neg (by omega)]
noncomputable def goF (f : Nat → Nat) : Nat → Nat → Nat
  | 0, i => i
  | k + 1, i => if f i = i then i else goF f k (f i)
theorem goF_le {f : Nat → Nat} {n : Nat} (hf : ∀ i ≤ n, f i ≤ n) : ∀ k i, i ≤ n → goF f k i ≤ n
  | 0, i, h => h
  | k + 1, i, h => by
    unfold goF
    split
    · exact h
    · exact goF_le hf k _ (hf i h)
noncomputable def paragraphsTarget (cs : List Int) (i : Nat) (many : Int) : Nat := goF (if 0 < many then oneForward cs else oneBackward cs) many.natAbs i
theorem paragraphsTarget_le (i : Nat) (many : Int) (hi : i ≤ cs.length) : paragraphsTarget cs i many ≤ cs.length := by
  unfold paragraphsTarget
  refine goF_le (fun i hi => ?_) _ _ hi
  split
  · exact oneForward_le i
  · have := oneBackward_lt (cs := cs) i hi; omega
noncomputable def aheadOf (cs : List Int) (f : Nat) : Nat := if 0 < f ∧ codeAt cs ((f : Int) - 1) = 10 then f - 1 else f
theorem aheadOf_le (f : Nat) : aheadOf cs f ≤ f := by unfold aheadOf; split <;> omega
noncomputable def teF (cs : List Int) (i : Nat) : Nat → Nat → Nat
  | 0, a => a
  | k + 1, a => if i < aheadOf cs (oneForward cs a) ∨ oneForward cs a = cs.length then max (aheadOf cs (oneForward cs a)) i else teF cs i k (oneForward cs a)
theorem teF_le {i : Nat} (hi : i ≤ cs.length) : ∀ k a, a ≤ cs.length → teF cs i k a ≤ cs.length
  | 0, a, h => h
  | k + 1, a, h => by
    unfold teF
    have h1 := oneForward_le (cs := cs) a
    have h2 := aheadOf_le (cs := cs) (oneForward cs a)
    split
    · omega
    · exact teF_le hi k _ h1
noncomputable def textEnd (cs : List Int) (i : Nat) : Nat := teF cs i (cs.length + 1) i
theorem textEnd_le (i : Nat) (hi : i ≤ cs.length) : textEnd cs i ≤ cs.length := teF_le hi _ _ hi
noncomputable abbrev isSp : Int → Bool := fun c => [32, 9, 10].any (· == c)
noncomputable def tbF (cs : List Int) (i : Nat) : Nat → Nat → Nat
  | 0, a => a
  | k + 1, a => if scanF isSp cs cs.length (oneBackward cs a) < i then scanF isSp cs cs.length (oneBackward cs a) else if oneBackward cs a = 0 then oneBackward cs a else tbF cs i k (oneBackward cs a)
theorem tbF_le {i : Nat} : ∀ k a, a ≤ cs.length → tbF cs i k a ≤ cs.length
  | 0, a, h => h
  | k + 1, a, h => by
    unfold tbF
    have h1 := oneBackward_lt (cs := cs) a h
    have h2 := scanF_le (p := isSp) (cs := cs) (lim := cs.length) (oneBackward cs a) (by omega)
    split
    · omega
    · split
      · omega
      · exact tbF_le k _ (by omega)
noncomputable def textBegin (cs : List Int) (i : Nat) : Nat := tbF cs i (cs.length + 1) i
theorem textBegin_le (i : Nat) (hi : i ≤ cs.length) : textBegin cs i ≤ cs.length := tbF_le _ _ hi
noncomputable abbrev isStop : Int → Bool := fun c => [46, 63, 33].any (· == c)
noncomputable abbrev isClosing : Int → Bool := fun c => [93, 34, 39, 41, 125].any (· == c)
noncomputable def closedAt (cs : List Int) (i : Nat) : Option Nat := if isStop (codeAt cs i) = true then some (scanF isClosing cs cs.length (i + 1)) else none
theorem stop_in {i : Nat} (h : isStop (codeAt cs i) = true) : i < cs.length := by
  apply Decidable.byContradiction
  intro q
  rw [codeAt_off (by omega)] at h
  exact absurd h (by decide)
theorem closedAt_le {i a : Nat} (h : closedAt cs i = some a) : i < a ∧ a ≤ cs.length := by
  unfold closedAt at h
  split at h
  · rename_i q
    have := stop_in q
    cases h
    exact ⟨scanF_ge _, scanF_le _ this⟩
  · cases h
theorem code_in {i : Nat} (h : codeAt cs i ≠ -1) : i < cs.length := by
  apply Decidable.byContradiction
  intro q
  exact h (codeAt_off (by omega))
noncomputable def gapBehind (cs : List Int) (i : Nat) : Option Nat :=
  if isLineEnd cs i = true then some i else if codeAt cs i = 9 then some (i + 1) else if codeAt cs i ≠ 32 then none else
  if isLineEnd cs (i + 1) = true then some (i + 1) else if codeAt cs ((i + 1 : Nat) : Int) = 32 then some (i + 2) else none
theorem gapBehind_le {i a : Nat} (hi : i ≤ cs.length) (h : gapBehind cs i = some a) : i ≤ a ∧ a ≤ cs.length := by
  unfold gapBehind at h
  split at h
  · cases h; omega
  · split at h
    · rename_i q
      have := code_in (cs := cs) (i := i) (by omega)
      cases h; omega
    · split at h
      · cases h
      · rename_i q
        have := code_in (cs := cs) (i := i) (by omega)
        split at h
        · cases h; omega
        · split at h
          · rename_i q
            have := code_in (cs := cs) (i := i + 1) (by omega)
            cases h; omega
          · cases h
noncomputable def endMatch (cs : List Int) (i lim : Nat) : Option Nat := match (closedAt cs i).bind (gapBehind cs) with
  | none => none
  | some a => if lim < a then none else some (scanF isSp cs lim a)
theorem endMatch_le {i lim a : Nat} (h : endMatch cs i lim = some a) : i < a ∧ a ≤ lim := by
  unfold endMatch at h
  cases e : closedAt cs i with
  | none => rw [e] at h; cases h
  | some x =>
    rw [e] at h
    have h1 := closedAt_le e
    simp only [Option.bind_some] at h
    cases e2 : gapBehind cs x with
    | none => rw [e2] at h; cases h
    | some y =>
      have h2 := gapBehind_le h1.2 e2
      rw [e2] at h
      simp only at h
      split at h
      · cases h
      · cases h
        have := scanF_ge (p := isSp) (cs := cs) (lim := lim) y
        have := scanF_le (p := isSp) (cs := cs) (lim := lim) y (by omega)
        omega
noncomputable def fsF (cs : List Int) (lim : Nat) : Nat → Nat → Nat
  | 0, _ => lim
  | k + 1, a => match endMatch cs a lim with
    | some x => scanB isSp cs (a + 1) x
    | none => fsF cs lim k (a + 1)
noncomputable def oneForwardSentence (cs : List Int) (i : Nat) : Nat := fsF cs (textEnd cs i) (textEnd cs i - i) i
theorem fsF_le {lim : Nat} : ∀ k a, fsF cs lim k a ≤ lim
  | 0, a => Nat.le_refl _
  | k + 1, a => by
    unfold fsF
    cases e : endMatch cs a lim with
    | none => exact fsF_le k _
    | some x => exact Nat.le_trans (scanB_le _) (endMatch_le e).2
theorem oneForwardSentence_le (i : Nat) (hi : i ≤ cs.length) : oneForwardSentence cs i ≤ cs.length := Nat.le_trans (fsF_le _ _) (textEnd_le i hi)
noncomputable def bsF (cs : List Int) (i first : Nat) : Nat → Nat → Nat
  | 0, _ => first
  | k + 1, a => match endMatch cs (a - 1) i with
    | some x => if x < i ∧ isSp (codeAt cs x) = false then x else bsF cs i first k (a - 1)
    | none => bsF cs i first k (a - 1)
noncomputable def oneBackwardSentence (cs : List Int) (i : Nat) : Nat := bsF cs i (textBegin cs i) (i - textBegin cs i) i
theorem bsF_le {i first : Nat} (hi : i ≤ cs.length) (hf : first ≤ cs.length) : ∀ k a, bsF cs i first k a ≤ cs.length
  | 0, a => hf
  | k + 1, a => by
    unfold bsF
    cases e : endMatch cs (a - 1) i with
    | none => exact bsF_le hi hf k _
    | some x =>
      simp only
      split
      · omega
      · exact bsF_le hi hf k _
theorem oneBackwardSentence_le (i : Nat) (hi : i ≤ cs.length) : oneBackwardSentence cs i ≤ cs.length := bsF_le hi (textBegin_le i hi) _ _
noncomputable def sentencesTarget (cs : List Int) (i : Nat) (many : Int) : Nat := goF (if 0 < many then oneForwardSentence cs else oneBackwardSentence cs) many.natAbs i
theorem sentencesTarget_le (i : Nat) (many : Int) (hi : i ≤ cs.length) : sentencesTarget cs i many ≤ cs.length := by
  unfold sentencesTarget
  refine goF_le (fun i hi => ?_) _ _ hi
  split
  · exact oneForwardSentence_le i hi
  · exact oneBackwardSentence_le i hi
end
section
variable {S : Sg} {k : Nat} {sc : Scope} {b : Int} {cs : List Int}
theorem ExT.dropB {m m' m₂ : Loc} {ss : List Stmt} (h : ExT S k sc m ss (.brk m')) (hs : ∀ p ∈ m₂, p ∈ m') : ExT S k sc m ss (.brk m₂) :=
  fun A h₀ env s Q at_ F kk => h A h₀ env s Q at_ F fun fl s' e o => kk _ _ e ⟨o.1, o.2.drop hs⟩
theorem FoT.go {f : Nat → Nat} {x : Str} {body : List Stmt} {M : Nat → Loc} {M' : Int → Nat → Loc} (hf : ∀ i ≤ cs.length, f i ≤ cs.length) (hx : sc.names.lookup x = some .local) (ht : ∀ a i, SetAt (M i) x (it a) (M' a i))
    (hb : ∀ a i, i ≤ cs.length → f i = i → ExT S k sc (M' a i) body (.brk (M i))) (hn : ∀ a i, i ≤ cs.length → f i ≠ i → ExT S k sc (M' a i) body (.next (M (f i)))) :
    ∀ K i a, i ≤ cs.length → FoT S k sc (M i) x body a 1 K (.next (M (goF f K i)))
  | 0, i, a, hi => FoT.done
  | K + 1, i, a, hi => by
    unfold goF
    split
    · rename_i e
      exact FoT.turn hx (ht a i) (hb a i hi e) rfl
    · rename_i e
      exact FoT.turn hx (ht a i) (hn a i hi e) (FoT.go hf hx ht hb hn K _ _ (hf i hi))
end
section
variable {S : Sg} {b : Int} {cs : List Int}
theorem natAbs_eq (i : Int) : (if i < 0 then -i else i).toNat = i.natAbs := by split <;> omega
theorem ok_paragraphs_target : DefOk (topStmt 26) ["view", "place", "many"] := by ktd_rel
theorem s_paragraphs_target (H : KF S) (hb : 1 ≤ b) (i : Nat) (hi : i ≤ cs.length) (many : Int) (hm : -1000 ≤ many) (hm' : many ≤ 1000) :
    CallT S 8 (topStmt 26) [.v b cs, it (b + i), it many] (.int (b + paragraphsTarget cs i many)) := by
  refine CallT.mk [("view", .v b cs), ("place", it (b + i)), ("many", it many)] ok_paragraphs_target rfl ?_
  have rg : ∀ xp pos ap apos np, RgT S 7 (stScope (topStmt 26)) [("view", .v b cs), ("place", it (b + i)), ("many", it many)] (.Call (.Name "range" xp) [.Call (.Name "abs" ap) [.Name "many" np] [] apos] [] pos) 0 1 many.natAbs := fun xp pos ap apos np => by
    have := RgT.r1 (xp := xp) (pos := pos) H.b_range (EvT.abs (xp := ap) (pos := apos) H.b_abs (EvT.loc (S := S) (n := 7) (sc := stScope (topStmt 26)) (m := [("view", .v b cs), ("place", it (b + i)), ("many", it many)]) (x := "many") (pos := np) (pv := it many) (by kernel_rfl) (by kaf_pre) (by kernel_rfl)) (by kernel_rfl)) (by split <;> omega) (by split <;> omega) (by kernel_rfl)
    rwa [natAbs_eq] at this
  refine ExT.cons (m' := [("view", .v b cs), ("place", it (b + paragraphsTarget cs i many)), ("many", it many)]) (StT.for (rg _ _ _ _ _) ?_) (ExT.stop (StT.ret (by kwd_rel)) trivial)
  unfold paragraphsTarget
  by_cases h : 0 < many
  · rw [if_pos h]
    refine FoT.go (M := fun i => [("view", .v b cs), ("place", it (b + (i : Nat))), ("many", it many)]) (M' := fun a i => [("view", .v b cs), ("place", it (b + (i : Nat))), ("many", it many), ("turn", it a)]) (fun i hi => oneForward_le i) (by kernel_rfl) (fun a i => by kaf_suf) (fun a i hi e => ?_) (fun a i hi e => ?_) _ _ _ hi
    · refine ExT.cons (StT.assign (EvT.ifexp (b := true) (TrT.icmp (by kwd_rel) (by kwd_rel) (by kwd_less)) (by simp only [if_true]; exact EvT.call2 H.f_one_forward (by kwd_rel) (by kwd_rel) (s_one_forward H hb i hi).up (by kernel_rfl))) (by kaf_suf) (by kernel_rfl)) ?_
      refine ExT.stop (StT.ite (b := true) (TrT.icmp (by kwd_rel) (by kwd_rel) (by kwd_less)) ?_) trivial
      exact ExT.dropB (ExT.stop StT.brk trivial) (by krn_off)
    · refine ExT.cons (StT.assign (EvT.ifexp (b := true) (TrT.icmp (by kwd_rel) (by kwd_rel) (by kwd_less)) (by simp only [if_true]; exact EvT.call2 H.f_one_forward (by kwd_rel) (by kwd_rel) (s_one_forward H hb i hi).up (by kernel_rfl))) (by kaf_suf) (by kernel_rfl)) ?_
      refine ExT.cons (StT.ite (b := false) (TrT.icmp (by kwd_rel) (by kwd_rel) (by kwd_less)) ExT.nil) ?_
      exact ExT.drop (ExT.cons (StT.assign (by kwd_rel) (by kaf_suf) (by kernel_rfl)) ExT.nil) (by krn_off)
  · rw [if_neg h]
    refine FoT.go (M := fun i => [("view", .v b cs), ("place", it (b + (i : Nat))), ("many", it many)]) (M' := fun a i => [("view", .v b cs), ("place", it (b + (i : Nat))), ("many", it many), ("turn", it a)]) (fun i hi => by have := oneBackward_lt (cs := cs) i hi; omega) (by kernel_rfl) (fun a i => by kaf_suf) (fun a i hi e => ?_) (fun a i hi e => ?_) _ _ _ hi
    · refine ExT.cons (StT.assign (EvT.ifexp (b := false) (TrT.icmp (by kwd_rel) (by kwd_rel) (by kwd_less)) (by simp only [Bool.false_eq_true, if_false]; exact EvT.call2 H.f_one_backward (by kwd_rel) (by kwd_rel) (s_one_backward H hb i hi).up (by kernel_rfl))) (by kaf_suf) (by kernel_rfl)) ?_
      refine ExT.stop (StT.ite (b := true) (TrT.icmp (by kwd_rel) (by kwd_rel) (by kwd_less)) ?_) trivial
      exact ExT.dropB (ExT.stop StT.brk trivial) (by krn_off)
    · refine ExT.cons (StT.assign (EvT.ifexp (b := false) (TrT.icmp (by kwd_rel) (by kwd_rel) (by kwd_less)) (by simp only [Bool.false_eq_true, if_false]; exact EvT.call2 H.f_one_backward (by kwd_rel) (by kwd_rel) (s_one_backward H hb i hi).up (by kernel_rfl))) (by kaf_suf) (by kernel_rfl)) ?_
      refine ExT.cons (StT.ite (b := false) (TrT.icmp (by kwd_rel) (by kwd_rel) (by kwd_less)) ExT.nil) ?_
      exact ExT.drop (ExT.cons (StT.assign (by kwd_rel) (by kaf_suf) (by kernel_rfl)) ExT.nil) (by krn_off)
theorem ok_text_end : DefOk (topStmt 27) ["view", "place"] := by ktd_rel
theorem s_text_end (H : KF S) (hb : 1 ≤ b) (i : Nat) (hi : i ≤ cs.length) : CallT S 8 (topStmt 27) [.v b cs, it (b + i)] (.int (b + textEnd cs i)) := by
  refine CallT.mk [("view", .v b cs), ("place", it (b + i))] ok_text_end rfl ?_
  refine ExT.cons (StT.assign (by kwd_rel) (by kaf_suf) (by kernel_rfl)) ?_
  unfold textEnd
  obtain ⟨a, ha⟩ : ∃ a : Nat, a = i := ⟨i, rfl⟩
  have hi' : a ≤ cs.length := by omega
  obtain ⟨K, hK⟩ : ∃ K, K = cs.length + 1 := ⟨_, rfl⟩
  have start : cs.length < a + K := by omega
  refine ExT.forget (m₂ := [("view", .v b cs), ("place", it (b + i)), ("at", it (b + a))]) (by rw [ha]; krn_off) ?_
  rw [← hK, show teF cs i K i = teF cs i K a by rw [ha]]
  refine ExT.stop (StT.whl ?_) trivial
  clear ha hK
  induction K generalizing a with
  | zero => omega
  | succ K ih =>
    have g1 := oneForward_le (cs := cs) a
    have g2 := oneForward_gt (cs := cs) a hi'
    unfold teF
    have tt : ∀ t p, TrT S 7 (stScope (topStmt 27)) [("view", .v b cs), ("place", it (b + i)), ("at", it (b + a))] (.Constant (.bool true) t p) true := fun t p => TrT.val EvT.bool
    have cond : ∀ c : Bool, (decide (0 < oneForward cs a ∧ codeAt cs ((oneForward cs a : Int) - 1) = 10) = c) → (decide (0 < oneForward cs a) && (codeAt cs ((oneForward cs a : Int) - 1) == 10)) = c := fun c h => by rw [← h, Bool.eq_iff_iff]; simp
    by_cases hc : 0 < oneForward cs a ∧ codeAt cs ((oneForward cs a : Int) - 1) = 10
    · have ah : aheadOf cs (oneForward cs a) = oneForward cs a - 1 := by unfold aheadOf; rw [if_pos hc]
      rw [ah]
      by_cases hs : i < oneForward cs a - 1 ∨ oneForward cs a = cs.length
      · rw [if_pos hs]
        refine WhT.ret (tt _ _) (ExT.cons (StT.assign (EvT.call2 H.f_one_forward (by kwd_rel) (by kwd_rel) (s_one_forward H hb a hi').up (by kernel_rfl)) (by kaf_suf) (by kernel_rfl)) ?_)
        refine ExT.cons (StT.assign (EvT.ifexp (b := true) ((TrT.and2 (b := decide (0 < oneForward cs a)) (c := codeAt cs ((oneForward cs a : Int) - 1) == 10) (TrT.icmp (by kwd_rel) (by kwd_rel) (by kwd_less)) fun _ => TrT.icmp (i := codeAt cs ((oneForward cs a : Int) - 1)) (by kwd_rel) (by kwd_rel) rfl).cast (cond _ (decide_eq_true hc))) (by simp only [if_true]; kwd_rel)) (by kaf_suf) (by kernel_rfl)) ?_
        refine ExT.stop (StT.ite (b := true) ((TrT.or2 (b := decide (i < oneForward cs a - 1)) (c := decide (oneForward cs a = cs.length)) (TrT.icmp (by kwd_rel) (by kwd_rel) (by kwd_less)) fun _ => TrT.icmp (by kwd_rel) (by kwd_rel) (by rw [Bool.eq_iff_iff]; simp [icmp]; omega)).cast (by simpa using hs)) ?_) trivial
        exact ExT.stop (StT.ret (EvT.castI (EvT.max2 H.b_max (by kwd_rel) (by kwd_rel) (by kernel_rfl)) (by split <;> omega))) trivial
      · rw [if_neg hs]
        refine WhT.step (tt _ _) (m' := [("view", .v b cs), ("place", it (b + i)), ("at", it (b + oneForward cs a))]) ?_ (ih _ g1 (by omega))
        refine ExT.cons (StT.assign (EvT.call2 H.f_one_forward (by kwd_rel) (by kwd_rel) (s_one_forward H hb a hi').up (by kernel_rfl)) (by kaf_suf) (by kernel_rfl)) ?_
        refine ExT.cons (StT.assign (EvT.ifexp (b := true) ((TrT.and2 (b := decide (0 < oneForward cs a)) (c := codeAt cs ((oneForward cs a : Int) - 1) == 10) (TrT.icmp (by kwd_rel) (by kwd_rel) (by kwd_less)) fun _ => TrT.icmp (i := codeAt cs ((oneForward cs a : Int) - 1)) (by kwd_rel) (by kwd_rel) rfl).cast (cond _ (decide_eq_true hc))) (by simp only [if_true]; kwd_rel)) (by kaf_suf) (by kernel_rfl)) ?_
        refine ExT.cons (StT.ite (b := false) ((TrT.or2 (b := decide (i < oneForward cs a - 1)) (c := decide (oneForward cs a = cs.length)) (TrT.icmp (by kwd_rel) (by kwd_rel) (by kwd_less)) fun _ => TrT.icmp (by kwd_rel) (by kwd_rel) (by rw [Bool.eq_iff_iff]; simp [icmp]; omega)).cast (by simpa using hs)) ExT.nil) ?_
        exact ExT.drop (ExT.cons (StT.assign (by kwd_rel) (by kaf_suf) (by kernel_rfl)) ExT.nil) (by krn_off)
    · have ah : aheadOf cs (oneForward cs a) = oneForward cs a := by unfold aheadOf; rw [if_neg hc]
      rw [ah]
      by_cases hs : i < oneForward cs a ∨ oneForward cs a = cs.length
      · rw [if_pos hs]
        refine WhT.ret (tt _ _) (ExT.cons (StT.assign (EvT.call2 H.f_one_forward (by kwd_rel) (by kwd_rel) (s_one_forward H hb a hi').up (by kernel_rfl)) (by kaf_suf) (by kernel_rfl)) ?_)
        refine ExT.cons (StT.assign (EvT.ifexp (b := false) ((TrT.and2 (b := decide (0 < oneForward cs a)) (c := codeAt cs ((oneForward cs a : Int) - 1) == 10) (TrT.icmp (by kwd_rel) (by kwd_rel) (by kwd_less)) fun _ => TrT.icmp (i := codeAt cs ((oneForward cs a : Int) - 1)) (by kwd_rel) (by kwd_rel) rfl).cast (cond _ (decide_eq_false hc))) (by simp only [Bool.false_eq_true, if_false]; kwd_rel)) (by kaf_suf) (by kernel_rfl)) ?_
        refine ExT.stop (StT.ite (b := true) ((TrT.or2 (b := decide (i < oneForward cs a)) (c := decide (oneForward cs a = cs.length)) (TrT.icmp (by kwd_rel) (by kwd_rel) (by kwd_less)) fun _ => TrT.icmp (by kwd_rel) (by kwd_rel) (by rw [Bool.eq_iff_iff]; simp [icmp]; omega)).cast (by simpa using hs)) ?_) trivial
        exact ExT.stop (StT.ret (EvT.castI (EvT.max2 H.b_max (by kwd_rel) (by kwd_rel) (by kernel_rfl)) (by split <;> omega))) trivial
      · rw [if_neg hs]
        refine WhT.step (tt _ _) (m' := [("view", .v b cs), ("place", it (b + i)), ("at", it (b + oneForward cs a))]) ?_ (ih _ g1 (by omega))
        refine ExT.cons (StT.assign (EvT.call2 H.f_one_forward (by kwd_rel) (by kwd_rel) (s_one_forward H hb a hi').up (by kernel_rfl)) (by kaf_suf) (by kernel_rfl)) ?_
        refine ExT.cons (StT.assign (EvT.ifexp (b := false) ((TrT.and2 (b := decide (0 < oneForward cs a)) (c := codeAt cs ((oneForward cs a : Int) - 1) == 10) (TrT.icmp (by kwd_rel) (by kwd_rel) (by kwd_less)) fun _ => TrT.icmp (i := codeAt cs ((oneForward cs a : Int) - 1)) (by kwd_rel) (by kwd_rel) rfl).cast (cond _ (decide_eq_false hc))) (by simp only [Bool.false_eq_true, if_false]; kwd_rel)) (by kaf_suf) (by kernel_rfl)) ?_
        refine ExT.cons (StT.ite (b := false) ((TrT.or2 (b := decide (i < oneForward cs a)) (c := decide (oneForward cs a = cs.length)) (TrT.icmp (by kwd_rel) (by kwd_rel) (by kwd_less)) fun _ => TrT.icmp (by kwd_rel) (by kwd_rel) (by rw [Bool.eq_iff_iff]; simp [icmp]; omega)).cast (by simpa using hs)) ExT.nil) ?_
        exact ExT.drop (ExT.cons (StT.assign (by kwd_rel) (by kaf_suf) (by kernel_rfl)) ExT.nil) (by krn_off)
end
section
variable {S : Sg} {b : Int} {cs : List Int}
theorem ok_text_begin : DefOk (topStmt 28) ["view", "place"] := by ktd_rel
theorem s_text_begin (H : KF S) (hb : 1 ≤ b) (i : Nat) (hi : i ≤ cs.length) : CallT S 8 (topStmt 28) [.v b cs, it (b + i)] (.int (b + textBegin cs i)) := by
  refine CallT.mk [("view", .v b cs), ("place", it (b + i))] ok_text_begin rfl ?_
  refine ExT.cons (StT.assign (by kwd_rel) (by kaf_suf) (by kernel_rfl)) ?_
  unfold textBegin
  obtain ⟨a, ha⟩ : ∃ a : Nat, a = i := ⟨i, rfl⟩
  have hi' : a ≤ cs.length := by omega
  obtain ⟨K, hK⟩ : ∃ K, K = cs.length + 1 := ⟨_, rfl⟩
  have start : a < K := by omega
  refine ExT.forget (m₂ := [("view", .v b cs), ("place", it (b + i)), ("at", it (b + a))]) (by rw [ha]; krn_off) ?_
  rw [← hK, show tbF cs i K i = tbF cs i K a by rw [ha]]
  refine ExT.stop (StT.whl ?_) trivial
  clear ha hK
  induction K generalizing a with
  | zero => omega
  | succ K ih =>
    have g1 := oneBackward_lt (cs := cs) a hi'
    have g2 := scanF_le (p := isSp) (cs := cs) (lim := cs.length) (oneBackward cs a) (by omega)
    unfold tbF
    have tt : ∀ t p, TrT S 7 (stScope (topStmt 28)) [("view", .v b cs), ("place", it (b + i)), ("at", it (b + a))] (.Constant (.bool true) t p) true := fun t p => TrT.val EvT.bool
    by_cases hs : scanF isSp cs cs.length (oneBackward cs a) < i
    · rw [if_pos hs]
      refine WhT.ret (tt _ _) (ExT.cons (StT.assign (EvT.call2 H.f_one_backward (by kwd_rel) (by kwd_rel) (s_one_backward H hb a hi').up (by kernel_rfl)) (by kaf_suf) (by kernel_rfl)) ?_)
      refine ExT.cons (StT.assign (by kwd_rel) (by kaf_suf) (by kernel_rfl)) ?_
      refine ExT.cons (m' := [("view", .v b cs), ("place", it (b + i)), ("at", it (b + a)), ("found", it (b + oneBackward cs a)), ("behind", it (b + scanF isSp cs cs.length (oneBackward cs a)))]) (StT.whl (WhT.up (cs := cs) (lim := cs.length) (p := isSp) (fun j => [("view", .v b cs), ("place", it (b + i)), ("at", it (b + a)), ("found", it (b + oneBackward cs a)), ("behind", it (b + j))]) (fun j hj => ?_) (fun j hj => ?_) _ (by omega))) ?_
      · exact TrT.and2 (TrT.icmp (by kwd_rel) (by kwd_rel) (by kwd_less)) fun _ => TrT.inTup (i := codeAt cs (j : Int)) (ns := [32, 9, 10]) (by kwd_rel) (EvT.castD (x := .tuple [.int 32, .int 9, .int 10]) (EvT.tup3 (by kwd_rel) (by kwd_rel) (by kwd_rel)) rfl) rfl
      · exact ExT.cons (StT.asg (by kaf_suf) (by kwd_rel) (by omega) (by kernel_rfl)) ExT.nil
      exact ExT.stop (StT.ite (b := true) (TrT.icmp (by kwd_rel) (by kwd_rel) (by kwd_less)) (ExT.stop (StT.ret (by kwd_rel)) trivial)) trivial
    · rw [if_neg hs]
      by_cases h0 : oneBackward cs a = 0
      · rw [if_pos h0]
        refine WhT.ret (tt _ _) (ExT.cons (StT.assign (EvT.call2 H.f_one_backward (by kwd_rel) (by kwd_rel) (s_one_backward H hb a hi').up (by kernel_rfl)) (by kaf_suf) (by kernel_rfl)) ?_)
        refine ExT.cons (StT.assign (by kwd_rel) (by kaf_suf) (by kernel_rfl)) ?_
        refine ExT.cons (m' := [("view", .v b cs), ("place", it (b + i)), ("at", it (b + a)), ("found", it (b + oneBackward cs a)), ("behind", it (b + scanF isSp cs cs.length (oneBackward cs a)))]) (StT.whl (WhT.up (cs := cs) (lim := cs.length) (p := isSp) (fun j => [("view", .v b cs), ("place", it (b + i)), ("at", it (b + a)), ("found", it (b + oneBackward cs a)), ("behind", it (b + j))]) (fun j hj => ?_) (fun j hj => ?_) _ (by omega))) ?_
        · exact TrT.and2 (TrT.icmp (by kwd_rel) (by kwd_rel) (by kwd_less)) fun _ => TrT.inTup (i := codeAt cs (j : Int)) (ns := [32, 9, 10]) (by kwd_rel) (EvT.castD (x := .tuple [.int 32, .int 9, .int 10]) (EvT.tup3 (by kwd_rel) (by kwd_rel) (by kwd_rel)) rfl) rfl
        · exact ExT.cons (StT.asg (by kaf_suf) (by kwd_rel) (by omega) (by kernel_rfl)) ExT.nil
        refine ExT.cons (StT.ite (b := false) (TrT.icmp (by kwd_rel) (by kwd_rel) (by kwd_less)) ExT.nil) ?_
        exact ExT.stop (StT.ite (b := true) (TrT.icmp (by kwd_rel) (by kwd_rel) (by kwd_less)) (ExT.stop (StT.ret (by kwd_rel)) trivial)) trivial
      · rw [if_neg h0]
        refine WhT.step (tt _ _) (m' := [("view", .v b cs), ("place", it (b + i)), ("at", it (b + oneBackward cs a))]) ?_ (ih _ (by omega) (by omega))
        refine ExT.cons (StT.assign (EvT.call2 H.f_one_backward (by kwd_rel) (by kwd_rel) (s_one_backward H hb a hi').up (by kernel_rfl)) (by kaf_suf) (by kernel_rfl)) ?_
        refine ExT.cons (StT.assign (by kwd_rel) (by kaf_suf) (by kernel_rfl)) ?_
        refine ExT.cons (m' := [("view", .v b cs), ("place", it (b + i)), ("at", it (b + a)), ("found", it (b + oneBackward cs a)), ("behind", it (b + scanF isSp cs cs.length (oneBackward cs a)))]) (StT.whl (WhT.up (cs := cs) (lim := cs.length) (p := isSp) (fun j => [("view", .v b cs), ("place", it (b + i)), ("at", it (b + a)), ("found", it (b + oneBackward cs a)), ("behind", it (b + j))]) (fun j hj => ?_) (fun j hj => ?_) _ (by omega))) ?_
        · exact TrT.and2 (TrT.icmp (by kwd_rel) (by kwd_rel) (by kwd_less)) fun _ => TrT.inTup (i := codeAt cs (j : Int)) (ns := [32, 9, 10]) (by kwd_rel) (EvT.castD (x := .tuple [.int 32, .int 9, .int 10]) (EvT.tup3 (by kwd_rel) (by kwd_rel) (by kwd_rel)) rfl) rfl
        · exact ExT.cons (StT.asg (by kaf_suf) (by kwd_rel) (by omega) (by kernel_rfl)) ExT.nil
        refine ExT.cons (StT.ite (b := false) (TrT.icmp (by kwd_rel) (by kwd_rel) (by kwd_less)) ExT.nil) ?_
        refine ExT.cons (StT.ite (b := false) (TrT.icmp (by kwd_rel) (by kwd_rel) (by kwd_less)) ExT.nil) ?_
        exact ExT.drop (ExT.cons (StT.assign (by kwd_rel) (by kaf_suf) (by kernel_rfl)) ExT.nil) (by krn_off)
theorem ok_paragraph_bounds : DefOk (topStmt 29) ["view", "place"] := by ktd_rel
theorem s_paragraph_bounds (H : KF S) (hb : 1 ≤ b) (i : Nat) (hi : i ≤ cs.length) : CallT S 8 (topStmt 29) [.v b cs, it (b + i)] (.tuple [.int (b + oneBackward cs (oneForward cs i)), .int (b + oneForward cs i)]) := by
  refine CallT.mk [("view", .v b cs), ("place", it (b + i))] ok_paragraph_bounds rfl ?_
  refine ExT.cons (StT.assign (EvT.call2 H.f_one_forward (by kwd_rel) (by kwd_rel) (s_one_forward H hb i hi).up (by kernel_rfl)) (by kaf_suf) (by kernel_rfl)) ?_
  exact ExT.stop (StT.ret (EvT.tup2 (EvT.call2 H.f_one_backward (by kwd_rel) (by kwd_rel) (s_one_backward H hb (oneForward cs i) (oneForward_le i)).up (by kernel_rfl)) (by kwd_rel))) trivial
theorem ok_closed_at : DefOk (topStmt 34) ["view", "place"] := by ktd_rel
theorem s_closed_at (H : KF S) (i : Nat) : CallT S 3 (topStmt 34) [.v b cs, it (b + i)] (.int (posO b (closedAt cs i))) := by
  refine CallT.mk [("view", .v b cs), ("place", it (b + i))] ok_closed_at rfl ?_
  unfold closedAt
  by_cases h : isStop (codeAt cs i) = true
  · rw [if_pos h]
    have hi := stop_in h
    refine ExT.cons (StT.ite (b := false) (TrT.notInTup (i := codeAt cs i) (by kwd_rel) (by kwd_rel) (congrArg Bool.not h)) ExT.nil) ?_
    refine ExT.cons (StT.assign (by kwd_rel) (by kaf_suf) (by kernel_rfl)) ?_
    refine ExT.forget (m₂ := [("view", .v b cs), ("at", it (b + i + 1))]) (by krn_off) ?_
    rw [show b + (i : Int) + 1 = b + ((i + 1 : Nat) : Int) by omega]
    refine ExT.cons (m' := [("view", .v b cs), ("at", it (b + scanF isClosing cs cs.length (i + 1)))]) (StT.whl (WhT.up (cs := cs) (lim := cs.length) (p := isClosing) (fun i => [("view", .v b cs), ("at", it (b + i))]) (fun i hi => ?_) (fun i hi => ?_) _ hi)) (ExT.stop (StT.ret (by simp only [posO]; kwd_rel)) trivial)
    · refine TrT.inTup (i := codeAt cs (i : Int)) (by kwd_rel) (by kwd_rel) ?_
      by_cases g : i < cs.length
      · rw [decide_eq_true g]; rfl
      · rw [decide_eq_false g, codeAt_off (by omega)]; rfl
    · exact ExT.cons (StT.asg (by kaf_suf) (by kwd_rel) (by omega) (by kernel_rfl)) ExT.nil
  · rw [if_neg h]
    rw [Bool.not_eq_true] at h
    exact ExT.stop (StT.ite (b := true) (TrT.notInTup (i := codeAt cs i) (by kwd_rel) (by kwd_rel) (congrArg Bool.not h)) (ExT.stop (StT.ret EvT.neg) trivial)) trivial
theorem ok_gap_behind : DefOk (topStmt 35) ["view", "at"] := by ktd_rel
theorem s_gap_behind (H : KF S) (i : Nat) : CallT S 4 (topStmt 35) [.v b cs, it (b + i)] (.int (posO b (gapBehind cs i))) := by
  refine CallT.mk [("view", .v b cs), ("at", it (b + i))] ok_gap_behind rfl ?_
  unfold gapBehind
  cases h : isLineEnd cs i with
  | true =>
    rw [if_pos rfl]
    exact ExT.stop (StT.ite (b := true) (TrT.val (EvT.castB (EvT.call2 H.f_is_line_end (by kwd_rel) (by kwd_rel) (s_is_line_end H i).up (by kernel_rfl)) h)) (ExT.stop (StT.ret (by simp only [posO]; kwd_rel)) trivial)) trivial
  | false =>
    rw [if_neg (by simp)]
    refine ExT.cons (StT.ite (b := false) (TrT.val (EvT.castB (EvT.call2 H.f_is_line_end (by kwd_rel) (by kwd_rel) (s_is_line_end H i).up (by kernel_rfl)) h)) ExT.nil) ?_
    by_cases h1 : codeAt cs i = 9
    · rw [if_pos h1]
      exact ExT.stop (StT.ite (b := true) (TrT.icmp (i := codeAt cs i) (by kwd_rel) (by kwd_rel) (by kwd_less)) (ExT.stop (StT.ret (EvT.castI (by kwd_rel) (by simp only [posO]; omega))) trivial)) trivial
    · rw [if_neg h1]
      refine ExT.cons (StT.ite (b := false) (TrT.icmp (i := codeAt cs i) (by kwd_rel) (by kwd_rel) (by kwd_less)) ExT.nil) ?_
      by_cases h2 : codeAt cs i ≠ 32
      · rw [if_pos h2]
        exact ExT.stop (StT.ite (b := true) (TrT.icmp (i := codeAt cs i) (by kwd_rel) (by kwd_rel) (by kwd_less)) (ExT.stop (StT.ret EvT.neg) trivial)) trivial
      · rw [if_neg h2]
        refine ExT.cons (StT.ite (b := false) (TrT.icmp (i := codeAt cs i) (by kwd_rel) (by kwd_rel) (by kwd_less)) ExT.nil) ?_
        cases h3 : isLineEnd cs (i + 1) with
        | true =>
          rw [if_pos rfl]
          exact ExT.stop (StT.ite (b := true) (TrT.val (EvT.castB (EvT.call2 H.f_is_line_end (by kwd_rel) (EvT.castI (by kwd_rel) (by omega)) (s_is_line_end H (i + 1)).up (by kernel_rfl)) h3)) (ExT.stop (StT.ret (EvT.castI (by kwd_rel) (by simp only [posO]; omega))) trivial)) trivial
        | false =>
          rw [if_neg (by simp)]
          refine ExT.cons (StT.ite (b := false) (TrT.val (EvT.castB (EvT.call2 H.f_is_line_end (by kwd_rel) (EvT.castI (by kwd_rel) (by omega)) (s_is_line_end H (i + 1)).up (by kernel_rfl)) h3)) ExT.nil) ?_
          by_cases h4 : codeAt cs ((i + 1 : Nat) : Int) = 32
          · rw [if_pos h4]
            exact ExT.stop (StT.ret (EvT.ifexp (b := true) (TrT.icmp (i := codeAt cs ((i + 1 : Nat) : Int)) (by kwd_rel) (by kwd_rel) (by kwd_less)) (by simp only [if_true]; exact EvT.castI (by kwd_rel) (by simp only [posO]; omega)))) trivial
          · rw [if_neg h4]
            exact ExT.stop (StT.ret (EvT.ifexp (b := false) (TrT.icmp (i := codeAt cs ((i + 1 : Nat) : Int)) (by kwd_rel) (by kwd_rel) (by kwd_less)) (by simp only [Bool.false_eq_true, if_false]; exact EvT.neg))) trivial
end
section
variable {S : Sg} {b : Int} {cs : List Int}
theorem ok_end_match : DefOk (topStmt 36) ["view", "place", "limit"] := by ktd_rel
theorem s_end_match (H : KF S) (hb : 1 ≤ b) (i lim : Nat) (hl : lim ≤ cs.length) : CallT S 5 (topStmt 36) [.v b cs, it (b + i), it (b + lim)] (.int (posO b (endMatch cs i lim))) := by
  refine CallT.mk [("view", .v b cs), ("place", it (b + i)), ("limit", it (b + lim))] ok_end_match rfl ?_
  refine ExT.cons (StT.assign (EvT.call2 H.f_closed_at (by kwd_rel) (by kwd_rel) (s_closed_at H i).up (by kernel_rfl)) (by kaf_suf) (by kernel_rfl)) ?_
  unfold endMatch
  cases e : closedAt cs i with
  | none =>
    simp only [posO, Option.bind_none]
    refine ExT.cons (StT.assign (EvT.ifexp (b := true) (TrT.icmp (by kwd_rel) (by kwd_rel) rfl) (by simp only [if_true]; exact EvT.neg)) (by kaf_suf) (by kernel_rfl)) ?_
    exact ExT.stop (StT.ite (b := true) ((TrT.or2 (b := true) (c := true) (TrT.icmp (by kwd_rel) (by kwd_rel) rfl) (fun h => nomatch h)).cast rfl) (ExT.stop (StT.ret EvT.neg) trivial)) trivial
  | some x =>
    simp only [posO, Option.bind_some]
    refine ExT.cons (StT.assign (EvT.ifexp (b := false) (TrT.icmp (by kwd_rel) (by kwd_rel) (by kwd_less)) (by simp only [Bool.false_eq_true, if_false]; exact EvT.call2 H.f_gap_behind (by kwd_rel) (by kwd_rel) (s_gap_behind H x).up (by kernel_rfl))) (by kaf_suf) (by kernel_rfl)) ?_
    cases e2 : gapBehind cs x with
    | none =>
      simp only [posO]
      exact ExT.stop (StT.ite (b := true) ((TrT.or2 (b := true) (c := true) (TrT.icmp (by kwd_rel) (by kwd_rel) rfl) (fun h => nomatch h)).cast rfl) (ExT.stop (StT.ret EvT.neg) trivial)) trivial
    | some y =>
      have h2 := gapBehind_le (closedAt_le e).2 e2
      simp only [posO]
      by_cases h : lim < y
      · rw [if_pos h]
        exact ExT.stop (StT.ite (b := true) ((TrT.or2 (b := false) (c := true) (TrT.icmp (by kwd_rel) (by kwd_rel) (by kwd_less)) (fun _ => TrT.icmp (by kwd_rel) (by kwd_rel) (by kwd_less))).cast rfl) (ExT.stop (StT.ret EvT.neg) trivial)) trivial
      · rw [if_neg h]
        refine ExT.cons (StT.ite (b := false) ((TrT.or2 (b := false) (c := false) (TrT.icmp (by kwd_rel) (by kwd_rel) (by kwd_less)) (fun _ => TrT.icmp (by kwd_rel) (by kwd_rel) (by kwd_less))).cast rfl) ExT.nil) ?_
        refine ExT.forget (m₂ := [("view", .v b cs), ("limit", it (b + lim)), ("at", it (b + y))]) (by krn_off) ?_
        refine ExT.cons (m' := [("view", .v b cs), ("limit", it (b + lim)), ("at", it (b + scanF isSp cs lim y))]) (StT.whl (WhT.up (cs := cs) (lim := lim) (p := isSp) (fun i => [("view", .v b cs), ("limit", it (b + lim)), ("at", it (b + i))]) (fun i hi => ?_) (fun i hi => ?_) _ (by omega))) (ExT.stop (StT.ret (by simp only [posO]; kwd_rel)) trivial)
        · exact TrT.and2 (TrT.icmp (by kwd_rel) (by kwd_rel) (by kwd_less)) fun _ => TrT.inTup (i := codeAt cs (i : Int)) (by kwd_rel) (by kwd_rel) rfl
        · exact ExT.cons (StT.asg (by kaf_suf) (by kwd_rel) (by omega) (by kernel_rfl)) ExT.nil
theorem ok_spaces_begin : DefOk (topStmt 37) ["view", "place", "first"] := by ktd_rel
theorem s_spaces_begin (H : KF S) (i f : Nat) (hi : i ≤ cs.length) : CallT S 3 (topStmt 37) [.v b cs, it (b + i), it (b + f)] (.int (b + scanB isSp cs f i)) := by
  refine CallT.mk [("view", .v b cs), ("place", it (b + i)), ("first", it (b + f))] ok_spaces_begin rfl ?_
  refine ExT.cons (StT.assign (by kwd_rel) (by kaf_suf) (by kernel_rfl)) ?_
  refine ExT.forget (m₂ := [("view", .v b cs), ("first", it (b + f)), ("at", it (b + i))]) (by krn_off) ?_
  refine ExT.cons (m' := [("view", .v b cs), ("first", it (b + f)), ("at", it (b + scanB isSp cs f i))]) (StT.whl (WhT.down (cs := cs) (low := f) (top := cs.length) (p := isSp) (fun i => [("view", .v b cs), ("first", it (b + f)), ("at", it (b + i))]) (fun i hi => ?_) (fun i hi => ?_) i hi)) (ExT.stop (StT.ret (by kwd_rel)) trivial)
  · exact TrT.and2 (TrT.icmp (by kwd_rel) (by kwd_rel) (by kwd_less)) fun _ => TrT.inTup (i := codeAt cs ((i : Int) - 1)) (by kwd_rel) (by kwd_rel) rfl
  · exact ExT.cons (StT.asg (by kaf_suf) (by kwd_rel) (by omega) (by kernel_rfl)) ExT.nil
theorem ok_one_forward_sentence : DefOk (topStmt 38) ["view", "place"] := by ktd_rel
theorem s_one_forward_sentence (H : KF S) (hb : 1 ≤ b) (hh : b + cs.length ≤ 1000) (i : Nat) (hi : i ≤ cs.length) : CallT S 9 (topStmt 38) [.v b cs, it (b + i)] (.int (b + oneForwardSentence cs i)) := by
  refine CallT.mk [("view", .v b cs), ("place", it (b + i))] ok_one_forward_sentence rfl ?_
  refine ExT.cons (StT.assign (EvT.call2 H.f_text_end (by kwd_rel) (by kwd_rel) (s_text_end H hb i hi).up (by kernel_rfl)) (by kaf_suf) (by kernel_rfl)) ?_
  have hl := textEnd_le (cs := cs) i hi
  unfold oneForwardSentence
  generalize textEnd cs i = lim at hl
  have rg := fun xp pos np1 np2 => RgT.r2 (S := S) (n := 8) (sc := stScope (topStmt 38)) (m := [("view", .v b cs), ("place", it (b + i)), ("limit", it (b + lim))]) (a := .Name "place" np1) (b := .Name "limit" np2) (i := b + i) (j := b + lim) (xp := xp) (pos := pos) H.b_range (by kwd_rel) (by kwd_rel) (by omega) (by omega) (by omega) (by omega) (by kernel_rfl)
  have hk : (b + (lim : Int) - (b + i)).toNat = lim - i := by omega
  rw [hk] at rg
  have body : ∀ (K a : Nat), a + K = lim ∨ K = 0 →
      ((FoT S 8 (stScope (topStmt 38)) [("view", .v b cs), ("place", it (b + i)), ("limit", it (b + lim))] "at" (match (stBody (topStmt 38)).getD 1 default with | .For _ _ b _ _ => b | _ => []) (b + a) 1 K (.ret (.int (b + fsF cs lim K a)))) ∨
       (FoT S 8 (stScope (topStmt 38)) [("view", .v b cs), ("place", it (b + i)), ("limit", it (b + lim))] "at" (match (stBody (topStmt 38)).getD 1 default with | .For _ _ b _ _ => b | _ => []) (b + a) 1 K (.next [("view", .v b cs), ("place", it (b + i)), ("limit", it (b + lim))]) ∧ fsF cs lim K a = lim)) := by
    intro K
    induction K with
    | zero => intro a _; exact .inr ⟨FoT.done, rfl⟩
    | succ K ih =>
      intro a ha
      have ha' : a + (K + 1) = lim := by omega
      unfold fsF
      cases e : endMatch cs a lim with
      | none =>
        have turn : ∀ out, FoT S 8 (stScope (topStmt 38)) [("view", .v b cs), ("place", it (b + i)), ("limit", it (b + lim))] "at" (match (stBody (topStmt 38)).getD 1 default with | .For _ _ b _ _ => b | _ => []) (b + (a + 1 : Nat)) 1 K out →
            FoT S 8 (stScope (topStmt 38)) [("view", .v b cs), ("place", it (b + i)), ("limit", it (b + lim))] "at" (match (stBody (topStmt 38)).getD 1 default with | .For _ _ b _ _ => b | _ => []) (b + a) 1 (K + 1) out := fun out h => by
          refine FoT.turn (bout := .next [("view", .v b cs), ("place", it (b + i)), ("limit", it (b + lim))]) (m' := [("view", .v b cs), ("place", it (b + i)), ("limit", it (b + lim)), ("at", it (b + a))]) (by kernel_rfl) (by kaf_suf) ?_ (by rwa [show b + (a : Int) + 1 = b + (a + 1 : Nat) by omega])
          refine ExT.cons (StT.assign (EvT.call3 H.f_end_match (by kwd_rel) (by kwd_rel) (by kwd_rel) (s_end_match H hb a lim hl).up (by kernel_rfl)) (by kaf_suf) (by kernel_rfl)) ?_
          rw [e]
          exact ExT.drop (ExT.cons (StT.ite (b := false) (TrT.icmp (by kwd_rel) (by kwd_rel) rfl) ExT.nil) ExT.nil) (by krn_off)
        rcases ih (a + 1) (by omega) with q | ⟨q, z⟩
        · exact .inl (turn _ q)
        · exact .inr ⟨turn _ q, z⟩
      | some x =>
        have hx := endMatch_le e
        refine .inl (FoT.turn (bout := .ret (.int (b + scanB isSp cs (a + 1) x))) (m' := [("view", .v b cs), ("place", it (b + i)), ("limit", it (b + lim)), ("at", it (b + a))]) (by kernel_rfl) (by kaf_suf) ?_ rfl)
        refine ExT.cons (StT.assign (EvT.call3 H.f_end_match (by kwd_rel) (by kwd_rel) (by kwd_rel) (s_end_match H hb a lim hl).up (by kernel_rfl)) (by kaf_suf) (by kernel_rfl)) ?_
        rw [e]
        simp only [posO]
        refine ExT.stop (StT.ite (b := true) (TrT.icmp (by kwd_rel) (by kwd_rel) (by kwd_less)) ?_) trivial
        exact ExT.stop (StT.ret (EvT.call3 H.f_spaces_begin (by kwd_rel) (by kwd_rel) (EvT.castI (by kwd_rel) (by omega)) (s_spaces_begin H x (a + 1) (by omega)).up (by kernel_rfl))) trivial
  rcases body (lim - i) i (by omega) with q | ⟨q, z⟩
  · exact ExT.stop (StT.for (rg _ _ _ _) q) trivial
  · rw [z]
    exact ExT.cons (StT.for (rg _ _ _ _) q) (ExT.stop (StT.ret (by kwd_rel)) trivial)
end
section
variable {S : Sg} {b : Int} {cs : List Int}
noncomputable def forBody : Stmt → List Stmt
  | .For _ _ b _ _ => b
  | _ => []
theorem ok_one_backward_sentence : DefOk (topStmt 39) ["view", "place"] := by ktd_rel
theorem s_one_backward_sentence (H : KF S) (hb : 1 ≤ b) (hh : b + cs.length ≤ 1000) (i : Nat) (hi : i ≤ cs.length) : CallT S 9 (topStmt 39) [.v b cs, it (b + i)] (.int (b + oneBackwardSentence cs i)) := by
  refine CallT.mk [("view", .v b cs), ("place", it (b + i))] ok_one_backward_sentence rfl ?_
  refine ExT.cons (StT.assign (EvT.call2 H.f_text_begin (by kwd_rel) (by kwd_rel) (s_text_begin H hb i hi).up (by kernel_rfl)) (by kaf_suf) (by kernel_rfl)) ?_
  have hl := textBegin_le (cs := cs) i hi
  unfold oneBackwardSentence
  generalize textBegin cs i = first at hl
  have rg := fun xp pos np1 np2 np3 np4 k1 k2 p1 p2 np5 np6 k3 => RgT.rd (S := S) (n := 8) (sc := stScope (topStmt 39)) (m := [("view", .v b cs), ("place", it (b + i)), ("first", it (b + first))]) (a := .BinOp (.Name "place" np1) .Sub (.Constant (.int 1) k1 np2) p1) (b := .BinOp (.Name "first" np3) .Sub (.Constant (.int 1) k2 np4) p2) (c := .UnaryOp .USub (.Constant (.int 1) k3 np5) np6) (i := b + i - 1) (j := b + first - 1) (xp := xp) (pos := pos) H.b_range (by kwd_rel) (by kwd_rel) EvT.neg (by omega) (by omega) (by omega) (by omega) (by kernel_rfl)
  have hk : (b + (i : Int) - 1 - (b + first - 1)).toNat = i - first := by omega
  rw [hk] at rg
  have body : ∀ (K a : Nat), a ≤ i → K ≤ a →
      ((FoT S 8 (stScope (topStmt 39)) [("view", .v b cs), ("place", it (b + i)), ("first", it (b + first))] "at" (forBody ((stBody (topStmt 39)).getD 1 default)) (b + a - 1) (-1) K (.ret (.int (b + bsF cs i first K a)))) ∨
       (FoT S 8 (stScope (topStmt 39)) [("view", .v b cs), ("place", it (b + i)), ("first", it (b + first))] "at" (forBody ((stBody (topStmt 39)).getD 1 default)) (b + a - 1) (-1) K (.next [("view", .v b cs), ("place", it (b + i)), ("first", it (b + first))]) ∧ bsF cs i first K a = first)) := by
    intro K
    induction K with
    | zero => intro a _ _; exact .inr ⟨FoT.done, rfl⟩
    | succ K ih =>
      intro a ha hK
      have ca : b + ((a - 1 : Nat) : Int) = b + a - 1 := by omega
      have cb : b + ((a - 1 : Nat) : Int) - 1 = b + a - 1 + -1 := by omega
      have go : ExT S 8 (stScope (topStmt 39)) [("view", .v b cs), ("place", it (b + i)), ("first", it (b + first)), ("at", it (b + a - 1))] (forBody ((stBody (topStmt 39)).getD 1 default)) (.next [("view", .v b cs), ("place", it (b + i)), ("first", it (b + first))]) → bsF cs i first (K + 1) a = bsF cs i first K (a - 1) → 
         ((FoT S 8 (stScope (topStmt 39)) [("view", .v b cs), ("place", it (b + i)), ("first", it (b + first))] "at" (forBody ((stBody (topStmt 39)).getD 1 default)) (b + a - 1) (-1) (K + 1) (.ret (.int (b + bsF cs i first (K + 1) a)))) ∨
       (FoT S 8 (stScope (topStmt 39)) [("view", .v b cs), ("place", it (b + i)), ("first", it (b + first))] "at" (forBody ((stBody (topStmt 39)).getD 1 default)) (b + a - 1) (-1) (K + 1) (.next [("view", .v b cs), ("place", it (b + i)), ("first", it (b + first))]) ∧ bsF cs i first (K + 1) a = first)) := fun h q => by
        rw [q]
        have turn : ∀ out, FoT S 8 (stScope (topStmt 39)) [("view", .v b cs), ("place", it (b + i)), ("first", it (b + first))] "at" (forBody ((stBody (topStmt 39)).getD 1 default)) (b + ((a - 1 : Nat) : Int) - 1) (-1) K out →
            FoT S 8 (stScope (topStmt 39)) [("view", .v b cs), ("place", it (b + i)), ("first", it (b + first))] "at" (forBody ((stBody (topStmt 39)).getD 1 default)) (b + a - 1) (-1) (K + 1) out := fun out g =>
          FoT.turn (bout := .next [("view", .v b cs), ("place", it (b + i)), ("first", it (b + first))]) (m' := [("view", .v b cs), ("place", it (b + i)), ("first", it (b + first)), ("at", it (b + a - 1))]) (by kernel_rfl) (by kaf_suf) h (by rw [cb] at g; exact g)
        rcases ih (a - 1) (by omega) (by omega) with q | ⟨q, z⟩
        · exact .inl (turn _ q)
        · exact .inr ⟨turn _ q, z⟩
      cases e : endMatch cs (a - 1) i with
      | none =>
        refine go ?_ (by rw [bsF, e])
        refine ExT.cons (StT.assign (EvT.call3 H.f_end_match (by kwd_rel) (EvT.castI (by kwd_rel) ca.symm) (by kwd_rel) (s_end_match H hb (a - 1) i hi).up (by kernel_rfl)) (by kaf_suf) (by kernel_rfl)) ?_
        rw [e]
        exact ExT.drop (ExT.cons (StT.ite (b := false) (TrT.andF (TrT.chain (by kwd_rel) (by kwd_rel) (by kwd_rel) rfl)) ExT.nil) ExT.nil) (by krn_off)
      | some x =>
        have hx := endMatch_le e
        by_cases c : x < i ∧ isSp (codeAt cs x) = false
        · refine .inl ?_
          rw [bsF, e]
          simp only [if_pos c]
          refine FoT.turn (bout := .ret (.int (b + x))) (m' := [("view", .v b cs), ("place", it (b + i)), ("first", it (b + first)), ("at", it (b + a - 1))]) (by kernel_rfl) (by kaf_suf) ?_ rfl
          refine ExT.cons (StT.assign (EvT.call3 H.f_end_match (by kwd_rel) (EvT.castI (by kwd_rel) ca.symm) (by kwd_rel) (s_end_match H hb (a - 1) i hi).up (by kernel_rfl)) (by kaf_suf) (by kernel_rfl)) ?_
          rw [e]
          simp only [posO]
          refine ExT.stop (StT.ite (b := true) ((TrT.and2 (b := decide (x < i)) (c := !(isSp (codeAt cs x))) (TrT.chain (by kwd_rel) (by kwd_rel) (by kwd_rel) (by rw [Bool.eq_iff_iff]; simp [icmp]; omega)) fun _ => TrT.notInTup (i := codeAt cs x) (by kwd_rel) (by kwd_rel) rfl).cast (by rw [c.2, decide_eq_true c.1]; rfl)) (ExT.stop (StT.ret (by kwd_rel)) trivial)) trivial
        · refine go ?_ (by rw [bsF, e]; simp only [if_neg c])
          refine ExT.cons (StT.assign (EvT.call3 H.f_end_match (by kwd_rel) (EvT.castI (by kwd_rel) ca.symm) (by kwd_rel) (s_end_match H hb (a - 1) i hi).up (by kernel_rfl)) (by kaf_suf) (by kernel_rfl)) ?_
          rw [e]
          simp only [posO]
          refine ExT.drop (ExT.cons (StT.ite (b := false) ((TrT.and2 (b := decide (x < i)) (c := !(isSp (codeAt cs x))) (TrT.chain (by kwd_rel) (by kwd_rel) (by kwd_rel) (by rw [Bool.eq_iff_iff]; simp [icmp]; omega)) fun _ => TrT.notInTup (i := codeAt cs x) (by kwd_rel) (by kwd_rel) rfl).cast ?_) ExT.nil) ExT.nil) (by krn_off)
          rw [← Bool.not_eq_true, Bool.and_eq_true, decide_eq_true_eq, Bool.not_eq_true']
          exact c
  rcases body (i - first) i (by omega) (by omega) with q | ⟨q, z⟩
  · exact ExT.stop (StT.for (rg _ _ _ _ _ _ _ _ _ _ _ _ _) q) trivial
  · rw [z]
    exact ExT.cons (StT.for (rg _ _ _ _ _ _ _ _ _ _ _ _ _) q) (ExT.stop (StT.ret (by kwd_rel)) trivial)
theorem ok_sentences_target : DefOk (topStmt 40) ["view", "place", "many"] := by ktd_rel
theorem s_sentences_target (H : KF S) (hb : 1 ≤ b) (hh : b + cs.length ≤ 1000) (i : Nat) (hi : i ≤ cs.length) (many : Int) (hm : -1000 ≤ many) (hm' : many ≤ 1000) :
    CallT S 10 (topStmt 40) [.v b cs, it (b + i), it many] (.int (b + sentencesTarget cs i many)) := by
  refine CallT.mk [("view", .v b cs), ("place", it (b + i)), ("many", it many)] ok_sentences_target rfl ?_
  have rg : ∀ xp pos ap apos np, RgT S 9 (stScope (topStmt 40)) [("view", .v b cs), ("place", it (b + i)), ("many", it many)] (.Call (.Name "range" xp) [.Call (.Name "abs" ap) [.Name "many" np] [] apos] [] pos) 0 1 many.natAbs := fun xp pos ap apos np => by
    have := RgT.r1 (xp := xp) (pos := pos) H.b_range (EvT.abs (xp := ap) (pos := apos) H.b_abs (EvT.loc (S := S) (n := 9) (sc := stScope (topStmt 40)) (m := [("view", .v b cs), ("place", it (b + i)), ("many", it many)]) (x := "many") (pos := np) (pv := it many) (by kernel_rfl) (by kaf_pre) (by kernel_rfl)) (by kernel_rfl)) (by split <;> omega) (by split <;> omega) (by kernel_rfl)
    rwa [natAbs_eq] at this
  refine ExT.cons (m' := [("view", .v b cs), ("place", it (b + sentencesTarget cs i many)), ("many", it many)]) (StT.for (rg _ _ _ _ _) ?_) (ExT.stop (StT.ret (by kwd_rel)) trivial)
  unfold sentencesTarget
  by_cases h : 0 < many
  · rw [if_pos h]
    refine FoT.go (M := fun i => [("view", .v b cs), ("place", it (b + (i : Nat))), ("many", it many)]) (M' := fun a i => [("view", .v b cs), ("place", it (b + (i : Nat))), ("many", it many), ("turn", it a)]) (fun i hi => oneForwardSentence_le i hi) (by kernel_rfl) (fun a i => by kaf_suf) (fun a i hi e => ?_) (fun a i hi e => ?_) _ _ _ hi
    · refine ExT.cons (StT.assign (EvT.ifexp (b := true) (TrT.icmp (by kwd_rel) (by kwd_rel) (by kwd_less)) (by simp only [if_true]; exact EvT.call2 H.f_one_forward_sentence (by kwd_rel) (by kwd_rel) (s_one_forward_sentence H hb hh i hi).up (by kernel_rfl))) (by kaf_suf) (by kernel_rfl)) ?_
      refine ExT.stop (StT.ite (b := true) (TrT.icmp (by kwd_rel) (by kwd_rel) (by kwd_less)) ?_) trivial
      exact ExT.dropB (ExT.stop StT.brk trivial) (by krn_off)
    · refine ExT.cons (StT.assign (EvT.ifexp (b := true) (TrT.icmp (by kwd_rel) (by kwd_rel) (by kwd_less)) (by simp only [if_true]; exact EvT.call2 H.f_one_forward_sentence (by kwd_rel) (by kwd_rel) (s_one_forward_sentence H hb hh i hi).up (by kernel_rfl))) (by kaf_suf) (by kernel_rfl)) ?_
      refine ExT.cons (StT.ite (b := false) (TrT.icmp (by kwd_rel) (by kwd_rel) (by kwd_less)) ExT.nil) ?_
      exact ExT.drop (ExT.cons (StT.assign (by kwd_rel) (by kaf_suf) (by kernel_rfl)) ExT.nil) (by krn_off)
  · rw [if_neg h]
    refine FoT.go (M := fun i => [("view", .v b cs), ("place", it (b + (i : Nat))), ("many", it many)]) (M' := fun a i => [("view", .v b cs), ("place", it (b + (i : Nat))), ("many", it many), ("turn", it a)]) (fun i hi => oneBackwardSentence_le i hi) (by kernel_rfl) (fun a i => by kaf_suf) (fun a i hi e => ?_) (fun a i hi e => ?_) _ _ _ hi
    · refine ExT.cons (StT.assign (EvT.ifexp (b := false) (TrT.icmp (by kwd_rel) (by kwd_rel) (by kwd_less)) (by simp only [Bool.false_eq_true, if_false]; exact EvT.call2 H.f_one_backward_sentence (by kwd_rel) (by kwd_rel) (s_one_backward_sentence H hb hh i hi).up (by kernel_rfl))) (by kaf_suf) (by kernel_rfl)) ?_
      refine ExT.stop (StT.ite (b := true) (TrT.icmp (by kwd_rel) (by kwd_rel) (by kwd_less)) ?_) trivial
      exact ExT.dropB (ExT.stop StT.brk trivial) (by krn_off)
    · refine ExT.cons (StT.assign (EvT.ifexp (b := false) (TrT.icmp (by kwd_rel) (by kwd_rel) (by kwd_less)) (by simp only [Bool.false_eq_true, if_false]; exact EvT.call2 H.f_one_backward_sentence (by kwd_rel) (by kwd_rel) (s_one_backward_sentence H hb hh i hi).up (by kernel_rfl))) (by kaf_suf) (by kernel_rfl)) ?_
      refine ExT.cons (StT.ite (b := false) (TrT.icmp (by kwd_rel) (by kwd_rel) (by kwd_less)) ExT.nil) ?_
      exact ExT.drop (ExT.cons (StT.assign (by kwd_rel) (by kaf_suf) (by kernel_rfl)) ExT.nil) (by krn_off)
end
section
variable {S : Sg} {n : Nat} {sc : Scope} {m m' : Loc}
theorem EvT.fdiv {a b : PySem.Expr} {i j : Int} {pos : Pos} (ha : EvT S n sc m a (it i)) (hb : EvT S n sc m b (it j)) (hj : j ≠ 0) (hs : j.natAbs < 1073741824) : EvT S n sc m (.BinOp a .FloorDiv b pos) (it (i.fdiv j)) :=
  ha.bin hb fun A h₀ s v u Q _ r₁ r₂ k => by
    obtain ⟨_, rfl⟩ := rd_int r₁
    obtain ⟨_, rfl⟩ := rd_int r₂
    exact PyProof.Rows.floordiv_int hj (k _ _ (.toks _ _) (.int _ _)) (.inl (PyProof.noPylong_small hs))
theorem EvT.mulS {a b : PySem.Expr} {i j : Int} {pos : Pos} (ha : EvT S n sc m a (it i)) (hb : EvT S n sc m b (it j)) (h1 : -1000000 ≤ i) (h2 : i ≤ 1000000) : EvT S n sc m (.BinOp a .Mult b pos) (it (i * j)) :=
  EvT.mul ha hb (.of_left (intBits_le_64 (by omega) (by omega)))
theorem foldl_rep {α : Type} (x : α) : ∀ (k : Nat) (acc : Array α), (List.foldl (fun x1 x2 => x1 ++ x2) acc (List.replicate k #[x])).toList = acc.toList ++ List.replicate k x
  | 0, acc => by simp
  | k + 1, acc => by
    rw [List.replicate_succ, List.foldl_cons, foldl_rep x k]
    simp [List.replicate_succ]
theorem EvT.rep1 {a b : PySem.Expr} {x : PyData} {i : Int} {pos : Pos} (ha : EvT S n sc m a (.d (.list [x]))) (hb : EvT S n sc m b (it i)) (h1 : -1000 ≤ i) (h2 : i ≤ 1000) : EvT S n sc m (.BinOp a .Mult b pos) (.d (.list (List.replicate i.toNat x))) :=
  ha.bin hb fun A h₀ s v u Q _ r₁ r₂ k => by
    obtain ⟨l, vs, nn, rfl, ho, ra⟩ := rd_list r₁
    obtain ⟨t, rfl⟩ := rd_int r₂
    obtain ⟨v, vs', e1, rv, rr⟩ := RdAll.uncons ra
    have e2 := RdAll.unnil rr
    subst e2
    have hsz : vs.size = 1 := by rw [← Array.length_toList, e1]; rfl
    have hvs : vs = #[v] := by rw [← Array.toArray_toList (xs := vs), e1]
    refine wpAny_binaryOp_repeat_ref (T := "list") (U := "int") (by decide) ⟨_, ho, rfl⟩ (fun s' => typeIs_int s' i t) noFill_list_mul PySem.F.fills_int_mul PySem.F.slot_int_rmul repeat_list PySem.F.slot_int_index.lookup
      (call_meets PySem.F.slot_int_rmul (typeIs_int s i t) PySem.F.entry_int_rmul (PySem.F.args_int_rmul_2 _ _) (int___rmul___int_list i t l vs nn)
        ⟨ho, rfl, ⟨_, ho, rfl⟩, call_meets PySem.F.slot_list_mul ⟨_, ho, rfl⟩ PySem.F.entry_list_mul (PySem.F.args_list_mul_2 _ _)
          (AutoListH.list___mul___list_int_3 l vs nn i t (by simp [Builtin.List.listFitsIndex]; omega) (by rw [hsz]; omega) (by simp [Builtin.List.listTooLong, sizeLine, hsz]; omega)) ⟨ho, ?_⟩⟩)
    have kk : ∀ (o' : Obj) b o, s.heap.get? b = some o → (s.heap.push o').get? b = some o := fun o' _ _ e => Heap.get?_push_of_some _ e
    refine k _ { s with heap := _ } (.push s _) ?_
    refine .list (Heap.get?_push_size _ rfl) ?_ ?_
    · have hne : vs.isEmpty = false := by rw [hvs]; rfl
      simp only [hne, Bool.false_eq_true, if_false]
      rw [hvs, foldl_rep]; simp
    · intro j w y ew ey
      have hne : vs.isEmpty = false := by rw [hvs]; rfl
      simp only [hne, Bool.false_eq_true, if_false] at ew
      rw [hvs, foldl_rep] at ew
      simp only [List.nil_append, List.getElem?_replicate] at ew ey
      split at ew
      · cases ew
        rename_i q
        rw [if_pos q] at ey
        cases ey
        exact rv.mono (seqKept_of (kk _))
      · cases ew
end
theorem WhT.dropN {S : Sg} {n : Nat} {sc : Scope} {m m' m₂ : Loc} {t : PySem.Expr} {ss : List Stmt} (h : WhT S n sc m t ss (.next m')) (hs : ∀ p ∈ m₂, p ∈ m') : WhT S n sc m t ss (.next m₂) :=
  fun A h₀ env s R at_ F k => h A h₀ env s R at_ F fun fl s' e o => k _ _ e ⟨o.1, o.2.drop hs⟩
section
variable {S : Sg} {b : Int} {cs : List Int}
noncomputable def clampR (n : Nat) (j : Int) : Nat := min n j.toNat
theorem clampR_le (n : Nat) (j : Int) : clampR n j ≤ n := Nat.min_le_left _ _
theorem ok_clamped : DefOk (topStmt 52) ["view", "place"] := by ktd_rel
theorem s_clamped (H : KF S) (j : Int) : CallT S 3 (topStmt 52) [.v b cs, it (b + j)] (.int (b + clampR cs.length j)) := by
  refine CallT.mk [("view", .v b cs), ("place", it (b + j))] ok_clamped rfl ?_
  exact ExT.stop (StT.ret (EvT.castI (EvT.max2 H.b_max (by kwd_rel) (EvT.min2 H.b_min (by kwd_rel) (by kwd_rel) (by kernel_rfl)) (by kernel_rfl)) (by unfold clampR; split <;> split <;> omega))) trivial
noncomputable def charsWord (n : Nat) (j : Int) : Str := if (clampR n j : Int) < j then "end-of-buffer" else if j < clampR n j then "beginning-of-buffer" else ""
theorem ok_chars_target : DefOk (topStmt 53) ["view", "place", "many"] := by ktd_rel
theorem s_chars_target (H : KF S) (i many : Int) : CallT S 4 (topStmt 53) [.v b cs, it (b + i), it many] (.tuple [.int (b + clampR cs.length (i + many)), .str (charsWord cs.length (i + many))]) := by
  refine CallT.mk [("view", .v b cs), ("place", it (b + i)), ("many", it many)] ok_chars_target rfl ?_
  refine ExT.cons (m' := [("view", .v b cs), ("place", it (b + i)), ("many", it many), ("wanted", it (b + (i + many)))]) (StT.asg (by kaf_suf) (by kwd_rel) (by omega) (by kernel_rfl)) ?_
  refine ExT.cons (StT.assign (EvT.call2 H.f_clamped (by kwd_rel) (by kwd_rel) (s_clamped H (i + many)).up (by kernel_rfl)) (by kaf_suf) (by kernel_rfl)) ?_
  unfold charsWord
  by_cases h : (clampR cs.length (i + many) : Int) < i + many
  · rw [if_pos h]
    exact ExT.stop (StT.ite (b := true) (TrT.icmp (by kwd_rel) (by kwd_rel) (by kwd_less)) (ExT.stop (StT.ret (by kwd_rel)) trivial)) trivial
  · rw [if_neg h]
    refine ExT.cons (StT.ite (b := false) (TrT.icmp (by kwd_rel) (by kwd_rel) (by kwd_less)) ExT.nil) ?_
    by_cases h2 : i + many < clampR cs.length (i + many)
    · rw [if_pos h2]
      exact ExT.stop (StT.ret (EvT.tup2 (by kwd_rel) (EvT.ifexp (b := true) (TrT.icmp (by kwd_rel) (by kwd_rel) (by kwd_less)) (by simp only [if_true]; kwd_rel)))) trivial
    · rw [if_neg h2]
      exact ExT.stop (StT.ret (EvT.tup2 (by kwd_rel) (EvT.ifexp (b := false) (TrT.icmp (by kwd_rel) (by kwd_rel) (by kwd_less)) (by simp only [Bool.false_eq_true, if_false]; exact EvT.str)))) trivial
theorem ok_tenths_of : DefOk (topStmt 54) ["view", "tenths"] := by ktd_rel
theorem s_tenths_of (H : KF S) (hl : cs.length ≤ 1000) (t : Int) (h0 : 0 ≤ t) (h1 : t ≤ 10) : CallT S 3 (topStmt 54) [.v b cs, it t] (.int ((t * cs.length).fdiv 10)) := by
  refine CallT.mk [("view", .v b cs), ("tenths", it t)] ok_tenths_of rfl ?_
  refine ExT.cons (StT.asg (i := b + cs.length - b) (j := cs.length) (by kaf_suf) (by kwd_rel) (by omega) (by kernel_rfl)) ?_
  exact ExT.stop (StT.ret (EvT.ifexp (b := false) (TrT.icmp (by kwd_rel) (by kwd_rel) (by kwd_less)) (by simp only [Bool.false_eq_true, if_false]; exact EvT.fdiv (EvT.mulS (by kwd_rel) (by kwd_rel) (by omega) (by omega)) (by kwd_rel) (by decide) (by decide)))) trivial
noncomputable def beginTarget (cs : List Int) (t : Int) : Nat := (linesTarget cs (clampR cs.length ((10 + cs.length * t).fdiv 10)) 1).1
noncomputable def endTarget (cs : List Int) (t : Int) : Nat := (linesTarget cs (clampR cs.length (cs.length - (t * cs.length).fdiv 10)) 1).1
noncomputable def lineNumberTarget (cs : List Int) (k : Int) : Nat := (linesTarget cs 0 (if k - 1 > 0 then k - 1 else 0)).1
theorem ok_begin_target : DefOk (topStmt 55) ["view", "tenths"] := by ktd_rel
theorem s_begin_target (H : KF S) (hb : 1 ≤ b) (hl : cs.length ≤ 1000) (t : Int) (h0 : 0 ≤ t) (h1 : t ≤ 10) : CallT S 6 (topStmt 55) [.v b cs, it t] (.int (b + beginTarget cs t)) := by
  refine CallT.mk [("view", .v b cs), ("tenths", it t)] ok_begin_target rfl ?_
  refine ExT.cons (StT.ite (b := false) (TrT.isNone (d := .int t) (by kwd_rel) (.inr ⟨⟨t, rfl⟩, rfl⟩)) ExT.nil) ?_
  refine ExT.cons (StT.asg (i := b + cs.length - b) (j := cs.length) (by kaf_suf) (by kwd_rel) (by omega) (by kernel_rfl)) ?_
  refine ExT.cons (StT.assign (EvT.ifexp (pv := it ((10 + cs.length * t).fdiv 10)) (b := false) (TrT.icmp (by kwd_rel) (by kwd_rel) (by kwd_less)) (by simp only [Bool.false_eq_true, if_false]; exact EvT.fdiv (EvT.add (by kwd_rel) (EvT.mulS (by kwd_rel) (by kwd_rel) (by omega) (by omega))) (by kwd_rel) (by decide) (by decide))) (by kaf_suf) (by kernel_rfl)) ?_
  refine ExT.stop (StT.ret (EvT.item (k := 0) (i := 0) (EvT.call3 H.f_lines_target (by kwd_rel) (EvT.call2 H.f_clamped (by kwd_rel) (by kwd_rel) (s_clamped H _).up (by kernel_rfl)) (by kwd_rel) (s_lines_target H hb _ (clampR_le _ _) 1).up (by kernel_rfl)) (by kwd_rel) rfl (by decide) rfl)) trivial
theorem ok_end_target : DefOk (topStmt 56) ["view", "tenths"] := by ktd_rel
theorem s_end_target (H : KF S) (hb : 1 ≤ b) (hl : cs.length ≤ 1000) (t : Int) (h0 : 0 ≤ t) (h1 : t ≤ 10) : CallT S 6 (topStmt 56) [.v b cs, it t] (.int (b + endTarget cs t)) := by
  refine CallT.mk [("view", .v b cs), ("tenths", it t)] ok_end_target rfl ?_
  refine ExT.cons (StT.ite (b := false) (TrT.isNone (d := .int t) (by kwd_rel) (.inr ⟨⟨t, rfl⟩, rfl⟩)) ExT.nil) ?_
  refine ExT.stop (StT.ret (EvT.item (k := 0) (i := 0) (EvT.call3 H.f_lines_target (by kwd_rel) (EvT.call2 H.f_clamped (by kwd_rel) (EvT.castI (EvT.sub (by kwd_rel) (EvT.call2 H.f_tenths_of (by kwd_rel) (by kwd_rel) (s_tenths_of H hl t h0 h1).up (by kernel_rfl))) (Int.add_sub_assoc _ _ _)) (s_clamped H _).up (by kernel_rfl)) (by kwd_rel) (s_lines_target H hb _ (clampR_le _ _) 1).up (by kernel_rfl)) (by kwd_rel) rfl (by decide) rfl)) trivial
theorem ok_line_number_target : DefOk (topStmt 57) ["view", "number"] := by ktd_rel
theorem s_line_number_target (H : KF S) (hb : 1 ≤ b) (k : Int) : CallT S 6 (topStmt 57) [.v b cs, it k] (.int (b + lineNumberTarget cs k)) := by
  refine CallT.mk [("view", .v b cs), ("number", it k)] ok_line_number_target rfl ?_
  exact ExT.stop (StT.ret (EvT.item (k := 0) (i := 0) (EvT.call3 H.f_lines_target (by kwd_rel) (EvT.castI (y := b + ((0 : Nat) : Int)) (by kwd_rel) (by omega)) (EvT.max2 H.b_max (by kwd_rel) (by kwd_rel) (by kernel_rfl)) (s_lines_target H hb 0 (Nat.zero_le _) _).up (by kernel_rfl)) (by kwd_rel) rfl (by decide) rfl)) trivial
end
section
variable {S : Sg} {b : Int} {cs : List Int}
noncomputable def widthAt (c col : Int) : Int := if c = 9 then 4 - col.fmod 4 else if c < 32 ∨ c = 127 then 2 else if 127 < c ∧ c < 160 then 4 else 1
theorem ok_width_at : DefOk (topStmt 60) ["code", "column", "width"] := by ktd_rel
theorem s_width_at (H : KF S) (c col : Int) : CallT S 2 (topStmt 60) [it c, it col, it 4] (.int (widthAt c col)) := by
  refine CallT.mk [("code", it c), ("column", it col), ("width", it 4)] ok_width_at rfl ?_
  unfold widthAt
  by_cases h : c = 9
  · rw [if_pos h]
    exact ExT.stop (StT.ite (b := true) (TrT.icmp (by kwd_rel) (by kwd_rel) (by kwd_less)) (ExT.stop (StT.ret (EvT.sub (by kwd_rel) (EvT.mod (by kwd_rel) (by kwd_rel) (by decide)))) trivial)) trivial
  · rw [if_neg h]
    refine ExT.cons (StT.ite (b := false) (TrT.icmp (by kwd_rel) (by kwd_rel) (by kwd_less)) ExT.nil) ?_
    by_cases h2 : c < 32 ∨ c = 127
    · rw [if_pos h2]
      exact ExT.stop (StT.ite (b := true) ((TrT.or2 (b := decide (c < 32)) (c := decide (c = 127)) (TrT.icmp (by kwd_rel) (by kwd_rel) (by kwd_less)) fun _ => TrT.icmp (by kwd_rel) (by kwd_rel) (by rw [Bool.eq_iff_iff]; simp [icmp])).cast (by simpa using h2)) (ExT.stop (StT.ret (by kwd_rel)) trivial)) trivial
    · rw [if_neg h2]
      refine ExT.cons (StT.ite (b := false) ((TrT.or2 (b := decide (c < 32)) (c := decide (c = 127)) (TrT.icmp (by kwd_rel) (by kwd_rel) (by kwd_less)) fun _ => TrT.icmp (by kwd_rel) (by kwd_rel) (by rw [Bool.eq_iff_iff]; simp [icmp])).cast (by simpa using h2)) ExT.nil) ?_
      by_cases h3 : 127 < c ∧ c < 160
      · rw [if_pos h3]
        exact ExT.stop (StT.ret (EvT.ifexp (b := true) (TrT.chain (by kwd_rel) (by kwd_rel) (by kwd_rel) (by simp [icmp]; omega)) (by simp only [if_true]; kwd_rel))) trivial
      · rw [if_neg h3]
        exact ExT.stop (StT.ret (EvT.ifexp (b := false) (TrT.chain (by kwd_rel) (by kwd_rel) (by kwd_rel) (by rw [← Bool.not_eq_true]; simp [icmp]; omega)) (by simp only [Bool.false_eq_true, if_false]; kwd_rel))) trivial
noncomputable def columnF (cs : List Int) : Nat → Nat → Int → Int
  | 0, _, col => col
  | k + 1, a, col => columnF cs k (a + 1) (col + widthAt (codeAt cs a) col)
noncomputable def columnAt (cs : List Int) (i : Nat) : Int := columnF cs (i - lineStart cs i) (lineStart cs i) 0
theorem ok_column_at : DefOk (topStmt 61) ["view", "place", "width"] := by ktd_rel
theorem s_column_at (H : KF S) (hb : 1 ≤ b) (hh : b + cs.length ≤ 1000) (i : Nat) (hi : i ≤ cs.length) : CallT S 4 (topStmt 61) [.v b cs, it (b + i), it 4] (.int (columnAt cs i)) := by
  refine CallT.mk [("view", .v b cs), ("place", it (b + i)), ("width", it 4)] ok_column_at rfl ?_
  refine ExT.cons (StT.assign (by kwd_rel) (by kaf_suf) (by kernel_rfl)) ?_
  have l1 := lineStart_le (cs := cs) i
  unfold columnAt
  have rg := fun xp pos lp vp pp lpos np2 => RgT.r2 (S := S) (n := 3) (sc := stScope (topStmt 61)) (m := [("view", .v b cs), ("place", it (b + i)), ("width", it 4), ("column", it 0)]) (a := .Call (.Name "line_start" lp) [.Name "view" vp, .Name "place" pp] [] lpos) (b := .Name "place" np2) (i := b + lineStart cs i) (j := b + i) (xp := xp) (pos := pos) H.b_range (EvT.call2 H.f_line_start (by kwd_rel) (by kwd_rel) (s_line_start H i hi).up (by kernel_rfl)) (by kwd_rel) (by omega) (by omega) (by omega) (by omega) (by kernel_rfl)
  have hk : (b + (i : Int) - (b + lineStart cs i)).toNat = i - lineStart cs i := by omega
  rw [hk] at rg
  have body : ∀ (K a : Nat) (col : Int), FoT S 3 (stScope (topStmt 61)) [("view", .v b cs), ("place", it (b + i)), ("width", it 4), ("column", it col)] "at" (forBody ((stBody (topStmt 61)).getD 1 default)) (b + a) 1 K
      (.next [("view", .v b cs), ("place", it (b + i)), ("width", it 4), ("column", it (columnF cs K a col))]) := by
    intro K
    induction K with
    | zero => intro a col; exact FoT.done
    | succ K ih =>
      intro a col
      refine FoT.turn (bout := .next [("view", .v b cs), ("place", it (b + i)), ("width", it 4), ("column", it (col + widthAt (codeAt cs a) col))]) (m' := [("view", .v b cs), ("place", it (b + i)), ("width", it 4), ("column", it col), ("at", it (b + a))]) (by kernel_rfl) (by kaf_suf) ?_ (by have := ih (a + 1) (col + widthAt (codeAt cs a) col); rwa [show b + ((a + 1 : Nat) : Int) = b + a + 1 by omega] at this)
      exact ExT.drop (ExT.cons (StT.assign (EvT.add (by kwd_rel) (EvT.call3 H.f_width_at (p := it (codeAt cs a)) (by kwd_rel) (by kwd_rel) (by kwd_rel) (s_width_at H (codeAt cs a) col).up (by kernel_rfl))) (by kaf_suf) (by kernel_rfl)) ExT.nil) (by krn_off)
  exact ExT.cons (StT.for (rg _ _ _ _ _ _ _) (body _ _ _)) (ExT.stop (StT.ret (by kwd_rel)) trivial)
noncomputable def placeF (cs : List Int) (col : Int) : Nat → Nat → Int → Nat × Int
  | 0, a, r => (a, r)
  | k + 1, a, r => if r < col then placeF cs col k (a + 1) (r + widthAt (codeAt cs a) r) else (a, r)
theorem placeF_le {col : Int} : ∀ (k a : Nat) (r : Int), (placeF cs col k a r).1 ≤ a + k
  | 0, a, r => Nat.le_refl _
  | k + 1, a, r => by
    unfold placeF
    split
    · have := placeF_le (col := col) k (a + 1) (r + widthAt (codeAt cs a) r); omega
    · exact Nat.le_add_right _ _
noncomputable def placeAt (cs : List Int) (i : Nat) (col : Int) : Nat × Int := placeF cs col (lineEnd cs i - lineStart cs i) (lineStart cs i) 0
theorem placeAt_le (i : Nat) (hi : i ≤ cs.length) (col : Int) : (placeAt cs i col).1 ≤ cs.length := by
  unfold placeAt
  have := placeF_le (cs := cs) (col := col) (lineEnd cs i - lineStart cs i) (lineStart cs i) 0
  have := lineStart_le (cs := cs) i
  have := lineEnd_ge (cs := cs) i
  have := lineEnd_le (cs := cs) i hi
  omega
theorem ok_place_at : DefOk (topStmt 62) ["view", "place", "column", "width"] := by ktd_rel
theorem s_place_at (H : KF S) (i : Nat) (hi : i ≤ cs.length) (col : Int) : CallT S 4 (topStmt 62) [.v b cs, it (b + i), it col, it 4] (.tuple [.int (b + (placeAt cs i col).1), .int (placeAt cs i col).2]) := by
  refine CallT.mk [("view", .v b cs), ("place", it (b + i)), ("column", it col), ("width", it 4)] ok_place_at rfl ?_
  refine ExT.cons (StT.assign (EvT.call2 H.f_line_start (by kwd_rel) (by kwd_rel) (s_line_start H i hi).up (by kernel_rfl)) (by kaf_suf) (by kernel_rfl)) ?_
  refine ExT.cons (StT.assign (EvT.call2 H.f_line_end (by kwd_rel) (by kwd_rel) (s_line_end H i hi).up (by kernel_rfl)) (by kaf_suf) (by kernel_rfl)) ?_
  refine ExT.cons (StT.assign (by kwd_rel) (by kaf_suf) (by kernel_rfl)) ?_
  have l1 := lineStart_le (cs := cs) i
  have l2 := lineEnd_ge (cs := cs) i
  unfold placeAt
  generalize lineEnd cs i = last at l2
  generalize lineStart cs i = a at l1
  obtain ⟨K, hK⟩ : ∃ K, K = last - a := ⟨_, rfl⟩
  rw [← hK]
  have hl : last = a + K := by omega
  rw [hl]
  generalize (0 : Int) = r
  refine ExT.cons (m' := [("view", .v b cs), ("place", it (b + i)), ("column", it col), ("width", it 4), ("at", it (b + (placeF cs col K a r).1)), ("last", it (b + (a + K : Nat))), ("reached", it (placeF cs col K a r).2)]) (StT.whl ?_) (ExT.stop (StT.ret (by kwd_rel)) trivial)
  clear hK hl l1 l2
  induction K generalizing a r with
  | zero => exact WhT.done (TrT.andF (TrT.icmp (by kwd_rel) (by kwd_rel) (by kwd_less)))
  | succ K ih =>
    unfold placeF
    by_cases h : r < col
    · rw [if_pos h]
      refine WhT.step ((TrT.and2 (b := true) (c := true) (TrT.icmp (by kwd_rel) (by kwd_rel) (by kwd_less)) fun _ => TrT.icmp (by kwd_rel) (by kwd_rel) (by kwd_less)).cast rfl) (m' := [("view", .v b cs), ("place", it (b + i)), ("column", it col), ("width", it 4), ("at", it (b + (a + 1 : Nat))), ("last", it (b + (a + (K + 1) : Nat))), ("reached", it (r + widthAt (codeAt cs a) r))]) ?_
        (by have := ih (a + 1) (r + widthAt (codeAt cs a) r); rwa [show a + 1 + K = a + (K + 1) by omega] at this)
      refine ExT.cons (StT.assign (EvT.add (by kwd_rel) (EvT.call3 H.f_width_at (p := it (codeAt cs a)) (by kwd_rel) (by kwd_rel) (by kwd_rel) (s_width_at H (codeAt cs a) r).up (by kernel_rfl))) (by kaf_suf) (by kernel_rfl)) ?_
      exact ExT.cons (StT.asg (by kaf_suf) (by kwd_rel) (by omega) (by kernel_rfl)) ExT.nil
    · rw [if_neg h]
      exact WhT.done ((TrT.and2 (b := true) (c := false) (TrT.icmp (by kwd_rel) (by kwd_rel) (by kwd_less)) fun _ => TrT.icmp (by kwd_rel) (by kwd_rel) (by kwd_less)).cast rfl)
noncomputable def indF (cs : List Int) : Nat → Nat → Int → Int
  | 0, _, col => col
  | k + 1, a, col => if isBlank (codeAt cs a) = true then indF cs k (a + 1) (col + widthAt (codeAt cs a) col) else col
noncomputable def indentationAt (cs : List Int) (i : Nat) : Int := indF cs (cs.length - lineStart cs i) (lineStart cs i) 0
theorem ok_indentation_at : DefOk (topStmt 63) ["view", "place", "width"] := by ktd_rel
theorem s_indentation_at (H : KF S) (i : Nat) (hi : i ≤ cs.length) : CallT S 4 (topStmt 63) [.v b cs, it (b + i), it 4] (.int (indentationAt cs i)) := by
  refine CallT.mk [("view", .v b cs), ("place", it (b + i)), ("width", it 4)] ok_indentation_at rfl ?_
  refine ExT.cons (StT.assign (EvT.call2 H.f_line_start (by kwd_rel) (by kwd_rel) (s_line_start H i hi).up (by kernel_rfl)) (by kaf_suf) (by kernel_rfl)) ?_
  refine ExT.cons (StT.assign (by kwd_rel) (by kaf_suf) (by kernel_rfl)) ?_
  have l1 := lineStart_le (cs := cs) i
  unfold indentationAt
  generalize lineStart cs i = a at l1
  obtain ⟨K, hK⟩ : ∃ K, K = cs.length - a := ⟨_, rfl⟩
  have hl : a + K = cs.length := by omega
  rw [← hK]
  clear hK l1
  generalize (0 : Int) = col
  refine ExT.cons (m' := [("view", .v b cs), ("column", it (indF cs K a col))]) (StT.whl ?_) (ExT.stop (StT.ret (by kwd_rel)) trivial)
  refine WhT.forget (m₂ := [("view", .v b cs), ("width", it 4), ("at", it (b + a)), ("column", it col)]) (by krn_off) ?_
  induction K generalizing a col with
  | zero =>
    simp only [indF]
    refine WhT.dropN (WhT.done (TrT.inTup (i := codeAt cs a) (by kwd_rel) (by kwd_rel) ?_)) (by krn_off)
    rw [codeAt_off (by omega)]; rfl
  | succ K ih =>
    unfold indF
    by_cases h : isBlank (codeAt cs a) = true
    · rw [if_pos h]
      refine WhT.step (TrT.inTup (i := codeAt cs a) (by kwd_rel) (by kwd_rel) h) (m' := [("view", .v b cs), ("width", it 4), ("at", it (b + (a + 1 : Nat))), ("column", it (col + widthAt (codeAt cs a) col))]) ?_ (ih (a + 1) (by omega) _)
      refine ExT.cons (StT.assign (EvT.add (by kwd_rel) (EvT.call3 H.f_width_at (p := it (codeAt cs a)) (by kwd_rel) (by kwd_rel) (by kwd_rel) (s_width_at H (codeAt cs a) col).up (by kernel_rfl))) (by kaf_suf) (by kernel_rfl)) ?_
      exact ExT.cons (StT.asg (by kaf_suf) (by kwd_rel) (by omega) (by kernel_rfl)) ExT.nil
    · rw [if_neg h]
      rw [Bool.not_eq_true] at h
      exact WhT.dropN (WhT.done (TrT.inTup (i := codeAt cs a) (by kwd_rel) (by kwd_rel) h)) (by krn_off)
end
noncomputable def relS (scope sc : Scope) : Scope := { scope with names := scope.names.map fun (n, k) => if (k == .free && sc.kind == .function && sc.names.lookup n == some .cell) then (n, .cell) else (n, k) }
theorem closure_of {env : Env} : ∀ (names : List (Str × NameKind)) (acc : List (Str × Addr)), (∀ y, (y, NameKind.free) ∈ names → ∃ c, env.cells.lookup y = some c) → (∀ y c, acc.lookup y = some c → env.cells.lookup y = some c) →
    ∃ cl, (forIn names acc fun (x : Str × NameKind) (r : List (Str × Addr)) => if (x.2 == NameKind.free) = true then (do let a ← cellOf env x.1; pure (ForInStep.yield ((x.1, a) :: r)) : Sem (ForInStep (List (Str × Addr)))) else pure (ForInStep.yield r)) = pure cl ∧
      (∀ y c, cl.lookup y = some c → env.cells.lookup y = some c) ∧ (∀ y, (y, NameKind.free) ∈ names → (cl.lookup y).isSome = true) ∧ ∀ y, (acc.lookup y).isSome = true → (cl.lookup y).isSome = true
  | [], acc, _, ha => ⟨acc, rfl, ha, (fun y h => nomatch h), fun y h => h⟩
  | (n, k) :: names, acc, hf, ha => by
    by_cases hk : k = .free
    · subst hk
      obtain ⟨c, hc⟩ := hf n (.head _)
      have hc' : cellOf env n = pure c := by unfold cellOf; rw [hc]
      obtain ⟨cl, e1, e2, e3, e4⟩ := closure_of names ((n, c) :: acc) (fun y h => hf y (.tail _ h)) (fun y c' h => by
        rw [List.lookup_cons] at h
        split at h
        · rename_i q; cases h; rw [beq_iff_eq.mp q]; exact hc
        · exact ha y c' h)
      refine ⟨cl, ?_, e2, fun y h => ?_, fun y h => e4 y ?_⟩
      · rw [List.forIn_cons]
        simp only [beq_self_eq_true, if_true, hc', pure_bind]
        exact e1
      · rcases List.mem_cons.mp h with q | q
        · cases q
          exact e4 n (by rw [List.lookup_cons]; simp)
        · exact e3 y q
      · rw [List.lookup_cons]
        split
        · rfl
        · exact h
    · obtain ⟨cl, e1, e2, e3, e4⟩ := closure_of names acc (fun y h => hf y (.tail _ h)) ha
      have hb : (k == NameKind.free) = false := by simpa using hk
      refine ⟨cl, ?_, e2, fun y h => ?_, e4⟩
      · rw [List.forIn_cons]
        simp only [hb, Bool.false_eq_true, if_false, pure_bind]
        exact e1
      · rcases List.mem_cons.mp h with q | q
        · cases q; exact absurd rfl hk
        · exact e3 y q
theorem closure_at {env : Env} {scope : Scope} (hf : ∀ y, (y, NameKind.free) ∈ scope.names → ∃ c, env.cells.lookup y = some c) :
    ∃ cl, closureFor scope env = pure cl ∧ ∀ y, (y, NameKind.free) ∈ scope.names → cl.lookup y = env.cells.lookup y := by
  obtain ⟨cl, e1, e2, e3, _⟩ := closure_of (env := env) scope.names [] hf (fun y c h => by simp at h)
  refine ⟨cl, ?_, fun y h => ?_⟩
  · unfold closureFor
    refine (congrArg (· >>= pure) (Eq.trans ?_ e1)).trans (by rfl)
    rfl
  · obtain ⟨c, hc⟩ := Option.isSome_iff_exists.mp (e3 y h)
    rw [hc, e2 y c hc]
theorem RdAll.snoc {h : Heap} : ∀ {vs : List Value} {xs : List PyData} {v : Value} {x : PyData}, RdAll h vs xs → Rd h v x → RdAll h (vs ++ [v]) (xs ++ [x])
  | vs, [], v, x, a, b => by rw [RdAll.unnil a]; exact .cons b .nil
  | vs, y :: xs, v, x, a, b => by
    obtain ⟨w, vs', rfl, p, q⟩ := RdAll.uncons a
    exact .cons p (q.snoc b)
section
variable {S : Sg} {n : Nat} {sc : Scope} {m m' : Loc}
noncomputable def SrcT (S : Sg) (n : Nat) (sc : Scope) (m : Loc) (iter : PySem.Expr) (items : List PyData) : Prop :=
  ∀ A h₀ env s (Q : Value → Shared → Prop), At S sc n A env → FrameAt S h₀ env m s.heap →
    (∀ I fp (P : Nat → Value → Prop) St s', Ext s s' → I ≠ env.locals → env.locals ∉ fp → s.heap.get? I = none → Walks S.prog S.w A I fp [I] items.length P St → St 0 s'.heap → (∀ b ∈ fp, b < s'.heap.objs.size) →
      (∀ o, s'.heap.get? I = some o → (∀ vs n, o.data ≠ .seq vs n) ∧ ∀ v, o.data ≠ .cell v) → (∀ i v x h', (∀ b o, b ≠ I → s'.heap.get? b = some o → h'.get? b = some o) → P i v → items[i]? = some x → Rd h' v x) → Q (.ref I) s') →
    wpAny (model S.prog S.w) A (eval iter env) (fun x s₁ => wpAny (model S.prog S.w) A (pyIter x) Q NoE s₁) NoE s
theorem SrcT.range {iter : PySem.Expr} {a : Int} {k : Nat} (h : RgT S n sc m iter a 1 k) : SrcT S n sc m iter ((List.range k).map fun i : Nat => .int (a + i)) := by
  intro A h₀ env s Q at_ F kk
  refine h A h₀ env s _ at_ F fun r b t u v s₁ e₁ hr hsm hsz => ?_
  refine wpAny_pyIter_range hr hsm ?_
  rw [hsz]
  have F₁ := F.keeps e₁.keep
  have hp : ∀ b o, s₁.heap.get? b = some o → (s₁.heap.push { cls := .type "range_iterator", data := .fields #[rawInt a, rawInt k, rawInt 1] }).get? b = some o := fun b o e => Heap.get?_push_of_some _ e
  have hI : s₁.heap.objs.size ≠ env.locals := by
    obtain ⟨o, _, _, e, _⟩ := F₁.locals
    exact Nat.ne_of_gt (Heap.lt_size e)
  have hst : IsRangeIter (s₁.heap.push { cls := .type "range_iterator", data := .fields #[rawInt a, rawInt k, rawInt 1] }) s₁.heap.objs.size a k 1 := Heap.get?_push_size _ rfl
  refine kk s₁.heap.objs.size [s₁.heap.objs.size] (fun i v => ∃ t, v = .int (a + i * 1) t) (fun i h => IsRangeIter h s₁.heap.objs.size (a + (i : Nat) * 1) ((k : Int) - (i : Nat)) 1) { s₁ with heap := _ } (e₁.trans (.push _ _)) hI (fun q => hI (List.mem_singleton.mp q).symm) ?_
    (by rw [List.length_map, List.length_range]; exact Walks.range at_.room.2.2 _ _ _ _) (by simpa using hst) (fun b hb => ?_) (fun o e => ?_) (fun i v x h' _ hv hx => ?_)
  · cases e : s.heap.get? s₁.heap.objs.size with
    | none => rfl
    | some o => exact absurd (Heap.lt_size (e₁.keep _ _ e)) (Nat.lt_irrefl _)
  · rw [List.mem_singleton.mp hb]
    show s₁.heap.objs.size < (s₁.heap.push _).objs.size
    rw [Heap.size_push]; exact Nat.lt_succ_self _
  · have := hst.symm.trans e
    cases this
    exact ⟨fun _ _ q => (by cases q), fun _ q => (by cases q)⟩
  · obtain ⟨t, rfl⟩ := hv
    simp only [List.getElem?_map, Option.map_eq_some_iff] at hx
    obtain ⟨j, hj, rfl⟩ := hx
    have : j = i := by
      rw [List.getElem?_eq_some_iff] at hj
      obtain ⟨h1, h2⟩ := hj
      simpa using h2.symm
    subst this
    rw [Int.mul_one]
    exact .int _ _
theorem SrcT.list {iter : PySem.Expr} {xs : List PyData} (h : EvT S n sc m iter (.d (.list xs))) : SrcT S n sc m iter xs := by
  intro A h₀ env s Q at_ F kk
  refine h A h₀ env s _ at_ F fun v s₁ e₁ r₁ => ?_
  obtain ⟨ax, vs, nn, rfl, ho, ra⟩ := rd_list r₁
  have hl : s₁.heap.IsList ax vs := ⟨_, ho, rfl, nn, rfl⟩
  have hlt : ax < s₁.heap.objs.size := Heap.lt_size ho
  refine wpAny_pyIter_list hl ?_
  have F₁ := F.keeps e₁.keep
  have up : ∀ b o, s₁.heap.get? b = some o → (s₁.heap.push { cls := .type "list_iterator", data := .fields #[.ref ax, .int 0 0] }).get? b = some o := fun b o e => Heap.get?_push_of_some _ e
  have hI : s₁.heap.objs.size ≠ env.locals := by
    obtain ⟨o, _, _, e, _⟩ := F₁.locals
    exact Nat.ne_of_gt (Heap.lt_size e)
  have hax : env.locals ≠ ax := fun q => by
    obtain ⟨o, es, ep, e, d⟩ := F₁.locals
    rw [q, ho] at e
    cases e
    cases d
  have hsz : vs.size = xs.length := by rw [← ra.1, Array.length_toList]
  refine kk s₁.heap.objs.size [s₁.heap.objs.size, ax] (fun i v => vs[i]? = some v) (fun i h => h.IsListIter s₁.heap.objs.size ax i ∧ h.IsList ax vs) { s₁ with heap := _ } (e₁.trans (.push _ _)) hI (fun q => ?_) ?_
    (by rw [← hsz]; exact Walks.list at_.room.2.2 _ _ (Nat.ne_of_lt hlt) _) ⟨⟨_, Heap.get?_push_size _ rfl, rfl, rfl⟩, hl.push _⟩ (fun b hb => ?_) (fun o e => ?_) (fun i v x h' hk hv hx => ?_)
  · rcases List.mem_cons.mp q with q | q
    · exact hI q.symm
    · exact hax (List.mem_singleton.mp q)
  · cases e : s.heap.get? s₁.heap.objs.size with
    | none => rfl
    | some o => exact absurd (Heap.lt_size (e₁.keep _ _ e)) (Nat.lt_irrefl _)
  · show b < (s₁.heap.push _).objs.size
    rw [Heap.size_push]
    rcases List.mem_cons.mp hb with rfl | hb
    · exact Nat.lt_succ_self _
    · rw [List.mem_singleton.mp hb]; exact Nat.lt_succ_of_lt hlt
  · have e' : (s₁.heap.push { cls := .type "list_iterator", data := .fields #[.ref ax, .int 0 0] }).get? s₁.heap.objs.size = some o := e
    rw [Heap.get?_push_size _ rfl] at e'
    cases e'
    exact ⟨fun _ _ q => (by cases q), fun _ q => (by cases q)⟩
  · have := ra.2 i v x (by rw [Array.getElem?_toList]; exact hv) hx
    exact this.mono (seqKept_of fun b o e => hk b o (Nat.ne_of_lt (Heap.lt_size e)) (up b o e))
noncomputable def TestT (S : Sg) (n : Nat) (sc : Scope) (m : Loc) : List PySem.Expr → Bool → Prop
  | [], b => b = true
  | [c], b => TrT S n sc m c b
  | _, _ => False
noncomputable def compOut (p : Nat → Bool) (g : Nat → PyData) (k : Nat) : List PyData := (List.range k).filterMap fun i => if p i = true then some (g i) else none
theorem compOut_succ (p : Nat → Bool) (g : Nat → PyData) (k : Nat) : compOut p g (k + 1) = compOut p g k ++ (if p k = true then [g k] else []) := by
  unfold compOut
  rw [List.range_succ, List.filterMap_append]
  congr 1
  by_cases h : p k = true <;> simp [h]
theorem compOut_len (p : Nat → Bool) (g : Nat → PyData) : ∀ k, (compOut p g k).length ≤ k
  | 0 => Nat.le_refl _
  | k + 1 => by
    rw [compOut_succ, List.length_append]
    have := compOut_len p g k
    split <;> simp <;> omega
end
section
variable {S : Sg} {n : Nat} {sc : Scope} {m m' : Loc}
noncomputable def flat : PyData → Bool
  | .none | .bool _ | .int _ | .str _ => true
  | _ => false
theorem Rd.flat {h h' : Heap} {v : Value} {x : PyData} (r : Rd h v x) (f : Mine.flat x = true) : Rd h' v x := by
  cases r with
  | none => exact .none
  | bool b => exact .bool b
  | int i t => exact .int i t
  | str x t => exact .str x t
  | list => cases f
  | tuple => cases f
theorem EvT.comp {elt iter : PySem.Expr} {x : Str} {px pos : Pos} {ifs : List PySem.Expr} {scope : Scope} {items : List PyData} {p : Nat → Bool} {g : Nat → PyData} {mf : Loc}
    (src : SrcT S n sc m iter items) (hlen : items.length ≤ 10000) (hkind : scope.kind = .function) (hx : (relS scope sc).names.lookup x = some .local)
    (hnames : ∀ y ∈ scope.names, y.2 = .local → scope.names.lookup y.1 = some .local) (hcell : ∀ y ∈ scope.names, y.2 ≠ .cell)
    (hfree : ∀ y, (y, NameKind.free) ∈ scope.names → sc.names.lookup y = some .cell ∧ ∃ pv, (y, pv) ∈ m)
    (hmf : ∀ y pv, (y, pv) ∈ mf → (y, pv) ∈ m ∧ (y, NameKind.free) ∈ scope.names ∧ (relS scope sc).names.lookup y = some .cell)
    (ht : ∀ i d, items[i]? = some d → TestT S n (relS scope sc) ((x, .d d) :: mf) ifs (p i))
    (he : (∀ i d, items[i]? = some d → p i = true → EvT S n (relS scope sc) ((x, .d d) :: mf) elt (.d (g i)) ∧ flat (g i) = true) ∨ ((∃ xp, elt = .Name x xp) ∧ (x == ("__debug__" : Str)) = false ∧ ∀ i d, items[i]? = some d → g i = d))
    (hs : ∀ env x, foldedSetIterable iter env x = pure x := by intro _ _; with_unfolding_all rfl) :
    EvT S n sc m (.ListComp elt [⟨.Name x px, iter, ifs, 0⟩] scope pos) (.d (.list (compOut p g items.length))) := by
  intro A h₀ env s Q at_ F k
  have cells : ∀ {h : Heap}, FrameAt S h₀ env m h → ∀ y, (y, NameKind.free) ∈ scope.names → ∃ c, env.cells.lookup y = some c := fun F y hy => by
    obtain ⟨a, pv, b⟩ := hfree y hy
    obtain ⟨mv, _, r⟩ := F.fr
    obtain ⟨v, e, _⟩ := r y pv b
    obtain ⟨c, q, _⟩ := e.cell (at_.of a)
    exact ⟨c, q⟩
  obtain ⟨cl, hclos, hcl⟩ := closure_at (env := env) (scope := scope) (cells F)
  rw [eval_ListComp]
  refine wpAny_comprehension_free (use := Option.none) rfl (hs env) hclos hkind hnames (src A h₀ env s _ at_ F fun I fp P St s₂ e₂ hIL hLfp hIs W hst hfp hIo hP => ?_)
  have F₂ := F.keeps e₂.keep
  refine wpAny_newObj_type (wpAny_newFunctionEnv hcell (by intro y hy; simp at hy) (fun h₁ hns₁ hsb₁ => ?_) hkind)
  dsimp only at hns₁ hsb₁ ⊢
  generalize hH2 : s₂.heap.push { cls := .type "list", dict := Option.none, data := .seq ([] : List Value).toArray } = H2 at hns₁ hsb₁ ⊢
  have hC : H2.objs.size = s₂.heap.objs.size + 1 := by rw [← hH2, Heap.size_push]
  have hDC : s₂.heap.objs.size ≠ H2.objs.size := by rw [hC]; exact Nat.ne_of_lt (Nat.lt_succ_self _)
  have below : ∀ b, b < s₂.heap.objs.size → b ≠ H2.objs.size ∧ b ≠ s₂.heap.objs.size := fun b hb => ⟨by rw [hC]; exact Nat.ne_of_lt (Nat.lt_succ_of_lt hb), Nat.ne_of_lt hb⟩
  have hDf : s₂.heap.objs.size ∉ fp := fun hm => Nat.lt_irrefl _ (hfp _ hm)
  have hCf : H2.objs.size ∉ fp := fun hm => by have := hfp _ hm; rw [hC] at this; exact Nat.lt_irrefl _ (Nat.lt_of_succ_lt this)
  have old : ∀ b o, s₂.heap.get? b = some o → h₁.get? b = some o := fun b o e => hsb₁.extBut b o (below b (Heap.lt_size e)).1 (Heap.get?_push_of_some _ (hH2 ▸ Heap.get?_push_of_some _ e))
  have hacc : h₁.get? s₂.heap.objs.size = some { cls := .type "list", dict := Option.none, data := .seq ([] : List Value).toArray } := hsb₁.extBut _ _ hDC (Heap.get?_push_of_some _ (hH2 ▸ Heap.get?_push_size _ rfl))
  have hst₁ : St 0 h₁ := W.frame _ _ _ hst fun b _ o e => old b o e
  have hI2 : I < s₂.heap.objs.size := hfp I (W.sub I (.head _))
  have hseq : ∀ {h : Heap}, (∀ b o, s₂.heap.get? b = some o → b ≠ I → h.get? b = some o) → SeqKept s₂.heap h := fun hk a o vs n e d => hk a o e fun q => (hIo o (q ▸ e)).1 vs n d
  have hbase : ∀ b o, S.base.get? b = some o → s₂.heap.get? b = some o ∧ b ≠ I := fun b o e => by
    obtain ⟨mv, f, _⟩ := F.fr
    refine ⟨e₂.keep _ _ (f.keep b o e), fun q => ?_⟩
    have := f.keep b o e
    rw [q, hIs] at this
    cases this
  obtain ⟨C, hCe⟩ : ∃ C, C = H2.objs.size := ⟨_, rfl⟩
  obtain ⟨D, hDe⟩ : ∃ D, D = s₂.heap.objs.size := ⟨_, rfl⟩
  have frame : ∀ h mC v d, h.Ns C mC → mC x = some v → Rd h v d → (∀ b o, s₂.heap.get? b = some o → b ≠ I → h.get? b = some o) → FrameAt S h₀ (compEnvC scope cl C env) ((x, .d d) :: mf) h := by
    intro h mC v d hn hv hr hk
    refine ⟨⟨mC, ⟨hn, fun b o e => hk b o (hbase b o e).1 (hbase b o e).2, ?_⟩, fun y pv hm => ?_⟩, fun b o e => ?_, ?_⟩
    · obtain ⟨mv, f, _⟩ := F₂.fr
      show S.base.objs.size ≤ C
      rw [hCe, hC]
      exact Nat.le_of_lt (Nat.lt_succ_of_lt (Nat.lt_of_le_of_lt f.above f.ns.lt))
    · rcases List.mem_cons.mp hm with q | q
      · cases q
        refine ⟨v, ⟨fun _ => hv, fun q => ?_⟩, hr⟩
        have q' : (relS scope sc).names.lookup x = some .cell := by rw [← at_.sc]; exact q
        rw [hx] at q'
        cases q'
      · obtain ⟨a1, a2, a3⟩ := hmf y pv q
        obtain ⟨mv, f, r⟩ := F₂.fr
        obtain ⟨u, e, gg⟩ := r y pv a1
        obtain ⟨c, c1, oc, c2, c3⟩ := e.cell (at_.of (hfree y a2).1)
        refine ⟨u, ⟨fun q => ?_, fun _ => ⟨c, ?_, oc, hk c oc c2 fun z => (hIo oc (z ▸ c2)).2 _ c3, c3⟩⟩, ?_⟩
        · have q' : (relS scope sc).names.lookup y = some .local := by rw [← at_.sc]; exact q
          rw [a3] at q'
          cases q'
        · show cl.lookup y = some c
          rw [hcl y a2]; exact c1
        · cases pv with
          | d x => exact Rd.mono (hseq hk) gg
          | r u => exact gg
          | v b cs => exact gg
          | o P => exact gg
    · refine hk b o (F₂.old b o e) fun q => ?_
      have := F.old b o e
      rw [q, hIs] at this
      cases this
    · show h₀.get? C = Option.none
      cases e : h₀.get? C with
      | none => rfl
      | some o =>
        have := Heap.lt_size (F₂.old _ _ e)
        rw [hCe, hC] at this
        exact absurd this (Nat.not_lt.mpr (Nat.le_succ _))
  have atc : At S (relS scope sc) n A (compEnvC scope cl C env) := ⟨at_.room, at_.ok, hkind, by rw [← at_.sc]; rfl, at_.gl, at_.bi⟩
  have loop : ∀ s₃ : Shared, s₃ = { s₂ with heap := h₁, toks := s₂.toks + ([] : List (Str × Value)).length } →
      codeAny (model S.prog S.w) A (.compLoop (.ListComp elt [⟨.Name x px, iter, ifs, 0⟩] scope pos) 0 (.ref I) (.ref D) (compEnvC scope cl C env))
        (compPost (model S.prog S.w) A NoE Option.none Q (.ref D) C) s₃ := by
    rintro s₃ rfl
    refine codeAny_compLoop_tests
      (fun q s' => ∃ i ys mC nn, i ≤ items.length ∧ q = items.length + 1 - i ∧ (∀ b o, s₂.heap.get? b = some o → b ≠ I → s'.heap.get? b = some o) ∧ s'.gens = s₂.gens ∧ s'.os = s₂.os ∧ St i s'.heap ∧ s'.heap.Ns C mC ∧
        s'.heap.get? D = some { cls := .type "list", dict := Option.none, data := .seq (List.toArray ys) nn } ∧ ∀ h', (∀ b o, s₂.heap.get? b = some o → b ≠ I → h'.get? b = some o) → RdAll h' ys (compOut p g i)) ?_ (items.length + 1)
      ⟨0, [], _, _, Nat.zero_le _, rfl, fun b o e _ => old b o e, rfl, rfl, hst₁, hCe ▸ hns₁, hDe ▸ hacc, fun _ _ => .nil⟩
    · intro q s' hI
      refine elim4_9 hI fun i ys mC nn hi hq hk hg ho hst' hn' hD' hR' => ?_
      subst hq
      by_cases hlt : i < items.length
      · refine W.item i _ _ _ hlt hst' fun v h₂ tk₂ hPv hst₂ hk₂ => ?_
        have hCI : C ≠ I := fun q => by rw [q] at hCe; rw [hCe, hC] at hI2; exact Nat.lt_irrefl _ (Nat.lt_of_succ_lt hI2)
        have hDI : D ≠ I := fun q => by rw [q] at hDe; rw [hDe] at hI2; exact Nat.lt_irrefl _ hI2
        have hkI : ∀ b o, b ≠ I → s'.heap.get? b = some o → h₂.get? b = some o := fun b o nb e => hk₂ b o (by simpa using nb) e
        refine wpAny_assign_Name (wpAny_storeName_local (atc.of hx) (hn'.at' fun o e => hkI _ o hCI e) (fun h₃ hn₃ hs₃ => ?_) (atc.plain _ _))
        have hs₃' : Heap.SameBut C h₂ h₃ := hs₃
        have hst₃ : St (i + 1) h₃ := W.frame _ _ _ hst₂ fun b hb o e => hs₃.extBut b o (fun q => hCf (by have q' : b = C := q; rw [hCe] at q'; rw [← q']; exact hb)) e
        have k3 : ∀ b o, s₂.heap.get? b = some o → b ≠ I → h₃.get? b = some o := fun b o e nb => hs₃.extBut b o (fun q => by have q' : b = C := q; exact (below b (Heap.lt_size e)).1 (q'.trans hCe)) (hkI b o nb (hk b o e nb))
        have hD₃ : h₃.get? D = some { cls := .type "list", dict := Option.none, data := .seq (List.toArray ys) nn } := hs₃.extBut _ _ (fun q => by have q' : D = C := q; rw [hDe, hCe] at q'; exact hDC q') (hkI _ _ hDI hD')
        obtain ⟨d, hd⟩ : ∃ d, items[i]? = some d := ⟨_, List.getElem?_eq_getElem hlt⟩
        have hrd : Rd h₃ v d := hP i v d h₃ (fun b o nb e => k3 b o e nb) hPv hd
        have FC := frame h₃ _ v d hn₃ (by simp) hrd k3
        have fin : ∀ s₄ : Shared, Ext { s' with heap := h₃, toks := tk₂ + 1 } s₄ → p i = false → ∃ mm, mm < items.length + 1 - i ∧ ∃ i ys mC nn, i ≤ items.length ∧ mm = items.length + 1 - i ∧ (∀ b o, s₂.heap.get? b = some o → b ≠ I → s₄.heap.get? b = some o) ∧ s₄.gens = s₂.gens ∧ s₄.os = s₂.os ∧ St i s₄.heap ∧ s₄.heap.Ns C mC ∧
            s₄.heap.get? D = some { cls := .type "list", dict := Option.none, data := .seq (List.toArray ys) nn } ∧ ∀ h', (∀ b o, s₂.heap.get? b = some o → b ≠ I → h'.get? b = some o) → RdAll h' ys (compOut p g i) := fun s₄ e₄ hpi => by
          refine ⟨items.length + 1 - (i + 1), by omega, i + 1, ys, _, nn, hlt, rfl, fun b o e nb => e₄.keep b o (k3 b o e nb), e₄.gens.trans hg, e₄.os.trans ho, W.frame _ _ _ hst₃ fun b _ o e => e₄.keep b o e, hn₃.keeps e₄.keep, e₄.keep _ _ hD₃, ?_⟩
          rw [compOut_succ, hpi]
          simp only [Bool.false_eq_true, if_false, List.append_nil]
          exact hR'
        have app : ∀ s₄ : Shared, Ext { s' with heap := h₃, toks := tk₂ + 1 } s₄ → p i = true → wpAny (model S.prog S.w) A (eval elt (compEnvC scope cl C env)) (fun y s₄ =>
              wpAny (model S.prog S.w) A (call (.builtin "list.append") [.ref D, y]) (fun _ s₅ => ∃ mm, mm < items.length + 1 - i ∧ ∃ i ys mC nn, i ≤ items.length ∧ mm = items.length + 1 - i ∧ (∀ b o, s₂.heap.get? b = some o → b ≠ I → s₅.heap.get? b = some o) ∧ s₅.gens = s₂.gens ∧ s₅.os = s₂.os ∧ St i s₅.heap ∧ s₅.heap.Ns C mC ∧
                s₅.heap.get? D = some { cls := .type "list", dict := Option.none, data := .seq (List.toArray ys) nn } ∧ ∀ h', (∀ b o, s₂.heap.get? b = some o → b ≠ I → h'.get? b = some o) → RdAll h' ys (compOut p g i)) NoE s₄) NoE s₄ := fun s₄ e₄ hpi => by
          have hlen' := compOut_len p g i
          have hl' := (hR' s₂.heap fun _ _ e _ => e).1
          have rest : ∀ y (s₅ : Shared), Ext s₄ s₅ → (∀ h', (∀ b o, s₂.heap.get? b = some o → b ≠ I → h'.get? b = some o) → Rd h' y (g i)) →
              wpAny (model S.prog S.w) A (call (.builtin "list.append") [.ref D, y]) (fun _ s₅ => ∃ mm, mm < items.length + 1 - i ∧ ∃ i ys mC nn, i ≤ items.length ∧ mm = items.length + 1 - i ∧ (∀ b o, s₂.heap.get? b = some o → b ≠ I → s₅.heap.get? b = some o) ∧ s₅.gens = s₂.gens ∧ s₅.os = s₂.os ∧ St i s₅.heap ∧ s₅.heap.Ns C mC ∧
                s₅.heap.get? D = some { cls := .type "list", dict := Option.none, data := .seq (List.toArray ys) nn } ∧ ∀ h', (∀ b o, s₂.heap.get? b = some o → b ≠ I → h'.get? b = some o) → RdAll h' ys (compOut p g i)) NoE s₅ := fun y s₅ e₅ hy => by
            have e45 := e₄.trans e₅
            refine append_at (e45.keep _ _ hD₃) (fun h₆ hs₆ hD₆ => ?_) (by rw [sizeLine_eq, List.size_toArray, hl']; omega)
            refine ⟨items.length + 1 - (i + 1), by omega, i + 1, ys ++ [y], _, nn + 1, hlt, rfl, fun b o e nb => hs₆.extBut b o (fun q => (below b (Heap.lt_size e)).2 (q.trans hDe)) (e45.keep b o (k3 b o e nb)), e45.gens.trans hg, e45.os.trans ho,
              W.frame _ _ _ hst₃ fun b hb o e => hs₆.extBut b o (fun q => hDf (by rw [← hDe, ← q]; exact hb)) (e45.keep b o e), (hn₃.keeps e45.keep).sameBut hs₆ (fun q => by have q' : C = D := q; rw [hDe, hCe] at q'; exact hDC q'.symm), by rw [hD₆]; simp, fun h' hk' => ?_⟩
            rw [compOut_succ, hpi]
            simp only [if_true]
            exact (hR' h' hk').snoc (hy h' hk')
          rcases he with he | ⟨⟨xp, rfl⟩, hdb, he⟩
          · exact (he i d hd hpi).1 A h₀ _ s₄ _ atc (FC.keeps e₄.keep) fun y s₅ e₅ r₅ => rest y s₅ e₅ fun h' _ => r₅.flat (he i d hd hpi).2
          · refine wpAny_Name (wpAny_loadName_local atc.fn (atc.of hx) (hn₃.keeps e₄.keep) (by simp) (rest v s₄ (.refl _) fun h' hk' => ?_)) hdb
            rw [he i d hd]
            exact hP i v d h' (fun b o nb e => hk' b o e nb) hPv hd
        have tst : ∀ (s₄ : Shared) (b : Bool), p i = b → Ext { s' with heap := h₃, toks := tk₂ + 1 } s₄ → (if b = true then wpAny (model S.prog S.w) A (eval elt (compEnvC scope cl C env)) (fun y s₄ =>
              wpAny (model S.prog S.w) A (call (.builtin "list.append") [.ref D, y]) (fun _ s₅ => ∃ mm, mm < items.length + 1 - i ∧ ∃ i ys mC nn, i ≤ items.length ∧ mm = items.length + 1 - i ∧ (∀ b o, s₂.heap.get? b = some o → b ≠ I → s₅.heap.get? b = some o) ∧ s₅.gens = s₂.gens ∧ s₅.os = s₂.os ∧ St i s₅.heap ∧ s₅.heap.Ns C mC ∧
                s₅.heap.get? D = some { cls := .type "list", dict := Option.none, data := .seq (List.toArray ys) nn } ∧ ∀ h', (∀ b o, s₂.heap.get? b = some o → b ≠ I → h'.get? b = some o) → RdAll h' ys (compOut p g i)) (notedBy (model S.prog S.w) A (compEnvC scope cl C env) fun e s' => compPost (model S.prog S.w) A NoE Option.none Q (.ref D) C (.error e) s') s₄) (notedBy (model S.prog S.w) A (compEnvC scope cl C env) fun e s' => compPost (model S.prog S.w) A NoE Option.none Q (.ref D) C (.error e) s') s₄
            else ∃ mm, mm < items.length + 1 - i ∧ ∃ i ys mC nn, i ≤ items.length ∧ mm = items.length + 1 - i ∧ (∀ b o, s₂.heap.get? b = some o → b ≠ I → s₄.heap.get? b = some o) ∧ s₄.gens = s₂.gens ∧ s₄.os = s₂.os ∧ St i s₄.heap ∧ s₄.heap.Ns C mC ∧
            s₄.heap.get? D = some { cls := .type "list", dict := Option.none, data := .seq (List.toArray ys) nn } ∧ ∀ h', (∀ b o, s₂.heap.get? b = some o → b ≠ I → h'.get? b = some o) → RdAll h' ys (compOut p g i)) := fun s₄ b hb e₄ => by
          cases b with
          | true =>
            simp only [if_true]
            exact wpAny_mono (app s₄ e₄ hb) (fun y s₅ h₅ => wpAny_mono h₅ (fun _ _ x => x) fun _ _ (x : False) => x.elim) fun _ _ (x : False) => x.elim
          | false =>
            simp only [Bool.false_eq_true, if_false]
            exact fin s₄ e₄ hb
        have htt := ht i d hd
        match ifs, htt with
        | [], htt => exact wpAny_tests_nil (tst _ true htt (.refl _))
        | [c], htt => exact wpAny_tests_one (wpAny_mono (htt A h₀ _ _ (fun b s₄ => b = p i ∧ Ext { s' with heap := h₃, toks := tk₂ + 1 } s₄) atc FC fun s₄ e₄ => ⟨rfl, e₄⟩) (fun b s₄ h₄ => tst s₄ b h₄.1.symm h₄.2) fun _ _ (x : False) => x.elim)
      · obtain rfl : i = items.length := Nat.le_antisymm hi (Nat.not_lt.mp hlt)
        have hCI : C ≠ I := fun q => by rw [q] at hCe; rw [hCe, hC] at hI2; exact Nat.lt_irrefl _ (Nat.lt_of_succ_lt hI2)
        have hDI : D ≠ I := fun q => by rw [q] at hDe; rw [hDe] at hI2; exact Nat.lt_irrefl _ hI2
        have hCD : D ≠ C := fun q => by rw [hDe, hCe] at q; exact hDC q
        refine W.done _ _ _ hst' fun h₂ tk₂ hk₂ => ?_
        have hkI : ∀ b o, b ≠ I → s'.heap.get? b = some o → h₂.get? b = some o := fun b o nb e => hk₂ b o (by simpa using nb) e
        refine ⟨mC, hn'.at' fun o e => hkI _ o hCI e, fun h'' hs'' => ?_⟩
        have kf : ∀ b o, s₂.heap.get? b = some o → b ≠ I → h''.get? b = some o := fun b o e nb => hs''.extBut b o (fun q => (below b (Heap.lt_size e)).1 (q.trans hCe)) (hkI b o nb (hk b o e nb))
        refine k _ { s' with heap := h'', toks := tk₂ } ⟨fun b o e => kf b o (e₂.keep b o e) fun q => (by rw [q, hIs] at e; cases e), hg.trans e₂.gens, ho.trans e₂.os⟩ ?_
        have R := hR' h'' kf
        exact .list (hs''.extBut _ _ hCD (hkI _ _ hDI hD')) R.1 R.2
  have hst0 := loop _ rfl
  rw [hCe, hDe] at hst0
  exact codeAny_compStart_list hst0 (W.self 0 _ _ _ hst₁ hst0)
end
section
variable {S : Sg} {b : Int} {cs : List Int}
noncomputable abbrev editD (b : Int) (f e : Nat) : PyData := .tuple [.int (b + f), .int (b + e), .list []]
theorem ok_horizontal_edit : DefOk (topStmt 65) ["view", "place", "is_backward"] := by ktd_rel
theorem s_horizontal_edit (H : KF S) (i : Nat) (hi : i ≤ cs.length) (f : Bool) : CallT S 4 (topStmt 65) [.v b cs, it (b + i), bl f] (editD b (blanksBegin cs i) (if f then i else blanksEnd cs i)) := by
  refine CallT.mk [("view", .v b cs), ("place", it (b + i)), ("is_backward", bl f)] ok_horizontal_edit rfl ?_
  exact ExT.stop (StT.ret (EvT.tup3 (EvT.call2 H.f_blanks_begin (by kwd_rel) (by kwd_rel) (s_blanks_begin H i hi).up (by kernel_rfl)) (EvT.ifexp (b := f) (TrT.val (by kwd_rel)) (by
    cases f with
    | true => simp only [if_true]; kwd_rel
    | false => simp only [Bool.false_eq_true, if_false]; exact EvT.call2 H.f_blanks_end (by kwd_rel) (by kwd_rel) (s_blanks_end H i hi).up (by kernel_rfl))) EvT.lst0)) trivial
theorem ok_just_edit : DefOk (topStmt 66) ["view", "place", "many"] := by ktd_rel
theorem s_just_edit (H : KF S) (i : Nat) (hi : i ≤ cs.length) (k : Int) (h0 : -1000 ≤ k) (h1 : k ≤ 1000) : CallT S 4 (topStmt 66) [.v b cs, it (b + i), it k] (.tuple [.int (b + blanksBegin cs i), .int (b + blanksEnd cs i), .list (List.replicate k.toNat (.int 32))]) := by
  refine CallT.mk [("view", .v b cs), ("place", it (b + i)), ("many", it k)] ok_just_edit rfl ?_
  exact ExT.stop (StT.ret (EvT.tup3 (EvT.call2 H.f_blanks_begin (by kwd_rel) (by kwd_rel) (s_blanks_begin H i hi).up (by kernel_rfl)) (EvT.call2 H.f_blanks_end (by kwd_rel) (by kwd_rel) (s_blanks_end H i hi).up (by kernel_rfl)) (EvT.rep1 (EvT.lst1 (by kwd_rel)) (by kwd_rel) h0 h1))) trivial
noncomputable def bbF (cs : List Int) : Nat → Option Nat → Option Nat
  | 0, o => o
  | _ + 1, none => none
  | k + 1, some a => if isBlankLine cs a = true then bbF cs k (nextStart cs a) else some a
noncomputable def behindBlanks (cs : List Int) (i : Nat) : Nat := (bbF cs (cs.length + 1) (nextStart cs i)).getD cs.length
theorem ok_behind_blanks : DefOk (topStmt 68) ["view", "place"] := by ktd_rel
theorem s_behind_blanks (H : KF S) (hb : 1 ≤ b) (i : Nat) (hi : i ≤ cs.length) : CallT S 5 (topStmt 68) [.v b cs, it (b + i)] (.int (b + behindBlanks cs i)) := by
  refine CallT.mk [("view", .v b cs), ("place", it (b + i))] ok_behind_blanks rfl ?_
  refine ExT.cons (StT.assign (EvT.call2 H.f_next_start (by kwd_rel) (by kwd_rel) (s_next_start H i hi).up (by kernel_rfl)) (by kaf_suf) (by kernel_rfl)) ?_
  refine ExT.forget (m₂ := [("view", .v b cs), ("at", it (posO b (nextStart cs i)))]) (by krn_off) ?_
  have loop : ∀ (k : Nat) (o : Option Nat), (∀ a, o = some a → a ≤ cs.length ∧ cs.length < a + k) → ∀ test body,
      (∀ o : Option Nat, (∀ a, o = some a → a ≤ cs.length) → TrT S 4 (stScope (topStmt 68)) [("view", .v b cs), ("at", it (posO b o))] test (match o with | none => false | some a => isBlankLine cs a)) →
      (∀ a, a ≤ cs.length → ExT S 4 (stScope (topStmt 68)) [("view", .v b cs), ("at", it (posO b (some a)))] body (.next [("view", .v b cs), ("at", it (posO b (nextStart cs a)))])) →
      WhT S 4 (stScope (topStmt 68)) [("view", .v b cs), ("at", it (posO b o))] test body (.next [("view", .v b cs), ("at", it (posO b (bbF cs k o)))]) := by
    intro k
    induction k with
    | zero =>
      intro o ho test body ht hb
      cases o with
      | none => exact WhT.done (ht none (fun a e => nomatch e))
      | some a => have := ho a rfl; omega
    | succ k ih =>
      intro o ho test body ht hb
      cases o with
      | none => exact WhT.done (ht none (fun a e => nomatch e))
      | some a =>
        unfold bbF
        have tt := ht (some a) (fun x e => (ho x e).1)
        by_cases h : isBlankLine cs a = true
        · rw [if_pos h]
          exact WhT.step (tt.cast h) (hb a (ho a rfl).1) (ih _ (fun y q => by have := nextStart_gt q; have := ho a rfl; omega) test body ht hb)
        · rw [if_neg h]
          exact WhT.done (tt.cast (by simpa using h))
  refine ExT.cons (m' := [("view", .v b cs), ("at", it (posO b (bbF cs (cs.length + 1) (nextStart cs i))))]) (StT.whl (loop _ _ (fun a q => by have := nextStart_gt q; omega) _ _ (fun o ho => ?_) (fun a ha => ?_))) ?_
  · cases o with
    | none =>
      simp only [posO]
      exact TrT.andF (TrT.icmp (by kwd_rel) (by kwd_rel) rfl)
    | some a =>
      simp only [posO]
      exact (TrT.and2 (b := true) (TrT.icmp (by kwd_rel) (by kwd_rel) (by kwd_less)) fun _ => TrT.val (EvT.call2 H.f_is_blank_line (by kwd_rel) (by kwd_rel) (s_is_blank_line H a (ho a rfl)).up (by kernel_rfl))).cast rfl
  · rw [show posO b (some a) = b + (a : Int) from rfl]
    exact ExT.cons (StT.asgD (by kaf_suf) (EvT.call2 H.f_next_start (by kwd_rel) (by kwd_rel) (s_next_start H a ha).up (by kernel_rfl)) (by kernel_rfl)) ExT.nil
  · unfold behindBlanks
    cases e : bbF cs (cs.length + 1) (nextStart cs i) with
    | none => exact ExT.stop (StT.ret (EvT.ifexp (b := true) (TrT.icmp (by kwd_rel) (by kwd_rel) rfl) (by simp only [if_true]; exact EvT.castI (by kwd_rel) (by simp)))) trivial
    | some j =>
      simp only [posO]
      exact ExT.stop (StT.ret (EvT.ifexp (b := false) (TrT.icmp (by kwd_rel) (by kwd_rel) (by kwd_less)) (by simp only [Bool.false_eq_true, if_false]; exact EvT.castI (by kwd_rel) (by simp)))) trivial
noncomputable def blankFirst (cs : List Int) (i : Nat) : Nat := backL (fun a => isBlankLine cs (a - 1)) cs (lineStart cs i)
theorem blankFirst_le (i : Nat) : blankFirst cs i ≤ i := Nat.le_trans (backL_le _) (lineStart_le _)
theorem ok_blank_run : DefOk (topStmt 67) ["view", "place"] := by ktd_rel
theorem s_blank_run (H : KF S) (hb : 1 ≤ b) (i : Nat) (hi : i ≤ cs.length) : CallT S 6 (topStmt 67) [.v b cs, it (b + i)] (.tuple [.int (b + blankFirst cs i), .int (b + behindBlanks cs i)]) := by
  refine CallT.mk [("view", .v b cs), ("place", it (b + i))] ok_blank_run rfl ?_
  refine ExT.cons (StT.assign (EvT.call2 H.f_line_start (by kwd_rel) (by kwd_rel) (s_line_start H i hi).up (by kernel_rfl)) (by kaf_suf) (by kernel_rfl)) ?_
  have l1 := lineStart_le (cs := cs) i
  refine ExT.cons (m' := [("view", .v b cs), ("place", it (b + i)), ("first", it (b + blankFirst cs i))]) (StT.whl (WhT.back (cs := cs) (q := fun a => isBlankLine cs (a - 1)) (fun a => [("view", .v b cs), ("place", it (b + i)), ("first", it (b + a))]) (fun a ha => ?_) (fun a ha h0 => ?_) _ (by omega))) ?_
  · exact TrT.and2 (TrT.icmp (by kwd_rel) (by kwd_rel) (by kwd_less)) fun h0 => TrT.val (EvT.call2 H.f_is_blank_line (by kwd_rel) (EvT.castI (y := b + ((a - 1 : Nat) : Int)) (by kwd_rel) (by have h0' := of_decide_eq_true h0; omega)) (s_is_blank_line H (a - 1) (by omega)).up (by kernel_rfl))
  · exact ExT.cons (StT.asgD (by kaf_suf) (EvT.call2 H.f_line_start (by kwd_rel) (EvT.castI (y := b + ((a - 1 : Nat) : Int)) (by kwd_rel) (by omega)) (s_line_start H (a - 1) (by omega)).up (by kernel_rfl)) (by kernel_rfl)) ExT.nil
  · exact ExT.stop (StT.ret (EvT.tup2 (by kwd_rel) (EvT.call2 H.f_behind_blanks (by kwd_rel) (by kwd_rel) (s_behind_blanks H hb i hi).up (by kernel_rfl)))) trivial
theorem ok_line_behind_deletion : DefOk (topStmt 69) ["view", "place"] := by ktd_rel
theorem s_line_behind_deletion (H : KF S) (hb : 1 ≤ b) (i : Nat) (hi : i ≤ cs.length) : CallT S 5 (topStmt 69) [.v b cs, it (b + i)] (.int (b + lineBehind cs i)) := by
  refine CallT.mk [("view", .v b cs), ("place", it (b + i))] ok_line_behind_deletion rfl ?_
  refine ExT.cons (StT.assign (EvT.call2 H.f_next_start (by kwd_rel) (by kwd_rel) (s_next_start H i hi).up (by kernel_rfl)) (by kaf_suf) (by kernel_rfl)) ?_
  unfold lineBehind
  cases e : nextStart cs i with
  | none => exact ExT.stop (StT.ret (EvT.ifexp (b := true) (TrT.icmp (by kwd_rel) (by kwd_rel) rfl) (by simp only [if_true]; exact EvT.castI (by kwd_rel) (by simp)))) trivial
  | some j =>
    simp only [posO]
    exact ExT.stop (StT.ret (EvT.ifexp (b := false) (TrT.icmp (by kwd_rel) (by kwd_rel) (by kwd_less)) (by simp only [Bool.false_eq_true, if_false]; exact EvT.castI (by kwd_rel) (by simp)))) trivial
end
section
variable {S : Sg} {b : Int} {cs : List Int}
noncomputable def blankLinesEdits (cs : List Int) (i : Nat) : List (Nat × Nat) :=
  if isBlankLine cs i = false then (if lineBehind cs i < behindBlanks cs i then [(lineBehind cs i, behindBlanks cs i)] else [])
  else if blankFirst cs i = lineStart cs i ∧ behindBlanks cs i = lineBehind cs i then [(lineStart cs i, lineBehind cs i)]
  else if behindBlanks cs i = cs.length ∧ lineEnd cs i < lineBehind cs i then [(blankFirst cs i, behindBlanks cs i)]
  else [(lineBehind cs i, behindBlanks cs i), (blankFirst cs i, lineStart cs i)].filter fun e => decide (e.1 < e.2)
theorem ok_blank_lines_edits : DefOk (topStmt 71) ["view", "place"] := by ktd_rel
theorem s_blank_lines_edits (H : KF S) (hb : 1 ≤ b) (i : Nat) (hi : i ≤ cs.length) : CallT S 7 (topStmt 71) [.v b cs, it (b + i)] (.list ((blankLinesEdits cs i).map fun e => editD b e.1 e.2)) := by
  refine CallT.mk [("view", .v b cs), ("place", it (b + i))] ok_blank_lines_edits rfl ?_
  refine ExT.cons (StT.swap2 (EvT.tup2 (EvT.call2 H.f_line_start (by kwd_rel) (by kwd_rel) (s_line_start H i hi).up (by kernel_rfl)) (EvT.call2 H.f_line_behind_deletion (by kwd_rel) (by kwd_rel) (s_line_behind_deletion H hb i hi).up (by kernel_rfl))) (by kaf_suf) (by kaf_suf) (by kernel_rfl) (by kernel_rfl)) ?_
  unfold blankLinesEdits
  have hbl := s_blank_run H hb i hi
  have hbb := s_behind_blanks H hb i hi
  have hle := s_line_end (b := b) H i hi
  have hib := s_is_blank_line (b := b) H i hi
  generalize lineBehind cs i = following
  generalize lineStart cs i = own
  generalize behindBlanks cs i = e at hbl hbb
  generalize blankFirst cs i = first at hbl
  generalize lineEnd cs i = le at hle
  cases h : isBlankLine cs i with
  | false =>
    rw [if_pos rfl]
    refine ExT.stop (StT.ite (b := true) (TrT.not (TrT.val (EvT.castB (EvT.call2 H.f_is_blank_line (by kwd_rel) (by kwd_rel) hib.up (by kernel_rfl)) h)) rfl) ?_) trivial
    refine ExT.cons (StT.assign (EvT.call2 H.f_behind_blanks (by kwd_rel) (by kwd_rel) hbb.up (by kernel_rfl)) (by kaf_suf) (by kernel_rfl)) ?_
    by_cases h2 : following < e
    · rw [if_pos h2]
      exact ExT.stop (StT.ret (EvT.ifexp (b := true) (TrT.icmp (by kwd_rel) (by kwd_rel) (by kwd_less)) (by simp only [if_true]; exact EvT.lst1 (EvT.tup3 (by kwd_rel) (by kwd_rel) EvT.lst0)))) trivial
    · rw [if_neg h2]
      exact ExT.stop (StT.ret (EvT.ifexp (b := false) (TrT.icmp (by kwd_rel) (by kwd_rel) (by kwd_less)) (by simp only [Bool.false_eq_true, if_false]; exact EvT.lst0))) trivial
  | true =>
    rw [if_neg (by simp)]
    refine ExT.cons (StT.ite (b := false) (TrT.not (TrT.val (EvT.castB (EvT.call2 H.f_is_blank_line (by kwd_rel) (by kwd_rel) hib.up (by kernel_rfl)) h)) rfl) ExT.nil) ?_
    refine ExT.cons (StT.unpack2 (EvT.call2 H.f_blank_run (by kwd_rel) (by kwd_rel) hbl.up (by kernel_rfl)) (by kaf_suf) (by kaf_suf) (by kernel_rfl) (by kernel_rfl)) ?_
    by_cases h2 : first = own ∧ e = following
    · rw [if_pos h2]
      exact ExT.stop (StT.ite (b := true) ((TrT.and2 (b := decide (first = own)) (c := decide (e = following)) (TrT.icmp (by kwd_rel) (by kwd_rel) (by rw [Bool.eq_iff_iff]; simp [icmp]; omega)) fun _ => TrT.icmp (by kwd_rel) (by kwd_rel) (by rw [Bool.eq_iff_iff]; simp [icmp]; omega)).cast (by simpa using h2)) (ExT.stop (StT.ret (EvT.lst1 (EvT.tup3 (by kwd_rel) (by kwd_rel) EvT.lst0))) trivial)) trivial
    · rw [if_neg h2]
      refine ExT.cons (StT.ite (b := false) ((TrT.and2 (b := decide (first = own)) (c := decide (e = following)) (TrT.icmp (by kwd_rel) (by kwd_rel) (by rw [Bool.eq_iff_iff]; simp [icmp]; omega)) fun _ => TrT.icmp (by kwd_rel) (by kwd_rel) (by rw [Bool.eq_iff_iff]; simp [icmp]; omega)).cast (by simpa using h2)) ExT.nil) ?_
      by_cases h3 : e = cs.length ∧ le < following
      · rw [if_pos h3]
        exact ExT.stop (StT.ite (b := true) ((TrT.and2 (b := decide (e = cs.length)) (c := decide (le < following)) (TrT.icmp (by kwd_rel) (by kwd_rel) (by rw [Bool.eq_iff_iff]; simp [icmp]; omega)) fun _ => TrT.icmp (by kwd_rel) (EvT.call2 H.f_line_end (by kwd_rel) (by kwd_rel) hle.up (by kernel_rfl)) (by kwd_less)).cast (by simpa using h3)) (ExT.stop (StT.ret (EvT.lst1 (EvT.tup3 (by kwd_rel) (by kwd_rel) EvT.lst0))) trivial)) trivial
      · rw [if_neg h3]
        refine ExT.cons (StT.ite (b := false) ((TrT.and2 (b := decide (e = cs.length)) (c := decide (le < following)) (TrT.icmp (by kwd_rel) (by kwd_rel) (by rw [Bool.eq_iff_iff]; simp [icmp]; omega)) fun _ => TrT.icmp (by kwd_rel) (EvT.call2 H.f_line_end (by kwd_rel) (by kwd_rel) hle.up (by kernel_rfl)) (by kwd_less)).cast (by simpa using h3)) ExT.nil) ?_
        refine ExT.stop (StT.ret (EvT.castD (EvT.comp (mf := []) (items := [editD b following e, editD b first own]) (p := fun i => if i = 0 then decide (following < e) else decide (first < own)) (g := fun i => if i = 0 then editD b following e else editD b first own) (SrcT.list (EvT.lst2 (EvT.tup3 (by kwd_rel) (by kwd_rel) EvT.lst0) (EvT.tup3 (by kwd_rel) (by kwd_rel) EvT.lst0))) (by simp) (by kernel_rfl) (by kernel_rfl) (by decide +kernel) (by decide +kernel) (fun y hy => ?_) (fun y pv hm => nomatch hm) (fun j d hd => ?_) (.inr ⟨⟨_, rfl⟩, by kernel_rfl, fun j d hd => ?_⟩)) ?_)) trivial
        · simp at hy
        · match j, hd with
          | 0, hd => cases hd; exact TrT.icmp (EvT.item (k := 0) (i := 0) (by kwd_rel) EvT.int rfl (by decide) rfl) (EvT.item (k := 1) (i := 1) (by kwd_rel) EvT.int rfl (by decide) rfl) (by simp [icmp])
          | 1, hd => cases hd; exact TrT.icmp (EvT.item (k := 0) (i := 0) (by kwd_rel) EvT.int rfl (by decide) rfl) (EvT.item (k := 1) (i := 1) (by kwd_rel) EvT.int rfl (by decide) rfl) (by simp [icmp])
          | j + 2, hd => simp at hd
        · match j, hd with
          | 0, hd => cases hd; rfl
          | 1, hd => cases hd; rfl
          | j + 2, hd => simp at hd
        · show PyData.list (compOut _ _ 2) = _
          rw [compOut_succ, compOut_succ]
          by_cases q1 : following < e <;> by_cases q2 : first < own <;> simp [q1, q2, compOut, List.filter]
end
section
theorem bindL_nil {kd : Str → Option NameKind} {m : Str → Option Value} : bindL kd [] m = m := rfl
theorem bindL_cons {kd : Str → Option NameKind} {m : Str → Option Value} {n : Str} {v : Value} {r : List (Str × Value)} : bindL kd ((n, v) :: r) m = bindL kd r (if kd n = some .local then fun y => if y = n then some v else m y else m) := rfl
theorem bindL_out {kd : Str → Option NameKind} : ∀ (l : List (Str × Value)) (m : Str → Option Value) (x : Str), (∀ v, (x, v) ∉ l) → bindL kd l m x = m x
  | [], m, x, _ => rfl
  | (n, v) :: r, m, x, h => by
    rw [bindL_cons]
    rw [bindL_out r _ x fun w q => h w (.tail _ q)]
    have hne : x ≠ n := fun q => h v (q ▸ .head _)
    split
    · simp [hne]
    · rfl
theorem bindC_out {kd : Str → Option NameKind} : ∀ (l : List (Str × Value)) (m : Str → Option Value) (x : Str), (∀ v, (x, v) ∉ l) → bindC kd l m x = m x
  | [], m, x, _ => rfl
  | (n, v) :: r, m, x, h => by
    unfold bindC
    rw [bindC_out r _ x fun w q => h w (.tail _ q)]
    have hne : x ≠ n := fun q => h v (q ▸ .head _)
    split
    · rfl
    · simp [hne]
theorem bindL_get {kd : Str → Option NameKind} : ∀ (ns : List Str) (vs : List Value) (m : Str → Option Value) (x : Str) (i : Nat) (v : Value), ns.Nodup → ns[i]? = some x → vs[i]? = some v → kd x = some .local → bindL kd (ns.zip vs) m x = some v
  | [], _, _, _, i, _, _, e, _, _ => by simp at e
  | _ :: _, [], _, _, i, _, _, _, e, _ => by simp at e
  | n :: ns, w :: vs, m, x, i, v, nd, e1, e2, hk => by
    have nd' := List.nodup_cons.mp nd
    rw [List.zip_cons_cons]
    rw [bindL_cons]
    cases i with
    | zero =>
      simp at e1 e2
      subst e1; subst e2
      rw [bindL_out _ _ _ fun u q => nd'.1 (List.of_mem_zip q).1, if_pos hk]
      simp
    | succ i => exact bindL_get ns vs _ x i v nd'.2 (by simpa using e1) (by simpa using e2) hk
theorem bindC_get {kd : Str → Option NameKind} : ∀ (ns : List Str) (vs : List Value) (m : Str → Option Value) (x : Str) (i : Nat) (v : Value), ns.Nodup → ns[i]? = some x → vs[i]? = some v → kd x = some .cell → bindC kd (ns.zip vs) m x = some v
  | [], _, _, _, i, _, _, e, _, _ => by simp at e
  | _ :: _, [], _, _, i, _, _, _, e, _ => by simp at e
  | n :: ns, w :: vs, m, x, i, v, nd, e1, e2, hk => by
    have nd' := List.nodup_cons.mp nd
    rw [List.zip_cons_cons]
    unfold bindC
    cases i with
    | zero =>
      simp at e1 e2
      subst e1; subst e2
      rw [bindC_out _ _ _ fun u q => nd'.1 (List.of_mem_zip q).1, if_neg (by rw [hk]; decide)]
      simp
    | succ i => exact bindC_get ns vs _ x i v nd'.2 (by simpa using e1) (by simpa using e2) hk
structure DefOkC (st : Stmt) (names : List Str) : Prop where
  bind : ∀ name qual doc pm an cdv ct vs, vs.length = names.length → bindArgs (fnX name qual (stArgs st) (stBody st) (stScope st) [] .none .none doc pm an cdv ct) ⟨vs, []⟩ = pure (names.zip vs)
  nd : names.Nodup
  kinds : ∀ x ∈ names, (stScope st).names.lookup x = some .local ∨ ((stScope st).names.lookup x = some .cell ∧ ∀ n, ((cellsFrom n (stScope st).names []).lookup x).isSome = true)
  co : (stScope st).isCoroutine = false
  gen : (stScope st).isGenerator = false
  k : (stScope st).kind = .function
theorem CallT.mkC {S : Sg} {n : Nat} {st : Stmt} (m : Loc) {args : List PV} {res : PyData} (ok : DefOkC st (m.map (·.1))) (ha : m.map (·.2) = args) (h : ExT S n (stScope st) m (stBody st) (.ret res)) : CallT S (n + 1) st args res := by
  intro A s f vs R room on fn hl hr kk
  obtain ⟨o, name, qual, doc, pm, an, cdv, ct, e1, e2, e3⟩ := fn.fd
  have hlm : vs.length = (m.map (·.1)).length := by rw [hl, ← ha]; simp
  have hO := on.x _ _ e1
  have nth : ∀ x ∈ (m.map (·.1)).zip vs, x.1 ∈ m.map (·.1) := fun x hx => (List.of_mem_zip hx).1
  refine codeAny_call_cells (binds := (m.map (·.1)).zip vs) (by have := room.1; omega) hO e2 on.t.nolimit (codeRec_of on.x e3) rfl (ok.bind name qual doc pm an cdv ct vs hlm) rfl
    (fun x hx => ?_) (fun s₁ x => ?_) ok.co ok.gen ok.k
  · rcases ok.kinds x.1 (nth x hx) with q | ⟨q, r⟩
    · exact .inl q
    · exact .inr ⟨q, r _⟩
  have k1 := x.toInCall.keep
  have hL : (callEnvC (fnX name qual (stArgs st) (stBody st) (stScope st) [] .none .none doc pm an cdv ct) s.heap.objs.size f).locals = s.heap.objs.size := rfl
  have F : FrameAt S s.heap (callEnvC (fnX name qual (stArgs st) (stBody st) (stScope st) [] .none .none doc pm an cdv ct) s.heap.objs.size f) m s₁.heap := by
    refine ⟨⟨_, ⟨x.toInCall.ns, fun b o e => k1 b o (on.keep b o e), Nat.le_trans on.size (Nat.le_of_eq hL.symm)⟩, fun y pv hm => ?_⟩, k1, by rw [hL]; exact size_none _⟩
    obtain ⟨i, hi⟩ := List.getElem?_of_mem hm
    have hil : i < vs.length := by
      rw [hlm, List.length_map]
      exact (List.getElem?_eq_some_iff.mp hi).1
    have e1 : (m.map (·.1))[i]? = some y := by rw [List.getElem?_map, hi]; rfl
    have e2 : args[i]? = some pv := by rw [← ha, List.getElem?_map, hi]; rfl
    have e3 : vs[i]? = some vs[i] := List.getElem?_eq_getElem hil
    refine ⟨vs[i], ⟨fun q => bindL_get _ _ _ y i _ ok.nd e1 e3 q, fun q => ?_⟩, (hr i _ pv e3 e2).keeps k1⟩
    have hy : y ∈ m.map (·.1) := List.mem_of_getElem? e1
    have q' : (stScope st).names.lookup y = some .cell := q
    rcases ok.kinds y hy with w | ⟨w, r⟩
    · rw [w] at q'; cases q'
    · obtain ⟨c, hc⟩ := Option.isSome_iff_exists.mp (r (s.heap.objs.size + 1))
      have hcc := x.cell y c hc
      rw [bindC_get _ _ _ y i vs[i] ok.nd e1 e3 q] at hcc
      exact ⟨c, hc, hcc⟩
  obtain ⟨⟨h', tk, es⟩, _, _, _⟩ := x.toInCall
  refine wpAny_mono (h (A.deeper _) s.heap _ _ _ ⟨room.deeper _, on.ok, ok.k, rfl, rfl, rfl⟩ F fun fl s' e o => ?_) (fun _ _ x => x) (fun _ _ (x : False) => x.elim)
  have ee : Ext s s' := ⟨fun b o e' => e.keep b o (fun q => by rw [q, hL] at e'; exact Nat.lt_irrefl _ (Heap.lt_size e')) (k1 b o e'), e.gens.trans (by rw [es]), e.os.trans (by rw [es])⟩
  obtain ⟨v, rfl, r⟩ := o
  exact kk v s' ee r
end
section
variable {S : Sg} {b : Int} {cs : List Int}
noncomputable def codesOf (cs : List Int) (i j : Nat) : List PyData := (List.range (j - i)).map fun t : Nat => .int (codeAt cs ((i + t : Nat) : Int))
theorem codesOf_len (i j : Nat) : (codesOf cs i j).length = j - i := by simp [codesOf]
theorem compOut_all (g : Nat → PyData) (k : Nat) : compOut (fun _ => true) g k = (List.range k).map g := by
  induction k with
  | zero => rfl
  | succ k ih => rw [compOut_succ, ih, List.range_succ, List.map_append]; rfl
theorem ok_codes_between : DefOkC (topStmt 91) ["view", "start", "end"] := by
  refine ⟨fun _ _ _ _ _ _ _ vs h => ?_, by decide +kernel, fun x hx => ?_, by decide +kernel, by decide +kernel, by decide +kernel⟩
  · obtain ⟨a, b, c, e⟩ := vs3 h
    subst e; rfl
  · rcases List.mem_cons.mp hx with rfl | hx
    · exact .inr ⟨by kernel_rfl, fun n => rfl⟩
    · rcases List.mem_cons.mp hx with rfl | hx
      · exact .inl (by kernel_rfl)
      · rcases List.mem_cons.mp hx with rfl | hx
        · exact .inl (by kernel_rfl)
        · exact nomatch hx
theorem s_codes_between (H : KF S) (hb : 1 ≤ b) (hh : b ≤ 1000) (i j : Nat) (hi : i ≤ 1000) (hj : j ≤ 1000) : CallT S 3 (topStmt 91) [.v b cs, it (b + i), it (b + j)] (.list (codesOf cs i j)) := by
  refine CallT.mkC [("view", .v b cs), ("start", it (b + i)), ("end", it (b + j))] ok_codes_between rfl ?_
  have hk : (b + (j : Int) - (b + i)).toNat = j - i := by omega
  have rg := fun xp pos np1 np2 => RgT.r2 (S := S) (n := 2) (sc := stScope (topStmt 91)) (m := [("view", .v b cs), ("start", it (b + i)), ("end", it (b + j))]) (a := .Name "start" np1) (b := .Name "end" np2) (i := b + i) (j := b + j) (xp := xp) (pos := pos) H.b_range (by kwd_rel) (by kwd_rel) (by omega) (by omega) (by omega) (by omega) (by kernel_rfl)
  rw [hk] at rg
  refine ExT.stop (StT.ret (EvT.castD (EvT.comp (mf := [("view", .v b cs)]) (p := fun _ => true) (g := fun t : Nat => .int (codeAt cs ((i + t : Nat) : Int))) (SrcT.range (rg _ _ _ _)) (by simp; omega) (by kernel_rfl) (by kernel_rfl) (by decide +kernel) (by decide +kernel) (fun y hy => ?_) (fun y pv hm => ?_) (fun t d hd => rfl) (.inl fun t d hd _ => ⟨?_, rfl⟩)) ?_)) trivial
  · have : y = "view" := by
      rcases List.mem_cons.mp hy with q | hy
      · cases q
      · rcases List.mem_cons.mp hy with q | hy
        · cases q
        · rcases List.mem_cons.mp hy with q | hy
          · exact (Prod.mk.inj q).1
          · exact nomatch hy
    subst this
    exact ⟨by kernel_rfl, _, .head _⟩
  · rcases List.mem_cons.mp hm with q | hm
    · obtain ⟨rfl, rfl⟩ := Prod.mk.inj q
      exact ⟨.head _, .tail _ (.tail _ (.head _)), by kernel_rfl⟩
    · exact nomatch hm
  · have hd' : d = .int (b + i + t) := by
      rw [List.getElem?_map] at hd
      obtain ⟨u, hu, rfl⟩ := Option.map_eq_some_iff.mp hd
      rw [List.getElem?_eq_some_iff] at hu
      obtain ⟨h1, h2⟩ := hu
      rw [show u = t by simpa using h2.symm]
    subst hd'
    exact EvT.vcode H.b_len (EvT.cel (by kernel_rfl) (by kaf_pre) (by kernel_rfl)) (by kwd_rel) (by congr 1; omega)
  · rw [List.length_map, List.length_range, compOut_all]
    rfl
end
section
variable {S : Sg} {k : Nat} {sc : Scope} {m m' m₁ m₂ m₃ : Loc}
theorem EvT.and2 {x y : PySem.Expr} {b c : Bool} {pos : Pos} (h : EvT S k sc m x (bl b)) (g : b = true → EvT S k sc m y (bl c)) : EvT S k sc m (.BoolOp .And [x, y] pos) (bl (b && c)) := by
  intro A h₀ env s Q at_ F kk
  refine BoolOp_and (h A h₀ env s _ at_ F fun v s' e r => ?_)
  rw [rd_bool r]
  refine wpAny_truthy_bool ?_
  cases b with
  | false => exact kk _ _ e (.bool _)
  | true => exact BoolOp_one (g rfl A h₀ env s' _ at_ (F.keeps e.keep) fun v s'' e' r' => kk _ _ (e.trans e') r')
theorem TrT.and3 {t u v : PySem.Expr} {pos : Pos} {b c d : Bool} (h : TrT S k sc m t b) (g : b = true → TrT S k sc m u c) (f : b = true → c = true → TrT S k sc m v d) : TrT S k sc m (.BoolOp .And [t, u, v] pos) (b && (c && d)) :=
  TrT.bops (TrsT.consA h fun e => TrsT.consA (g e) fun e' => by have := TrsT.consA (b := d) (c := true) (f e e') fun _ => TrsT.nilA; rwa [Bool.and_true] at this)
theorem EvT.callL3 {x : Str} {xp pos : Pos} {st : Stmt} {a b d : PySem.Expr} {p q r : PV} {res : PyData} {g : Addr} (fn : FnAt S st g) (hm : (x, PV.r (.ref g)) ∈ m) (h1 : EvT S k sc m a p) (h2 : EvT S k sc m b q) (h3 : EvT S k sc m d r) (c : CallT S k st [p, q, r] res) (hx : sc.names.lookup x = some .local)
    (s1 : ∀ env, starEach [a, b, d] env = [(false, eval a env), (false, eval b env), (false, eval d env)] := by intro _; with_unfolding_all rfl) (s2 : ∀ env, starEach [b, d] env = [(false, eval b env), (false, eval d env)] := by intro _; with_unfolding_all rfl)
    (s3 : ∀ env, starEach [d] env = [(false, eval d env)] := by intro _; with_unfolding_all rfl)
    (he : ∀ env, eval (.Call (.Name x xp) [a, b, d] [] pos) env = (do callWith pos (← eval (.Name x xp) env) [] (backTo pos (starEach [a, b, d] env)) (backToKw pos (keywordEach [] env))) := by intro _; with_unfolding_all rfl)
    (hd : (x == ("__debug__" : Str)) = false := by decide +kernel) : EvT S k sc m (.Call (.Name x xp) [a, b, d] [] pos) (.d res) :=
  EvT.callL fn hm (EvsT.cons h1 (EvsT.cons h2 (EvsT.cons h3 .nil (fun env => by rw [s3]; rfl)) (fun env => by rw [s2, s3])) (fun env => by rw [s1, s2])) c hx (.inr ⟨_, _, rfl, fun env => by rw [s1, s2], fun env _ => by rw [s2]; rfl⟩) he hd
theorem StT.unpack3 {x y z : Str} {px py pz tp pos : Pos} {k' : Nat} {e : PySem.Expr} {p q r : PyData} (h : EvT S k sc m e (.d (.tuple [p, q, r]))) (t₁ : SetAt m x (.d p) m₁) (t₂ : SetAt m₁ y (.d q) m₂) (t₃ : SetAt m₂ z (.d r) m₃)
    (hx : sc.names.lookup x = some .local) (hy : sc.names.lookup y = some .local) (hz : sc.names.lookup z = some .local)
    (hs : ∀ env, swapsWithSole [.Tuple [.Name x px, .Name y py, .Name z pz] k' tp] e pos.line env = pure false := by intro _; with_unfolding_all rfl)
    (hw : ∀ env, swappedStores [.Tuple [.Name x px, .Name y py, .Name z pz] k' tp] e env = pure Option.none := by intro _; with_unfolding_all rfl) :
    StT S k sc m (.Assign [.Tuple [.Name x px, .Name y py, .Name z pz] k' tp] e pos) (.next m₃) := by
  intro A h₀ env s Q at_ F kk
  refine Assign_Tuple (h A h₀ env s _ at_ F fun v s₁ e₁ r₁ => ?_) (hs _) (hw _)
  obtain ⟨a, vs, n, rfl, ho, ra⟩ := rd_tuple r₁
  obtain ⟨u, us, e1, ru, rr⟩ := RdAll.uncons ra
  obtain ⟨w, ws, e2, rw_, rr2⟩ := RdAll.uncons rr
  obtain ⟨g, gs, e3, rg_, rn⟩ := RdAll.uncons rr2
  have e4 := RdAll.unnil rn
  subst e4
  subst e3
  subst e2
  have hsz : vs.size = 3 := by rw [← Array.length_toList, e1]; rfl
  refine assign_Tuple_tuple at_.room.2.2 ⟨_, ho, rfl, n, rfl⟩ (by show 3 = vs.size; rw [hsz]) (by rfl) fun h' he => ?_
  have k₁ : ∀ b o, s₁.heap.get? b = some o → h'.get? b = some o := fun b o e => he b o (Nat.ne_of_lt (Heap.lt_size e)) e
  have F₁ := (F.keeps e₁.keep).keeps k₁
  have ru' := ru.mono (seqKept_of k₁)
  have rw' := rw_.mono (seqKept_of k₁)
  have rg' := rg_.mono (seqKept_of k₁)
  rw [e1]
  refine assignInOrder_cons (assign_Name ?_)
  obtain ⟨mv, f₁, r₁⟩ := F₁.fr
  refine wpAny_storeName_local (at_.of hx) f₁.ns (fun h₂ hn₂ hs₂ => ?_) (at_.plain _ _)
  have F₂ := F₁.store (pv := .d p) ru' (at_.of hx) f₁ r₁ hn₂ hs₂ t₁
  have sk : SeqKept h' h₂ := seqKept_but F₁ fun b o nb e => (hs₂.2 b nb).trans e
  refine assignInOrder_cons (assign_Name ?_)
  obtain ⟨mv₂, f₂, r₂⟩ := F₂.fr
  refine wpAny_storeName_local (at_.of hy) f₂.ns (fun h₃ hn₃ hs₃ => ?_) (at_.plain _ _)
  have F₃ := F₂.store (pv := .d q) (rw'.mono sk) (at_.of hy) f₂ r₂ hn₃ hs₃ t₂
  have sk2 : SeqKept h₂ h₃ := seqKept_but F₂ fun b o nb e => (hs₃.2 b nb).trans e
  refine assignInOrder_cons (assign_Name ?_)
  obtain ⟨mv₃, f₃, r₃⟩ := F₃.fr
  refine wpAny_storeName_local (at_.of hz) f₃.ns (fun h₄ hn₄ hs₄ => ?_) (at_.plain _ _)
  have F₄ := F₃.store (pv := .d r) ((rg'.mono sk).mono sk2) (at_.of hz) f₃ r₃ hn₄ hs₄ t₃
  refine assignInOrder_nil (kk _ _ ⟨fun b o nb e => ?_, e₁.gens, e₁.os⟩ ⟨rfl, F₄⟩)
  exact (hs₄.2 b nb).trans ((hs₃.2 b nb).trans ((hs₂.2 b nb).trans (k₁ b o (e₁.keep b o e))))
end
section
variable {S : Sg} {b : Int} {cs : List Int}
noncomputable def linesAhead (cs : List Int) (i : Nat) (many : Int) : Nat × Int :=
  ((linesTarget cs i many).1, (linesTarget cs i many).2 + (if i < (linesTarget cs i many).1 ∧ codeAt cs (((linesTarget cs i many).1 : Int) - 1) ≠ 10 then 1 else 0))
theorem linesFwd_lack : ∀ (k a : Nat), (linesFwd cs k a).2 ≤ k
  | 0, a => Nat.le_refl _
  | k + 1, a => by
    unfold linesFwd
    split
    · exact Nat.sub_le _ _
    · rename_i j _
      exact Nat.le_succ_of_le (linesFwd_lack k j)
theorem linesAhead_le (i : Nat) (hi : i ≤ cs.length) (many : Int) : (linesAhead cs i many).1 ≤ cs.length := linesTarget_le i many hi
theorem linesAhead_lack (i : Nat) (many : Int) (h0 : 0 < many) (h1 : many ≤ 100) : 0 ≤ (linesAhead cs i many).2 ∧ (linesAhead cs i many).2 ≤ 101 := by
  unfold linesAhead linesTarget
  rw [if_neg (by omega)]
  have := linesFwd_lack (cs := cs) many.toNat i
  dsimp only
  split <;> omega
theorem ok_lines_ahead : DefOk (topStmt 99) ["view", "place", "many"] := by ktd_rel
theorem s_lines_ahead (H : KF S) (hb : 1 ≤ b) (i : Nat) (hi : i ≤ cs.length) (many : Int) :
    CallT S 6 (topStmt 99) [.v b cs, it (b + i), it many] (.tuple [.int (b + (linesAhead cs i many).1), .int (linesAhead cs i many).2]) := by
  refine CallT.mk [("view", .v b cs), ("place", it (b + i)), ("many", it many)] ok_lines_ahead rfl ?_
  refine ExT.cons (StT.unpack2 (EvT.call3 H.f_lines_target (by kwd_rel) (by kwd_rel) (by kwd_rel) (s_lines_target H hb i hi many).up (by kernel_rfl)) (by kaf_suf) (by kaf_suf) (by kernel_rfl) (by kernel_rfl)) ?_
  unfold linesAhead
  generalize linesTarget cs i many = t
  obtain ⟨a, l⟩ := t
  dsimp only
  refine ExT.stop (StT.ret (EvT.tup2 (by kwd_rel) (EvT.castI (EvT.add (by kwd_rel) (EvT.intB (b := decide (i < a ∧ codeAt cs ((a : Int) - 1) ≠ 10)) H.b_int (EvT.castB (EvT.and2 (b := decide (i < a)) (c := codeAt cs ((a : Int) - 1) != 10) (EvT.castB (EvT.icmp (by kwd_rel) (by kwd_rel)) (by kwd_less)) fun _ => EvT.castB (EvT.icmp (i := codeAt cs ((a : Int) - 1)) (by kwd_rel) (by kwd_rel)) rfl) ?_) (by kernel_rfl))) ?_))) trivial
  · rw [Bool.eq_iff_iff]; simp
  · by_cases h : i < a ∧ codeAt cs ((a : Int) - 1) ≠ 10 <;> simp [h]
noncomputable def linesEdit (cs : List Int) (i : Nat) (many : Int) : Nat × Nat × List PyData × List PyData :=
  let start := (linesTarget cs i (-1)).1
  let mid := linesAhead cs start 1
  let fin := linesAhead cs mid.1 many
  (start, fin.1, codesOf cs start mid.1 ++ List.replicate mid.2.toNat (.int 10), codesOf cs mid.1 fin.1 ++ List.replicate fin.2.toNat (.int 10))
noncomputable abbrev linesEditD (b : Int) (e : Nat × Nat × List PyData × List PyData) : PyData :=
  .tuple [.tuple [.int (b + e.1), .int (b + e.2.1), .list (e.2.2.2 ++ e.2.2.1)], .int (b + e.1 + e.2.2.2.length + e.2.2.1.length)]
theorem ok_lines_edit : DefOk (topStmt 100) ["view", "place", "many"] := by ktd_rel
theorem s_lines_edit (H : KF S) (hb : 1 ≤ b) (hh : b + cs.length ≤ 1000) (i : Nat) (hi : i ≤ cs.length) (many : Int) (h0 : 0 < many) (h1 : many ≤ 100) :
    CallT S 7 (topStmt 100) [.v b cs, it (b + i), it many] (linesEditD b (linesEdit cs i many)) := by
  refine CallT.mk [("view", .v b cs), ("place", it (b + i)), ("many", it many)] ok_lines_edit rfl ?_
  have l1 := linesTarget_le (cs := cs) i (-1) hi
  unfold linesEdit
  have c1 := s_lines_target (b := b) H hb i hi (-1)
  generalize hst : (linesTarget cs i (-1)).1 = start at l1 c1 ⊢
  refine ExT.cons (StT.assign (EvT.item (k := 0) (i := 0) (EvT.call3 H.f_lines_target (by kwd_rel) (by kwd_rel) EvT.neg c1.up (by kernel_rfl)) EvT.int rfl (by decide) rfl) (by kaf_suf) (by kernel_rfl)) ?_
  have l2 := linesAhead_le (cs := cs) start l1 1
  have l3 := linesAhead_lack (cs := cs) start 1 (by decide) (by decide)
  refine ExT.cons (StT.unpack2 (EvT.call3 H.f_lines_ahead (by kwd_rel) (by kwd_rel) (by kwd_rel) (s_lines_ahead H hb start l1 1).up (by kernel_rfl)) (by kaf_suf) (by kaf_suf) (by kernel_rfl) (by kernel_rfl)) ?_
  dsimp only
  generalize linesAhead cs start 1 = mid at l2 l3
  obtain ⟨ma, ml⟩ := mid
  have l4 := linesAhead_le (cs := cs) ma l2 many
  have l5 := linesAhead_lack (cs := cs) ma many h0 h1
  refine ExT.cons (StT.unpack2 (EvT.call3 H.f_lines_ahead (by kwd_rel) (by kwd_rel) (by kwd_rel) (s_lines_ahead H hb ma l2 many).up (by kernel_rfl)) (by kaf_suf) (by kaf_suf) (by kernel_rfl) (by kernel_rfl)) ?_
  dsimp only at l2 l3 ⊢
  generalize linesAhead cs ma many = fin at l4 l5
  obtain ⟨fa, fl⟩ := fin
  dsimp only at l4 l5 ⊢
  refine ExT.cons (StT.assign (EvT.addL (EvT.call3 H.f_codes_between (by kwd_rel) (by kwd_rel) (by kwd_rel) (s_codes_between H hb (by omega) start ma (by omega) (by omega)).up (by kernel_rfl)) (EvT.rep1 (EvT.lst1 (by kwd_rel)) (by kwd_rel) (by omega) (by omega)) (by rw [codesOf_len, List.length_replicate]; omega)) (by kaf_suf) (by kernel_rfl)) ?_
  refine ExT.cons (StT.assign (EvT.addL (EvT.call3 H.f_codes_between (by kwd_rel) (by kwd_rel) (by kwd_rel) (s_codes_between H hb (by omega) ma fa (by omega) (by omega)).up (by kernel_rfl)) (EvT.rep1 (EvT.lst1 (by kwd_rel)) (by kwd_rel) (by omega) (by omega)) (by rw [codesOf_len, List.length_replicate]; omega)) (by kaf_suf) (by kernel_rfl)) ?_
  have z1 : (codesOf cs start ma ++ List.replicate ml.toNat (PyData.int 10)).length ≤ 2000 := by rw [List.length_append, codesOf_len, List.length_replicate]; omega
  have z2 : (codesOf cs ma fa ++ List.replicate fl.toNat (PyData.int 10)).length ≤ 2000 := by rw [List.length_append, codesOf_len, List.length_replicate]; omega
  generalize codesOf cs start ma ++ List.replicate ml.toNat (PyData.int 10) = one at z1
  generalize codesOf cs ma fa ++ List.replicate fl.toNat (PyData.int 10) = other at z2
  refine ExT.stop (StT.ret (EvT.tup2 (EvT.tup3 (by kwd_rel) (by kwd_rel) (EvT.addL (xs := other) (ys := one) (by kwd_rel) (by kwd_rel) (by omega))) (EvT.add (EvT.add (by kwd_rel) (EvT.len (xs := other) H.b_len (by kwd_rel) (by omega) (by kernel_rfl))) (EvT.len (xs := one) H.b_len (by kwd_rel) (by omega) (by kernel_rfl))))) trivial
noncomputable abbrev pr (b : Int) (p q : Nat) : PyData := .tuple [.int (b + p), .int (b + q)]
theorem ok_in_order : DefOk (topStmt 92) ["one", "other"] := by ktd_rel
theorem s_in_order (H : KF S) (p0 p1 q0 q1 : Nat) (h : p0 ≤ q0 → p1 ≤ q0) (h' : ¬ p0 ≤ q0 → q1 ≤ p0) :
    CallT S 2 (topStmt 92) [.d (pr b p0 p1), .d (pr b q0 q1)] (if p0 ≤ q0 then .tuple [pr b p0 p1, pr b q0 q1] else .tuple [pr b q0 q1, pr b p0 p1]) := by
  refine CallT.mk [("one", .d (pr b p0 p1)), ("other", .d (pr b q0 q1))] ok_in_order rfl ?_
  by_cases c : p0 ≤ q0
  · rw [if_pos c]
    have := h c
    refine ExT.cons (StT.unpack2 (p := pr b p0 p1) (q := pr b q0 q1) (EvT.ifexp (b := true) (TrT.icmp (EvT.item (k := 0) (i := 0) (by kwd_rel) EvT.int rfl (by decide) rfl) (EvT.item (k := 0) (i := 0) (by kwd_rel) EvT.int rfl (by decide) rfl) (by kwd_less)) (by simp only [if_true]; kwd_rel)) (by kaf_suf) (by kaf_suf) (by kernel_rfl) (by kernel_rfl)) ?_
    refine ExT.cons (StT.ite (b := false) (TrT.icmp (EvT.item (k := 1) (i := 1) (by kwd_rel) EvT.int rfl (by decide) rfl) (EvT.item (k := 0) (i := 0) (by kwd_rel) EvT.int rfl (by decide) rfl) (by kwd_less)) ExT.nil) ?_
    exact ExT.stop (StT.ret (by kwd_rel)) trivial
  · rw [if_neg c]
    have := h' c
    refine ExT.cons (StT.unpack2 (p := pr b q0 q1) (q := pr b p0 p1) (EvT.ifexp (b := false) (TrT.icmp (EvT.item (k := 0) (i := 0) (by kwd_rel) EvT.int rfl (by decide) rfl) (EvT.item (k := 0) (i := 0) (by kwd_rel) EvT.int rfl (by decide) rfl) (by kwd_less)) (by simp only [Bool.false_eq_true, if_false]; kwd_rel)) (by kaf_suf) (by kaf_suf) (by kernel_rfl) (by kernel_rfl)) ?_
    refine ExT.cons (StT.ite (b := false) (TrT.icmp (EvT.item (k := 1) (i := 1) (by kwd_rel) EvT.int rfl (by decide) rfl) (EvT.item (k := 0) (i := 0) (by kwd_rel) EvT.int rfl (by decide) rfl) (by kwd_less)) ExT.nil) ?_
    exact ExT.stop (StT.ret (by kwd_rel)) trivial
noncomputable abbrev regD (b : Int) (cs : List Int) (f0 f1 g0 g1 : Nat) : PyData := .tuple [.int (b + f0), .int (b + g1), .list ((codesOf cs g0 g1 ++ codesOf cs f1 g0) ++ codesOf cs f0 f1)]
theorem ok_regions_edit : DefOk (topStmt 93) ["view", "one", "other"] := by ktd_rel
theorem s_regions_edit (H : KF S) (hb : 1 ≤ b) (hh : b ≤ 1000) (p0 p1 q0 q1 : Nat) (b0 : p0 ≤ 1000) (b1 : p1 ≤ 1000) (b2 : q0 ≤ 1000) (b3 : q1 ≤ 1000) (h : p0 ≤ q0 → p1 ≤ q0) (h' : ¬ p0 ≤ q0 → q1 ≤ p0) :
    CallT S 4 (topStmt 93) [.v b cs, .d (pr b p0 p1), .d (pr b q0 q1)] (if p0 ≤ q0 then regD b cs p0 p1 q0 q1 else regD b cs q0 q1 p0 p1) := by
  refine CallT.mk [("view", .v b cs), ("one", .d (pr b p0 p1)), ("other", .d (pr b q0 q1))] ok_regions_edit rfl ?_
  have io := s_in_order (b := b) H p0 p1 q0 q1 h h'
  have rest : ∀ f0 f1 g0 g1 : Nat, f0 ≤ 1000 → f1 ≤ 1000 → g0 ≤ 1000 → g1 ≤ 1000 → CallT S 2 (topStmt 92) [.d (pr b p0 p1), .d (pr b q0 q1)] (.tuple [pr b f0 f1, pr b g0 g1]) →
      ExT S 3 (stScope (topStmt 93)) [("view", .v b cs), ("one", .d (pr b p0 p1)), ("other", .d (pr b q0 q1))] (stBody (topStmt 93)) (.ret (regD b cs f0 f1 g0 g1)) := fun f0 f1 g0 g1 a0 a1 a2 a3 io => by
    refine ExT.cons (StT.unpack2 (EvT.call2 H.f_in_order (by kwd_rel) (by kwd_rel) io.up (by kernel_rfl)) (by kaf_suf) (by kaf_suf) (by kernel_rfl) (by kernel_rfl)) ?_
    refine ExT.cons (StT.assign (EvT.addL (EvT.call3 H.f_codes_between (by kwd_rel) (EvT.item (k := 0) (i := 0) (by kwd_rel) EvT.int rfl (by decide) rfl) (EvT.item (k := 1) (i := 1) (by kwd_rel) EvT.int rfl (by decide) rfl) (s_codes_between H hb hh g0 g1 a2 a3).up (by kernel_rfl)) (EvT.call3 H.f_codes_between (by kwd_rel) (EvT.item (k := 1) (i := 1) (by kwd_rel) EvT.int rfl (by decide) rfl) (EvT.item (k := 0) (i := 0) (by kwd_rel) EvT.int rfl (by decide) rfl) (s_codes_between H hb hh f1 g0 a1 a2).up (by kernel_rfl)) (by rw [codesOf_len, codesOf_len]; omega)) (by kaf_suf) (by kernel_rfl)) ?_
    exact ExT.stop (StT.ret (EvT.tup3 (EvT.item (k := 0) (i := 0) (by kwd_rel) EvT.int rfl (by decide) rfl) (EvT.item (k := 1) (i := 1) (by kwd_rel) EvT.int rfl (by decide) rfl) (EvT.addL (by kwd_rel) (EvT.call3 H.f_codes_between (by kwd_rel) (EvT.item (k := 0) (i := 0) (by kwd_rel) EvT.int rfl (by decide) rfl) (EvT.item (k := 1) (i := 1) (by kwd_rel) EvT.int rfl (by decide) rfl) (s_codes_between H hb hh f0 f1 a0 a1).up (by kernel_rfl)) (by rw [List.length_append, codesOf_len, codesOf_len, codesOf_len]; omega)))) trivial
  by_cases c : p0 ≤ q0
  · rw [if_pos c] at io ⊢
    exact rest p0 p1 q0 q1 b0 b1 b2 b3 io
  · rw [if_neg c] at io ⊢
    exact rest q0 q1 p0 p1 b2 b3 b0 b1 io
end
section
variable {S : Sg} {b : Int} {cs : List Int}
theorem ok_by_chars : DefOk (topStmt 96) ["view", "place", "many"] := by ktd_rel
theorem s_by_chars (H : KF S) (i j : Nat) (many : Int) (hj : (j : Int) = i + many) (hl : j ≤ cs.length) : CallT S 3 (topStmt 96) [.v b cs, it (b + i), it many] (.int (b + j)) := by
  refine CallT.mk [("view", .v b cs), ("place", it (b + i)), ("many", it many)] ok_by_chars rfl ?_
  refine ExT.cons (m' := [("view", .v b cs), ("place", it (b + i)), ("many", it many), ("at", it (b + j))]) (StT.asg (by kaf_suf) (by kwd_rel) (by omega) (by kernel_rfl)) ?_
  refine ExT.cons (StT.ite (b := false) (TrT.icmp (by kwd_rel) (by kwd_rel) (by kwd_less)) ExT.nil) ?_
  refine ExT.cons (StT.ite (b := false) (TrT.icmp (by kwd_rel) (by kwd_rel) (by kwd_less)) ExT.nil) ?_
  exact ExT.stop (StT.ret (by kwd_rel)) trivial
theorem ok_unit_around : DefOk (topStmt 94) ["mover", "view", "place", "many"] := by ktd_rel
theorem s_unit_around (H : KF S) {g : Addr} (fn : FnAt S (topStmt 96) g) (i j : Nat) (many : Int) (hj : (j : Int) = i + many) (hi : i ≤ cs.length) (hl : j ≤ cs.length) :
    CallT S 4 (topStmt 94) [.r (.ref g), .v b cs, it (b + i), it many] (.tuple [pr b (min i j) (max i j), .int (b + i)]) := by
  refine CallT.mk [("mover", .r (.ref g)), ("view", .v b cs), ("place", it (b + i)), ("many", it many)] ok_unit_around rfl ?_
  refine ExT.cons (StT.assign (EvT.callL3 fn (by kaf_pre) (by kwd_rel) (by kwd_rel) (by kwd_rel) (s_by_chars H i j many hj hl).up (by kernel_rfl)) (by kaf_suf) (by kernel_rfl)) ?_
  refine ExT.cons (StT.assign (EvT.callL3 fn (by kaf_pre) (by kwd_rel) (by kwd_rel) (EvT.sub (by kwd_rel) (by kwd_rel)) (s_by_chars H j i (0 - many) (by omega) hi).up (by kernel_rfl)) (by kaf_suf) (by kernel_rfl)) ?_
  exact ExT.stop (StT.ret (EvT.tup2 (EvT.tup2 (EvT.castI (EvT.min2 H.b_min (by kwd_rel) (by kwd_rel) (by kernel_rfl)) (by split <;> omega)) (EvT.castI (EvT.max2 H.b_max (by kwd_rel) (by kwd_rel) (by kernel_rfl)) (by split <;> omega))) (by kwd_rel))) trivial
noncomputable abbrev unitsD (b : Int) (i : Nat) (many : Int) : PyData :=
  if 0 < many then .tuple [pr b (i - 1) i, pr b i (i + many.toNat), .int (b + (i + many.toNat : Nat))] else .tuple [pr b (i - 1) i, pr b ((i : Int) - 1 + many).toNat (i - 1), .int (b + (((i : Int) - 1 + many).toNat + 1 : Nat))]
noncomputable def UnitsOk (n i : Nat) (many : Int) : Prop := 1 ≤ i ∧ (0 < many → i + many ≤ n) ∧ (many ≤ 0 → 0 ≤ (i : Int) - 1 + many)
theorem ok_units_regions : DefOk (topStmt 95) ["mover", "view", "place", "many"] := by ktd_rel
theorem s_units_regions (H : KF S) {g : Addr} (fn : FnAt S (topStmt 96) g) (i : Nat) (many : Int) (hi : i ≤ cs.length) (u : UnitsOk cs.length i many) :
    CallT S 5 (topStmt 95) [.r (.ref g), .v b cs, it (b + i), it many] (unitsD b i many) := by
  refine CallT.mk [("mover", .r (.ref g)), ("view", .v b cs), ("place", it (b + i)), ("many", it many)] ok_units_regions rfl ?_
  obtain ⟨u1, u2, u3⟩ := u
  have c1 := s_unit_around (b := b) (cs := cs) H fn i (i - 1) (-1) (by omega) hi (by omega)
  rw [show min i (i - 1) = i - 1 by omega, show max i (i - 1) = i by omega] at c1
  refine ExT.cons (StT.unpack2 (EvT.call4 H.f_unit_around (by kwd_rel) (by kwd_rel) (by kwd_rel) EvT.neg c1.up (by kernel_rfl)) (by kaf_suf) (by kaf_suf) (by kernel_rfl) (by kernel_rfl)) ?_
  by_cases h : 0 < many
  · have u2 := u2 h
    have c2 := s_unit_around (b := b) (cs := cs) H fn i (i + many.toNat) many (by omega) hi (by omega)
    rw [show min i (i + many.toNat) = i by omega, show max i (i + many.toNat) = i + many.toNat by omega] at c2
    rw [unitsD, if_pos h]
    refine ExT.stop (StT.ite (b := true) (TrT.icmp (by kwd_rel) (by kwd_rel) (by kwd_less)) ?_) trivial
    refine ExT.cons (StT.unpack2 (EvT.call4 H.f_unit_around (by kwd_rel) (by kwd_rel) (by kwd_rel) (by kwd_rel) c2.up (by kernel_rfl)) (by kaf_suf) (by kaf_suf) (by kernel_rfl) (by kernel_rfl)) ?_
    exact ExT.stop (StT.ret (EvT.tup3 (by kwd_rel) (by kwd_rel) (EvT.item (k := 1) (i := 1) (by kwd_rel) EvT.int rfl (by decide) rfl))) trivial
  · have u3 := u3 (by omega)
    have c2 := s_unit_around (b := b) (cs := cs) H fn (i - 1) ((i : Int) - 1 + many).toNat many (by omega) (by omega) (by omega)
    rw [show min (i - 1) ((i : Int) - 1 + many).toNat = ((i : Int) - 1 + many).toNat by omega, show max (i - 1) ((i : Int) - 1 + many).toNat = i - 1 by omega] at c2
    rw [unitsD, if_neg h]
    refine ExT.cons (StT.ite (b := false) (TrT.icmp (by kwd_rel) (by kwd_rel) (by kwd_less)) ExT.nil) ?_
    refine ExT.cons (StT.unpack2 (EvT.call4 H.f_unit_around (by kwd_rel) (by kwd_rel) (EvT.item (k := 0) (i := 0) (by kwd_rel) EvT.int rfl (by decide) rfl) (by kwd_rel) c2.up (by kernel_rfl)) (by kaf_suf) (by kaf_suf) (by kernel_rfl) (by kernel_rfl)) ?_
    exact ExT.stop (StT.ret (EvT.tup3 (by kwd_rel) (by kwd_rel) (EvT.castI (EvT.sub (EvT.add (EvT.item (k := 0) (i := 0) (by kwd_rel) EvT.int rfl (by decide) rfl) (EvT.item (k := 1) (i := 1) (by kwd_rel) EvT.int rfl (by decide) rfl)) (EvT.item (k := 0) (i := 0) (by kwd_rel) EvT.int rfl (by decide) rfl)) (by omega)))) trivial
noncomputable def cntD : Option Int → PyData
  | none => .none
  | some k => .int k
noncomputable def charsPlace (cs : List Int) (i : Nat) (c : Option Int) : Nat := if c = none ∧ isLineEnd cs i = true ∧ 0 < i then i - 1 else i
theorem charsPlace_le (i : Nat) (c : Option Int) : charsPlace cs i c ≤ i := by unfold charsPlace; split <;> omega
theorem ok_chars_regions : DefOk (topStmt 97) ["view", "place", "many"] := by ktd_rel
theorem x_chars_regions (H : KF S) {g : Addr} (hg : nsIn S.K mainGlobals "by_chars" = some (some (.ref g))) (i : Nat) (hi : i ≤ cs.length) (c : Option Int) {out : PyData}
    (hc : CallT S 5 (topStmt 95) [.r (.ref g), .v b cs, it (b + charsPlace cs i c), it (c.getD 1)] out) :
    CallT S 6 (topStmt 97) [.v b cs, it (b + i), .d (cntD c)] out := by
  refine CallT.mk [("view", .v b cs), ("place", it (b + i)), ("many", .d (cntD c))] ok_chars_regions rfl ?_
  refine ExT.cons (m' := [("view", .v b cs), ("place", it (b + charsPlace cs i c)), ("many", .d (cntD c))]) ?_ (ExT.stop (StT.ret (EvT.call4 H.f_units_regions (EvT.glob hg (by kernel_rfl) (by kernel_rfl)) (by kwd_rel) (by kwd_rel) (EvT.ifexp (b := c.isNone) (TrT.isNone (d := cntD c) (by kwd_rel) (by cases c with | none => exact .inl ⟨rfl, rfl⟩ | some k => exact .inr ⟨⟨k, rfl⟩, rfl⟩)) (by
    cases c with
    | none => simp only [Option.isNone_none, if_true, Option.getD_none]; kwd_rel
    | some k => simp only [Option.isNone_some, Bool.false_eq_true, if_false, Option.getD_some]; exact EvT.cast (p := .d (cntD (some k))) (by kwd_rel) rfl)) hc.up (by kernel_rfl))) trivial)
  unfold charsPlace
  by_cases h : c = none ∧ isLineEnd cs i = true ∧ 0 < i
  · rw [if_pos h]
    obtain ⟨rfl, h2, h3⟩ := h
    refine StT.ite (b := true) ((TrT.and3 (b := true) (c := isLineEnd cs i) (d := decide (0 < i)) (TrT.isNone (d := cntD none) (by kwd_rel) (.inl ⟨rfl, rfl⟩)) (fun _ => TrT.val (EvT.call2 H.f_is_line_end (by kwd_rel) (by kwd_rel) (s_is_line_end H i).up (by kernel_rfl))) fun _ _ => TrT.icmp (by kwd_rel) (by kwd_rel) (by kwd_less)).cast (by rw [h2, decide_eq_true h3]; rfl)) ?_
    exact ExT.cons (StT.asg (by kaf_suf) (by kwd_rel) (by omega) (by kernel_rfl)) ExT.nil
  · rw [if_neg h]
    refine StT.ite (b := false) ((TrT.and3 (b := c.isNone) (c := isLineEnd cs i) (d := decide (0 < i)) (TrT.isNone (d := cntD c) (by kwd_rel) (by cases c with | none => exact .inl ⟨rfl, rfl⟩ | some k => exact .inr ⟨⟨k, rfl⟩, rfl⟩)) (fun _ => TrT.val (EvT.call2 H.f_is_line_end (by kwd_rel) (by kwd_rel) (s_is_line_end H i).up (by kernel_rfl))) fun _ _ => TrT.icmp (by kwd_rel) (by kwd_rel) (by kwd_less)).cast ?_) ExT.nil
    rw [← Bool.not_eq_true]
    simpa using h
theorem ok_chars_edit : DefOk (topStmt 98) ["view", "place", "many"] := by ktd_rel
noncomputable def charsEditD (b : Int) (cs : List Int) (i : Nat) (many : Int) : PyData :=
  if 0 < many then .tuple [regD b cs (i - 1) i i (i + many.toNat), .int (b + (i + many.toNat : Nat))]
  else .tuple [regD b cs ((i : Int) - 1 + many).toNat (i - 1) (i - 1) i, .int (b + (((i : Int) - 1 + many).toNat + 1 : Nat))]
theorem s_chars_edit (H : KF S) (hb : 1 ≤ b) (hh : b + cs.length ≤ 1000) (i : Nat) (hi : i ≤ cs.length) (c : Option Int) (u : UnitsOk cs.length (charsPlace cs i c) (c.getD 1)) (h0 : c.getD 1 ≠ 0) :
    CallT S 7 (topStmt 98) [.v b cs, it (b + i), .d (cntD c)] (charsEditD b cs (charsPlace cs i c) (c.getD 1)) := by
  refine CallT.mk [("view", .v b cs), ("place", it (b + i)), ("many", .d (cntD c))] ok_chars_edit rfl ?_
  obtain ⟨g, hg, fn⟩ := H.f_by_chars
  have hp := Nat.le_trans (charsPlace_le (cs := cs) i c) hi
  have cr := x_chars_regions (b := b) H hg i hi c (s_units_regions H fn _ _ hp u)
  generalize charsPlace cs i c = j at u hp cr
  obtain ⟨u1, u2, u3⟩ := u
  generalize c.getD 1 = many at u2 u3 cr h0
  unfold charsEditD
  by_cases h : 0 < many
  · have u2 := u2 h
    rw [unitsD, if_pos h] at cr
    rw [if_pos h]
    refine ExT.cons (StT.unpack3 (EvT.call3 H.f_chars_regions (by kwd_rel) (by kwd_rel) (by kwd_rel) cr.up (by kernel_rfl)) (by kaf_suf) (by kaf_suf) (by kaf_suf) (by kernel_rfl) (by kernel_rfl) (by kernel_rfl)) ?_
    have re := s_regions_edit (cs := cs) H hb (by omega) (j - 1) j j (j + many.toNat) (by omega) (by omega) (by omega) (by omega) (fun _ => Nat.le_refl _) (fun q => absurd (Nat.sub_le _ _) q)
    rw [if_pos (Nat.sub_le _ _)] at re
    exact ExT.stop (StT.ret (EvT.tup2 (EvT.call3 H.f_regions_edit (by kwd_rel) (by kwd_rel) (by kwd_rel) re.up (by kernel_rfl)) (by kwd_rel))) trivial
  · have u3 := u3 (by omega)
    rw [unitsD, if_neg h] at cr
    rw [if_neg h]
    refine ExT.cons (StT.unpack3 (EvT.call3 H.f_chars_regions (by kwd_rel) (by kwd_rel) (by kwd_rel) cr.up (by kernel_rfl)) (by kaf_suf) (by kaf_suf) (by kaf_suf) (by kernel_rfl) (by kernel_rfl) (by kernel_rfl)) ?_
    have re := s_regions_edit (cs := cs) H hb (by omega) (j - 1) j ((j : Int) - 1 + many).toNat (j - 1) (by omega) (by omega) (by omega) (by omega) (fun q => by omega) (fun q => Nat.le_refl _)
    rw [if_neg (by omega)] at re
    exact ExT.stop (StT.ret (EvT.tup2 (EvT.call3 H.f_regions_edit (by kwd_rel) (by kwd_rel) (by kwd_rel) re.up (by kernel_rfl)) (by kwd_rel))) trivial
end
/-! an own exception with a dict of its own, on its way out -/
noncomputable def Tr (h base : Heap) (e C d : Addr) (fl : Value) : Prop :=
  ∃ oe vs T oT ts, h.get? e = some oe ∧ oe.cls = .ref C ∧ oe.dict = some d ∧ oe.data = .fields vs ∧ vs[1]? = some (.ref T) ∧ base.get? T = none ∧ T ≠ e ∧ h.get? T = some oT ∧ oT.data = .fields ts ∧ ts[3]? = some fl
noncomputable def Un (h : Heap) (e C d : Addr) : Prop := ∃ oe vs, h.get? e = some oe ∧ oe.cls = .ref C ∧ oe.dict = some d ∧ oe.data = .fields vs ∧ vs[1]? = some .none
noncomputable def Fly (base : Heap) (l : List Env) (e C d : Addr) (h : Heap) : Prop := base.StaysIn h ∧ base.get? e = none ∧ h.FunFrames base l ∧ (Un h e C d ∨ Tr h base e C d .none)
noncomputable def Held (base : Heap) (l : List Env) (e C d L : Addr) (h : Heap) : Prop := base.StaysIn h ∧ base.get? e = none ∧ h.FunFrames base l ∧ Tr h base e C d (rawInt L)
theorem dict_mapFields (o : Obj) (f) : (o.mapFields f).dict = o.dict := by obtain ⟨c, d, dt, sl⟩ := o; cases dt <;> rfl
theorem Fly.there {base h : Heap} {l : List Env} {e C d : Addr} (x : Fly base l e C d h) : ∃ oe vs, h.get? e = some oe ∧ oe.cls = .ref C ∧ oe.dict = some d ∧ oe.data = .fields vs := by
  rcases x.2.2.2 with ⟨oe, vs, a, b, c, f, _⟩ | ⟨oe, vs, _, _, _, a, b, c, f, _⟩ <;> exact ⟨oe, vs, a, b, c, f⟩
theorem Fly.pop {base h : Heap} {env : Env} {l : List Env} {e C d : Addr} (x : Fly base (env :: l) e C d h) : Fly base l e C d h := ⟨x.1, x.2.1, x.2.2.1.2.2, x.2.2.2⟩
section
variable {M : Model} {A : Around} {E : Value → Shared → Prop} {s : Shared} {base : Heap} {env : Env} {outer : List Env} {L e C d : Addr}
theorem exc_entry {oe : Obj} {vs : Array Value} {head : Value} {hadNext : Bool} {Q : Unit → Shared → Prop} (hfr : A.frames = some (env :: outer)) (hl : s.heap.FunFrames base (env :: outer)) (hf : env.frame = some L)
    (he : s.heap.get? e = some oe) (hc : oe.cls = .ref C) (hdd : oe.dict = some d) (hkb : base.StaysIn s.heap) (hen : base.get? e = none) (hd : oe.data = .fields vs) (hsz : 1 < vs.size)
    (h : ∀ h', Held base (env :: outer) e C d L h' → s.heap.UpToSlots h' → Q () { s with heap := h' }) :
    wpAny M A (do let a ← frameOf env; let pl ← entryPlaceOf L hadNext; let b ← EntryCells.newEntry head a .none (rawInt L) .none pl; setField (.ref e) 1 b) Q E s := by
  have off : e ∉ (env :: outer).filterMap (·.frame) := fun hm => by
    obtain ⟨_, o, ho, nf⟩ := hl.mem hm
    rw [he] at ho
    cases ho
    exact nf vs hd
  refine wpAny_bind (wpAny_frameOf_fun hfr hl hf fun h₁ x₁ => wpAny_bind (wpAny_entryPlaceOf fun pl hpl => ?_))
  unfold EntryCells.newEntry newFields
  refine wpAny_bind (wpAny_newObj_type ?_ (hpl.sizeOk5 _ _ _ _ _))
  generalize ho : ({ cls := .type "traceback", dict := none, data := .fields ([head, .ref L, .none, rawInt L, .none] ++ (if pl.isEmpty then List.replicate 6 Value.none else pl)).toArray } : Obj) = oT
  have dT : oT.data = .fields ([head, .ref L, .none, rawInt L, .none] ++ (if pl.isEmpty then List.replicate 6 Value.none else pl)).toArray := by rw [← ho]
  have fT : oT.isFreed = false := Obj.isFreed_of_fields dT
  have e₁ : h₁.get? e = some oe := (x₁.2.1 e off).trans he
  have b₁ : base.StaysIn h₁ := fun b o hb => (x₁.2.1 b fun hm => by rw [(hl.mem hm).1] at hb; cases hb).trans (hkb b o hb)
  have e₂ : (h₁.push oT).get? e = some oe := Heap.get?_push_of_some _ e₁
  have ne : h₁.objs.size ≠ e := Nat.ne_of_gt (Heap.lt_size e₁)
  have d₃ := Obj.data_mapFields hd (·.setIfInBounds 1 (Value.ref h₁.objs.size))
  have e₃ := Heap.get?_update_self (Obj.mapFields (·.setIfInBounds 1 (Value.ref h₁.objs.size))) e₂ (Obj.isFreed_of_fields d₃)
  have kp : ∀ b o, b ≠ e → h₁.get? b = some o → ((h₁.push oT).update e (Obj.mapFields (·.setIfInBounds 1 (Value.ref h₁.objs.size)))).get? b = some o := fun b o nb hb => by
    rw [Heap.get?_update_other _ _ (Ne.symm nb)]
    exact Heap.get?_push_of_some _ hb
  have nr : ∀ b o, s.heap.get? b = some o → (∀ vs, o.data ≠ .fields vs) → b ≠ e := fun b o hb nf q => by
    rw [q, he] at hb
    cases hb
    exact nf vs hd
  refine wpAny_setField e₂ hd hsz (h _ ⟨fun b o hb => kp b o (fun q => by rw [q, hen] at hb; cases hb) (b₁ b o hb), hen, hl.of_keeps fun b o hb nf => ?_, ?_⟩ fun b o hb nf => ?_)
  · obtain ⟨sl, hs⟩ := x₁.2.2 b o hb
    exact ⟨_, kp b _ (nr b o hb nf) hs, rfl⟩
  · refine ⟨_, _, h₁.objs.size, oT, _, e₃, (Obj.cls_mapFields _ _).trans hc, (dict_mapFields _ _).trans hdd, d₃, by simp [hsz], b₁.fresh, ne, ?_, dT, by simp⟩
    rw [Heap.get?_update_other _ _ (Ne.symm ne)]
    exact Heap.get?_push_size _ fT
  · obtain ⟨sl, hs⟩ := x₁.2.2 b o hb
    exact ⟨sl, kp b _ (nr b o hb nf) hs⟩
theorem exc_note {Q : Unit → Shared → Prop} (hfr : A.frames = some (env :: outer)) (hf : env.frame = some L) (x : Fly base (env :: outer) e C d s.heap) (h : ∀ h', Held base (env :: outer) e C d L h' → s.heap.UpToSlots h' → Q () { s with heap := h' }) :
    wpAny M A (noteFrame (.ref e) env) Q E s := by
  obtain ⟨x1, x2, x3, x4⟩ := x
  unfold noteFrame
  simp only [hf]
  rcases x4 with ⟨oe, vs, a, b, c, f, g⟩ | ⟨oe, vs, T, oT, ts, a, b, c, f, g, i, j, k, l, m⟩
  · refine wpAny_bind (wpAny_field a f g ?_)
    rw [if_neg (by decide)]
    exact exc_entry hfr x3 hf a b c x1 x2 f (Array.getElem?_eq_some_iff.mp g).1 h
  · refine wpAny_bind (wpAny_field a f g ?_)
    rw [if_pos (show (Value.ref T != Value.none) = true from by simp)]
    refine wpAny_bind (wpAny_field k l m ?_)
    rw [if_neg (show ¬ ((Value.none == rawInt L) = true) from by simp [rawInt])]
    refine wpAny_bind (wpAny_setField k l (Array.getElem?_eq_some_iff.mp m).1 ?_)
    have oth : ∀ b, b ≠ T → (s.heap.update T (Obj.mapFields (·.setIfInBounds 3 Value.none))).get? b = s.heap.get? b := fun b hb => Heap.get?_update_other _ _ (Ne.symm hb)
    refine exc_entry (s := { s with heap := _ }) hfr (x3.of_keeps fun b o hb nf => ⟨o, (oth b fun q => by rw [q, k] at hb; cases hb; exact nf ts l).trans hb, rfl⟩) hf ((oth e (Ne.symm j)).trans a) b c
      (fun b o hb => (oth b fun q => by rw [q, i] at hb; cases hb).trans (x1 b o hb)) x2 f (Array.getElem?_eq_some_iff.mp g).1 fun h' y z => h h' y fun b o hb nf => z b o ((oth b fun q => by rw [q, k] at hb; cases hb; exact nf ts l).trans hb) nf
theorem exc_land {l : List Env} {fl : Value} {Q : Unit → Shared → Prop} (x1 : base.StaysIn s.heap) (x2 : base.get? e = none) (x3 : s.heap.FunFrames base l) (x4 : Tr s.heap base e C d fl) (h : ∀ h', Fly base l e C d h' → s.heap.UpToSlots h' → Q () { s with heap := h' }) :
    wpAny M A (setFlight (.ref e) none) Q E s := by
  obtain ⟨oe, vs, T, oT, ts, a, b, c, f, g, i, j, k, l, m⟩ := x4
  have h3 : 3 < ts.size := (Array.getElem?_eq_some_iff.mp m).1
  unfold setFlight
  refine wpAny_bind (wpAny_field a f g ?_)
  rw [if_pos (show (Value.ref T != Value.none) = true from by simp)]
  have oth : ∀ b, b ≠ T → (s.heap.update T (Obj.mapFields (·.setIfInBounds 3 ((none : Option Addr).elim Value.none fun f => rawInt f)))).get? b = s.heap.get? b := fun b hb => Heap.get?_update_other _ _ (Ne.symm hb)
  refine wpAny_setField k l h3 (h _ ⟨fun b o hb => (oth b fun q => by rw [q, i] at hb; cases hb).trans (x1 b o hb), x2, x3.of_keeps fun b o hb nf => ⟨o, (oth b fun q => by rw [q, k] at hb; cases hb; exact nf ts l).trans hb, rfl⟩, .inr ?_⟩ fun b o hb nf => ⟨o.slots, (oth b fun q => by rw [q, k] at hb; cases hb; exact nf ts l).trans hb⟩)
  exact ⟨oe, vs, T, _, _, (oth e (Ne.symm j)).trans a, b, c, f, g, i, j, Heap.get?_update_self _ k (Obj.isFreed_of_fields (Obj.data_mapFields l _)), Obj.data_mapFields l _, by simp [h3]⟩
theorem exc_leave {Q : Unit → Shared → Prop} (hfr : A.frames = some (env :: outer)) (hf : env.frame = some L) (x : Fly base (env :: outer) e C d s.heap) (h : ∀ h', Fly base outer e C d h' → s.heap.UpToSlots h' → Q () { s with heap := h' }) :
    wpAny M A (leaving env (.ref e)) Q E s := by
  unfold leaving
  exact wpAny_bind (exc_note hfr hf x fun h₁ y u => exc_land (s := { s with heap := h₁ }) y.1 y.2.1 y.2.2.1 y.2.2.2 fun h' z w => h h' z.pop (u.trans w))
end
section
open Builtin Builtin.ObjectAttr
variable {prog : Program} {w : World} {A : Around} {E : Value → Shared → Prop} {h : Heap} {g : Array GenState} {d : Drawn} {t : Nat} {os : OsState}
variable {nm q : Str} {C N x : Addr} {bs : List Value} {sn : List Str} {sub : List Value} {ab : Bool} {col : Option Bool} {dd : Option Addr} {k0 k1 k2 k3 k5 : Option Value} {newId : String}
  {mN : Str → Option Value} {name : Str} {v : Value} {sa owner : String}
noncomputable abbrev excMro : List Value := [.type "Exception", .type "BaseException", .type "object"]
theorem exc_call0 (SF : StoreFacts "Exception" excMro sa owner) {o : Obj} {vs : Array Value} {tk : Tok} {R : Result → Shared → Prop} (hC : h.get? C = some (excClassObj nm q C N bs excMro true sn sub ab col dd k0 k1 k2 k3 k5 newId)) (hn : h.Ns N mN) (hna : mN name = none)
    (hB : typeLookup (.type "Exception") name = pure none) (hx : h.get? x = some o) (hc : o.cls = .ref C) (hdn : o.dict = none) (hdt : o.data = .fields vs)
    (hq : ∀ h' tk, h'.get? x = some { o with dict := some h.objs.size } → h'.Ns1 h.objs.size (fun y => if y = name then some v else none) → (∀ b ob, b ≠ x → h.get? b = some ob → h'.get? b = some ob) → R (.ok (.ret .none)) ⟨h', g, d, tk, os⟩) :
    codeAny (model prog w) A (.call (.builtin sa) ⟨[.ref x, .str name tk, v], []⟩) R ⟨h, g, d, t, os⟩ := by
  have pass := SF.passes (.ref x)
  refine codeAny_call_builtin SF.slot.plain SF.entry (wpAny_check_sa SF hC hx hc ?_)
  unfold Builtin.«object.__setattr__»
  repeat (first | rw [refuse_eq] | (rw [refuseLoop_ref, pass]) | (with_reducible refine wpAny_loadPart_at hx ?_; rw [hc]) | with_reducible refine wpAny_mroOf_exc hC ?_ | (with_reducible refine wpAny_typeLookup_exc hC hn SF.mro hB ?_; rw [hna]) | wp_step)
  rw [hdn, if_neg (by simp [typeHasDict])]
  split
  · rename_i hcd; cases hcd
  split
  · rename_i c hcd; rw [hdt] at hcd; cases hcd
  · have x₁ : (h.push { cls := .type "dict", data := .dict #[] }).get? x = some o := Heap.get?_push_of_some _ hx
    have xs : x ≠ h.objs.size := Nat.ne_of_lt (Heap.lt_size hx)
    refine wpAny_bind (wpAny_alloc' (wpAny_bind (wpAny_update' x₁ (wpAny_pure ?_))))
    have gd : ((h.push { cls := .type "dict", data := .dict #[] }).update x fun o => { cls := o.cls, dict := some h.objs.size, data := o.data, slots := o.slots }).get? h.objs.size = some { cls := .type "dict", data := .dict #[] } :=
      (Heap.get?_update_ne _ _ _ _ xs.symm).trans (Heap.get?_push_at rfl rfl)
    have nd : ((h.push { cls := .type "dict", data := .dict #[] }).update x fun o => { cls := o.cls, dict := some h.objs.size, data := o.data, slots := o.slots }).Ns h.objs.size (fun _ => none) :=
      ⟨_, #[], _, gd, rfl, fun e he => absurd he (by simp), fun _ => rfl⟩
    show wpAny _ _ (storeInDict h.objs.size (.str name tk) name v) _ _ _
    unfold storeInDict newKeyGuard
    refine wpAny_bind (wpAny_pure (wpAny_bind (wpAny_nsSet1 (Heap.Ns1.of_empty nd) fun h' hn' hs => ?_)))
    obtain ⟨oD, esD, epD, hoD, hdD, hcD⟩ := hn'.count (Within.cons name v Within.nil)
    refine wpAny_bind (wpAny_lookBehind hoD (by rw [hdD]; exact pastItsLine_dict (Nat.le_trans hcD (by rw [List.length_cons, List.length_nil, sizeLine_eq]; omega))) ?_)
    have hx' : h'.get? x = some { o with dict := some h.objs.size } := by
      refine (hs.2 x xs).trans (Heap.get?_update_self _ x₁ ?_)
      obtain ⟨oc, od, odt, osl⟩ := o
      cases hdt
      rfl
    exact wpAny_pure (hq h' _ hx' hn' fun b ob nb hb => (hs.2 b (Nat.ne_of_lt (Heap.lt_size hb))).trans ((Heap.get?_update_ne _ _ _ _ nb).trans (Heap.get?_push_of_some _ hb)))
theorem exc_set0 (SF : StoreFacts "Exception" excMro sa owner) {o : Obj} {vs : Array Value} {Q : Unit → Shared → Prop} (hC : h.get? C = some (excClassObj nm q C N bs excMro true sn sub ab col dd k0 k1 k2 k3 k5 newId)) (hn : h.Ns N mN) (hns : mN "__setattr__" = none) (hna : mN name = none)
    (hB : typeLookup (.type "Exception") name = pure none) (hx : h.get? x = some o) (hc : o.cls = .ref C) (hdn : o.dict = none) (hdt : o.data = .fields vs)
    (hq : ∀ h' tk, h'.get? x = some { o with dict := some h.objs.size } → h'.Ns1 h.objs.size (fun y => if y = name then some v else none) → (∀ b ob, b ≠ x → h.get? b = some ob → h'.get? b = some ob) → Q () ⟨h', g, d, tk, os⟩) :
    wpAny (model prog w) A (setAttr (.ref x) name v) Q E ⟨h, g, d, t, os⟩ := by
  have f3 := SF.slot.bind (.ref x)
  unfold setAttr callSpecial? specialOf
  repeat (any_goals (first | assumption | (with_reducible refine wpAny_loadPart_at hx ?_; rw [hc]) | (with_reducible refine wpAny_typeLookup_exc hC hn SF.mro SF.slot.lookup ?_; rw [hns]) | wp_step))
  refine exc_call0 SF hC hn hna hB hx hc hdn hdt fun h' tk' a b c => ?_
  have fin := hq h' tk' a b c
  repeat (any_goals (first | assumption | wp_step))
end
structure ExcK (S : Sg) (C : Addr) : Prop where
  cls : ∃ nm q N bs sn sub ab col dd k0 k1 k2 k3 k5 mN fI, S.base.get? C = some (excClassObj nm q C N bs excMro true sn sub ab col dd k0 k1 k2 k3 k5 "Exception.__new__") ∧ S.base.Ns N mN ∧ mN "__init__" = some (.ref fI) ∧
    FnAt S (inCls 74 0) fI ∧ mN "__setattr__" = none ∧ mN "symbol" = none ∧ mN "data" = none ∧ mN "__getattribute__" = none ∧ mN "__getattr__" = none
theorem ExcK.elim {S : Sg} {C : Addr} {G : Prop} (K : ExcK S C) (k : ∀ nm q N bs sn sub ab col dd k0 k1 k2 k3 k5 mN fI, S.base.get? C = some (excClassObj nm q C N bs excMro true sn sub ab col dd k0 k1 k2 k3 k5 "Exception.__new__") → S.base.Ns N mN → mN "__init__" = some (.ref fI) →
    FnAt S (inCls 74 0) fI → mN "__setattr__" = none → mN "symbol" = none → mN "data" = none → mN "__getattribute__" = none → mN "__getattr__" = none → G) : G := by
  obtain ⟨nm, q, N, bs, sn, sub, ab, col, dd, k0, k1, k2, k3, k5, mN, fI, c1, c2, c3, fn, c5, c6, c7, c8, c9⟩ := K.cls
  exact k nm q N bs sn sub ab col dd k0 k1 k2 k3 k5 mN fI c1 c2 c3 fn c5 c6 c7 c8 c9
theorem FnAt.elim {S : Sg} {st : Stmt} {f : Addr} {G : Prop} (F : FnAt S st f) (k : ∀ o name qual doc pm an cdv ct, S.K.lookup f = some o → o.data = .func (fnX name qual (stArgs st) (stBody st) (stScope st) [] .none .none doc pm an cdv ct) → codeIn S.K cdv qual = true → G) : G := by
  obtain ⟨o, name, qual, doc, pm, an, cdv, ct, e1, e2, e3⟩ := F.fd
  exact k o name qual doc pm an cdv ct e1 e2 e3
theorem lk_exc_symbol : typeLookup (.type "Exception") "symbol" = pure none := by rw [typeLookup_type, builtinLookup_eq_fast]; kernel_rfl
theorem lk_exc_data : typeLookup (.type "Exception") "data" = pure none := by rw [typeLookup_type, builtinLookup_eq_fast]; kernel_rfl
section
variable {S : Sg}
theorem ok_lisp_init : DefOk (inCls 74 0) ["self", "symbol", "data"] := by ktd_rel
theorem exc_make {C : Addr} {A : Around} {s : Shared} {v1 v2 : Value} {n : Nat} {Q : Value → Shared → Prop} {E : Value → Shared → Prop} (K : ExcK S C) (room : Room (n + 1) A) (on : S.On s.heap)
    (hq : ∀ s' e d mA, Ext s s' → s.heap.get? e = none → Un s'.heap e C d → e ≠ d → s.heap.get? d = none → s'.heap.Ns d mA → mA "symbol" = some v1 → mA "data" = some v2 → Q (.ref e) s') :
    wpAny (model S.prog S.w) A (call (.ref C) [v1, v2]) Q E s := by
  obtain ⟨h, g, d, t, os⟩ := s
  refine K.elim fun nm q N bs sn sub ab col dd k0 k1 k2 k3 k5 mN fI c1 c2 c3 fn c5 c6 c7 c8 c9 => fn.elim fun o name qual doc pm an cdv ct e1 e2 e3 => ?_
  have hC := on.keep _ _ c1
  have hN := c2.keeps on.keep
  have hO := on.x _ _ e1
  have hcls : o.cls = .type "function" := by
    have z := fn.fn
    have z' : (S.K.lookup fI).map (·.cls) = some (.type "function") := beq_iff_eq.mp z
    rw [e1] at z'
    exact Option.some.inj z'
  refine wpAny_call_exc_init PySem.F.excBase_Exception hC hN c3 hO hcls (fun h' e hm => ?_) (by rw [sizeLine_eq]; simp)
  obtain ⟨ta, ha, _, _⟩ := hm.there
  have on' := on.x.keeps hm.keeps
  refine wpAny_call (codeAny_call_def (binds := [("self", .ref e), ("symbol", v1), ("data", v2)]) ?_ (hm.keeps _ _ hO) e2 (on.t.nolimit.keeps hm.keeps) (codeRec_of on' e3) rfl (.of_eq (ok_lisp_init.bind name qual doc pm an cdv ct [.ref e, v1, v2] rfl)) ok_lisp_init.cell
    (fun x hx => ok_lisp_init.loc _ ?_) (fun h₁ hns₁ hk₁ => ?_) ok_lisp_init.co ok_lisp_init.gen ok_lisp_init.k)
  · have := room.1
    show A.depth + 1 < recursionLimit
    omega
  · have : x ∈ (["self", "symbol", "data"] : List Str).zip [.ref e, v1, v2] := hx
    exact (List.of_mem_zip this).1
  have hL : h'.objs.size ≠ e := Nat.ne_of_gt (Heap.lt_size ha)
  have kL : ∀ {hh : Heap} {L : Addr} {mm : Str → Option Value} {hh' : Heap}, hh.Ns L mm → L ≠ e → (∀ b ob, b ≠ e → hh.get? b = some ob → hh'.get? b = some ob) → hh'.Ns L mm := fun hn nl k => hn.at' fun o q => k _ _ nl q
  have ex : ∀ b ob, h.get? b = some ob → b ≠ e := fun b ob q z => by rw [z, hm.new] at q; cases q
  have key : ∀ x pos, (stScope (inCls 74 0)).names.lookup x = some .local → (x == ("__debug__" : Str)) = false → ∀ (hh : Heap) (mm : Str → Option Value) (v : Value) (tk : Nat) (Q' : Value → Shared → Prop) (E' : Value → Shared → Prop) A', hh.Ns h'.objs.size mm → mm x = some v → Q' v ⟨hh, g, d, tk, os⟩ →
      wpAny (model S.prog S.w) A' (eval (.Name x pos) (callEnv (fnX name qual (stArgs (inCls 74 0)) (stBody (inCls 74 0)) (stScope (inCls 74 0)) [] .none .none doc pm an cdv ct) h'.objs.size fI)) Q' E' ⟨hh, g, d, tk, os⟩ := fun x pos hx hd hh mm v tk Q' E' A' hn hv hq' =>
    wpAny_Name (wpAny_loadName_local ok_lisp_init.k hx hn hv hq') hd
  refine wpAny_execs_cons (plainObj_wpAny_Assign_Attribute (key _ _ (by kernel_rfl) (by kernel_rfl) h₁ _ v1 _ _ _ _ hns₁ rfl (key _ _ (by kernel_rfl) (by kernel_rfl) h₁ _ (.ref e) _ _ _ _ hns₁ rfl ?_)) (by with_unfolding_all rfl))
  have a₁ := hk₁ _ _ ha
  refine exc_set0 PySem.F.store_Exception (hk₁ _ _ (hm.keeps _ _ hC)) ((hN.keeps hm.keeps).keeps hk₁) c5 c6 lk_exc_symbol a₁ rfl rfl rfl fun h₂ tk₂ g₂ n₂ k₂ => ?_
  have hns₂ := kL hns₁ hL k₂
  have hd1 : e ≠ h₁.objs.size := Nat.ne_of_lt (Heap.lt_size a₁)
  have hC₂ := k₂ _ _ (ex _ _ hC) (hk₁ _ _ (hm.keeps _ _ hC))
  have hN₂ : h₂.Ns N mN := by
    obtain ⟨oN, es, ep, q1, r⟩ := hN
    exact ⟨oN, es, ep, k₂ _ _ (ex _ _ q1) (hk₁ _ _ (hm.keeps _ _ q1)), r⟩
  refine wpAny_execs_cons (plainObj_wpAny_Assign_Attribute (key _ _ (by kernel_rfl) (by kernel_rfl) h₂ _ v2 _ _ _ _ hns₂ rfl (key _ _ (by kernel_rfl) (by kernel_rfl) h₂ _ (.ref e) _ _ _ _ hns₂ rfl ?_)) (by with_unfolding_all rfl))
  refine store_attr (mA := fun y => if y = "symbol" then some v1 else none) (ns := ["symbol"]) PySem.F.store_Exception hC₂ hN₂ c5 c7 lk_exc_data (fun q => ex _ _ hC q.symm) ⟨_, g₂, rfl, fun c q => (by cases q), .inr ⟨_, rfl, hd1.symm, n₂⟩⟩ (fun h₃ tk₃ i₃ k₃ s₃ => ?_) (Within.cons _ _ Within.nil) (by rw [sizeLine_eq]; simp)
  obtain ⟨o₁, p1, p2, p3, p4, p5⟩ := s₃ _ g₂
  obtain ⟨o₂, r1, r2, r3, r4⟩ := i₃
  rw [p1] at r1
  cases r1
  have pd := p5 _ rfl
  have fresh : h.get? h₁.objs.size = none := by
    cases q : h.get? h₁.objs.size with
    | none => rfl
    | some ob => exact absurd (Heap.lt_size (hk₁ _ _ (hm.keeps _ _ q))) (Nat.lt_irrefl _)
  rcases r4 with ⟨r5, _⟩ | ⟨d2, r5, r6, r7⟩
  · rw [pd] at r5; cases r5
  rw [pd] at r5
  cases r5
  refine wpAny_execs_nil ⟨rfl, ?_⟩
  refine hq _ e h₁.objs.size _ ⟨fun b ob q => ?_, rfl, rfl⟩ hm.new ⟨o₁, _, p1, p2, pd, p3, rfl⟩ hd1 fresh r7.ns (by rw [if_neg (by decide +kernel), if_pos rfl]) (by rw [if_pos rfl])
  exact k₃ b ob (ex b ob q) (fun o₀ dx q1 q2 z => by rw [g₂] at q1; cases q1; cases q2; rw [z, fresh] at q; cases q) (k₂ b ob (ex b ob q) (hk₁ b ob (hm.keeps b ob q)))
end
section
variable {M : Model} {A : Around} {E : Value → Shared → Prop} {env : Env}
variable {nm q : Str} {C N : Addr} {bs : List Value} {sn : List Str} {sub : List Value} {ab : Bool} {col : Option Bool} {dd : Option Addr} {k0 k1 k2 k3 k5 : Option Value} {newId : String}
theorem exc_raiseStmt {s : Shared} {x : Sem Value} {Q : Flow → Shared → Prop} (hh : A.handled = none)
    (h : wpAny M A x (fun v s₁ => ∃ e oe vs, v = .ref e ∧ s₁.heap.get? C = some (excClassObj nm q C N bs excMro true sn sub ab col dd k0 k1 k2 k3 k5 newId) ∧ s₁.heap.get? e = some oe ∧ oe.cls = .ref C ∧ oe.data = .fields vs ∧ vs[1]? = some .none ∧ E (.ref e) s₁) E s) :
    wpAny M A (raiseStmt env (some x) none) Q E s := by
  have hcB : (Value.ref C :: excMro).contains (.type "BaseException") = true := by rw [List.contains_cons]; simp [excMro]
  unfold raiseStmt
  refine wpAny_bind (wpAny_mono h (fun v s₁ h₁ => ?_) fun _ _ x => x)
  obtain ⟨e, oe, vs, rfl, hC, he, hc, hd, h1, hE⟩ := h₁
  obtain ⟨hp, g, d, tk, os⟩ := s₁
  have fld : ∀ {Q : Value → Shared → Prop}, Q .none ⟨hp, g, d, tk, os⟩ → wpAny M A (field (.ref e) 1) Q E ⟨hp, g, d, tk, os⟩ := fun k => wpAny_field he hd h1 k
  repeat (first | (with_reducible refine wpAny_loadPart_at he ?_; rw [hc]) | with_reducible refine wpAny_loadPart_at hC ?_ | (with_reducible refine wpAny_isSubtype_exc hC ?_; rw [hcB]) | with_reducible refine fld ?_ | wp_step)
  exact wpAny_raiseNew_none hh hE
end
noncomputable def Stk (l : List Env) (h : Heap) : Prop := ∀ env ∈ l, env.scope.kind ≠ .module ∧ ∃ L o es ep, env.frame = some L ∧ h.get? L = some o ∧ o.data = .dict es ep
theorem Stk.keeps {l : List Env} {h h' : Heap} (x : Stk l h) (k : ∀ b o, h.get? b = some o → h'.get? b = some o) : Stk l h' := fun env hm => let ⟨a, L, o, es, ep, b, c, d⟩ := x env hm; ⟨a, L, o, es, ep, b, k _ _ c, d⟩
theorem Stk.cons {env : Env} {l : List Env} {h : Heap} {L : Addr} {o : Obj} {es ep} (k : env.scope.kind ≠ .module) (f : env.frame = some L) (e : h.get? L = some o) (d : o.data = .dict es ep) (x : Stk l h) : Stk (env :: l) h := fun env' hm => by
  rcases List.mem_cons.mp hm with rfl | hm
  · exact ⟨k, L, o, es, ep, f, e, d⟩
  · exact x env' hm
theorem funFrames_of {h base : Heap} : ∀ {l : List Env}, Stk l h → (∀ env ∈ l, ∀ L, env.frame = some L → base.get? L = none) → h.FunFrames base l
  | [], _, _ => trivial
  | env :: l, x, k => by
    obtain ⟨a, L, o, es, ep, b, c, d⟩ := x env (.head _)
    exact ⟨a, ⟨L, o, b, k env (.head _) L b, c, fun vs q => by rw [d] at q; cases q⟩, funFrames_of (fun e hm => x e (.tail _ hm)) fun e hm => k e (.tail _ hm)⟩
noncomputable def frs (l : List Env) : List Addr := l.filterMap (·.frame)
structure LispK (S : Sg) (C : Addr) : Prop where
  name : nsIn S.K mainGlobals "LispSignal" = some (some (.ref C))
  keep : keepIn S.K (.ref C) = true
  exc : ExcK S C
noncomputable def DKeep (fr : List Addr) (h h' : Heap) : Prop := ∀ b o es ep, b ∈ fr → h.get? b = some o → o.data = .dict es ep → ∃ sl, h'.get? b = some { o with slots := sl }
noncomputable def Rz (S : Sg) (outer rest : List Env) (sym : Str) (dat : PyData) (s : Shared) (x : Value) (s' : Shared) : Prop :=
  ∃ e C d B mA v1 v2, x = .ref e ∧ LispK S C ∧ Fly B outer e C d s'.heap ∧ (∀ b o, s.heap.get? b = some o → b ∉ frs outer → B.get? b = some o) ∧ B.Ns d mA ∧ mA "symbol" = some v1 ∧ mA "data" = some v2 ∧ Rd B v1 (.str sym) ∧ Rd B v2 dat ∧ s'.gens = s.gens ∧ s'.os = s.os ∧ DKeep (frs rest) s.heap s'.heap
theorem Rz.elim {S : Sg} {outer rest : List Env} {sym : Str} {dat : PyData} {s s' : Shared} {x : Value} {G : Prop} (r : Rz S outer rest sym dat s x s')
    (k : ∀ e C d B mA v1 v2, x = .ref e → LispK S C → Fly B outer e C d s'.heap → (∀ b o, s.heap.get? b = some o → b ∉ frs outer → B.get? b = some o) → B.Ns d mA → mA "symbol" = some v1 → mA "data" = some v2 → Rd B v1 (.str sym) → Rd B v2 dat → s'.gens = s.gens → s'.os = s.os → DKeep (frs rest) s.heap s'.heap → G) : G := by
  obtain ⟨e, C, d, B, mA, v1, v2, a, b, c, d1, e1, f, g, h, i, j, l, m⟩ := r
  exact k e C d B mA v1 v2 a b c d1 e1 f g h i j l m
theorem Rz.ext {S : Sg} {outer rest : List Env} {sym : Str} {dat : PyData} {s s₁ s' : Shared} {x : Value} (r : Rz S outer rest sym dat s₁ x s') (e : Ext s s₁) : Rz S outer rest sym dat s x s' := by
  obtain ⟨e', C, d, B, mA, v1, v2, a, b, c, k, f, g, i, j, l, m, n, dk⟩ := r
  exact ⟨e', C, d, B, mA, v1, v2, a, b, c, fun b o q z => k b o (e.keep b o q) z, f, g, i, j, l, m.trans e.gens, n.trans e.os, fun b o es ep hm q z => dk b o es ep hm (e.keep b o q) z⟩
theorem Rz.sext {S : Sg} {env : Env} {outer : List Env} {sym : Str} {dat : PyData} {s s₁ s' : Shared} {x : Value} (r : Rz S (env :: outer) outer sym dat s₁ x s') (hf : env.frame = some env.locals) (hn : env.locals ∉ frs outer) (e : SExt env.locals s s₁) : Rz S (env :: outer) outer sym dat s x s' := by
  obtain ⟨e', C, d, B, mA, v1, v2, a, b, c, k, f, g, i, j, l, m, n, dk⟩ := r
  refine ⟨e', C, d, B, mA, v1, v2, a, b, c, fun b o q z => k b o (e.keep b o (fun y => z ?_) q) z, f, g, i, j, l, m.trans e.gens, n.trans e.os, fun b o es ep hm q z => dk b o es ep hm (e.keep b o (fun y => hn (y ▸ hm)) q) z⟩
  rw [y]
  exact List.mem_filterMap.mpr ⟨env, .head _, hf⟩
structure StkAt (A : Around) (env : Env) (outer : List Env) (h₀ : Heap) : Prop where
  frames : A.frames = some (env :: outer)
  frame : env.frame = some env.locals
  below : Stk outer h₀
noncomputable def EvX (S : Sg) (n : Nat) (sc : Scope) (m : Loc) (e : PySem.Expr) (sym : Str) (dat : PyData) : Prop :=
  ∀ A h₀ env outer s (E : Value → Shared → Prop), At S sc n A env → FrameAt S h₀ env m s.heap → StkAt A env outer h₀ → (∀ x s', Rz S (env :: outer) (env :: outer) sym dat s x s' → E x s') → wpAny (model S.prog S.w) A (eval e env) (fun _ _ => False) E s
noncomputable def StX (S : Sg) (n : Nat) (sc : Scope) (m : Loc) (st : Stmt) (sym : Str) (dat : PyData) : Prop :=
  ∀ A h₀ env outer s (E : Value → Shared → Prop), At S sc n A env → FrameAt S h₀ env m s.heap → StkAt A env outer h₀ → (∀ x s', Rz S (env :: outer) outer sym dat s x s' → E x s') → wpAny (model S.prog S.w) A (exec st env) (fun _ _ => False) E s
noncomputable def ExX (S : Sg) (n : Nat) (sc : Scope) (m : Loc) (ss : List Stmt) (sym : Str) (dat : PyData) : Prop :=
  ∀ A h₀ env outer s (E : Value → Shared → Prop), At S sc n A env → FrameAt S h₀ env m s.heap → StkAt A env outer h₀ → (∀ x s', Rz S (env :: outer) outer sym dat s x s' → E x s') → wpAny (model S.prog S.w) A (execs ss env) (fun _ _ => False) E s
noncomputable def CallX (S : Sg) (n : Nat) (st : Stmt) (args : List PV) (sym : Str) (dat : PyData) : Prop :=
  ∀ A s f vs outer (R : Result → Shared → Prop), Room n A → S.On s.heap → FnAt S st f → vs.length = args.length → (∀ (i : Nat) v pv, vs[i]? = some v → args[i]? = some pv → Rep S s.heap s.heap v pv) →
    A.frames = some outer → Stk outer s.heap → (∀ x s', Rz S outer outer sym dat s x s' → R (.error x) s') → codeAny (model S.prog S.w) A (.call (.ref f) ⟨vs, []⟩) R s
section
variable {S : Sg} {n : Nat} {sc : Scope} {m m' : Loc} {sym : Str} {dat : PyData}
theorem toE {α : Type} {M : Model} {A : Around} {t : Sem α} {Q : α → Shared → Prop} {E : Value → Shared → Prop} {s : Shared} (h : wpAny M A t Q NoE s) : wpAny M A t Q E s := wpAny_mono h (fun _ _ q => q) fun _ _ (x : False) => x.elim
theorem FrameAt.stk {h₀ h : Heap} {A : Around} {env : Env} {outer : List Env} (F : FrameAt S h₀ env m h) (at_ : At S sc n A env) (K : StkAt A env outer h₀) : Stk (env :: outer) h := by
  obtain ⟨o, es, ep, e, d⟩ := F.locals
  exact Stk.cons (by rw [at_.fn]; decide) K.frame e d (K.below.keeps F.old)
theorem FrameAt.off {h₀ h : Heap} {A : Around} {env : Env} {outer : List Env} (F : FrameAt S h₀ env m h) (K : StkAt A env outer h₀) : env.locals ∉ frs outer := fun hm => by
  obtain ⟨env', h1, h2⟩ := List.mem_filterMap.mp hm
  obtain ⟨_, L, o, es, ep, a, b, _⟩ := K.below env' h1
  rw [a] at h2
  cases h2
  rw [F.out] at b
  cases b
theorem Rz.drop {env : Env} {outer : List Env} {s s' : Shared} {x : Value} (r : Rz S (env :: outer) (env :: outer) sym dat s x s') : Rz S (env :: outer) outer sym dat s x s' := by
  obtain ⟨e', C, d, B, mA, v1, v2, a, b, c, k, f, g, i, j, l, m, n, dk⟩ := r
  refine ⟨e', C, d, B, mA, v1, v2, a, b, c, k, f, g, i, j, l, m, n, fun b o es ep hm => dk b o es ep ?_⟩
  obtain ⟨env', h1, h2⟩ := List.mem_filterMap.mp hm
  exact List.mem_filterMap.mpr ⟨env', .tail _ h1, h2⟩
theorem ExX.head {st : Stmt} {rest : List Stmt} (h : StX S n sc m st sym dat) : ExX S n sc m (st :: rest) sym dat := by
  intro A h₀ env outer s E at_ F K k
  exact wpAny_execs_cons (wpAny_mono (h A h₀ env outer s E at_ F K k) (fun _ _ (x : False) => x.elim) fun _ _ x => x)
theorem ExX.cons {st : Stmt} {rest : List Stmt} (h : StT S n sc m st (.next m')) (g : ExX S n sc m' rest sym dat) : ExX S n sc m (st :: rest) sym dat := by
  intro A h₀ env outer s E at_ F K k
  refine wpAny_execs_cons (toE (h A h₀ env s _ at_ F fun fl s' e o => ?_))
  obtain ⟨rfl, F'⟩ := o
  exact g A h₀ env outer s' E at_ F' K fun x s'' r => k x s'' (r.sext K.frame (F.off K) e)
theorem StX.ite {pos : Pos} {t : PySem.Expr} {b : Bool} {body orelse : List Stmt} (h : TrT S n sc m t b) (g : if b then ExX S n sc m body sym dat else ExX S n sc m orelse sym dat) : StX S n sc m (.If t body orelse pos) sym dat := by
  intro A h₀ env outer s E at_ F K k
  refine wpAny_If (toE (h A h₀ env s _ at_ F fun s' e => ?_))
  cases b with
  | true => exact g A h₀ env outer s' E at_ (F.keeps e.keep) K fun x s'' r => k x s'' (r.ext e)
  | false => exact g A h₀ env outer s' E at_ (F.keeps e.keep) K fun x s'' r => k x s'' (r.ext e)
theorem StX.ret {pos : Pos} {e : PySem.Expr} (h : EvX S n sc m e sym dat) : StX S n sc m (.Return (some e) pos) sym dat := by
  intro A h₀ env outer s E at_ F K k
  exact wpAny_Return_some (wpAny_mono (h A h₀ env outer s E at_ F K fun x s' r => k x s' r.drop) (fun _ _ (x : False) => x.elim) fun _ _ x => x)
theorem StX.assign {x : Str} {p pos : Pos} {e : PySem.Expr} (h : EvX S n sc m e sym dat) (hs : ∀ env, swapsWith e (some (.Name x p)) pos.line env = pure false := by intro _; with_unfolding_all rfl) : StX S n sc m (.Assign [.Name x p] e pos) sym dat := by
  intro A h₀ env outer s E at_ F K k
  exact wpAny_Assign_Name (wpAny_mono (h A h₀ env outer s E at_ F K fun x s' r => k x s' r.drop) (fun _ _ (x : False) => x.elim) fun _ _ x => x) (hs _)
theorem StX.unpack {elts : List PySem.Expr} {k' : Nat} {tp pos : Pos} {e : PySem.Expr} (h : EvX S n sc m e sym dat)
    (hs : ∀ env, swapsWithSole [.Tuple elts k' tp] e pos.line env = pure false := by intro _; with_unfolding_all rfl) (hw : ∀ env, swappedStores [.Tuple elts k' tp] e env = pure Option.none := by intro _; with_unfolding_all rfl) :
    StX S n sc m (.Assign [.Tuple elts k' tp] e pos) sym dat := by
  intro A h₀ env outer s E at_ F K k
  exact Assign_Tuple (wpAny_mono (h A h₀ env outer s E at_ F K fun x s' r => k x s' r.drop) (fun _ _ (x : False) => x.elim) fun _ _ x => x) (hs _) (hw _)
theorem EvX.tup {e : PySem.Expr} {rest : List PySem.Expr} {k' : Nat} {pos : Pos} (h : EvX S n sc m e sym dat) (he : ∀ env, starEach (e :: rest) env = (false, eval e env) :: starEach rest env := by intro _; with_unfolding_all rfl) : EvX S n sc m (.Tuple (e :: rest) k' pos) sym dat := by
  intro A h₀ env outer s E at_ F K k
  exact Tuple_ (spliced_more (wpAny_mono (h A h₀ env outer s E at_ F K k) (fun _ _ (x : False) => x.elim) fun _ _ x => x) (he _))
theorem callX_core {A : Around} {h₀ : Heap} {env : Env} {outer : List Env} {g : Addr} {pos : Pos} {s : Shared} {st : Stmt} {args : List PySem.Expr} {pvs : List PV} {E : Value → Shared → Prop}
    (at_ : At S sc n A env) (F : FrameAt S h₀ env m s.heap) (K : StkAt A env outer h₀) (fn : FnAt S st g) (ha : EvsT S n sc m args pvs) (c : CallX S n st pvs sym dat) (k : ∀ x s', Rz S (env :: outer) (env :: outer) sym dat s x s' → E x s')
    (hc : ∃ e rest, args = e :: rest ∧ (∀ env, starEach (e :: rest) env = (false, eval e env) :: starEach rest env) ∧ ∀ env pos, (backTo pos (starEach rest env)).any (·.1) = false) :
    wpAny (model S.prog S.w) A (callWith pos (.ref g) [] (backTo pos (starEach args env)) []) (fun _ _ => False) E s := by
  obtain ⟨e, rest, rfl, he, hp⟩ := hc
  refine callWith_K (K := S.K) at_.ok.k fn.keep (toE (ha A h₀ env pos s _ at_ F fun vs s' e l r => ⟨((F.keeps e.keep).on at_.ok).x, ?_⟩)) (he _) (hp _ _)
  have F' := F.keeps e.keep
  refine wpAny_call (c A s' g vs (env :: outer) _ at_.room (F'.on at_.ok) fn l (fun i v pv ev ep => repUp (r i v pv ev ep) F'.old fun _ _ e => e) K.frames (F'.stk at_ K) fun x s'' z => k x s'' (z.ext e))
theorem EvX.callG {x : Str} {xp pos : Pos} {st : Stmt} {args : List PySem.Expr} {pvs : List PV} (g : GFn S x st) (ha : EvsT S n sc m args pvs) (c : CallX S n st pvs sym dat) (hx : sc.names.lookup x = some .globalImplicit)
    (hc : ∃ e rest, args = e :: rest ∧ (∀ env, starEach (e :: rest) env = (false, eval e env) :: starEach rest env) ∧ ∀ env pos, (backTo pos (starEach rest env)).any (·.1) = false)
    (he : ∀ env, eval (.Call (.Name x xp) args [] pos) env = (do callWith pos (← eval (.Name x xp) env) [] (backTo pos (starEach args env)) (backToKw pos (keywordEach [] env))) := by intro _; with_unfolding_all rfl)
    (hd : (x == ("__debug__" : Str)) = false := by decide +kernel) : EvX S n sc m (.Call (.Name x xp) args [] pos) sym dat := by
  intro A h₀ env outer s E at_ F K k
  obtain ⟨g, e, fn⟩ := g
  refine Call_ (toE (EvT.glob e hx hd A h₀ env s _ at_ F fun v s' e' r => ?_)) (he _)
  cases r
  exact callX_core at_ (F.keeps e'.keep) K fn ha c (fun x s'' z => k x s'' (z.ext e')) hc
theorem EvX.callL {x : Str} {xp pos : Pos} {st : Stmt} {args : List PySem.Expr} {pvs : List PV} {g : Addr} (fn : FnAt S st g) (hm : (x, PV.r (.ref g)) ∈ m) (ha : EvsT S n sc m args pvs) (c : CallX S n st pvs sym dat) (hx : sc.names.lookup x = some .local)
    (hc : ∃ e rest, args = e :: rest ∧ (∀ env, starEach (e :: rest) env = (false, eval e env) :: starEach rest env) ∧ ∀ env pos, (backTo pos (starEach rest env)).any (·.1) = false)
    (he : ∀ env, eval (.Call (.Name x xp) args [] pos) env = (do callWith pos (← eval (.Name x xp) env) [] (backTo pos (starEach args env)) (backToKw pos (keywordEach [] env))) := by intro _; with_unfolding_all rfl)
    (hd : (x == ("__debug__" : Str)) = false := by decide +kernel) : EvX S n sc m (.Call (.Name x xp) args [] pos) sym dat := by
  intro A h₀ env outer s E at_ F K k
  refine Call_ (toE (EvT.loc hx hm hd A h₀ env s _ at_ F fun v s' e' r => ?_)) (he _)
  cases r
  exact callX_core at_ (F.keeps e'.keep) K fn ha c (fun x s'' z => k x s'' (z.ext e')) hc
end
theorem lookup_bindL : ∀ (ns : List Str) (vs : List Value), ns.Nodup → ∀ {x : Str}, (ns.zip vs).reverse.lookup x = bindL (fun _ => some .local) (ns.zip vs) (fun _ => none) x := by
  have gen : ∀ (l : List (Str × Value)) (m : Str → Option Value) (x : Str), (l.reverse.lookup x).or (m x) = bindL (fun _ => some .local) l m x := by
    intro l
    induction l with
    | nil => intro m x; simp [bindL_nil]
    | cons p l ih =>
      intro m x
      obtain ⟨n, v⟩ := p
      rw [bindL_cons]
      rw [if_pos rfl, ← ih, List.reverse_cons, List.lookup_append, Option.or_assoc]
      congr 1
      by_cases h : x = n
      · simp [h, List.lookup]
      · have : (x == n) = false := by simpa using h
        simp [h, List.lookup, this]
  intro ns vs _ x
  have := gen (ns.zip vs) (fun _ => none) x
  simpa using this
section
variable {S : Sg} {n : Nat} {sc : Scope} {m m' : Loc} {sym : Str} {dat : PyData}
theorem StX.raise {C : Addr} {a b : PySem.Expr} {np cpos pos : Pos} (L : LispK S C) (ha : EvT S (n + 1) sc m a (.d (.str sym))) (hb : EvT S (n + 1) sc m b (.d dat)) (hx : sc.names.lookup (Str.ofString "LispSignal") = some .globalImplicit)
    (h1 : ∀ env, starEach [a, b] env = [(false, eval a env), (false, eval b env)] := by intro _; with_unfolding_all rfl) (h2 : ∀ env, starEach [b] env = [(false, eval b env)] := by intro _; with_unfolding_all rfl) :
    StX S (n + 1) sc m (.Raise (some (.Call (.Name "LispSignal" np) [a, b] [] cpos)) Option.none pos) sym dat := by
  intro A h₀ env outer s E at_ F K k
  have hcls := L.exc.cls
  obtain ⟨nm, q, N, bs, sn, sub, ab, col, dd, k0, k1, k2, k3, k5, mN, fI, c1, _⟩ := hcls
  rw [arm_exec_Raise]
  refine wpAny_bind (wpAny_standAt ?_)
  show wpAny _ A (raiseStmt env (some (do let v ← eval (.Call (.Name "LispSignal" np) [a, b] [] cpos) env; standAt pos; pure v)) Option.none) _ _ _
  refine exc_raiseStmt (C := C) (nm := nm) (q := q) (N := N) (bs := bs) (sn := sn) (sub := sub) (ab := ab) (col := col) (dd := dd) (k0 := k0) (k1 := k1) (k2 := k2) (k3 := k3) (k5 := k5) (newId := "Exception.__new__") at_.room.2.2 ?_
  refine wpAny_bind (Call_ (toE (EvT.glob L.name hx (by decide +kernel) A h₀ env s _ at_ F fun v s' e' r => ?_)) (by with_unfolding_all rfl))
  cases r
  have F' := F.keeps e'.keep
  refine callWith_K (K := S.K) at_.ok.k L.keep (toE ((EvsT.cons ha (EvsT.cons hb .nil (fun env => by rw [h2]; rfl)) (fun env => by rw [h1, h2])) A h₀ env cpos s' _ at_ F' fun vs s₂ e₂ l r => ⟨((F'.keeps e₂.keep).on at_.ok).x, ?_⟩)) (by rw [h1, h2]) (by rw [h2]; rfl)
  obtain ⟨v1, v2, rfl, r1, r2⟩ := two_of l r
  have F₂ := F'.keeps e₂.keep
  refine exc_make L.exc at_.room (F₂.on at_.ok) fun s₃ e d mA x₃ n₁ u₁ n₂ n₃ a₁ a₂ a₃ => wpAny_bind (wpAny_standAt (wpAny_pure ?_))
  obtain ⟨oe, ws, p1, p2, p3, p4, p5⟩ := id u₁
  have hC : s₃.heap.get? C = some (excClassObj nm q C N bs excMro true sn sub ab col dd k0 k1 k2 k3 k5 "Exception.__new__") := x₃.keep _ _ ((F₂.on at_.ok).keep _ _ c1)
  refine ⟨e, oe, ws, rfl, hC, p1, p2, p4, p5, k _ s₃ ?_⟩
  have F₃ := F₂.keeps x₃.keep
  have stk₃ := F₃.stk at_ K
  have stk₂ := F₂.stk at_ K
  have ne : ∀ b o, s₂.heap.get? b = some o → b ≠ e := fun b o z y => by rw [y, n₁] at z; cases z
  have nf : ∀ b ∈ frs (env :: outer), ∃ o es ep, s₂.heap.get? b = some o ∧ o.data = .dict es ep := fun b hb => by
    obtain ⟨env', hm, hf⟩ := List.mem_filterMap.mp hb
    obtain ⟨_, L', o, es, ep, z1, z2, z3⟩ := stk₂ env' hm
    rw [z1] at hf
    cases hf
    exact ⟨o, es, ep, z2, z3⟩
  have dn : d ∉ frs (env :: outer) := fun hm => by
    obtain ⟨o, es, ep, z, _⟩ := nf d hm
    rw [n₃] at z; cases z
  have B2 : ∀ b o, s₂.heap.get? b = some o → b ∉ frs (env :: outer) → (hideAll s₃.heap (e :: frs (env :: outer))).get? b = some o := fun b o z y =>
    hideAll_get _ (x₃.keep b o z) fun hm => by
      rcases List.mem_cons.mp hm with w | w
      · exact ne b o z w
      · exact y w
  have sk : SeqKept s₂.heap (hideAll s₃.heap (e :: frs (env :: outer))) := fun b o vs nn z y => B2 b o z fun hm => by
    obtain ⟨o', es, ep, w1, w2⟩ := nf b hm
    rw [z] at w1; cases w1
    rw [y] at w2; cases w2
  refine ⟨e, C, d, hideAll s₃.heap (e :: frs (env :: outer)), mA, v1, v2, rfl, L, ⟨fun b o z => of_hideAll _ z, hideAll_none _ (.head _), funFrames_of stk₃ fun env' hm L' hf => hideAll_none _ (.tail _ (List.mem_filterMap.mpr ⟨env', hm, hf⟩)), .inl u₁⟩,
    fun b o z y => B2 b o (e₂.keep b o (e'.keep b o z)) y, ?_, a₂, a₃, Rd.mono sk r1, Rd.mono sk r2, x₃.gens.trans (e₂.gens.trans e'.gens), x₃.os.trans (e₂.os.trans e'.os), fun b o es ep _ z _ => ⟨o.slots, x₃.keep b o (e₂.keep b o (e'.keep b o z))⟩⟩
  exact a₁.at' fun o z => hideAll_get _ z fun hm => by
    rcases List.mem_cons.mp hm with w | w
    · exact n₂ w.symm
    · exact dn w
theorem CallX.mk {st : Stmt} (m : Loc) {args : List PV} (ok : DefOk st (m.map (·.1))) (ha : m.map (·.2) = args) (h : ExX S n (stScope st) m (stBody st) sym dat) : CallX S (n + 1) st args sym dat := by
  intro A s f vs outer R room on fn hl hr hfr hstk kk
  subst ha
  obtain ⟨o, name, qual, doc, pm, an, cdv, ct, e1, e2, e3⟩ := fn.fd
  have hln : vs.length = (m.map (·.1)).length := by rw [hl]; simp
  have hO := on.x _ _ e1
  have lz : ∀ {α : Type} (l : List Str) (w : List α) x v, (x, v) ∈ l.zip w → x ∈ l := fun l w x v hm => (List.of_mem_zip hm).1
  refine codeAny_call_def (binds := (m.map (·.1)).zip vs) (by have := room.1; omega) hO e2 on.t.nolimit (codeRec_of on.x e3) rfl (.of_eq (ok.bind name qual doc pm an cdv ct vs hln)) ok.cell
    (fun x hx => ok.loc _ (lz _ _ x.1 x.2 hx)) (fun h₁ hns hk₁ => ?_) ok.co ok.gen ok.k
  have F : FrameAt S s.heap (callEnv (fnX name qual (stArgs st) (stBody st) (stScope st) [] .none .none doc pm an cdv ct) s.heap.objs.size f) m h₁ := by
    refine ⟨⟨_, ⟨hns, fun b o e => hk₁ b o (on.keep b o e), on.size⟩, fun x pv hm => ?_⟩, hk₁, size_none _⟩
    obtain ⟨i, hi⟩ := List.getElem?_of_mem hm
    have hil : i < vs.length := by rw [hln, List.length_map]; exact (List.getElem?_eq_some_iff.mp hi).1
    have e1 : (m.map (·.1))[i]? = some x := by rw [List.getElem?_map, hi]; rfl
    have e2 : (m.map (·.2))[i]? = some pv := by rw [List.getElem?_map, hi]; rfl
    have e3 : vs[i]? = some vs[i] := List.getElem?_eq_getElem hil
    refine ⟨vs[i], ⟨fun _ => ?_, fun q => ?_⟩, (hr i _ pv e3 e2).keeps hk₁⟩
    · have := bindL_get (kd := fun _ => some .local) (m.map (·.1)) vs (fun _ => none) x i vs[i] ok.nd e1 e3 rfl
      exact (lookup_bindL _ _ ok.nd).trans this
    · have := ok.loc x (List.mem_of_getElem? e1)
      rw [show (stScope st).names.lookup x = some .cell from q] at this
      cases this
  have hfr' := Around.frames_deeper (env := callEnv (fnX name qual (stArgs st) (stBody st) (stScope st) [] .none .none doc pm an cdv ct) s.heap.objs.size f) hfr
  refine wpAny_mono (h (A.deeper _) s.heap _ outer _ _ ⟨room.deeper _, on.ok, ok.k, rfl, rfl, rfl⟩ F ⟨hfr', rfl, hstk⟩ fun x s' r => ?_) (fun _ _ (x : False) => x.elim) (fun _ _ x => x)
  obtain ⟨e, C, d, B, mA, v1, v2, rfl, b, c, k, f, g, i, j, l, m', n', dk⟩ := r
  refine exc_leave hfr' rfl c fun h' c' up => kk _ _ ⟨e, C, d, B, mA, v1, v2, rfl, b, c', fun a oo z y => k a oo (hk₁ a oo z) fun hm => ?_, f, g, i, j, l, m', n', fun b o es ep hm z y => ?_⟩
  rotate_left
  · obtain ⟨sl, hs⟩ := dk b o es ep hm (hk₁ b o z) y
    obtain ⟨sl', hs'⟩ := up b _ hs fun vs q => by rw [show ({ o with slots := sl } : Obj).data = o.data from rfl, y] at q; cases q
    exact ⟨sl', hs'⟩
  rcases List.mem_filterMap.mp hm with ⟨env', hm', hf'⟩
  rcases List.mem_cons.mp hm' with rfl | hm'
  · cases hf'
    exact Nat.lt_irrefl _ (Heap.lt_size z)
  · exact y (List.mem_filterMap.mpr ⟨env', hm', hf'⟩)
theorem CallX.up {k : Nat} {st : Stmt} {args : List PV} (h : CallX S k st args sym dat) (le : k ≤ n := by decide) : CallX S n st args sym dat :=
  fun A s f vs outer R room on fn hl hr a b kk => h A s f vs outer R (room.le le) on fn hl hr a b kk
end
section
variable {S : Sg} {k : Nat} {sc : Scope} {m m' : Loc} {sym : Str} {dat : PyData}
theorem EvX.call2 {x : Str} {xp pos : Pos} {st : Stmt} {a b : PySem.Expr} {p q : PV} (g : GFn S x st) (h1 : EvT S k sc m a p) (h2 : EvT S k sc m b q) (c : CallX S k st [p, q] sym dat) (hx : sc.names.lookup x = some .globalImplicit)
    (s1 : ∀ env, starEach [a, b] env = [(false, eval a env), (false, eval b env)] := by intro _; with_unfolding_all rfl) (s2 : ∀ env, starEach [b] env = [(false, eval b env)] := by intro _; with_unfolding_all rfl)
    (he : ∀ env, eval (.Call (.Name x xp) [a, b] [] pos) env = (do callWith pos (← eval (.Name x xp) env) [] (backTo pos (starEach [a, b] env)) (backToKw pos (keywordEach [] env))) := by intro _; with_unfolding_all rfl)
    (hd : (x == ("__debug__" : Str)) = false := by decide +kernel) : EvX S k sc m (.Call (.Name x xp) [a, b] [] pos) sym dat :=
  EvX.callG g (EvsT.cons h1 (EvsT.cons h2 .nil (fun env => by rw [s2]; rfl)) (fun env => by rw [s1, s2])) c hx ⟨_, _, rfl, fun env => by rw [s1, s2], fun env _ => by rw [s2]; rfl⟩ he hd
theorem EvX.call3 {x : Str} {xp pos : Pos} {st : Stmt} {a b d : PySem.Expr} {p q r : PV} (g : GFn S x st) (h1 : EvT S k sc m a p) (h2 : EvT S k sc m b q) (h3 : EvT S k sc m d r) (c : CallX S k st [p, q, r] sym dat) (hx : sc.names.lookup x = some .globalImplicit)
    (s1 : ∀ env, starEach [a, b, d] env = [(false, eval a env), (false, eval b env), (false, eval d env)] := by intro _; with_unfolding_all rfl) (s2 : ∀ env, starEach [b, d] env = [(false, eval b env), (false, eval d env)] := by intro _; with_unfolding_all rfl)
    (s3 : ∀ env, starEach [d] env = [(false, eval d env)] := by intro _; with_unfolding_all rfl)
    (he : ∀ env, eval (.Call (.Name x xp) [a, b, d] [] pos) env = (do callWith pos (← eval (.Name x xp) env) [] (backTo pos (starEach [a, b, d] env)) (backToKw pos (keywordEach [] env))) := by intro _; with_unfolding_all rfl)
    (hd : (x == ("__debug__" : Str)) = false := by decide +kernel) : EvX S k sc m (.Call (.Name x xp) [a, b, d] [] pos) sym dat :=
  EvX.callG g (EvsT.cons h1 (EvsT.cons h2 (EvsT.cons h3 .nil (fun env => by rw [s3]; rfl)) (fun env => by rw [s2, s3])) (fun env => by rw [s1, s2])) c hx ⟨_, _, rfl, fun env => by rw [s1, s2], fun env _ => by rw [s2]; rfl⟩ he hd
theorem EvX.callL3 {x : Str} {xp pos : Pos} {st : Stmt} {a b d : PySem.Expr} {p q r : PV} {g : Addr} (fn : FnAt S st g) (hm : (x, PV.r (.ref g)) ∈ m) (h1 : EvT S k sc m a p) (h2 : EvT S k sc m b q) (h3 : EvT S k sc m d r) (c : CallX S k st [p, q, r] sym dat) (hx : sc.names.lookup x = some .local)
    (s1 : ∀ env, starEach [a, b, d] env = [(false, eval a env), (false, eval b env), (false, eval d env)] := by intro _; with_unfolding_all rfl) (s2 : ∀ env, starEach [b, d] env = [(false, eval b env), (false, eval d env)] := by intro _; with_unfolding_all rfl)
    (s3 : ∀ env, starEach [d] env = [(false, eval d env)] := by intro _; with_unfolding_all rfl)
    (he : ∀ env, eval (.Call (.Name x xp) [a, b, d] [] pos) env = (do callWith pos (← eval (.Name x xp) env) [] (backTo pos (starEach [a, b, d] env)) (backToKw pos (keywordEach [] env))) := by intro _; with_unfolding_all rfl)
    (hd : (x == ("__debug__" : Str)) = false := by decide +kernel) : EvX S k sc m (.Call (.Name x xp) [a, b, d] [] pos) sym dat :=
  EvX.callL fn hm (EvsT.cons h1 (EvsT.cons h2 (EvsT.cons h3 .nil (fun env => by rw [s3]; rfl)) (fun env => by rw [s2, s3])) (fun env => by rw [s1, s2])) c hx ⟨_, _, rfl, fun env => by rw [s1, s2], fun env _ => by rw [s2]; rfl⟩ he hd
theorem EvX.call4 {x : Str} {xp pos : Pos} {st : Stmt} {a b d e : PySem.Expr} {p q r t : PV} (g : GFn S x st) (h1 : EvT S k sc m a p) (h2 : EvT S k sc m b q) (h3 : EvT S k sc m d r) (h4 : EvT S k sc m e t) (c : CallX S k st [p, q, r, t] sym dat) (hx : sc.names.lookup x = some .globalImplicit)
    (s1 : ∀ env, starEach [a, b, d, e] env = [(false, eval a env), (false, eval b env), (false, eval d env), (false, eval e env)] := by intro _; with_unfolding_all rfl) (s2 : ∀ env, starEach [b, d, e] env = [(false, eval b env), (false, eval d env), (false, eval e env)] := by intro _; with_unfolding_all rfl)
    (s3 : ∀ env, starEach [d, e] env = [(false, eval d env), (false, eval e env)] := by intro _; with_unfolding_all rfl) (s4 : ∀ env, starEach [e] env = [(false, eval e env)] := by intro _; with_unfolding_all rfl)
    (he : ∀ env, eval (.Call (.Name x xp) [a, b, d, e] [] pos) env = (do callWith pos (← eval (.Name x xp) env) [] (backTo pos (starEach [a, b, d, e] env)) (backToKw pos (keywordEach [] env))) := by intro _; with_unfolding_all rfl)
    (hd : (x == ("__debug__" : Str)) = false := by decide +kernel) : EvX S k sc m (.Call (.Name x xp) [a, b, d, e] [] pos) sym dat :=
  EvX.callG g (EvsT.cons h1 (EvsT.cons h2 (EvsT.cons h3 (EvsT.cons h4 .nil (fun env => by rw [s4]; rfl)) (fun env => by rw [s3, s4])) (fun env => by rw [s2, s3])) (fun env => by rw [s1, s2])) c hx ⟨_, _, rfl, fun env => by rw [s1, s2], fun env _ => by rw [s2]; rfl⟩ he hd
end
section
variable {S : Sg} {b : Int} {cs : List Int} {C : Addr}
noncomputable abbrev eobS : Str := "end-of-buffer"
noncomputable abbrev bobS : Str := "beginning-of-buffer"
noncomputable abbrev errS : Str := "error"
noncomputable abbrev twoS : Str := "Don't have two things to transpose"
theorem x_by_chars (H : KF S) (L : LispK S C) (i : Nat) (many : Int) : 
    (((cs.length : Int) < i + many → CallX S 3 (topStmt 96) [.v b cs, it (b + i), it many] eobS (.list [])) ∧ ((i : Int) + many < 0 → CallX S 3 (topStmt 96) [.v b cs, it (b + i), it many] bobS (.list []))) := by
  refine ⟨fun h => ?_, fun h => ?_⟩
  · refine CallX.mk [("view", .v b cs), ("place", it (b + i)), ("many", it many)] ok_by_chars rfl ?_
    refine ExX.cons (StT.assign (by kwd_rel) (by kaf_suf) (by kernel_rfl)) ?_
    exact ExX.head (StX.ite (b := true) (TrT.icmp (by kwd_rel) (by kwd_rel) (by kwd_less)) (ExX.head (StX.raise L (by kwd_rel) (by kwd_rel) (by kernel_rfl))))
  · refine CallX.mk [("view", .v b cs), ("place", it (b + i)), ("many", it many)] ok_by_chars rfl ?_
    refine ExX.cons (StT.assign (by kwd_rel) (by kaf_suf) (by kernel_rfl)) ?_
    refine ExX.cons (StT.ite (b := false) (TrT.icmp (by kwd_rel) (by kwd_rel) (by kwd_less)) ExT.nil) ?_
    exact ExX.head (StX.ite (b := true) (TrT.icmp (by kwd_rel) (by kwd_rel) (by kwd_less)) (ExX.head (StX.raise L (by kwd_rel) (by kwd_rel) (by kernel_rfl))))
theorem x_unit_around (H : KF S) {g : Addr} (fn : FnAt S (topStmt 96) g) (i : Nat) (many : Int) {sym : Str} (h : CallX S 3 (topStmt 96) [.v b cs, it (b + i), it many] sym (.list [])) :
    CallX S 4 (topStmt 94) [.r (.ref g), .v b cs, it (b + i), it many] sym (.list []) := by
  refine CallX.mk [("mover", .r (.ref g)), ("view", .v b cs), ("place", it (b + i)), ("many", it many)] ok_unit_around rfl ?_
  exact ExX.head (StX.assign (EvX.callL3 fn (by kaf_pre) (by kwd_rel) (by kwd_rel) (by kwd_rel) h.up (by kernel_rfl)))
noncomputable def unitsErr (n i : Nat) (many : Int) : Option Str := if i = 0 then some bobS else if 0 < many then (if (n : Int) < i + many then some eobS else none) else (if (i : Int) - 1 + many < 0 then some bobS else none)
theorem unitsErr_none {n i : Nat} {many : Int} (h : unitsErr n i many = none) : UnitsOk n i many := by
  unfold unitsErr at h
  split at h
  · cases h
  · split at h
    · split at h
      · cases h
      · exact ⟨by omega, fun _ => by omega, fun _ => by omega⟩
    · split at h
      · cases h
      · exact ⟨by omega, fun _ => by omega, fun _ => by omega⟩
theorem x_units_regions (H : KF S) (L : LispK S C) {g : Addr} (fn : FnAt S (topStmt 96) g) (i : Nat) (many : Int) (hi : i ≤ cs.length) {sym : Str} (h : unitsErr cs.length i many = some sym) :
    CallX S 5 (topStmt 95) [.r (.ref g), .v b cs, it (b + i), it many] sym (.list []) := by
  refine CallX.mk [("mover", .r (.ref g)), ("view", .v b cs), ("place", it (b + i)), ("many", it many)] ok_units_regions rfl ?_
  unfold unitsErr at h
  split at h
  · rename_i h0
    cases h
    exact ExX.head (StX.unpack (EvX.call4 H.f_unit_around (by kwd_rel) (by kwd_rel) (by kwd_rel) EvT.neg (x_unit_around H fn i (-1) ((x_by_chars H L i (-1)).2 (by omega))).up (by kernel_rfl)))
  · rename_i h0
    have c1 := s_unit_around (b := b) (cs := cs) H fn i (i - 1) (-1) (by omega) hi (by omega)
    rw [show min i (i - 1) = i - 1 by omega, show max i (i - 1) = i by omega] at c1
    refine ExX.cons (StT.unpack2 (EvT.call4 H.f_unit_around (by kwd_rel) (by kwd_rel) (by kwd_rel) EvT.neg c1.up (by kernel_rfl)) (by kaf_suf) (by kaf_suf) (by kernel_rfl) (by kernel_rfl)) ?_
    split at h
    · rename_i h1
      split at h
      · rename_i h2
        cases h
        refine ExX.head (StX.ite (b := true) (TrT.icmp (by kwd_rel) (by kwd_rel) (by kwd_less)) ?_)
        exact ExX.head (StX.unpack (EvX.call4 H.f_unit_around (by kwd_rel) (by kwd_rel) (by kwd_rel) (by kwd_rel) (x_unit_around H fn i many ((x_by_chars H L i many).1 h2)).up (by kernel_rfl)))
      · cases h
    · rename_i h1
      split at h
      · rename_i h2
        cases h
        refine ExX.cons (StT.ite (b := false) (TrT.icmp (by kwd_rel) (by kwd_rel) (by kwd_less)) ExT.nil) ?_
        exact ExX.head (StX.unpack (EvX.call4 H.f_unit_around (by kwd_rel) (by kwd_rel) (EvT.item (k := 0) (i := 0) (by kwd_rel) EvT.int rfl (by decide) rfl) (by kwd_rel) (x_unit_around H fn (i - 1) many ((x_by_chars H L (i - 1) many).2 (by omega))).up (by kernel_rfl)))
      · cases h
theorem x_in_order (H : KF S) (L : LispK S C) (p0 p1 q0 q1 : Nat) (h : p0 ≤ q0) (h' : q0 < p1) : CallX S 2 (topStmt 92) [.d (pr b p0 p1), .d (pr b q0 q1)] errS (.list [.str twoS]) := by
  refine CallX.mk [("one", .d (pr b p0 p1)), ("other", .d (pr b q0 q1))] ok_in_order rfl ?_
  refine ExX.cons (StT.unpack2 (p := pr b p0 p1) (q := pr b q0 q1) (EvT.ifexp (b := true) (TrT.icmp (EvT.item (k := 0) (i := 0) (by kwd_rel) EvT.int rfl (by decide) rfl) (EvT.item (k := 0) (i := 0) (by kwd_rel) EvT.int rfl (by decide) rfl) (by kwd_less)) (by simp only [if_true]; kwd_rel)) (by kaf_suf) (by kaf_suf) (by kernel_rfl) (by kernel_rfl)) ?_
  exact ExX.head (StX.ite (b := true) (TrT.icmp (EvT.item (k := 1) (i := 1) (by kwd_rel) EvT.int rfl (by decide) rfl) (EvT.item (k := 0) (i := 0) (by kwd_rel) EvT.int rfl (by decide) rfl) (by kwd_less)) (ExX.head (StX.raise L (by kwd_rel) (EvT.lst1 (by kwd_rel)) (by kernel_rfl))))
theorem x_regions_edit (H : KF S) (L : LispK S C) (p0 p1 q0 q1 : Nat) (h : p0 ≤ q0) (h' : q0 < p1) : CallX S 3 (topStmt 93) [.v b cs, .d (pr b p0 p1), .d (pr b q0 q1)] errS (.list [.str twoS]) := by
  refine CallX.mk [("view", .v b cs), ("one", .d (pr b p0 p1)), ("other", .d (pr b q0 q1))] ok_regions_edit rfl ?_
  exact ExX.head (StX.unpack (EvX.call2 H.f_in_order (by kwd_rel) (by kwd_rel) (x_in_order H L p0 p1 q0 q1 h h').up (by kernel_rfl)))
theorem y_chars_regions (H : KF S) {g : Addr} (hg : nsIn S.K mainGlobals "by_chars" = some (some (.ref g))) (i : Nat) (hi : i ≤ cs.length) (c : Option Int) {sym : Str}
    (hc : CallX S 5 (topStmt 95) [.r (.ref g), .v b cs, it (b + charsPlace cs i c), it (c.getD 1)] sym (.list [])) : CallX S 6 (topStmt 97) [.v b cs, it (b + i), .d (cntD c)] sym (.list []) := by
  refine CallX.mk [("view", .v b cs), ("place", it (b + i)), ("many", .d (cntD c))] ok_chars_regions rfl ?_
  refine ExX.cons (m' := [("view", .v b cs), ("place", it (b + charsPlace cs i c)), ("many", .d (cntD c))]) ?_ (ExX.head (StX.ret (EvX.call4 H.f_units_regions (EvT.glob hg (by kernel_rfl) (by kernel_rfl)) (by kwd_rel) (by kwd_rel) (EvT.ifexp (b := c.isNone) (TrT.isNone (d := cntD c) (by kwd_rel) (by cases c with | none => exact .inl ⟨rfl, rfl⟩ | some k => exact .inr ⟨⟨k, rfl⟩, rfl⟩)) (by
    cases c with
    | none => simp only [Option.isNone_none, if_true, Option.getD_none]; kwd_rel
    | some k => simp only [Option.isNone_some, Bool.false_eq_true, if_false, Option.getD_some]; exact EvT.cast (p := .d (cntD (some k))) (by kwd_rel) rfl)) hc.up (by kernel_rfl))))
  unfold charsPlace
  by_cases h : c = none ∧ isLineEnd cs i = true ∧ 0 < i
  · rw [if_pos h]
    obtain ⟨rfl, h2, h3⟩ := h
    refine StT.ite (b := true) ((TrT.and3 (b := true) (c := isLineEnd cs i) (d := decide (0 < i)) (TrT.isNone (d := cntD none) (by kwd_rel) (.inl ⟨rfl, rfl⟩)) (fun _ => TrT.val (EvT.call2 H.f_is_line_end (by kwd_rel) (by kwd_rel) (s_is_line_end H i).up (by kernel_rfl))) fun _ _ => TrT.icmp (by kwd_rel) (by kwd_rel) (by kwd_less)).cast (by rw [h2, decide_eq_true h3]; rfl)) ?_
    exact ExT.cons (StT.asg (by kaf_suf) (by kwd_rel) (by omega) (by kernel_rfl)) ExT.nil
  · rw [if_neg h]
    refine StT.ite (b := false) ((TrT.and3 (b := c.isNone) (c := isLineEnd cs i) (d := decide (0 < i)) (TrT.isNone (d := cntD c) (by kwd_rel) (by cases c with | none => exact .inl ⟨rfl, rfl⟩ | some k => exact .inr ⟨⟨k, rfl⟩, rfl⟩)) (fun _ => TrT.val (EvT.call2 H.f_is_line_end (by kwd_rel) (by kwd_rel) (s_is_line_end H i).up (by kernel_rfl))) fun _ _ => TrT.icmp (by kwd_rel) (by kwd_rel) (by kwd_less)).cast ?_) ExT.nil
    rw [← Bool.not_eq_true]
    simpa using h
noncomputable def charsErr (cs : List Int) (i : Nat) (c : Option Int) : Option (Str × PyData) :=
  match unitsErr cs.length (charsPlace cs i c) (c.getD 1) with
  | some sym => some (sym, .list [])
  | none => if c.getD 1 = 0 then some (errS, .list [.str twoS]) else none
theorem x_chars_edit (H : KF S) (L : LispK S C) (hb : 1 ≤ b) (hh : b + cs.length ≤ 1000) (i : Nat) (hi : i ≤ cs.length) (c : Option Int) {sym : Str} {dat : PyData} (h : charsErr cs i c = some (sym, dat)) :
    CallX S 7 (topStmt 98) [.v b cs, it (b + i), .d (cntD c)] sym dat := by
  refine CallX.mk [("view", .v b cs), ("place", it (b + i)), ("many", .d (cntD c))] ok_chars_edit rfl ?_
  obtain ⟨g, hg, fn⟩ := H.f_by_chars
  have hp := Nat.le_trans (charsPlace_le (cs := cs) i c) hi
  unfold charsErr at h
  cases e : unitsErr cs.length (charsPlace cs i c) (c.getD 1) with
  | some s =>
    rw [e] at h
    cases h
    exact ExX.head (StX.unpack (EvX.call3 H.f_chars_regions (by kwd_rel) (by kwd_rel) (by kwd_rel) (y_chars_regions H hg i hi c (x_units_regions H L fn _ _ hp e)).up (by kernel_rfl)))
  | none =>
    rw [e] at h
    simp only at h
    split at h
    · rename_i h0
      cases h
      have u := unitsErr_none e
      have cr := x_chars_regions (b := b) H hg i hi c (s_units_regions H fn _ _ hp u)
      rw [h0, unitsD, if_neg (by decide)] at cr
      obtain ⟨u1, _, _⟩ := u
      generalize charsPlace cs i c = j at u1 hp cr
      rw [show ((j : Int) - 1 + 0).toNat = j - 1 by omega] at cr
      refine ExX.cons (StT.unpack3 (EvT.call3 H.f_chars_regions (by kwd_rel) (by kwd_rel) (by kwd_rel) cr.up (by kernel_rfl)) (by kaf_suf) (by kaf_suf) (by kaf_suf) (by kernel_rfl) (by kernel_rfl) (by kernel_rfl)) ?_
      exact ExX.head (StX.ret (EvX.tup (EvX.call3 H.f_regions_edit (by kwd_rel) (by kwd_rel) (by kwd_rel) (x_regions_edit H L (j - 1) j (j - 1) (j - 1) (Nat.le_refl _) (by omega)).up (by kernel_rfl))))
    · cases h
end
section
open Builtin Builtin.ObjectAttr
variable {prog : Program} {w : World} {A : Around} {E : Value → Shared → Prop} {h : Heap} {g : Array GenState} {d : Drawn} {t : Nat} {os : OsState}
variable {nm q : Str} {C N x dx : Addr} {bs : List Value} {sn : List Str} {sub : List Value} {ab : Bool} {col : Option Bool} {dd : Option Addr} {k0 k1 k2 k3 k5 : Option Value} {newId : String}
  {mN mA : Str → Option Value} {name : Str} {v : Value} {o : Obj} {vs : Array Value} {B : String}
theorem exc_get_entry {tk : Tok} {Q : Fin → Shared → Prop} (hC : h.get? C = some (excClassObj nm q C N bs excMro true sn sub ab col dd k0 k1 k2 k3 k5 newId)) (hn : h.Ns N mN) (hna : mN name = none) (hB : typeLookup (.type "Exception") name = pure none)
    (hx : h.get? x = some o) (hc : o.cls = .ref C) (hdt : o.data = .fields vs) (hdd : o.dict = some dx) (hns : h.Ns dx mA) (hv : mA name = some v) (hh : handedOut v = pure v) (hq : Q (.done (.ret v)) ⟨h, g, d, t, os⟩) :
    wpAny (model prog w) A (Builtin.«object.__getattribute__» ⟨[.ref x, .str name tk], []⟩) Q E ⟨h, g, d, t, os⟩ := by
  have hm : mroOf (.type "Exception") = pure excMro := PySem.F.store_Exception.mro
  unfold Builtin.«object.__getattribute__»
  repeat (any_goals (first | assumption | (with_reducible refine wpAny_loadPart_at hx ?_; rw [hc]) | (with_reducible refine wpAny_typeLookup_exc hC hn hm hB ?_; rw [hna]) | wp_step))
  rw [hdt]
  dsimp only
  unfold instanceDict
  repeat (first | (with_reducible refine wpAny_loadPart_at hx ?_; rw [hc]) | with_reducible refine wpAny_loadPart_at hC ?_ | wp_step)
  rw [hdd]
  repeat (first | (with_reducible refine wpAny_nsGet hns ?_; rw [hv]) | wp_step)
  exact hq
theorem exc_ga_check {M : Model} {nameV : Value} {Q : Unit → Shared → Prop} (hC : h.get? C = some (excClassObj nm q C N bs excMro true sn sub ab col dd k0 k1 k2 k3 k5 newId))
    (hx : h.get? x = some o) (hc : o.cls = .ref C) (hq : Q () ⟨h, g, d, t, os⟩) : wpAny M A (checkBuiltinCall "BaseException.__getattribute__" ⟨[.ref x, nameV], []⟩) Q E ⟨h, g, d, t, os⟩ := by
  have hk : builtinKind "BaseException.__getattribute__" = some .slot := by decide +kernel
  have hsplit : splitId "BaseException.__getattribute__" = some ("BaseException", "__getattribute__") := by decide +kernel
  have hcB : (Value.ref C :: excMro).contains (.type "BaseException") = true := by rw [List.contains_cons]; simp [excMro]
  have ha := PySem.F.args_bexc_ga (.ref x) nameV
  simp only [checkBuiltinCall, hk, hsplit]
  refine wpAny_bind ?_
  · unfold isInstance
    repeat (first | (with_reducible refine wpAny_loadPart_at hx ?_; rw [hc]) | (with_reducible refine wpAny_isSubtype_exc hC ?_; rw [hcB]) | wp_step)
    exact hq
theorem exc_get_call {tk : Tok} {R : Result → Shared → Prop} (FB : ExcAttrFacts "Exception") (hC : h.get? C = some (excClassObj nm q C N bs excMro true sn sub ab col dd k0 k1 k2 k3 k5 newId)) (hn : h.Ns N mN) (hna : mN name = none) (hB : typeLookup (.type "Exception") name = pure none)
    (hx : h.get? x = some o) (hc : o.cls = .ref C) (hdt : o.data = .fields vs) (hdd : o.dict = some dx) (hns : h.Ns dx mA) (hv : mA name = some v) (hh : handedOut v = pure v) (hq : R (.ok (.ret v)) ⟨h, g, d, t, os⟩) :
    codeAny (model prog w) A (.call (.builtin "BaseException.__getattribute__") ⟨[.ref x, .str name tk], []⟩) R ⟨h, g, d, t, os⟩ :=
  codeAny_call_builtin FB.ga.plain PySem.F.entry_bexc_ga (exc_ga_check hC hx hc (exc_get_entry hC hn hna hB hx hc hdt hdd hns hv hh hq))
theorem exc_get_by {tk : Tok} {fill expr : Bool} {Q : Value → Shared → Prop} (FB : ExcAttrFacts "Exception") (hG : typeLookup (.type "Exception") "__getattr__" = pure none) (hC : h.get? C = some (excClassObj nm q C N bs excMro true sn sub ab col dd k0 k1 k2 k3 k5 newId)) (hn : h.Ns N mN)
    (hn1 : mN "__getattribute__" = none) (hn2 : mN "__getattr__" = none) (hna : mN name = none) (hB : typeLookup (.type "Exception") name = pure none)
    (hx : h.get? x = some o) (hc : o.cls = .ref C) (hdt : o.data = .fields vs) (hdd : o.dict = some dx) (hns : h.Ns dx mA) (hv : mA name = some v) (hh : handedOut v = pure v) (hq : Q v ⟨h, g, d, t, os⟩) :
    wpAny (model prog w) A (getAttrBy (.ref x) (.str name tk) fill expr) Q E ⟨h, g, d, t, os⟩ := by
  have hm : mroOf (.type "Exception") = pure excMro := PySem.F.store_Exception.mro
  have f3 := FB.ga.bind (.ref x)
  have hx0 : (expr && onTheHeap (Value.builtin "BaseException.__getattribute__")) = false := by cases expr <;> rfl
  have hx2 : (Value.builtin "BaseException.__getattribute__" == Value.builtin "object.__getattribute__") = false := by decide +kernel
  have hx1 : (onTheHeap (Value.ref C) && Value.builtin "BaseException.__getattribute__" == Value.builtin "object.__getattribute__") = false := by rw [hx2]; rfl
  repeat (any_goals (first | assumption | (with_reducible refine wpAny_loadPart_at hx ?_; rw [hc]) | (with_reducible refine wpAny_typeLookup_exc hC hn hm FB.ga.lookup ?_; rw [hn1]) | (with_reducible refine wpAny_typeLookup_exc hC hn hm hG ?_; rw [hn2]) | wp_step))
  refine exc_get_call FB hC hn hna hB hx hc hdt hdd hns hv hh ?_
  repeat (any_goals (first | assumption | wp_step))
theorem exc_get {expr : Bool} {Q : Value → Shared → Prop} (FB : ExcAttrFacts "Exception") (hG : typeLookup (.type "Exception") "__getattr__" = pure none) (hC : h.get? C = some (excClassObj nm q C N bs excMro true sn sub ab col dd k0 k1 k2 k3 k5 newId)) (hn : h.Ns N mN)
    (hn1 : mN "__getattribute__" = none) (hn2 : mN "__getattr__" = none) (hna : mN name = none) (hB : typeLookup (.type "Exception") name = pure none)
    (hx : h.get? x = some o) (hc : o.cls = .ref C) (hdt : o.data = .fields vs) (hdd : o.dict = some dx) (hns : h.Ns dx mA) (hv : mA name = some v) (hh : handedOut v = pure v) (hq : Q v ⟨h, g, d, t + 1, os⟩) :
    wpAny (model prog w) A (getAttr (.ref x) name expr) Q E ⟨h, g, d, t, os⟩ := by
  unfold getAttr
  repeat (any_goals (first | assumption | with_reducible apply exc_get_by FB hG hC hn hn1 hn2 hna hB hx hc hdt hdd hns hv hh | wp_step))
theorem lk_exc_getattr : typeLookup (.type "Exception") "__getattr__" = pure none := by rw [typeLookup_type, builtinLookup_eq_fast]; kernel_rfl
end
theorem enter {S : Sg} {n : Nat} {st : Stmt} (m : Loc) {args : List PV} (ok : DefOk st (m.map (·.1))) (ha : m.map (·.2) = args) {A : Around} {s : Shared} {f : Addr} {vs : List Value} {R : Result → Shared → Prop} (room : Room (n + 1) A) (on : S.On s.heap) (fn : FnAt S st f)
    (hl : vs.length = args.length) {hv : Heap} (hr : ∀ (i : Nat) v pv, vs[i]? = some v → args[i]? = some pv → Rep S hv s.heap v pv) (hvk : ∀ b o, hv.get? b = some o → s.heap.get? b = some o)
    (h : ∀ env h₁ t, At S (stScope st) n (A.deeper env) env → FrameAt S hv env m h₁ → env.locals = s.heap.objs.size → env.frame = some env.locals → (∀ outer, A.frames = some outer → (A.deeper env).frames = some (env :: outer)) → (∀ b o, s.heap.get? b = some o → h₁.get? b = some o) →
      wpAny (model S.prog S.w) (A.deeper env) (execs (stBody st) env) (fun f s' => R (.ok (.ret (match f with | .ret v => v | _ => .none))) s') (fun e s' => wpAny (model S.prog S.w) (A.deeper env) (leaving env e) (fun _ s'' => R (.error e) s'') (fun e' s'' => R (.error e') s'') s') { s with heap := h₁, toks := t }) :
    codeAny (model S.prog S.w) A (.call (.ref f) ⟨vs, []⟩) R s := by
  subst ha
  obtain ⟨o, name, qual, doc, pm, an, cdv, ct, e1, e2, e3⟩ := fn.fd
  have hln : vs.length = (m.map (·.1)).length := by rw [hl]; simp
  have hO := on.x _ _ e1
  have lz : ∀ {α : Type} (l : List Str) (w : List α) x v, (x, v) ∈ l.zip w → x ∈ l := fun l w x v hm => (List.of_mem_zip hm).1
  refine codeAny_call_def (binds := (m.map (·.1)).zip vs) (by have := room.1; omega) hO e2 on.t.nolimit (codeRec_of on.x e3) rfl (.of_eq (ok.bind name qual doc pm an cdv ct vs hln)) ok.cell
    (fun x hx => ok.loc _ (lz _ _ x.1 x.2 hx)) (fun h₁ hns hk₁ => ?_) ok.co ok.gen ok.k
  have F : FrameAt S hv (callEnv (fnX name qual (stArgs st) (stBody st) (stScope st) [] .none .none doc pm an cdv ct) s.heap.objs.size f) m h₁ := by
    refine ⟨⟨_, ⟨hns, fun b o e => hk₁ b o (on.keep b o e), on.size⟩, fun x pv hm => ?_⟩, fun b o z => hk₁ b o (hvk b o z), ?_⟩
    · obtain ⟨i, hi⟩ := List.getElem?_of_mem hm
      have hil : i < vs.length := by rw [hln, List.length_map]; exact (List.getElem?_eq_some_iff.mp hi).1
      have e1 : (m.map (·.1))[i]? = some x := by rw [List.getElem?_map, hi]; rfl
      have e2 : (m.map (·.2))[i]? = some pv := by rw [List.getElem?_map, hi]; rfl
      have e3 : vs[i]? = some vs[i] := List.getElem?_eq_getElem hil
      refine ⟨vs[i], ⟨fun _ => ?_, fun q => ?_⟩, (hr i _ pv e3 e2).keeps hk₁⟩
      · have := bindL_get (kd := fun _ => some .local) (m.map (·.1)) vs (fun _ => none) x i vs[i] ok.nd e1 e3 rfl
        exact (lookup_bindL _ _ ok.nd).trans this
      · have := ok.loc x (List.mem_of_getElem? e1)
        rw [show (stScope st).names.lookup x = some .cell from q] at this
        cases this
    · show hv.get? s.heap.objs.size = none
      cases q : hv.get? s.heap.objs.size with
      | none => rfl
      | some o => exact absurd (Heap.lt_size (hvk _ _ q)) (Nat.lt_irrefl _)
  exact h _ _ _ ⟨room.deeper _, on.ok, ok.k, rfl, rfl, rfl⟩ F rfl rfl (fun outer hfr => Around.frames_deeper hfr) hk₁
structure WExt (fr : List Addr) (s s' : Shared) : Prop where
  keep : ∀ b o, b ∉ fr → s.heap.get? b = some o → s'.heap.get? b = some o
  dk : DKeep fr s.heap s'.heap
  gens : s'.gens = s.gens
  os : s'.os = s.os
theorem Ext.wext {fr : List Addr} {s s' : Shared} (e : Ext s s') : WExt fr s s' := ⟨fun b o _ z => e.keep b o z, fun b o es ep _ z _ => ⟨o.slots, e.keep b o z⟩, e.gens, e.os⟩
theorem WExt.refl {fr : List Addr} (s : Shared) : WExt fr s s := (Ext.refl s).wext
theorem DKeep.trans {fr : List Addr} {a b c : Heap} (x : DKeep fr a b) (y : DKeep fr b c) : DKeep fr a c := fun k o es ep hm z d => by
  obtain ⟨sl, hs⟩ := x k o es ep hm z d
  obtain ⟨sl', hs'⟩ := y k _ es ep hm hs d
  exact ⟨sl', hs'⟩
theorem WExt.trans {fr : List Addr} {a b c : Shared} (x : WExt fr a b) (y : WExt fr b c) : WExt fr a c := ⟨fun b o n z => y.keep b o n (x.keep b o n z), x.dk.trans y.dk, y.gens.trans x.gens, y.os.trans x.os⟩
noncomputable def CallW (S : Sg) (n : Nat) (st : Stmt) (args : List PV) (res : PyData) : Prop :=
  ∀ A s f vs outer hv (R : Result → Shared → Prop), Room n A → S.On s.heap → FnAt S st f → vs.length = args.length → (∀ (i : Nat) v pv, vs[i]? = some v → args[i]? = some pv → Rep S hv s.heap v pv) → (∀ b o, hv.get? b = some o → s.heap.get? b = some o) →
    A.frames = some outer → Stk outer s.heap → (∀ L ∈ frs outer, S.base.get? L = none ∧ hv.get? L = none) → (∀ v s', WExt (frs outer) s s' → Rd s'.heap v res → R (.ok (.ret v)) s') → codeAny (model S.prog S.w) A (.call (.ref f) ⟨vs, []⟩) R s
section
variable {M : Model} {A : Around} {E : Value → Shared → Prop} {s : Shared} {base : Heap} {l : List Env} {e C d : Addr}
theorem exc_again {Q : Unit → Shared → Prop} (x : Fly base l e C d s.heap) (h : ∀ h', Fly base l e C d h' → s.heap.UpToSlots h' → Q () { s with heap := h' }) : wpAny M A (setFlight (.ref e) none) Q E s := by
  obtain ⟨x1, x2, x3, x4⟩ := x
  rcases x4 with x4 | x4
  · obtain ⟨oe, vs, a, b, c, f, g⟩ := id x4
    unfold setFlight
    refine wpAny_bind (wpAny_field a f g ?_)
    rw [if_neg (by decide)]
    exact wpAny_pure (h s.heap ⟨x1, x2, x3, .inl x4⟩ (.refl _))
  · exact exc_land x1 x2 x3 x4 h
end
theorem handed_rd {h : Heap} {v : Value} {x : PyData} (r : Rd h v x) : handedOut v = pure v := by cases r <;> rfl
theorem staysIn_rd {b h : Heap} (k : b.StaysIn h) {v : Value} {x : PyData} (r : Rd b v x) : Rd h v x := Rd.mono (fun a o vs n e _ => k a o e) r
noncomputable abbrev charsOut (b : Int) (cs : List Int) (i : Nat) (c : Option Int) : PyData :=
  match charsErr cs i c with
  | none => charsEditD b cs (charsPlace cs i c) (c.getD 1)
  | some (sym, dat) => .list [.str sym, dat]
theorem charsErr_ok {cs : List Int} {i : Nat} {c : Option Int} (h : charsErr cs i c = none) : UnitsOk cs.length (charsPlace cs i c) (c.getD 1) ∧ c.getD 1 ≠ 0 := by
  unfold charsErr at h
  cases e : unitsErr cs.length (charsPlace cs i c) (c.getD 1) with
  | some s => rw [e] at h; cases h
  | none =>
    rw [e] at h
    simp only at h
    refine ⟨unitsErr_none e, fun q => ?_⟩
    rw [if_pos q] at h
    cases h
section
variable {S : Sg} {b : Int} {cs : List Int} {C : Addr}
theorem ok_law_chars : DefOk (topStmt 105) ["own_view", "place", "count"] := by ktd_rel
theorem s_law_chars (H : KF S) (hL : LispK S C) (hb : 1 ≤ b) (hh : b + cs.length ≤ 1000) (i : Nat) (hi : i ≤ cs.length) (c : Option Int) : CallW S 8 (topStmt 105) [.v b cs, it (b + i), .d (cntD c)] (charsOut b cs i c) := by
  intro A s f vs outer hv R room on fn hl hr' hvk hfr hstk hbase' kk
  have hr : ∀ (i : Nat) v pv, vs[i]? = some v → _ → Rep S s.heap s.heap v pv := fun i v pv ev ep => repUp (hr' i v pv ev ep) hvk fun _ _ e => e
  have hbase := fun L hL => (hbase' L hL).1
  refine enter (n := 7) [("own_view", .v b cs), ("place", it (b + i)), ("count", .d (cntD c))] ok_law_chars rfl room on fn hl hr (fun _ _ e => e) fun env h₁ t at_ F eL eF hfr₁ hk₁ => ?_
  have hfr₁ := hfr₁ outer hfr
  have K : StkAt (A.deeper env) env outer s.heap := ⟨hfr₁, eF, hstk⟩
  have off : ∀ b o, s.heap.get? b = some o → b ≠ env.locals := fun b o z q => by rw [q, eL] at z; exact Nat.lt_irrefl _ (Heap.lt_size z)
  cases e : charsErr cs i c with
  | none =>
    obtain ⟨u1, u2⟩ := charsErr_ok e
    refine wpAny_execs_cons (wpAny_Try_except (toE ?_))
    refine (?X : ExT S 7 (stScope (topStmt 105)) [("own_view", .v b cs), ("place", it (b + i)), ("count", .d (cntD c))] _ (.ret (charsEditD b cs (charsPlace cs i c) (c.getD 1)))) (A.deeper env) s.heap env _ _ at_ F fun fl s' x o => ?_
    case X => exact ExT.stop (StT.ret (EvT.call3 H.f_chars_edit (by kwd_rel) (by kwd_rel) (by kwd_rel) (s_chars_edit H hb hh i hi c u1 u2).up (by kernel_rfl))) trivial
    obtain ⟨v, rfl, r⟩ := o
    exact kk v s' (Ext.wext ⟨fun b o z => x.keep b o (off b o z) (hk₁ b o z), x.gens, x.os⟩) (by rw [charsOut, e]; exact r)
  | some p =>
    obtain ⟨sym, dat⟩ := p
    refine wpAny_execs_cons (wpAny_Try_except (wpAny_execs_cons (wpAny_Return_some ?_)))
    refine wpAny_mono ((?X : EvX S 7 (stScope (topStmt 105)) [("own_view", .v b cs), ("place", it (b + i)), ("count", .d (cntD c))] _ sym dat) (A.deeper env) s.heap env outer _ _ at_ F K fun x s' r => ?_) (fun _ _ (x : False) => x.elim) fun _ _ x => x
    case X => exact EvX.call3 H.f_chars_edit (by kwd_rel) (by kwd_rel) (by kwd_rel) (x_chars_edit H hL hb hh i hi c e).up (by kernel_rfl)
    refine r.elim fun ex C' d B mA v1 v2 hx hL' fl kB nB n1 n2 r1 r2 gn os' dk => ?_
    subst hx
    refine hL'.exc.elim fun nm q N bs sn sub ab col dd k0 k1 k2 k3 k5 mN fI c1 c2 c3 c4 c5 c6 c7 c8 c9 => ?_
    have L0 : ∀ b o, s.heap.get? b = some o → b ∉ frs outer → B.get? b = some o := fun b o z y => kB b o (hk₁ b o z) fun hm => by
      obtain ⟨env', hm, hf⟩ := List.mem_filterMap.mp hm
      rcases List.mem_cons.mp hm with rfl | hm
      · rw [eF] at hf; cases hf
        exact off _ o z rfl
      · exact y (List.mem_filterMap.mpr ⟨env', hm, hf⟩)
    have LB : ∀ b o, S.base.get? b = some o → B.get? b = some o := fun b o z => L0 b o (on.keep b o z) fun hm => by rw [hbase b hm] at z; cases z
    have bl : B.get? env.locals = none := by
      obtain ⟨_, ⟨L, o, z1, z2, _⟩, _⟩ := fl.2.2.1
      rw [eF] at z1
      cases z1
      exact z2
    obtain ⟨mv, f₁, r₁⟩ := F.fr
    obtain ⟨oL, esL, epL, l1, l2, l3⟩ := f₁.ns
    have ns' : s'.heap.Ns env.locals mv := by
      obtain ⟨sl, hs⟩ := dk _ oL esL epL (List.mem_filterMap.mpr ⟨env, .head _, eF⟩) l1 l2
      exact ⟨_, esL, epL, hs, l2, l3⟩
    refine exc_note hfr₁ eF fl fun h₂ y₂ u₂ => ?_
    refine exc_land (s := { s' with heap := h₂ }) y₂.1 y₂.2.1 y₂.2.2.1 y₂.2.2.2 fun h₃ y₃ u₃ => ?_
    have hC₃ := y₃.1 _ _ (LB _ _ c1)
    obtain ⟨oe₃, vs₃, a1, a2, a3, a4⟩ := y₃.there
    obtain ⟨hp', g', d', tk', os''⟩ := s'
    refine wpAny_handleBy_cons (codeAny_handlers_test ?_) (by intro q; cases q)
    refine PySem.Calls.Name_function_global at_.fn (at_.of (by kernel_rfl)) (PySem.Calls.loadGlobal_global (by rw [at_.gl]; exact on.ok.tb.g.keeps fun b o z => y₃.1 b o (LB b o z)) (mg_of on.ok.k on.ok.tb.g hL'.name) ?_) (by decide +kernel)
    refine wpAny_excMatches_sub_self hC₃ a1 a2 (by simp [excMro]) ?_
    refine codeAny_handlers_suite_as (exc_again (s := ⟨h₃, g', d', tk', os''⟩) y₃ fun h₄ y₄ u₄ => ?_)
    have up : hp'.UpToSlots h₄ := (u₂.trans u₃).trans u₄
    have ns₄ := up.ns ns'
    refine wpAny_storeName_local (at_.of (by kernel_rfl)) ns₄ (fun h₅ ns₅ sb₅ => ?_) (at_.plain _ _)
    have k₅ : ∀ b o, B.get? b = some o → h₅.get? b = some o := fun b o z => (sb₅.2 b (fun q => by rw [q, bl] at z; cases z)).trans (y₄.1 b o z)
    obtain ⟨oe, ws, b1, b2, b3, b4⟩ := y₄.there
    have eb : ex ≠ env.locals := fun q => by
      obtain ⟨o', es', ep', z1, z2, _⟩ := ns₄
      rw [← q, b1] at z1
      cases z1
      rw [b4] at z2
      cases z2
    have ex₅ : h₅.get? ex = some oe := (sb₅.2 ex eb).trans b1
    have hC₅ := k₅ _ _ (LB _ _ c1)
    have hN₅ := (c2.keeps LB).keeps k₅
    have nd₅ := nB.keeps k₅
    have get1 := fun (A' : Around) (tk : Nat) (Q : Value → Shared → Prop) (E : Value → Shared → Prop) hq => exc_get (prog := S.prog) (w := S.w) (A := A') (E := E) (g := g') (d := d') (t := tk) (os := os'') (expr := true) (Q := Q) PySem.F.attr_Exception lk_exc_getattr hC₅ hN₅ c8 c9 c6 lk_exc_symbol ex₅ b2 b4 b3 nd₅ n1 (handed_rd r1) hq
    have get2 := fun (A' : Around) (tk : Nat) (Q : Value → Shared → Prop) (E : Value → Shared → Prop) hq => exc_get (prog := S.prog) (w := S.w) (A := A') (E := E) (g := g') (d := d') (t := tk) (os := os'') (expr := true) (Q := Q) PySem.F.attr_Exception lk_exc_getattr hC₅ hN₅ c8 c9 c7 lk_exc_data ex₅ b2 b4 b3 nd₅ n2 (handed_rd r2) hq
    refine wpAny_execs_cons (wpAny_Return_some (List_ (spliced_more (Attribute_any_ (wpAny_Name (wpAny_loadName_local at_.fn (at_.of (by kernel_rfl)) ns₅ (by rw [if_pos rfl]) (get1 _ _ _ _ ?_)) (by decide +kernel)) (by with_unfolding_all rfl)) (by with_unfolding_all rfl))))
    refine spliced_more (Attribute_any_ (wpAny_Name (wpAny_loadName_local at_.fn (at_.of (by kernel_rfl)) ns₅ (by rw [if_pos rfl]) (get2 _ _ _ _ ?_)) (by decide +kernel)) (by with_unfolding_all rfl)) (by with_unfolding_all rfl)
    refine spliced_none ?_
    refine toE (newSeq (T := "list") (vs := [v1, v2]) (by simp) ?_)
    have loc : (h₅.push { cls := .type "list", dict := none, data := .seq [v1, v2].toArray }).Ns env.locals _ := ns₅.keeps fun _ _ z => Heap.get?_push_of_some _ z
    refine wpAny_nameGoes (at_.of (by kernel_rfl)) loc (at_.plain _ _) fun h₇ m₇ ns₇ sb₇ => ?_
    have k₇ : ∀ b o, B.get? b = some o → h₇.get? b = some o := fun b o z => (sb₇.2 b (fun q => by rw [q, bl] at z; cases z)).trans (Heap.get?_push_of_some _ (k₅ b o z))
    have nl : h₅.objs.size ≠ env.locals := fun q => by
      obtain ⟨o', es', ep', z1, _⟩ := ns₅
      rw [← q] at z1
      exact Nat.lt_irrefl _ (Heap.lt_size z1)
    refine kk _ _ ⟨fun b o y z => k₇ b o (L0 b o z y), fun b o es ep hm z y => ?_, gn, os'⟩ ?_
    · have ne := off _ _ z
      obtain ⟨env', hm', hf'⟩ := List.mem_filterMap.mp hm
      obtain ⟨sl, hs⟩ := dk b o es ep (List.mem_filterMap.mpr ⟨env', .tail _ hm', hf'⟩) (hk₁ b o z) y
      obtain ⟨sl', hs'⟩ := up b _ hs fun vs q => by rw [show ({ o with slots := sl } : Obj).data = o.data from rfl, y] at q; cases q
      exact ⟨sl', (sb₇.2 b ne).trans (Heap.get?_push_of_some _ ((sb₅.2 b ne).trans hs'))⟩
    · rw [charsOut, e]
      have q1 : Rd h₇ v1 (.str sym) := Rd.mono (fun a o vs n z _ => k₇ a o z) r1
      have q2 : Rd h₇ v2 dat := Rd.mono (fun a o vs n z _ => k₇ a o z) r2
      have q3 := RdAll.cons q1 (RdAll.cons q2 .nil)
      exact .list ((sb₇.2 _ nl).trans (Heap.get?_push_size _ rfl)) q3.1 q3.2
end
noncomputable def FlatD : PyData → Prop
  | .none | .bool _ | .int _ | .str _ => True
  | _ => False
theorem FlatD.rd {x : PyData} (f : FlatD x) {h h' : Heap} {v : Value} (r : Rd h v x) : Rd h' v x := by
  cases r <;> first | exact .none | exact .bool _ | exact .int _ _ | exact .str _ _ | exact f.elim
noncomputable def Flat : PV → Prop
  | .d x => FlatD x
  | _ => True
theorem Flat.rep {S : Sg} {h₀ h h' : Heap} {v : Value} {pv : PV} (f : Flat pv) (r : Rep S h₀ h v pv) : Rep S h₀ h' v pv := by
  cases pv with
  | d x => exact FlatD.rd f r
  | r u => exact r
  | v b cs => exact r
  | o P => exact r
theorem FrameAt.change {S : Sg} {h₀ h h' : Heap} {env : Env} {D : Addr} {m : Loc} (F : FrameAt S h₀ env m h) (hL : env.locals ≠ D) (h0 : h₀.get? D = none) (hb : S.base.get? D = none) (hd : ∀ o, h.get? D = some o → ∀ v, o.data ≠ .cell v)
    (k : ∀ b o, b ≠ D → h.get? b = some o → h'.get? b = some o) (hm : ∀ p ∈ m, ∀ v, Rep S h₀ h v p.2 → Rep S h₀ h' v p.2) : FrameAt S h₀ env m h' := by
  obtain ⟨mv, f, r⟩ := F.fr
  refine ⟨⟨mv, ⟨?_, fun b o e => k b o (fun q => by rw [q, hb] at e; cases e) (f.keep b o e), f.above⟩, fun x pv hmm => ?_⟩, fun b o e => k b o (fun q => by rw [q, h0] at e; cases e) (F.old b o e), F.out⟩
  · obtain ⟨o, es, ep, e, d⟩ := f.ns
    exact ⟨o, es, ep, k _ _ hL e, d⟩
  · obtain ⟨v, e, g⟩ := r x pv hmm
    exact ⟨v, ⟨e.loc, fun q => let ⟨c, p, oc, c1, c2⟩ := e.cell q; ⟨c, p, oc, k _ _ (fun z => hd oc (z ▸ c1) _ c2) c1, c2⟩⟩, hm _ hmm v g⟩
theorem SExt.seqBut {S : Sg} {h₀ : Heap} {env : Env} {m : Loc} {s s' : Shared} (e : SExt env.locals s s') (F : FrameAt S h₀ env m s.heap) (D : Addr) : SeqKept (hideAll s.heap [D]) (hideAll s'.heap [D]) := fun a o vs n z d => by
  have z' := of_hideAll _ z
  refine hideAll_get _ (e.keep a o (fun q => ?_) z') fun hm => ?_
  · obtain ⟨o', es, ep, e', d'⟩ := F.locals
    rw [q, e'] at z'
    cases z'
    rw [d] at d'
    cases d'
  · rw [hideAll_none [D] hm] at z
    cases z
theorem hid_off {h : Heap} {D b : Addr} {o : Obj} (e : h.get? b = some o) (n : b ≠ D) : (hideAll h [D]).get? b = some o := hideAll_get _ e fun hm => n (List.mem_singleton.mp hm)
noncomputable def whT : Stmt → PySem.Expr
  | .While t _ _ _ => t
  | _ => .Constant .none 0 default
noncomputable def whB : Stmt → List Stmt
  | .While _ b _ _ => b
  | _ => []
noncomputable def trLoop : Stmt := (stBody (topStmt 72)).getD 2 (.Pass default)
noncomputable def trF (cs : List Int) : Nat → Nat → List (Nat × Nat)
  | 0, _ => []
  | k + 1, l => (if blanksBegin cs l < l then [(blanksBegin cs l, l)] else []) ++ (if l < cs.length then trF cs k (lineEnd cs (l + 1)) else [])
theorem trF_len (cs : List Int) : ∀ (k l : Nat), (trF cs k l).length ≤ k
  | 0, _ => Nat.le_refl _
  | k + 1, l => by
    have := trF_len cs k (lineEnd cs (l + 1))
    unfold trF
    rw [List.length_append]
    split <;> split <;> simp <;> omega
section
variable {S : Sg} {b : Int} {cs : List Int}
noncomputable abbrev trM (b : Int) (cs : List Int) (D : Addr) (l : Int) : Loc := [("view", .v b cs), ("start", it b), ("end", it (b + cs.length)), ("found", .r (.ref D)), ("last", it l)]
noncomputable abbrev trN (b : Int) (cs : List Int) (D : Addr) (l f : Int) : Loc := [("view", .v b cs), ("start", it b), ("end", it (b + cs.length)), ("found", .r (.ref D)), ("last", it l), ("first", it f)]
noncomputable def trLast : Stmt := (whB trLoop).getD 2 (.Pass default)
theorem tr_loop (H : KF S) (hb : 1 ≤ b) : ∀ (k l : Nat) (xs : List PyData) A h₀ env s D vs nn (R : Result → Shared → Prop), l ≤ cs.length → cs.length - l < k → xs.length + k ≤ 1000 → At S (stScope (topStmt 72)) 5 A env →
    FrameAt S h₀ env (trM b cs D (b + l)) s.heap → s.heap.get? D = some { cls := .type "list", dict := none, data := .seq vs nn, slots := #[] } → RdAll (hideAll s.heap [D]) vs.toList xs → h₀.get? D = none → S.base.get? D = none → env.locals ≠ D →
    (∀ s' vs' nn', (∀ a o, a ≠ env.locals → a ≠ D → s.heap.get? a = some o → s'.heap.get? a = some o) → s'.gens = s.gens → s'.os = s.os → FrameAt S h₀ env [("found", .r (.ref D))] s'.heap → s'.heap.get? D = some { cls := .type "list", dict := none, data := .seq vs' nn', slots := #[] } →
      RdAll (hideAll s'.heap [D]) vs'.toList (xs ++ (trF cs k l).map fun e => editD b e.1 e.2) → R (.ok .next) s') →
    codeAny (model S.prog S.w) A (.whileLoop (whT trLoop) (whB trLoop) [] env) R s
  | 0, l, _, _, _, _, _, _, _, _, _, _, h, _, _, _, _, _, _, _, _, _ => by omega
  | k + 1, l, xs, A, h₀, env, s, D, vs, nn, R, hl, hk, hx, at_, F, hD, hr, h0, hb0, hL, kk => by
    have turn : ∀ (l' : Int) (s₁ : Shared), (b + cs.length < l') → FrameAt S h₀ env (trM b cs D l') s₁.heap → (∀ s₂, Ext s₁ s₂ → FrameAt S h₀ env (trM b cs D l') s₂.heap → R (.ok .next) s₂) → codeAny (model S.prog S.w) A (.whileLoop (whT trLoop) (whB trLoop) [] env) R s₁ := fun l' s₁ hl' F₁ k₁ => by
      refine while_turn ((?T : TrT S 5 (stScope (topStmt 72)) (trM b cs D l') _ false) A h₀ env s₁ _ at_ F₁ fun s₂ e₂ => ?_)
      case T => exact TrT.icmp (by kwd_rel) (by kwd_rel) (by kwd_less)
      simp only [Bool.false_eq_true, if_false]
      exact wpAny_execs_nil (k₁ s₂ e₂ (F₁.keeps e₂.keep))
    have hbl := blanksBegin_le (cs := cs) l
    refine while_turn ((?T : TrT S 5 (stScope (topStmt 72)) (trM b cs D (b + l)) _ true) A h₀ env s _ at_ F fun s₁ e₁ => ?_)
    case T => exact TrT.icmp (by kwd_rel) (by kwd_rel) (by kwd_less)
    simp only [if_true]
    have F₁ := F.keeps e₁.keep
    refine wpAny_execs_cons ((?X : StT S 5 (stScope (topStmt 72)) (trM b cs D (b + l)) _ (.next (trN b cs D (b + l) (b + blanksBegin cs l)))) A h₀ env s₁ _ at_ F₁ fun fl s₂ e₂ o₂ => ?_)
    case X => exact StT.asg (by kaf_suf) (EvT.max2 H.b_max (by kwd_rel) (EvT.call2 H.f_blanks_begin (by kwd_rel) (by kwd_rel) (s_blanks_begin H l hl).up (by kernel_rfl)) (by kernel_rfl)) (by split <;> omega) (by kernel_rfl)
    obtain ⟨rfl, F₂⟩ := o₂
    have x₂ : SExt env.locals s s₂ := e₁.sExt.trans e₂
    have hD₂ := x₂.keep D _ (Ne.symm hL) hD
    have hr₂ := hr.mono (x₂.seqBut F D)
    refine wpAny_execs_cons (wpAny_If ((?Y : TrT S 5 (stScope (topStmt 72)) (trN b cs D (b + l) (b + blanksBegin cs l)) _ (decide (blanksBegin cs l < l))) A h₀ env s₂ _ at_ F₂ fun s₃ e₃ => ?_))
    case Y => exact TrT.icmp (by kwd_rel) (by kwd_rel) (by kwd_less)
    have F₃ := F₂.keeps e₃.keep
    have hD₃ := e₃.keep _ _ hD₂
    have hr₃ := hr₂.mono (e₃.sExt.seqBut F₂ D)
    have x₃ := x₂.trans e₃.sExt
    -- the turn's end
    have fin : ∀ s₄ vs' nn' xs', xs'.length + k ≤ 1000 → (∀ a o, a ≠ env.locals → a ≠ D → s.heap.get? a = some o → s₄.heap.get? a = some o) → s₄.gens = s.gens → s₄.os = s.os → FrameAt S h₀ env (trN b cs D (b + l) (b + blanksBegin cs l)) s₄.heap → s₄.heap.get? D = some { cls := .type "list", dict := none, data := .seq vs' nn', slots := #[] } →
        RdAll (hideAll s₄.heap [D]) vs'.toList xs' → xs' = xs ++ (if blanksBegin cs l < l then [(blanksBegin cs l, l)] else []).map (fun e => editD b e.1 e.2) →
        wpAny (model S.prog S.w) A (execs [trLast] env) (fun f s₃ => match f with
            | .next | .cont => codeAny (model S.prog S.w) A (.whileLoop (whT trLoop) (whB trLoop) [] env) R s₃
            | .brk => R (.ok .next) s₃
            | .ret v => R (.ok (.ret v)) s₃) NoE s₄ := fun s₄ vs' nn' xs' hxl k₄ g₄ o₄ F₄ hD₄ hr₄ hxs => by
      by_cases hlt : l < cs.length
      · refine wpAny_execs_cons ((?Z : StT S 5 (stScope (topStmt 72)) (trN b cs D (b + l) (b + blanksBegin cs l)) _ (.next (trN b cs D (b + lineEnd cs (l + 1)) (b + blanksBegin cs l)))) A h₀ env s₄ _ at_ F₄ fun fl s₅ e₅ o₅ => ?_)
        case Z => 
          refine StT.assign (EvT.ifexp (b := true) (TrT.icmp (by kwd_rel) (by kwd_rel) (by kwd_less)) ?_) (by kaf_suf) (by kernel_rfl)
          simp only [if_true]
          exact EvT.call2 H.f_line_end (by kwd_rel) (EvT.castI (y := b + (l + 1 : Nat)) (by kwd_rel) (by omega)) (s_line_end H (l + 1) hlt).up (by kernel_rfl)
        obtain ⟨rfl, F₅⟩ := o₅
        refine wpAny_execs_nil ?_
        have q1 := lineEnd_ge (cs := cs) (l + 1)
        have q2 := lineEnd_le (cs := cs) (l + 1) hlt
        refine tr_loop H hb k (lineEnd cs (l + 1)) xs' A h₀ env s₅ D vs' nn' R q2 (by omega) hxl at_ (F₅.drop (by krn_off)) (e₅.keep D _ (Ne.symm hL) hD₄) (hr₄.mono (e₅.seqBut F₄ D)) h0 hb0 hL fun s₆ vs₆ nn₆ k₆ g₆ o₆ F₆ hD₆ hr₆ => ?_
        refine kk s₆ vs₆ nn₆ (fun a o na nd z => k₆ a o na nd (e₅.keep a o na (k₄ a o na nd z))) (g₆.trans (e₅.gens.trans g₄)) (o₆.trans (e₅.os.trans o₄)) F₆ hD₆ ?_
        rw [trF, if_pos hlt, List.map_append, ← List.append_assoc, ← hxs]
        exact hr₆
      · refine wpAny_execs_cons ((?Z : StT S 5 (stScope (topStmt 72)) (trN b cs D (b + l) (b + blanksBegin cs l)) _ (.next (trN b cs D (b + cs.length + 1) (b + blanksBegin cs l)))) A h₀ env s₄ _ at_ F₄ fun fl s₅ e₅ o₅ => ?_)
        case Z => 
          refine StT.assign (EvT.ifexp (b := false) (TrT.icmp (by kwd_rel) (by kwd_rel) (by kwd_less)) ?_) (by kaf_suf) (by kernel_rfl)
          simp only [Bool.false_eq_true, if_false]
          kwd_rel
        obtain ⟨rfl, F₅⟩ := o₅
        refine wpAny_execs_nil (turn (b + cs.length + 1) s₅ (by omega) (F₅.drop (by krn_off)) fun s₆ e₆ F₆ => ?_)
        have x₆ := e₅.trans e₆.sExt
        refine kk s₆ vs' nn' (fun a o na nd z => x₆.keep a o na (k₄ a o na nd z)) (x₆.gens.trans g₄) (x₆.os.trans o₄) (F₆.drop (by krn_off)) (x₆.keep D _ (Ne.symm hL) hD₄) ?_
        rw [trF, if_neg hlt, List.append_nil, ← hxs]
        exact hr₄.mono (x₆.seqBut F₄ D)
    by_cases hbl2 : blanksBegin cs l < l
    · rw [decide_eq_true hbl2]
      simp only [if_true]
      refine wpAny_execs_cons (wpAny_Expr_any ?_ (by unfold interactive; rw [at_.fn]; rfl) (by with_unfolding_all rfl))
      refine MethodCall_ ((?V : EvT S 5 (stScope (topStmt 72)) (trN b cs D (b + l) (b + blanksBegin cs l)) _ (.r (.ref D))) A h₀ env s₃ _ at_ F₃ fun v s₄ e₄ r₄ => ?_) (by with_unfolding_all rfl)
      case V => exact EvT.loc (by kernel_rfl) (by kaf_pre) (by kernel_rfl)
      cases r₄
      have F₄ := F₃.keeps e₄.keep
      have hD₄ := e₄.keep _ _ hD₃
      refine PySem.Calls.getMethod_list_append hD₄ rfl rfl ?_
      refine callWith_method1 (spliced_more (Tuple_ ?_) (by with_unfolding_all rfl)) (by with_unfolding_all rfl) (by with_unfolding_all rfl)
      refine spliced_more ((?V : EvT S 5 (stScope (topStmt 72)) (trN b cs D (b + l) (b + blanksBegin cs l)) _ (it (b + blanksBegin cs l))) A h₀ env s₄ _ at_ F₄ fun v1 s₅ e₅ r₅ => ?_) (by with_unfolding_all rfl)
      case V => kwd_rel
      have F₅ := F₄.keeps e₅.keep
      refine spliced_more ((?V : EvT S 5 (stScope (topStmt 72)) (trN b cs D (b + l) (b + blanksBegin cs l)) _ (it (b + l))) A h₀ env s₅ _ at_ F₅ fun v2 s₆ e₆ r₆ => ?_) (by with_unfolding_all rfl)
      case V => kwd_rel
      have F₆ := F₅.keeps e₆.keep
      have hD₆ := e₆.keep _ _ (e₅.keep _ _ hD₄)
      refine spliced_more (List_ (spliced_none (newSeq (by decide) ?_))) (by with_unfolding_all rfl)
      refine spliced_none (newSeq (by simp) ?_)
      refine spliced_none ?_
      have kp : ∀ (o₁ o₂ : Obj) b o, s₆.heap.get? b = some o → ((s₆.heap.push o₁).push o₂).get? b = some o := fun o₁ o₂ _ _ e => Heap.get?_push_of_some _ (Heap.get?_push_of_some _ e)
      refine append_at (hsz := by rw [← Array.length_toList, hr₃.1, sizeLine_eq]; omega) (kp _ _ _ _ hD₆) fun h₇ sb₇ hD₇ => wpAny_execs_nil ?_
      have nD1 : s₆.heap.objs.size ≠ D := fun q => by rw [← q] at hD₆; exact Nat.lt_irrefl _ (Heap.lt_size hD₆)
      have nD2 : s₆.heap.objs.size + 1 ≠ D := fun q => by rw [← q] at hD₆; exact Nat.lt_irrefl _ (Nat.lt_of_succ_lt (Heap.lt_size hD₆))
      have x₆ : Ext s₃ s₆ := (e₄.trans e₅).trans e₆
      obtain ⟨t1, rfl⟩ := rd_int r₅
      obtain ⟨t2, rfl⟩ := rd_int r₆
      have F₇ := (F₆.keeps (kp _ _)).change (h' := h₇) hL h0 hb0 (fun o z v q => by rw [kp _ _ _ _ hD₆] at z; cases z; cases q) (fun a o na z => (sb₇.2 a na).trans z) (fun p hp v r => by
        refine Flat.rep ?_ r
        have hp' : p.2 = .v b cs ∨ p.2 = it b ∨ p.2 = it (b + cs.length) ∨ p.2 = .r (.ref D) ∨ p.2 = it (b + l) ∨ p.2 = it (b + blanksBegin cs l) := by
          simp only [List.mem_cons, List.not_mem_nil, or_false] at hp
          rcases hp with rfl | rfl | rfl | rfl | rfl | rfl <;> simp
        rcases hp' with e | e | e | e | e | e <;> rw [e] <;> exact trivial)
      refine fin { s₆ with heap := h₇ } _ _ (xs ++ [editD b (blanksBegin cs l) l]) (by rw [List.length_append, List.length_singleton]; omega) (fun a o na nd z => (sb₇.2 a nd).trans (kp _ _ _ _ (x₆.keep _ _ (x₃.keep a o na z)))) (x₆.gens.trans x₃.gens) (x₆.os.trans x₃.os) F₇ hD₇ ?_ (by rw [if_pos hbl2]; rfl)
      have sk : SeqKept (hideAll s₃.heap [D]) (hideAll h₇ [D]) := fun a o vs n z d => by
        have z' := of_hideAll _ z
        have na : a ∉ [D] := fun hm => by rw [hideAll_none [D] hm] at z; cases z
        exact hideAll_get _ ((sb₇.2 a (fun q => na (by rw [q]; exact .head _))).trans (kp _ _ _ _ (x₆.keep _ _ z'))) na
      have lstD : (hideAll h₇ [D]).get? s₆.heap.objs.size = some { cls := .type "list", dict := none, data := .seq #[] } := hid_off ((sb₇.2 _ nD1).trans (Heap.get?_push_of_some _ (Heap.get?_push_size _ rfl))) nD1
      have tupD : (hideAll h₇ [D]).get? (s₆.heap.objs.size + 1) = some { cls := .type "tuple", dict := none, data := .seq [Value.int (b + blanksBegin cs l) t1, Value.int (b + l) t2, .ref s₆.heap.objs.size].toArray } := hid_off ((sb₇.2 _ nD2).trans (by rw [show s₆.heap.objs.size + 1 = (s₆.heap.push _).objs.size from (Heap.size_push ..).symm]; exact Heap.get?_push_size _ rfl)) nD2
      have new : Rd (hideAll h₇ [D]) (.ref (s₆.heap.objs.size + 1)) (editD b (blanksBegin cs l) l) := by
        have q := RdAll.cons (Rd.int (h := hideAll h₇ [D]) (b + blanksBegin cs l) t1) (RdAll.cons (Rd.int (b + l) t2) (RdAll.cons (Rd.list (xs := []) lstD rfl (fun i v x e _ => by simp at e)) .nil))
        exact .tuple tupD q.1 q.2
      have old := hr₃.mono sk
      rw [Array.toList_push]
      refine old.snoc ?_
      show Rd _ (.ref (s₆.heap.push _).objs.size) _
      rw [Heap.size_push]
      exact new
    · rw [decide_eq_false hbl2]
      simp only [Bool.false_eq_true, if_false]
      refine wpAny_execs_nil (fin s₃ vs nn xs (by omega) (fun a o na _ z => x₃.keep a o na z) x₃.gens x₃.os F₃ hD₃ hr₃ ?_)
      rw [if_neg hbl2]
      simp
end
section
variable {S : Sg} {b : Int} {cs : List Int}
noncomputable def trailingEdits (cs : List Int) : List (Nat × Nat) := (trF cs (cs.length + 1) (lineEnd cs 0)).reverse
theorem ok_trailing : DefOk (topStmt 72) ["view", "start", "end"] := by ktd_rel
theorem rd_rev {h : Heap} {vs : List Value} {xs : List PyData} (r : RdAll h vs xs) : RdAll h vs.reverse xs.reverse := by
  refine ⟨by simp [r.1], fun i v x ev ex => ?_⟩
  have hi : i < vs.length := by have := (List.getElem?_eq_some_iff.mp ev).1; simpa using this
  rw [List.getElem?_reverse hi] at ev
  rw [List.getElem?_reverse (by rw [← r.1]; exact hi), ← r.1] at ex
  exact r.2 _ v x ev ex
theorem s_trailing (H : KF S) (hb : 1 ≤ b) (hh : b + cs.length ≤ 1000) : CallT S 6 (topStmt 72) [.v b cs, it b, it (b + cs.length)] (.list ((trailingEdits cs).map fun e => editD b e.1 e.2)) := by
  intro A s f vs R room on fn hl hr kk
  refine enter (n := 5) [("view", .v b cs), ("start", it b), ("end", it (b + cs.length))] ok_trailing rfl room on fn hl hr (fun _ _ e => e) fun env h₁ t at_ F eL eF _ hk₁ => ?_
  have off : ∀ b o, s.heap.get? b = some o → b ≠ env.locals := fun b o z q => by rw [q, eL] at z; exact Nat.lt_irrefl _ (Heap.lt_size z)
  refine toE ?_
  refine wpAny_execs_cons (wpAny_Assign_Name (List_ (spliced_none (newSeq (vs := []) (by simp) ?_))) (by with_unfolding_all rfl))
  have kp : ∀ (o₁ : Obj) b o, h₁.get? b = some o → (h₁.push o₁).get? b = some o := fun o₁ _ _ e => Heap.get?_push_of_some _ e
  have F₁ := F.keeps (kp { cls := .type "list", dict := none, data := .seq #[] })
  obtain ⟨mv, f₁, r₁⟩ := F₁.fr
  have nD : env.locals ≠ h₁.objs.size := fun q => by
    obtain ⟨o, _, _, e, _⟩ := F.locals
    rw [q] at e
    exact Nat.lt_irrefl _ (Heap.lt_size e)
  have hD0 : s.heap.get? h₁.objs.size = none := by
    cases e : s.heap.get? h₁.objs.size with
    | none => rfl
    | some o => exact absurd (Heap.lt_size (hk₁ _ _ e)) (Nat.lt_irrefl _)
  have hDb : S.base.get? h₁.objs.size = none := by
    cases e : S.base.get? h₁.objs.size with
    | none => rfl
    | some o => rw [on.keep _ _ e] at hD0; cases hD0
  refine wpAny_storeName_local (at_.of (by kernel_rfl)) f₁.ns (fun h₂ hn₂ hs₂ => ?_) (at_.plain _ _)
  have F₂ : FrameAt S s.heap env [("view", .v b cs), ("start", it b), ("end", it (b + cs.length)), ("found", .r (.ref h₁.objs.size))] h₂ := F₁.store (pv := .r (.ref h₁.objs.size)) rfl (at_.of (by kernel_rfl)) f₁ r₁ hn₂ hs₂ (by kaf_suf)
  have hD₂ : h₂.get? h₁.objs.size = some { cls := .type "list", dict := none, data := .seq #[] } := (hs₂.2 _ (Ne.symm nD)).trans (Heap.get?_push_size _ rfl)
  refine wpAny_execs_cons ((?X : StT S 5 (stScope (topStmt 72)) [("view", .v b cs), ("start", it b), ("end", it (b + cs.length)), ("found", .r (.ref h₁.objs.size))] _ (.next (trM b cs h₁.objs.size (b + lineEnd cs 0)))) (A.deeper env) s.heap env _ _ at_ F₂ fun fl s₃ e₃ o₃ => ?_)
  case X => exact StT.asgD (by kaf_suf) (EvT.call2 H.f_line_end (by kwd_rel) (EvT.castI (y := b + (0 : Nat)) (by kwd_rel) (by omega)) (s_line_end H 0 (by omega)).up (by kernel_rfl)) (by kernel_rfl)
  obtain ⟨rfl, F₃⟩ := o₃
  refine wpAny_execs_cons (wpAny_While ?_)
  have q2 := lineEnd_le (cs := cs) 0 (Nat.zero_le _)
  refine tr_loop H hb (cs.length + 1) (lineEnd cs 0) [] (A.deeper env) s.heap env s₃ h₁.objs.size #[] 0 _ q2 (by omega) (by simp; omega) at_ F₃ (e₃.keep _ _ (Ne.symm nD) hD₂) .nil hD0 hDb nD fun s₄ vs' nn' k₄ g₄ o₄ F₄ hD₄ hr₄ => ?_
  have hsz : vs'.size ≤ 1000 := by
    have := hr₄.1
    have z := trF_len cs (cs.length + 1) (lineEnd cs 0)
    rw [Array.length_toList] at this
    rw [this]
    simp
    omega
  refine wpAny_execs_cons (wpAny_Return_some (Subscript_ ((?V : EvT S 5 (stScope (topStmt 72)) [("found", .r (.ref h₁.objs.size))] _ (.r (.ref h₁.objs.size))) (A.deeper env) s.heap env s₄ _ at_ F₄ fun v s₅ e₅ r₅ => ?_)))
  case V => exact EvT.loc (by kernel_rfl) (by kaf_pre) (by kernel_rfl)
  cases r₅
  have hD₅ := e₅.keep _ _ hD₄
  have hr₅ := hr₄.mono (e₅.sExt.seqBut F₄ h₁.objs.size)
  refine wpAny_Slice (wpAny_evalPart_none (wpAny_evalPart_none (wpAny_evalPart_some ?_)))
  refine EvT.neg (S := S) (n := 5) (sc := stScope (topStmt 72)) (m := [("found", .r (.ref h₁.objs.size))]) (A.deeper env) s.heap env s₅ _ at_ (F₄.keeps e₅.keep) fun st s₆ e₆ r₆ => ?_
  obtain ⟨t6, rfl⟩ := rd_int r₆
  have hD₆ := e₆.keep _ _ hD₅
  have hr₆ := hr₅.mono (e₆.sExt.seqBut (F₄.keeps e₅.keep) h₁.objs.size)
  have hl₇ : (s₆.heap.push { cls := .type "slice", data := .fields #[.none, .none, .int (-1) t6] }).IsList h₁.objs.size vs' := ⟨_, Heap.get?_push_of_some _ hD₆, rfl, _, rfl⟩
  refine subscriptTail_ops (T := "list") ⟨_, Heap.get?_push_of_some _ hD₆, rfl⟩ list_getitem_lookup (ops := [.ref h₁.objs.size, .ref s₆.heap.objs.size]) (wpAny_getItem_list_slice hl₇ ⟨_, Heap.get?_push_size _ rfl, rfl, rfl⟩ .none .none (.int (-1) t6) (by decide) ?_ (by rw [sizeLine_eq]; omega)) (by with_unfolding_all rfl) (by intro _; with_unfolding_all rfl)
  rw [krv_pick]
  have last : ∀ (o₁ o₂ : Obj) b o, s₆.heap.get? b = some o → ((s₆.heap.push o₁).push o₂).get? b = some o := fun o₁ o₂ _ _ e => Heap.get?_push_of_some _ (Heap.get?_push_of_some _ e)
  refine kk _ _ ⟨fun a o z => last _ _ a o (e₆.keep _ _ (e₅.keep _ _ (k₄ a o (off a o z) (fun q => by rw [q, hD0] at z; cases z) (e₃.keep a o (off a o z) ((hs₂.2 a (off a o z)).trans (kp _ _ _ (hk₁ a o z))))))), ?_, ?_⟩ ?_
  · exact e₆.gens.trans (e₅.gens.trans (g₄.trans e₃.gens))
  · exact e₆.os.trans (e₅.os.trans (o₄.trans e₃.os))
  · have q := rd_rev hr₆
    rw [List.nil_append, ← List.map_reverse] at q
    have sk : ∀ o₁ o₂ : Obj, SeqKept (hideAll s₆.heap [h₁.objs.size]) ((s₆.heap.push o₁).push o₂) := fun o₁ o₂ a o vs n z d => last o₁ o₂ a o (of_hideAll _ z)
    have q' := q.mono (sk { cls := .type "slice", data := .fields #[.none, .none, .int (-1) t6] } { cls := .type "list", data := .seq vs'.toList.reverse.toArray })
    exact .list (Heap.get?_push_size _ rfl) q'.1 q'.2
end
section
variable {S : Sg} {b : Int} {cs : List Int}
noncomputable def placesR (cs : List Int) (i : Nat) (count tenths : Int) : List Nat :=
  [lineStart cs i, lineEnd cs i, (linesTarget cs i count).1, sentencesTarget cs i count, paragraphsTarget cs i count, oneBackward cs (oneForward cs i), oneForward cs i, clampR cs.length (i + 3 * count), beginTarget cs tenths, endTarget cs tenths, lineNumberTarget cs count, (placeAt cs i (2 + tenths)).1]
theorem ok_law_places : DefOk (topStmt 103) ["own_view", "place", "count", "tenths"] := by ktd_rel
theorem EvsT.one {n : Nat} {sc : Scope} {m : Loc} {x : PySem.Expr} {pv : PV} (h : EvT S n sc m x pv) (he : ∀ env, starEach [x] env = [(false, eval x env)] := by intro _; with_unfolding_all rfl) : EvsT S n sc m [x] [pv] :=
  EvsT.cons h .nil (fun env => by rw [he]; rfl)
theorem s_law_places (H : KF S) (hb : 1 ≤ b) (hh : b + cs.length ≤ 1000) (i : Nat) (hi : i ≤ cs.length) (count tenths : Int) (c0 : -3 ≤ count) (c1 : count ≤ 3) (t0 : 0 ≤ tenths) (t1 : tenths ≤ 10) :
    CallT S 11 (topStmt 103) [.v b cs, it (b + i), it count, it tenths] (.list ((placesR cs i count tenths).map fun p : Nat => .int (b + p))) := by
  refine CallT.mk [("own_view", .v b cs), ("place", it (b + i)), ("count", it count), ("tenths", it tenths)] ok_law_places rfl ?_
  have hl : cs.length ≤ 1000 := by omega
  refine ExT.stop (StT.ret (EvT.lst (xs := (placesR cs i count tenths).map fun p : Nat => .int (b + p)) ?_ (by simp [placesR]))) trivial
  refine EvsT.cons (EvT.call2 H.f_line_start (by kwd_rel) (by kwd_rel) (s_line_start H i hi).up (by kernel_rfl)) ?_
  refine EvsT.cons (EvT.call2 H.f_line_end (by kwd_rel) (by kwd_rel) (s_line_end H i hi).up (by kernel_rfl)) ?_
  refine EvsT.cons (EvT.item (k := 0) (i := 0) (EvT.call3 H.f_lines_target (by kwd_rel) (by kwd_rel) (by kwd_rel) (s_lines_target H hb i hi count).up (by kernel_rfl)) EvT.int rfl (by decide) rfl) ?_
  refine EvsT.cons (EvT.call3 H.f_sentences_target (by kwd_rel) (by kwd_rel) (by kwd_rel) (s_sentences_target H hb hh i hi count (by omega) (by omega)).up (by kernel_rfl)) ?_
  refine EvsT.cons (EvT.call3 H.f_paragraphs_target (by kwd_rel) (by kwd_rel) (by kwd_rel) (s_paragraphs_target H hb i hi count (by omega) (by omega)).up (by kernel_rfl)) ?_
  refine EvsT.cons (EvT.item (k := 0) (i := 0) (EvT.call2 H.f_paragraph_bounds (by kwd_rel) (by kwd_rel) (s_paragraph_bounds H hb i hi).up (by kernel_rfl)) EvT.int rfl (by decide) rfl) ?_
  refine EvsT.cons (EvT.item (k := 1) (i := 1) (EvT.call2 H.f_paragraph_bounds (by kwd_rel) (by kwd_rel) (s_paragraph_bounds H hb i hi).up (by kernel_rfl)) EvT.int rfl (by decide) rfl) ?_
  refine EvsT.cons (EvT.item (k := 0) (i := 0) (EvT.call3 H.f_chars_target (by kwd_rel) (by kwd_rel) (EvT.mulS (by kwd_rel) (by kwd_rel) (by decide) (by decide)) (s_chars_target H i (3 * count)).up (by kernel_rfl)) EvT.int rfl (by decide) rfl) ?_
  refine EvsT.cons (EvT.call2 H.f_begin_target (by kwd_rel) (by kwd_rel) (s_begin_target H hb hl tenths t0 t1).up (by kernel_rfl)) ?_
  refine EvsT.cons (EvT.call2 H.f_end_target (by kwd_rel) (by kwd_rel) (s_end_target H hb hl tenths t0 t1).up (by kernel_rfl)) ?_
  refine EvsT.cons (EvT.call2 H.f_line_number_target (by kwd_rel) (by kwd_rel) (s_line_number_target H hb count).up (by kernel_rfl)) ?_
  exact EvsT.one (EvT.item (k := 0) (i := 0) (EvT.call4 H.f_place_at (by kwd_rel) (by kwd_rel) (by kwd_rel) (by kwd_rel) (s_place_at H i hi (2 + tenths)).up (by kernel_rfl)) EvT.int rfl (by decide) rfl)
end
structure StkW (S : Sg) (A : Around) (env : Env) (outer : List Env) (h₀ h : Heap) : Prop where
  frames : A.frames = some (env :: outer)
  frame : env.frame = some env.locals
  stk : Stk (env :: outer) h
  off : ∀ L ∈ frs outer, S.base.get? L = none ∧ h₀.get? L = none
theorem Stk.dk {l : List Env} {h h' : Heap} (x : Stk l h) (d : DKeep (frs l) h h') : Stk l h' := fun env hm => by
  obtain ⟨a, L, o, es, ep, b, c, e⟩ := x env hm
  obtain ⟨sl, hs⟩ := d L o es ep (List.mem_filterMap.mpr ⟨env, hm, b⟩) c e
  exact ⟨a, L, _, es, ep, b, hs, e⟩
theorem Stk.dict {l : List Env} {h : Heap} (x : Stk l h) {b : Addr} (hb : b ∈ frs l) : ∃ o es ep, h.get? b = some o ∧ o.data = .dict es ep := by
  obtain ⟨env', hm, hf⟩ := List.mem_filterMap.mp hb
  obtain ⟨_, L, o, es, ep, z1, z2, z3⟩ := x env' hm
  rw [z1] at hf
  cases hf
  exact ⟨o, es, ep, z2, z3⟩
theorem WExt.seq {l : List Env} {s s' : Shared} (e : WExt (frs l) s s') (x : Stk l s.heap) : SeqKept s.heap s'.heap := fun a o vs n z d => e.keep a o (fun hm => by
  obtain ⟨o', es, ep, z', d'⟩ := x.dict hm
  rw [z] at z'; cases z'
  rw [d] at d'; cases d') z
theorem StkW.wext {S : Sg} {A : Around} {env : Env} {outer : List Env} {h₀ : Heap} {s s' : Shared} (K : StkW S A env outer h₀ s.heap) (e : WExt (frs (env :: outer)) s s') : StkW S A env outer h₀ s'.heap := ⟨K.frames, K.frame, K.stk.dk e.dk, K.off⟩
theorem StkW.keeps {S : Sg} {A : Around} {env : Env} {outer : List Env} {h₀ h h' : Heap} (K : StkW S A env outer h₀ h) (k : ∀ b o, h.get? b = some o → h'.get? b = some o) : StkW S A env outer h₀ h' := ⟨K.frames, K.frame, K.stk.keeps k, K.off⟩
theorem frs_cons {env : Env} {outer : List Env} {L : Addr} (h : env.frame = some L) {b : Addr} : b ∈ frs (env :: outer) ↔ b = L ∨ b ∈ frs outer := by
  unfold frs
  rw [List.filterMap_cons, h]
  simp
theorem FrameAt.wext {S : Sg} {h₀ : Heap} {A : Around} {env : Env} {outer : List Env} {m : Loc} {s s' : Shared} (F : FrameAt S h₀ env m s.heap) (K : StkW S A env outer h₀ s.heap) (e : WExt (frs (env :: outer)) s s') : FrameAt S h₀ env m s'.heap := by
  have sk := e.seq K.stk
  obtain ⟨mv, f, r⟩ := F.fr
  have nb : ∀ b o, S.base.get? b = some o → b ∉ frs (env :: outer) := fun b o z hm => by
    rcases (frs_cons K.frame).mp hm with q | q
    · exact absurd (q ▸ Heap.lt_size z) (Nat.not_lt.mpr f.above)
    · rw [(K.off b q).1] at z; cases z
  have n0 : ∀ b o, h₀.get? b = some o → b ∉ frs (env :: outer) := fun b o z hm => by
    rcases (frs_cons K.frame).mp hm with q | q
    · rw [q, F.out] at z; cases z
    · rw [(K.off b q).2] at z; cases z
  refine ⟨⟨mv, ⟨?_, fun b o z => e.keep b o (nb b o z) (f.keep b o z), f.above⟩, fun x pv hm => ?_⟩, fun b o z => e.keep b o (n0 b o z) (F.old b o z), F.out⟩
  · obtain ⟨o, es, ep, z, d, rest⟩ := f.ns
    obtain ⟨sl, hs⟩ := e.dk _ o es ep ((frs_cons K.frame).mpr (.inl rfl)) z d
    exact ⟨_, es, ep, hs, d, rest⟩
  · obtain ⟨v, hh, g⟩ := r x pv hm
    refine ⟨v, ⟨hh.loc, fun q => let ⟨c, p, oc, c1, c2⟩ := hh.cell q; ⟨c, p, oc, e.keep _ _ (fun hm => ?_) c1, c2⟩⟩, ?_⟩
    · obtain ⟨o', es, ep, z', d'⟩ := K.stk.dict hm
      rw [c1] at z'; cases z'
      rw [c2] at d'; cases d'
    · cases pv with
      | d x => exact Rd.mono sk g
      | r u => exact g
      | v b cs => exact g
      | o P => exact g
noncomputable def EvW (S : Sg) (n : Nat) (sc : Scope) (m : Loc) (e : PySem.Expr) (pv : PV) : Prop :=
  ∀ A h₀ env outer s (Q : Value → Shared → Prop), At S sc n A env → FrameAt S h₀ env m s.heap → StkW S A env outer h₀ s.heap → (∀ v s', WExt (frs (env :: outer)) s s' → Rep S h₀ s'.heap v pv → Q v s') → wpAny (model S.prog S.w) A (eval e env) Q NoE s
section
variable {S : Sg} {n : Nat} {sc : Scope} {m m' : Loc}
theorem CallW.up {k : Nat} {st : Stmt} {args : List PV} {res : PyData} (h : CallW S k st args res) (le : k ≤ n := by decide) : CallW S n st args res :=
  fun A s f vs outer hv R room on fn hl hr hvk hfr hstk hbase kk => h A s f vs outer hv R (room.le le) on fn hl hr hvk hfr hstk hbase kk
theorem EvT.lst3 {a b c : PySem.Expr} {x y z : PyData} {pos : Pos} (h1 : EvT S n sc m a (.d x)) (h2 : EvT S n sc m b (.d y)) (h3 : EvT S n sc m c (.d z)) (s1 : ∀ env, starEach [a, b, c] env = [(false, eval a env), (false, eval b env), (false, eval c env)] := by intro _; with_unfolding_all rfl)
    (s2 : ∀ env, starEach [b, c] env = [(false, eval b env), (false, eval c env)] := by intro _; with_unfolding_all rfl) (s3 : ∀ env, starEach [c] env = [(false, eval c env)] := by intro _; with_unfolding_all rfl) :
    EvT S n sc m (.List [a, b, c] pos) (.d (.list [x, y, z])) := EvT.lst (xs := [x, y, z]) (EvsT.cons h1 (EvsT.cons h2 (EvsT.cons h3 .nil (fun env => by rw [s3]; rfl)) (fun env => by rw [s2, s3])) (fun env => by rw [s1, s2])) (by simp)
theorem EvW.callG {x : Str} {xp pos : Pos} {st : Stmt} {args : List PySem.Expr} {pvs : List PV} {res : PyData} (g : GFn S x st) (ha : EvsT S n sc m args pvs) (c : CallW S n st pvs res) (hx : sc.names.lookup x = some .globalImplicit)
    (hc : ∃ e rest, args = e :: rest ∧ (∀ env, starEach (e :: rest) env = (false, eval e env) :: starEach rest env) ∧ ∀ env pos, (backTo pos (starEach rest env)).any (·.1) = false)
    (he : ∀ env, eval (.Call (.Name x xp) args [] pos) env = (do callWith pos (← eval (.Name x xp) env) [] (backTo pos (starEach args env)) (backToKw pos (keywordEach [] env))) := by intro _; with_unfolding_all rfl)
    (hd : (x == ("__debug__" : Str)) = false := by decide +kernel) : EvW S n sc m (.Call (.Name x xp) args [] pos) (.d res) := by
  intro A h₀ env outer s Q at_ F K k
  obtain ⟨g, e, fn⟩ := g
  refine Call_ (EvT.glob e hx hd A h₀ env s _ at_ F fun v s' e' r => ?_) (he _)
  cases r
  have F' := F.keeps e'.keep
  obtain ⟨e, rest, rfl, he, hp⟩ := hc
  refine callWith_K (K := S.K) at_.ok.k fn.keep (ha A h₀ env pos s' _ at_ F' fun vs s₂ e₂ l r => ⟨((F'.keeps e₂.keep).on at_.ok).x, ?_⟩) (he _) (hp _ _)
  have F₂ := F'.keeps e₂.keep
  have K₂ := K.keeps fun b o z => e₂.keep b o (e'.keep b o z)
  obtain ⟨mv, f, _⟩ := F₂.fr
  refine wpAny_call (c A s₂ g vs (env :: outer) h₀ _ at_.room (F₂.on at_.ok) fn l r F₂.old K.frames K₂.stk (fun L hL => ?_) fun v s₃ x₃ r₃ => k v s₃ ((e'.trans e₂).wext.trans x₃) r₃)
  rcases (frs_cons K.frame).mp hL with q | q
  · refine ⟨?_, q ▸ F.out⟩
    cases z : S.base.get? L with
    | none => rfl
    | some o => exact absurd (q ▸ Heap.lt_size z) (Nat.not_lt.mpr f.above)
  · exact K.off L q
theorem EvW.lst2 {a b : PySem.Expr} {x y : PyData} {pos : Pos} (h1 : EvT S n sc m a (.d x)) (h2 : EvW S n sc m b (.d y)) (s1 : ∀ env, starEach [a, b] env = [(false, eval a env), (false, eval b env)] := by intro _; with_unfolding_all rfl) (s2 : ∀ env, starEach [b] env = [(false, eval b env)] := by intro _; with_unfolding_all rfl) :
    EvW S n sc m (.List [a, b] pos) (.d (.list [x, y])) := by
  intro A h₀ env outer s Q at_ F K k
  refine List_ (spliced_more (h1 A h₀ env s _ at_ F fun v s₁ e₁ r₁ => ?_) (by rw [s1, s2]))
  have K₁ := K.keeps e₁.keep
  refine spliced_more (h2 A h₀ env outer s₁ _ at_ (F.keeps e₁.keep) K₁ fun u s₂ e₂ r₂ => ?_) (by rw [s2]; rfl)
  refine spliced_none (newSeq (by simp) (k _ _ ((e₁.wext.trans e₂).trans (Ext.push _ _).wext) ?_))
  have q1 : Rd s₂.heap v x := Rd.mono (e₂.seq K₁.stk) r₁
  have kk : ∀ b o, s₂.heap.get? b = some o → (s₂.heap.push ({ cls := .type "list", dict := Option.none, data := .seq #[v, u] } : Obj)).get? b = some o := fun _ _ e => Heap.get?_push_of_some _ e
  have q := RdAll.mono (seqKept_of kk) (RdAll.cons q1 (RdAll.cons r₂ .nil))
  exact .list (Heap.get?_push_size _ rfl) q.1 q.2
theorem addL_wp {A : Around} {h₀ : Heap} {s : Shared} {v u : Value} {xs ys : List PyData} {Q : Value → Shared → Prop} (r₁ : Rd s.heap v (.list xs)) (r₂ : Rd s.heap u (.list ys)) (hl : xs.length + ys.length ≤ 10000) (k : ∀ b s', Ext s s' → s.heap.get? b = none → Rd s'.heap (.ref b) (.list (xs ++ ys)) → Q (.ref b) s') :
    wpAny (model S.prog S.w) A (binaryOp .Add v u) Q NoE s := by
  obtain ⟨l, vs, n1, rfl, ho, ra⟩ := rd_list r₁
  obtain ⟨b, ws, n2, rfl, ho2, rb⟩ := rd_list r₂
  have z1 : vs.size = xs.length := by rw [← ra.1, Array.length_toList]
  have z2 : ws.size = ys.length := by rw [← rb.1, Array.length_toList]
  refine concat_meets ⟨_, ho, rfl⟩ ⟨_, ho2, rfl⟩ noFill_list_add seq_list_add PySem.F.slot_list_add PySem.F.entry_list_add (PySem.F.args_list_add_2 _ _) (list_addW l b vs ws n1 n2 Option.none Option.none #[] #[] (by rw [sizeLine_eq]; omega)) ⟨ho, ho2, ?_⟩
  have kk : ∀ b o, s.heap.get? b = some o → (s.heap.push ({ cls := .type "list", dict := Option.none, data := .seq (vs ++ ws) } : Obj)).get? b = some o := fun _ _ e => Heap.get?_push_of_some _ e
  refine k _ { s with heap := _, toks := _ } (.heap kk _) (size_none _) ?_
  refine .list (Heap.get?_push_size _ rfl) (by simp [z1, z2]) fun i v x ev ex => ?_
  simp only [Array.toList_append] at ev
  by_cases hi : i < vs.toList.length
  · rw [List.getElem?_append_left hi] at ev
    rw [List.getElem?_append_left (by rw [← ra.1]; exact hi)] at ex
    exact (ra.2 i v x ev ex).mono (seqKept_of kk)
  · rw [List.getElem?_append_right (by omega)] at ev
    rw [List.getElem?_append_right (by rw [← ra.1]; omega)] at ex
    exact (rb.2 _ v x ev (by rw [ra.1]; exact ex)).mono (seqKept_of kk)
theorem EvW.addL {a b : PySem.Expr} {xs ys : List PyData} {pos : Pos} (ha : EvT S n sc m a (.d (.list xs))) (hb : EvW S n sc m b (.d (.list ys))) (hl : xs.length + ys.length ≤ 10000) : EvW S n sc m (.BinOp a .Add b pos) (.d (.list (xs ++ ys))) := by
  intro A h₀ env outer s Q at_ F K k
  refine wpAny_BinOp (ha A h₀ env s _ at_ F fun v s₁ e₁ r₁ => ?_)
  have K₁ := K.keeps e₁.keep
  refine hb A h₀ env outer s₁ _ at_ (F.keeps e₁.keep) K₁ fun u s₂ e₂ r₂ => ?_
  exact addL_wp (h₀ := h₀) (Rd.mono (e₂.seq K₁.stk) r₁) r₂ hl fun w s₃ e₃ _ r₃ => k _ s₃ ((e₁.wext.trans e₂).trans e₃.wext) r₃
end
section
variable {S : Sg} {b : Int} {cs : List Int} {C : Addr}
noncomputable def othersD (b : Int) (cs : List Int) (i : Nat) (count tenths : Int) : List PyData :=
  (((([.int (linesTarget cs i count).2, .str (charsWord cs.length (i + 3 * count))] ++ [.int (columnAt cs i), .int (indentationAt cs i), .tuple [.int (b + (placeAt cs i tenths).1), .int (placeAt cs i tenths).2]]) ++
    [.list ((blankLinesEdits cs i).map fun e => editD b e.1 e.2), editD b (blanksBegin cs i) (if tenths.fmod 2 == 0 then i else blanksEnd cs i)]) ++
    [.tuple [.int (b + blanksBegin cs i), .int (b + blanksEnd cs i), .list (List.replicate tenths.toNat (.int 32))], .list ((trailingEdits cs).map fun e => editD b e.1 e.2)]) ++
    [linesEditD b (linesEdit cs i (1 + tenths.fmod 3)), charsOut b cs i (if tenths.fmod 2 = 0 then none else some count)])
theorem ok_law_others : DefOk (topStmt 104) ["own_view", "place", "count", "tenths"] := by ktd_rel
theorem s_law_others (H : KF S) (hL : LispK S C) (hb : 1 ≤ b) (hh : b + cs.length ≤ 1000) (i : Nat) (hi : i ≤ cs.length) (count tenths : Int) (c0 : -3 ≤ count) (c1 : count ≤ 3) (t0 : 0 ≤ tenths) (t1 : tenths ≤ 10) :
    CallW S 10 (topStmt 104) [.v b cs, it (b + i), it count, it tenths] (.list (othersD b cs i count tenths)) := by
  intro A s f vs outer hv R room on fn hl hr hvk hfr hstk hbase kk
  refine enter (n := 9) [("own_view", .v b cs), ("place", it (b + i)), ("count", it count), ("tenths", it tenths)] ok_law_others rfl room on fn hl hr hvk fun env h₁ t at_ F eL eF hfr₁ hk₁ => toE ?_
  have hfr₁ := hfr₁ outer hfr
  have off : ∀ b o, s.heap.get? b = some o → b ≠ env.locals := fun b o z q => by rw [q, eL] at z; exact Nat.lt_irrefl _ (Heap.lt_size z)
  have f0 : 0 ≤ tenths.fmod 3 := Int.fmod_nonneg_of_pos _ (by decide)
  have f1 : tenths.fmod 3 < 3 := Int.fmod_lt_of_pos _ (by decide)
  have g0 : 0 ≤ tenths.fmod 2 := Int.fmod_nonneg_of_pos _ (by decide)
  have g1 : tenths.fmod 2 < 2 := Int.fmod_lt_of_pos _ (by decide)
  refine wpAny_execs_cons ((?X : StT S 9 (stScope (topStmt 104)) [("own_view", .v b cs), ("place", it (b + i)), ("count", it count), ("tenths", it tenths)] _ (.next [("own_view", .v b cs), ("place", it (b + i)), ("count", it count), ("tenths", it tenths), ("found", .d (.list [.int (linesTarget cs i count).2, .str (charsWord cs.length (i + 3 * count))]))])) (A.deeper env) hv env _ _ at_ F fun fl s₁ e₁ o₁ => ?_)
  case X => exact StT.asgD (by kaf_suf) (EvT.lst2 (EvT.item (k := 1) (i := 1) (EvT.call3 H.f_lines_target (by kwd_rel) (by kwd_rel) (by kwd_rel) (s_lines_target H hb i hi count).up (by kernel_rfl)) EvT.int rfl (by decide) rfl) (EvT.item (k := 1) (i := 1) (EvT.call3 H.f_chars_target (by kwd_rel) (by kwd_rel) (EvT.mulS (by kwd_rel) (by kwd_rel) (by decide) (by decide)) (s_chars_target H i (3 * count)).up (by kernel_rfl)) EvT.int rfl (by decide) rfl)) (by kernel_rfl)
  obtain ⟨rfl, F₁⟩ := o₁
  refine wpAny_execs_cons ((?X : StT S 9 (stScope (topStmt 104)) [("own_view", .v b cs), ("place", it (b + i)), ("count", it count), ("tenths", it tenths), ("found", .d (.list [.int (linesTarget cs i count).2, .str (charsWord cs.length (i + 3 * count))]))] _ (.next [("own_view", .v b cs), ("place", it (b + i)), ("count", it count), ("tenths", it tenths), ("found", .d (.list ([.int (linesTarget cs i count).2, .str (charsWord cs.length (i + 3 * count))] ++ [.int (columnAt cs i), .int (indentationAt cs i), .tuple [.int (b + (placeAt cs i tenths).1), .int (placeAt cs i tenths).2]])))])) (A.deeper env) hv env _ _ at_ F₁ fun fl s₂ e₂ o₂ => ?_)
  case X => exact StT.asgD (by kaf_suf) (EvT.addL (by kwd_rel) (EvT.lst3 (EvT.call3 H.f_column_at (by kwd_rel) (by kwd_rel) (by kwd_rel) (s_column_at H hb hh i hi).up (by kernel_rfl)) (EvT.call3 H.f_indentation_at (by kwd_rel) (by kwd_rel) (by kwd_rel) (s_indentation_at H i hi).up (by kernel_rfl)) (EvT.call4 H.f_place_at (by kwd_rel) (by kwd_rel) (by kwd_rel) (by kwd_rel) (s_place_at H i hi tenths).up (by kernel_rfl))) (by simp)) (by kernel_rfl)
  obtain ⟨rfl, F₂⟩ := o₂
  refine wpAny_execs_cons ((?X : StT S 9 (stScope (topStmt 104)) [("own_view", .v b cs), ("place", it (b + i)), ("count", it count), ("tenths", it tenths), ("found", .d (.list ([.int (linesTarget cs i count).2, .str (charsWord cs.length (i + 3 * count))] ++ [.int (columnAt cs i), .int (indentationAt cs i), .tuple [.int (b + (placeAt cs i tenths).1), .int (placeAt cs i tenths).2]])))] _ (.next [("own_view", .v b cs), ("place", it (b + i)), ("count", it count), ("tenths", it tenths), ("found", .d (.list (([.int (linesTarget cs i count).2, .str (charsWord cs.length (i + 3 * count))] ++ [.int (columnAt cs i), .int (indentationAt cs i), .tuple [.int (b + (placeAt cs i tenths).1), .int (placeAt cs i tenths).2]]) ++ [.list ((blankLinesEdits cs i).map fun e => editD b e.1 e.2), editD b (blanksBegin cs i) (if tenths.fmod 2 == 0 then i else blanksEnd cs i)])))])) (A.deeper env) hv env _ _ at_ F₂ fun fl s₃ e₃ o₃ => ?_)
  case X => exact StT.asgD (by kaf_suf) (EvT.addL (by kwd_rel) (EvT.lst2 (EvT.call2 H.f_blank_lines_edits (by kwd_rel) (by kwd_rel) (s_blank_lines_edits H hb i hi).up (by kernel_rfl)) (EvT.call3 H.f_horizontal_edit (by kwd_rel) (by kwd_rel) (EvT.icmp (EvT.mod (by kwd_rel) (by kwd_rel) (by decide)) (by kwd_rel)) (s_horizontal_edit H i hi (tenths.fmod 2 == 0)).up (by kernel_rfl))) (by simp)) (by kernel_rfl)
  obtain ⟨rfl, F₃⟩ := o₃
  refine wpAny_execs_cons ((?X : StT S 9 (stScope (topStmt 104)) [("own_view", .v b cs), ("place", it (b + i)), ("count", it count), ("tenths", it tenths), ("found", .d (.list (([.int (linesTarget cs i count).2, .str (charsWord cs.length (i + 3 * count))] ++ [.int (columnAt cs i), .int (indentationAt cs i), .tuple [.int (b + (placeAt cs i tenths).1), .int (placeAt cs i tenths).2]]) ++ [.list ((blankLinesEdits cs i).map fun e => editD b e.1 e.2), editD b (blanksBegin cs i) (if tenths.fmod 2 == 0 then i else blanksEnd cs i)])))] _ (.next [("own_view", .v b cs), ("place", it (b + i)), ("count", it count), ("tenths", it tenths), ("found", .d (.list ((([.int (linesTarget cs i count).2, .str (charsWord cs.length (i + 3 * count))] ++ [.int (columnAt cs i), .int (indentationAt cs i), .tuple [.int (b + (placeAt cs i tenths).1), .int (placeAt cs i tenths).2]]) ++ [.list ((blankLinesEdits cs i).map fun e => editD b e.1 e.2), editD b (blanksBegin cs i) (if tenths.fmod 2 == 0 then i else blanksEnd cs i)]) ++ [.tuple [.int (b + blanksBegin cs i), .int (b + blanksEnd cs i), .list (List.replicate tenths.toNat (.int 32))], .list ((trailingEdits cs).map fun e => editD b e.1 e.2)])))])) (A.deeper env) hv env _ _ at_ F₃ fun fl s₄ e₄ o₄ => ?_)
  case X => exact StT.asgD (by kaf_suf) (EvT.addL (by kwd_rel) (EvT.lst2 (EvT.call3 H.f_just_edit (by kwd_rel) (by kwd_rel) (by kwd_rel) (s_just_edit H i hi tenths (by omega) (by omega)).up (by kernel_rfl)) (EvT.call3 H.f_trailing_edits (by kwd_rel) (by kwd_rel) (by kwd_rel) (s_trailing H hb hh).up (by kernel_rfl))) (by simp)) (by kernel_rfl)
  obtain ⟨rfl, F₄⟩ := o₄
  have x₄ := ((e₁.trans e₂).trans e₃).trans e₄
  have K : StkW S (A.deeper env) env outer hv s₄.heap := by
    refine ⟨hfr₁, eF, ?_, hbase⟩
    obtain ⟨o, es, ep, e, d⟩ := F₄.locals
    exact Stk.cons (by rw [at_.fn]; decide) eF e d (fun env' hm => by
      obtain ⟨a, L, o, es, ep, b, c, d⟩ := hstk env' hm
      exact ⟨a, L, o, es, ep, b, x₄.keep _ _ (off _ _ c) (hk₁ _ _ c), d⟩)
  refine wpAny_execs_cons (wpAny_Return_some ((?W : EvW S 9 (stScope (topStmt 104)) [("own_view", .v b cs), ("place", it (b + i)), ("count", it count), ("tenths", it tenths), ("found", .d (.list ((([.int (linesTarget cs i count).2, .str (charsWord cs.length (i + 3 * count))] ++ [.int (columnAt cs i), .int (indentationAt cs i), .tuple [.int (b + (placeAt cs i tenths).1), .int (placeAt cs i tenths).2]]) ++ [.list ((blankLinesEdits cs i).map fun e => editD b e.1 e.2), editD b (blanksBegin cs i) (if tenths.fmod 2 == 0 then i else blanksEnd cs i)]) ++ [.tuple [.int (b + blanksBegin cs i), .int (b + blanksEnd cs i), .list (List.replicate tenths.toNat (.int 32))], .list ((trailingEdits cs).map fun e => editD b e.1 e.2)])))] _ (.d (.list (othersD b cs i count tenths)))) (A.deeper env) hv env outer s₄ _ at_ F₄ K fun v s₅ e₅ r₅ => ?_))
  case W =>
    unfold othersD
    refine EvW.addL (by kwd_rel) (EvW.lst2 (EvT.call3 H.f_lines_edit (by kwd_rel) (by kwd_rel) (EvT.add (by kwd_rel) (EvT.mod (by kwd_rel) (by kwd_rel) (by decide))) (s_lines_edit H hb hh i hi (1 + tenths.fmod 3) (by omega) (by omega)).up (by kernel_rfl)) ?_) (by simp)
    refine EvW.callG H.f_law_chars (EvsT.cons (by kwd_rel) (EvsT.cons (by kwd_rel) (EvsT.one ?_))) (s_law_chars H hL hb hh i hi (if tenths.fmod 2 = 0 then none else some count)).up (by kernel_rfl) ⟨_, _, rfl, fun _ => by with_unfolding_all rfl, fun _ _ => by with_unfolding_all rfl⟩
    refine EvT.itemL (k := (tenths.fmod 2).toNat) (xs := [.none, .int count]) (EvT.lst2 (by kwd_rel) (by kwd_rel)) (EvT.mod (by kwd_rel) (by kwd_rel) (by decide)) (by omega) (by omega) ?_
    have : tenths.fmod 2 = 0 ∨ tenths.fmod 2 = 1 := by omega
    rcases this with e | e <;> rw [e] <;> rfl
  refine kk v s₅ ⟨fun a o n z => e₅.keep a o (fun hm => ?_) (x₄.keep a o (off a o z) (hk₁ a o z)), fun a o es ep hm z d => e₅.dk a o es ep ((frs_cons eF).mpr (.inr hm)) (x₄.keep a o (off a o z) (hk₁ a o z)) d, e₅.gens.trans x₄.gens, e₅.os.trans x₄.os⟩ r₅
  rcases (frs_cons eF).mp hm with q | q
  · exact off a o z q
  · exact n q
end
structure DFn (es : List DictEntry) (f : Str → Option Value) (k : Nat) : Prop where
  ref : es.any (·.refKey) = false
  val : ∀ y, (es.find? (·.key.isStr y)).map (·.val) = f y
  len : es.length ≤ k
noncomputable def updF (f : Str → Option Value) (n : Str) (v : Value) : Str → Option Value := fun y => if y = n then some v else f y
theorem DFn.get {es : List DictEntry} {f : Str → Option Value} {k : Nat} (d : DFn es f k) (y : Str) : getL y es = some (f y) := by
  have v := d.val y
  unfold getL
  cases e : es.find? (·.key.isStr y) with
  | some z => rw [e] at v; simp only [Option.map_some] at v; rw [← v]
  | none => rw [e] at v; simp only [Option.map_none] at v; rw [← v]; simp [d.ref]
theorem isStr_str {x y : Str} {t : Tok} : (Value.str x t).isStr y = decide (x = y) := by
  show (x == y) = _
  exact (by by_cases h : x = y <;> simp [h])
theorem isStr_of {v : Value} {x y : Str} (h : v.isStr x = true) : v.isStr y = decide (x = y) := by
  cases v with
  | str z t =>
    rw [isStr_str] at h ⊢
    rw [of_decide_eq_true h]
  | _ => cases h
theorem putL_find' (name : Str) (hsh : Int) (t : Tok) (v : Value) (y : Str) : ∀ es : List DictEntry, ((putL name hsh (.str name t) v es).find? (·.key.isStr y)).map (·.val) = if y = name then some v else (es.find? (·.key.isStr y)).map (·.val)
  | [] => by
    by_cases h : y = name
    · subst h; simp [putL, isStr_str]
    · simp [putL, isStr_str, Ne.symm h, h]
  | e :: r => by
    have ih := putL_find' name hsh t v y r
    unfold putL
    by_cases hn : e.key.isStr name = true
    · rw [if_pos hn]
      by_cases h : y = name
      · subst h; simp [hn]
      · have := isStr_of (y := y) hn
        simp [this, Ne.symm h, h]
    · rw [if_neg hn]
      by_cases hy : e.key.isStr y = true
      · have h : y ≠ name := fun q => hn (q ▸ hy)
        simp [hy, h]
      · simp only [Bool.not_eq_true] at hy
        simp only [List.find?_cons, hy]
        exact ih
theorem putL_ref (name : Str) (hsh : Int) (t : Tok) (v : Value) : ∀ es : List DictEntry, (putL name hsh (.str name t) v es).any (·.refKey) = es.any (·.refKey)
  | [] => rfl
  | e :: r => by
    unfold putL
    split
    · rfl
    · simp only [List.any_cons, putL_ref name hsh t v r]
theorem putL_len (name : Str) (hsh : Int) (t : Tok) (v : Value) : ∀ es : List DictEntry, (putL name hsh (.str name t) v es).length ≤ es.length + 1
  | [] => Nat.le_refl _
  | e :: r => by
    have := putL_len name hsh t v r
    unfold putL
    split <;> simp <;> omega
theorem DFn.put {es : List DictEntry} {f : Str → Option Value} {k : Nat} (d : DFn es f k) (name : Str) (hsh : Int) (t : Tok) (v : Value) : DFn (putL name hsh (.str name t) v es) (updF f name v) (k + 1) :=
  ⟨(putL_ref ..).trans d.ref, fun y => (putL_find' ..).trans (by rw [d.val]; rfl), Nat.le_trans (putL_len ..) (Nat.succ_le_succ d.len)⟩
theorem putL_old (name : Str) (hsh : Int) (t : Tok) (v : Value) : ∀ es : List DictEntry, es.any (·.key.isStr name) = true → (putL name hsh (.str name t) v es).length = es.length
  | [], h => by cases h
  | e :: r, h => by
    unfold putL
    by_cases hn : e.key.isStr name = true
    · rw [if_pos hn]; simp
    · rw [if_neg hn, List.length_cons, List.length_cons]
      simp only [List.any_cons, Bool.or_eq_true, hn, false_or] at h
      rw [putL_old name hsh t v r (by simpa using h)]
theorem DFn.put' {es : List DictEntry} {f : Str → Option Value} {k : Nat} (d : DFn es f k) (name : Str) (hsh : Int) (t : Tok) (v : Value) : DFn (putL name hsh (.str name t) v es) (updF f name v) (if (f name).isSome then k else k + 1) := by
  refine ⟨(d.put name hsh t v).ref, (d.put name hsh t v).val, ?_⟩
  split
  · rename_i h
    rw [putL_old]
    · exact d.len
    · have := d.val name
      rw [← this, Option.isSome_map] at h
      obtain ⟨z, hz⟩ := Option.isSome_iff_exists.mp h
      exact List.any_eq_true.mpr ⟨z, List.mem_of_find?_eq_some hz, List.find?_some (p := fun e : DictEntry => e.key.isStr name) hz⟩
  · exact (d.put name hsh t v).len
theorem DFn.nil : DFn [] (fun _ => none) 0 := ⟨rfl, fun _ => rfl, Nat.le_refl _⟩
noncomputable def Inst (h : Heap) (x dx C : Addr) (f : Str → Option Value) (k : Nat) : Prop := ∃ ox es n, PySem.W.InstAt h x ox C (some (dictOf es n)) ∧ ox.dict = some dx ∧ DFn es f k
theorem Inst.dict {h : Heap} {x dx C : Addr} {f : Str → Option Value} {k : Nat} (i : Inst h x dx C f k) : ∃ es n, h.get? dx = some (dictOf es n) := by
  obtain ⟨ox, es, n, I, d, D⟩ := i
  have := I.dict
  rw [d] at this
  exact ⟨es, n, this⟩
theorem Inst.keeps {h h' : Heap} {x dx C : Addr} {f : Str → Option Value} {k : Nat} (i : Inst h x dx C f k) (kp : ∀ b o, h.get? b = some o → h'.get? b = some o) : Inst h' x dx C f k := by
  obtain ⟨ox, es, n, I, d, D⟩ := i
  refine ⟨ox, es, n, ⟨kp _ _ I.at_, I.cls, I.no, ?_⟩, d, D⟩
  have z := I.dict
  revert z
  rw [d]
  exact fun z => kp _ _ z
theorem Inst.on {h h' : Heap} {x dx C : Addr} {f : Str → Option Value} {k : Nat} (i : Inst h x dx C f k) (k1 : ∀ o, h.get? x = some o → h'.get? x = some o) (k2 : ∀ o, h.get? dx = some o → h'.get? dx = some o) : Inst h' x dx C f k := by
  obtain ⟨ox, es, n, I, d, D⟩ := i
  refine ⟨ox, es, n, ⟨k1 _ I.at_, I.cls, I.no, ?_⟩, d, D⟩
  have z := I.dict
  revert z
  rw [d]
  exact fun z => k2 _ z
theorem Inst.own {h : Heap} {x dx C : Addr} {f : Str → Option Value} {k : Nat} (i : Inst h x dx C f k) : ∃ es, Own h x C es ∧ ∀ y, getL y es = some (f y) := by
  obtain ⟨ox, es, n, I, d, D⟩ := i
  exact ⟨es, ⟨ox, n, I⟩, D.get⟩
structure SetCls (S : Sg) (C : Addr) (names : List Str) : Prop extends PlainCls S C where
  set : findIn S.K (.ref C) "__setattr__" = some (some (.builtin "object.__setattr__"))
  over : plainOver S.K C = true
  free : ∀ n ∈ names, takerIn S.K C n = some none
noncomputable def allNews (base : Heap) (L : Addr) (h : Heap) : List (Addr × Obj) := (List.range h.objs.size).filterMap fun b => match h.get? b with
  | some o => if b = L ∨ (base.get? b).isSome then none else some (b, o)
  | none => none
theorem mem_allNews {base h : Heap} {L : Addr} {p : Addr × Obj} : p ∈ allNews base L h ↔ h.get? p.1 = some p.2 ∧ p.1 ≠ L ∧ base.get? p.1 = none := by
  unfold allNews
  rw [List.mem_filterMap]
  constructor
  · rintro ⟨b, hb, e⟩
    cases q : h.get? b with
    | none => rw [q] at e; cases e
    | some o =>
      rw [q] at e
      simp only at e
      split at e
      · cases e
      · rename_i c
        cases e
        refine ⟨q, fun z => c (.inl z), ?_⟩
        cases z : base.get? b with
        | none => rfl
        | some _ => exact absurd (.inr (by rw [z]; rfl)) c
  · rintro ⟨a, b, c⟩
    refine ⟨p.1, List.mem_range.mpr (Heap.lt_size a), ?_⟩
    rw [a]
    simp [b, c]
theorem nodup_fm {g : Nat → Option (Addr × Obj)} (hg : ∀ b p, g b = some p → p.1 = b) : ∀ l : List Nat, l.Nodup → ((l.filterMap g).map (·.1)).Nodup
  | [], _ => List.nodup_nil
  | b :: l, nd => by
    have nd' := List.nodup_cons.mp nd
    rw [List.filterMap_cons]
    cases e : g b with
    | none => exact nodup_fm hg l nd'.2
    | some p =>
      simp only [List.map_cons]
      refine List.nodup_cons.mpr ⟨fun hm => ?_, nodup_fm hg l nd'.2⟩
      obtain ⟨q, hq, e1⟩ := List.mem_map.mp hm
      obtain ⟨c, hc, e2⟩ := List.mem_filterMap.mp hq
      have := hg _ _ e2
      have := hg _ _ e
      exact nd'.1 (by rw [← ‹p.1 = b›, ← e1, ‹q.1 = c›]; exact hc)
theorem nodup_allNews {base h : Heap} {L : Addr} : ((allNews base L h).map (·.1)).Nodup := by
  refine nodup_fm (fun b p e => ?_) _ List.nodup_range
  cases q : h.get? b with
  | none => rw [q] at e; cases e
  | some o =>
    rw [q] at e
    simp only at e
    split at e
    · cases e
    · cases e; rfl
theorem upd_map {d : Addr} {o o' : Obj} : ∀ {l : List (Addr × Obj)}, (l.map (·.1)).Nodup → (d, o) ∈ l → Upd d o o' l (l.map fun p => if p.1 = d then (d, o') else p)
  | [], _, h => nomatch h
  | p :: l, nd, h => by
    have nd' := List.nodup_cons.mp nd
    rw [List.map_cons]
    rcases List.mem_cons.mp h with q | q
    · subst q
      simp only [if_true]
      have : ∀ r ∈ l, r.1 ≠ d := fun r hr e => nd'.1 (List.mem_map.mpr ⟨r, hr, e⟩)
      have e : (l.map fun p => if p.1 = d then (d, o') else p) = l := by
        conv => rhs; rw [← List.map_id l]
        exact List.map_congr_left fun r hr => by rw [if_neg (this r hr)]; rfl
      rw [e]
      exact .head this
    · have : p.1 ≠ d := fun e => nd'.1 (List.mem_map.mpr ⟨(d, o), q, e.symm⟩)
      rw [if_neg this]
      exact .tail this (upd_map nd'.2 q)
section
variable {S : Sg} {A : Around} {L : Addr} {mv : Str → Option Value} {s : Shared} {x dx C : Addr} {f : Str → Option Value} {k : Nat} {name : Str} {v : Value} {names : List Str}
theorem set_inst {Q : Unit → Shared → Prop} (F : Fr S.base L s.heap mv) (ok : S.Ok) (SC : SetCls S C names) (hn : name ∈ names) (I : Inst s.heap x dx C f k) (hd : S.base.get? dx = none) (hL : dx ≠ L) (hx : S.base.get? x = none) (hxL : x ≠ L) (hxd : x ≠ dx) (hk : k ≤ 900)
    (hq : ∀ h' t, (∀ b o, b ≠ L → b ≠ dx → s.heap.get? b = some o → h'.get? b = some o) → Fr S.base L h' mv → Inst h' x dx C (updF f name v) (if (f name).isSome then k else k + 1) → Q () { s with heap := h', toks := t }) :
    wpAny (model S.prog S.w) A (setAttr (.ref x) name v) Q NoE s := by
  obtain ⟨ox, es, n, I', d, D⟩ := I
  have hdx : s.heap.get? dx = some (dictOf es n) := by
    have := I'.dict
    rw [d] at this
    exact this
  have D' := D.put' name (PyData.keyHash S.w.params name) (s.toks + 1) v
  refine set_dict (news := allNews S.base L s.heap) F ok.k (fun p hp => mem_allNews.mp hp) I' d SC.set SC.over (SC.free _ hn) SC.dict (by rw [D.get]; rfl) rfl (upd_map nodup_allNews (mem_allNews.mpr ⟨hdx, hL, hd⟩)) (Nat.le_trans D'.len (by split <;> omega)) fun h' F' N' => ?_
  have keep : ∀ b o, b ≠ L → b ≠ dx → s.heap.get? b = some o → h'.get? b = some o := fun b o n1 n2 z => by
    cases q : S.base.get? b with
    | some o' => rw [F.keep _ _ q] at z; cases z; exact F'.keep _ _ q
    | none =>
      have := (N' (b, o) (List.mem_map.mpr ⟨(b, o), mem_allNews.mpr ⟨z, n1, q⟩, by rw [if_neg n2]⟩)).1
      exact this
  refine hq h' _ keep F' ⟨ox, _, putN name es n, ⟨keep _ _ hxL hxd I'.at_, I'.cls, I'.no, ?_⟩, d, D'⟩
  rw [d]
  exact (N' (dx, _) (List.mem_map.mpr ⟨(dx, dictOf es n), mem_allNews.mpr ⟨hdx, hL, hd⟩, by rw [if_pos rfl]⟩)).1
end
theorem too_long {k : Nat} (h : k ≤ 1000) : ¬ (Builtin.List.listTooLong k = true) := fun q => by
  have := of_decide_eq_true q
  rw [sizeLine_eq] at this
  exact absurd (Nat.lt_of_lt_of_le this h) (by decide)
theorem kms_lo_in {a : Int} {n : Nat} (h0 : 0 ≤ a) (h1 : a ≤ n) : kms_lo (some a) n = a.toNat := by
  show (if a < 0 then n - (-a).toNat else min a.toNat n) = _
  rw [if_neg (Int.not_lt.mpr h0), Nat.min_eq_left (Int.toNat_le.mpr h1)]
theorem kms_hi_in {b : Int} {n : Nat} (h0 : 0 ≤ b) (h1 : b ≤ n) : kms_hi (some b) n = b.toNat := by
  show (if b < 0 then n - (-b).toNat else min b.toNat n) = _
  rw [if_neg (Int.not_lt.mpr h0), Nat.min_eq_left (Int.toNat_le.mpr h1)]
section
variable {prog : Program} {w : World} {A : Around} {E : Value → Shared → Prop} {s : Shared}
theorem setSlice_at {l sl b : Addr} {its its2 : Array Value} {n n2 : Nat} {vl vu : Value} {lo hi : Option Int} {Q : Unit → Shared → Prop} (ho : s.heap.get? l = some (listOf its n)) (hs : s.heap.IsSliceOf sl vl vu .none) (pl : IsPart vl lo) (pu : IsPart vu hi)
    (hb : s.heap.get? b = some (listOf its2 n2)) (hne : l ≠ b) (hsz : its.size + its2.size ≤ 1000)
    (hq : ∀ h' n', Heap.SameBut l s.heap h' → h'.get? l = some (listOf (its.extract 0 (kms_lo lo its.size) ++ its2 ++ its.extract (max (kms_lo lo its.size) (kms_hi hi its.size)) its.size) n') → Q () { s with heap := h' }) :
    wpAny (model prog w) A (setItem (.ref l) (.ref sl) (.ref b)) Q E s := by
  have hl : s.heap.IsList l its := PySem.IsL.isList (n := n) ho
  obtain ⟨os, hos, hcs, hds⟩ := id hs
  have hTs : s.TypeIs (.ref sl) "slice" := ⟨os, hos, hcs⟩
  have hTb : s.TypeIs (.ref b) "list" := ⟨_, hb, rfl⟩
  unfold setItem
  try with_reducible refine wpAny_holding ?_
  first | refine wpAny_bind (wpAny_pure ?_) | skip
  refine wpAny_bind (wpAny_sequenceKey hl.typeIs (by decide) ?_)
  refine wpAny_bind (wpAny_callSpecial?_slot (name := Str.ofString "__setitem__") hl.typeIs slot_list_setitem
    (wpAny_call_entry slot_list_setitem hl.typeIs entry_list_setitem ?_ (args_list_setitem _ _ _)))
  show wpAny _ _ (Builtin.List.listSubscript? (.ref sl) >>= _) _ _ s
  refine wpAny_bind ?_
  unfold Builtin.List.listSubscript?
  refine wpAny_bind (wpAny_specialOf hTs slice_no_index ?_)
  simp only [Option.isNone_none, if_true]
  refine wpAny_pure ?_
  show wpAny _ _ (typeOf (.ref sl) >>= _) _ _ s
  refine wpAny_bind (wpAny_typeOf hTs ?_)
  rw [if_neg (by decide)]
  rw [listSliceParts_eq]
  refine wpAny_bind (wpAny_bind (wpAny_field hos hds (x := .none) rfl (wpAny_bind (wpAny_listPart .none ?_))))
  rw [if_neg (show ¬ ((rawPart none == rawInt 0) = true) from Bool.false_ne_true)]
  refine wpAny_bind (wpAny_field hos hds (x := vl) rfl (wpAny_bind (wpAny_listPart pl ?_)))
  refine wpAny_bind (wpAny_field hos hds (x := vu) rfl (wpAny_bind (wpAny_listPart pu (wpAny_pure ?_))))
  rw [if_neg (show ¬ (Builtin.List.listSameRef (.ref l) (.ref b) = true) from by simp [Builtin.List.listSameRef, hne])]
  refine wpAny_bind ?_
  unfold Builtin.List.listAllItems
  refine wpAny_bind (wpAny_typeOf hTb ?_)
  rw [if_pos (by decide)]
  refine wpAny_bind ?_
  unfold Builtin.List.listItems
  refine wpAny_seqItems hb rfl (wpAny_pure ?_)
  refine wpAny_bind (wpAny_bind (wpAny_seqItems ho rfl (wpAny_pure ?_)))
  refine wpAny_bind (wpAny_of_eq (sliceIndices_raw lo hi none its.size (by decide)) ?_)
  rw [kms_bounds]
  simp only [beq_self_eq_true, if_true]
  refine wpAny_bind (wpAny_rule ?_)
  rw [if_neg (show ¬ (Builtin.List.listTooLong (its.size + its2.size) = true) from too_long hsz)]
  unfold Builtin.List.listUpdate
  have up := PySem.IsL.update (n := n) ho fun xs => xs.extract 0 ((kms_lo lo its.size : Nat) : Int).toNat ++ its2 ++ xs.extract (max ((kms_lo lo its.size : Nat) : Int) ((kms_hi hi its.size : Nat) : Int)).toNat
  refine wpAny_bind ?_
  refine wpAny_updateSeq ho rfl ?_
  refine wpAny_bind (wpAny_letGo ?_)
  refine wpAny_pure ⟨_, rfl, ?_⟩
  have e1 : (max ((kms_lo lo its.size : Nat) : Int) ((kms_hi hi its.size : Nat) : Int)).toNat = max (kms_lo lo its.size) (kms_hi hi its.size) := by omega
  rw [e1, Int.toNat_natCast] at up ⊢
  exact wpAny_pure (hq _ _ (Heap.SameBut.update ..) up)
end
structure BX where
  x : Addr
  dx : Addr
  C : Addr
  g : Addr
  dg : Addr
  Cg : Addr
  l : Addr
  ma : Addr
  dma : Addr
  Cm : Addr
  rd : Addr
  ls : Addr
  lc : Addr
  cs : List Int
noncomputable def BX.all (X : BX) : List Addr := [X.x, X.dx, X.g, X.dg, X.l, X.ma, X.dma, X.rd, X.ls, X.lc]
structure BS where
  begv : Int
  zv : Int
  point : Int
  ticks : Int
  ctk : Int
  room : Int
  gst : Int
  gen : Int
  cells : List Int
noncomputable def IsInt (f : Str → Option Value) (n : Str) (i : Int) : Prop := ∃ t, f n = some (.int i t)
structure BufF (X : BX) (D : BS) (f : Str → Option Value) : Prop where
  begv : IsInt f "begv" D.begv
  zv : IsInt f "zv" D.zv
  point : IsInt f "point" D.point
  ticks : IsInt f "ticks" D.ticks
  ctk : IsInt f "codes_ticks" D.ctk
  text : f "text" = some (.ref X.g)
  markers : f "markers" = some (.ref X.ma)
  listeners : f "listeners" = some (.ref X.ls)
  ro : f "is_read_only" = some (.bool false)
  undo : f "undo" = some .none
  props : f "props" = some .none
  overlays : f "overlays" = some .none
  begin : f "begin" = none
  end_ : f "end" = none
  code_at : f "code_at" = none
  size : f "size" = none
  codes : f "codes" = none
  goto : f "goto" = none
  touch : f "touch" = none
structure GapF (X : BX) (D : BS) (f : Str → Option Value) : Prop where
  room : IsInt f "room" D.room
  gst : IsInt f "gap_start" D.gst
  gen : IsInt f "gap_end" D.gen
  cells : f "cells" = some (.ref X.l)
  code : f "code" = none
  codes : f "codes" = none
  size : f "size" = none
  insert : f "insert" = none
  widen : f "widen_gap" = none
  move : f "move_gap" = none
structure MarkF (X : BX) (f : Str → Option Value) : Prop where
  rows : f "rows" = some (.ref X.rd)
  inserted : f "inserted" = none
  numbers : f "numbers" = none
noncomputable def LstAt (h : Heap) (l : Addr) (cs : List Int) : Prop := ∃ vs n, h.get? l = some (W.listOf vs n) ∧ IntsAre vs.toList cs
structure BWAt (X : BX) (D : BS) (h : Heap) : Prop where
  buf : ∃ f, Inst h X.x X.dx X.C f 60 ∧ BufF X D f
  gap : ∃ f, Inst h X.g X.dg X.Cg f 30 ∧ GapF X D f
  cells : LstAt h X.l D.cells
  mark : ∃ f, Inst h X.ma X.dma X.Cm f 10 ∧ MarkF X f
  rows : ∃ n, h.get? X.rd = some (dictOf [] n)
  lis : h.get? X.ls = some (W.listOf #[] 0)
  codes : LstAt h X.lc X.cs
theorem LstAt.on {h h' : Heap} {l : Addr} {cs : List Int} (a : LstAt h l cs) (k : ∀ o, h.get? l = some o → h'.get? l = some o) : LstAt h' l cs := let ⟨vs, n, e, i⟩ := a; ⟨vs, n, k _ e, i⟩
theorem intsAre_rd {h : Heap} {vs : List Value} {cs : List Int} (i : IntsAre vs cs) : RdAll h vs (cs.map .int) := by
  induction i with
  | nil => exact .nil
  | cons n t _ ih => exact .cons (.int n t) ih
theorem rd_intsAre {h : Heap} : ∀ {cs : List Int} {vs : List Value}, RdAll h vs (cs.map .int) → IntsAre vs cs
  | [], vs, r => by rw [RdAll.unnil r]; exact .nil
  | c :: cs, vs, r => by
    obtain ⟨v, vs', rfl, a, b⟩ := RdAll.uncons r
    obtain ⟨t, rfl⟩ := rd_int a
    exact .cons c t (rd_intsAre b)
theorem LstAt.rd {h : Heap} {l : Addr} {cs : List Int} (a : LstAt h l cs) : Rd h (.ref l) (.list (cs.map .int)) := by
  obtain ⟨vs, n, e, i⟩ := a
  have q := intsAre_rd (h := h) i
  exact .list e q.1 q.2
theorem LstAt.of {h : Heap} {v : Value} {cs : List Int} (r : Rd h v (.list (cs.map .int))) : ∃ l, v = .ref l ∧ LstAt h l cs := by
  obtain ⟨l, vs, n, rfl, e, ra⟩ := rd_list r
  exact ⟨l, rfl, vs, n, e, rd_intsAre ra⟩
theorem BWAt.on {X : BX} {D : BS} {h h' : Heap} (b : BWAt X D h) (k : ∀ a ∈ X.all, ∀ o, h.get? a = some o → h'.get? a = some o) : BWAt X D h' := by
  have m : ∀ a, a ∈ X.all ↔ _ := fun a => by unfold BX.all; simp only [List.mem_cons, List.not_mem_nil, or_false]; exact Iff.rfl
  obtain ⟨⟨f, i1, f1⟩, ⟨g, i2, f2⟩, l1, ⟨mf, i3, f3⟩, ⟨n, r⟩, ls, lc⟩ := b
  exact ⟨⟨f, i1.on (k _ ((m _).mpr (by simp))) (k _ ((m _).mpr (by simp))), f1⟩, ⟨g, i2.on (k _ ((m _).mpr (by simp))) (k _ ((m _).mpr (by simp))), f2⟩, l1.on (k _ ((m _).mpr (by simp))),
    ⟨mf, i3.on (k _ ((m _).mpr (by simp))) (k _ ((m _).mpr (by simp))), f3⟩, ⟨n, k _ ((m _).mpr (by simp)) _ r⟩, k _ ((m _).mpr (by simp)) _ ls, lc.on (k _ ((m _).mpr (by simp)))⟩
theorem BWAt.there {X : BX} {D : BS} {h : Heap} (b : BWAt X D h) : ∀ a ∈ X.all, ∃ o, h.get? a = some o := fun a hm => by
  obtain ⟨⟨f, i1, f1⟩, ⟨g, i2, f2⟩, ⟨vs, n1, l1, _⟩, ⟨mf, i3, f3⟩, ⟨n, r⟩, ls, ⟨vs', n2, lc, _⟩⟩ := b
  obtain ⟨es, n, d1⟩ := i1.dict
  obtain ⟨es', n', d2⟩ := i2.dict
  obtain ⟨es'', n'', d3⟩ := i3.dict
  obtain ⟨_, _, _, I1, _⟩ := i1
  obtain ⟨_, _, _, I2, _⟩ := i2
  obtain ⟨_, _, _, I3, _⟩ := i3
  unfold BX.all at hm
  simp only [List.mem_cons, List.not_mem_nil, or_false] at hm
  rcases hm with rfl | rfl | rfl | rfl | rfl | rfl | rfl | rfl | rfl | rfl
  · exact ⟨_, I1.at_⟩
  · exact ⟨_, d1⟩
  · exact ⟨_, I2.at_⟩
  · exact ⟨_, d2⟩
  · exact ⟨_, l1⟩
  · exact ⟨_, I3.at_⟩
  · exact ⟨_, d3⟩
  · exact ⟨_, r⟩
  · exact ⟨_, ls⟩
  · exact ⟨_, lc⟩
structure GapMore (S : Sg) (C : Addr) : Prop where
  no : ∀ n ∈ (["room", "cells", "gap_start", "gap_end"] : List Str), findIn S.K (.ref C) n = some none
  mSize : MethAt S C "size" (inCls 42 1)
  mCodes : MethAt S C "codes" (inCls 42 3)
  mMove : MethAt S C "move_gap" (inCls 42 4)
  mWiden : MethAt S C "widen_gap" (inCls 42 5)
  mInsert : MethAt S C "insert" (inCls 42 6)
structure BufMore (S : Sg) (C : Addr) : Prop where
  no : ∀ n ∈ (["begv", "zv", "point", "ticks", "codes_ticks", "text", "markers", "listeners", "is_read_only", "undo", "props", "overlays"] : List Str), findIn S.K (.ref C) n = some none
  mSize : MethAt S C "size" (inCls 48 5)
  mCodes : MethAt S C "codes" (inCls 48 7)
  mGoto : MethAt S C "goto" (inCls 48 8)
  mTouch : MethAt S C "touch" (inCls 48 12)
structure MarkMore (S : Sg) (C : Addr) : Prop extends PlainCls S C where
  noRows : findIn S.K (.ref C) "rows" = some none
  mNumbers : MethAt S C "numbers" (inCls 44 1)
  mInserted : MethAt S C "inserted" (inCls 44 5)
structure XOk (S : Sg) (X : BX) : Prop where
  bufM : BufMore S X.C
  gapM : GapMore S X.Cg
  markM : MarkMore S X.Cm
  sys : (X.rd == sysModules) = false
  buf : BufCls S X.C
  bset : SetCls S X.C ["begv", "zv", "point", "ticks", "codes_ticks"]
  gap : GapCls S X.Cg
  gset : SetCls S X.Cg ["gap_start", "gap_end"]
  base : ∀ a ∈ X.all, S.base.get? a = none
  nd : X.all.Nodup
inductive MK where
  | fl (x : PyData)
  | ob (p : Addr)
  | cd
noncomputable def MK.st (X : BX) : MK → PV
  | .fl x => .d x
  | .ob p => .r (.ref p)
  | .cd => .r (.ref X.lc)
noncomputable abbrev PAt (X : BX) (D : BS) (a : Addr) : Heap → Value → Prop := fun h v => v = .ref a ∧ BWAt X D h
noncomputable def MK.up (X : BX) (D : BS) : MK → PV
  | .fl x => .d x
  | .ob p => .o (PAt X D p)
  | .cd => .d (.list (X.cs.map .int))
noncomputable def MK.flat : MK → Prop
  | .fl x => FlatD x
  | _ => True
noncomputable abbrev ML := List (Str × MK)
noncomputable def stL (X : BX) (L : ML) : Loc := L.map fun p => (p.1, p.2.st X)
noncomputable def upL (X : BX) (D : BS) (L : ML) : Loc := L.map fun p => (p.1, p.2.up X D)
noncomputable def flatL (L : ML) : Prop := ∀ p ∈ L, p.2.flat
noncomputable abbrev FS (S : Sg) (X : BX) (env : Env) (L : ML) (h : Heap) : Prop := FrameAt S S.base env (stL X L) h
theorem pat_mono {X : BX} {D : BS} {a : Addr} : Mono (PAt X D a) := fun h h' v k o => ⟨o.1, o.2.on fun a _ ob z => k a ob z⟩
theorem FS.lift {S : Sg} {X : BX} {D : BS} {env : Env} {L : ML} {h : Heap} (F : FS S X env L h) (B : BWAt X D h) (hL : env.locals ∉ X.all) : FrameAt S (hideAll h [env.locals]) env (upL X D L) h := by
  obtain ⟨⟨mv, f, r⟩, o, u⟩ := F
  have B' : BWAt X D (hideAll h [env.locals]) := B.on fun a ha ob z => hideAll_get _ z fun hm => hL (List.mem_singleton.mp hm ▸ ha)
  refine ⟨⟨mv, f, fun x pv hm => ?_⟩, fun b o z => of_hideAll _ z, hideAll_none _ (.head _)⟩
  obtain ⟨p, hp, e⟩ := List.mem_map.mp hm
  cases e
  obtain ⟨v, hv, hr⟩ := r p.1 (p.2.st X) (List.mem_map.mpr ⟨p, hp, rfl⟩)
  refine ⟨v, hv, ?_⟩
  obtain ⟨y, k⟩ := p
  cases k with
  | fl x => exact hr
  | ob p => exact ⟨⟨hr, B'⟩, pat_mono⟩
  | cd =>
    have : v = .ref X.lc := hr
    rw [this]
    exact B.codes.rd
structure ChgB (X : BX) (L : Option Addr) (s s' : Shared) : Prop where
  keep : ∀ b o, some b ≠ L → b ≠ X.dx → b ≠ X.dg → b ≠ X.l → s.heap.get? b = some o → s'.heap.get? b = some o
  gens : s'.gens = s.gens
  os : s'.os = s.os
theorem ChgB.trans {X : BX} {L : Option Addr} {a b c : Shared} (x : ChgB X L a b) (y : ChgB X L b c) : ChgB X L a c := ⟨fun k o n1 n2 n3 n4 z => y.keep k o n1 n2 n3 n4 (x.keep k o n1 n2 n3 n4 z), y.gens.trans x.gens, y.os.trans x.os⟩
theorem Ext.chg {X : BX} {L : Option Addr} {s s' : Shared} (e : Ext s s') : ChgB X L s s' := ⟨fun b o _ _ _ _ z => e.keep b o z, e.gens, e.os⟩
theorem SExt.chg {X : BX} {L : Addr} {s s' : Shared} (e : SExt L s s') : ChgB X (some L) s s' := ⟨fun b o n _ _ _ z => e.keep b o (fun q => n (congrArg some q)) z, e.gens, e.os⟩
theorem ChgB.weak {X : BX} {L : Option Addr} {s s' : Shared} (e : ChgB X none s s') : ChgB X L s s' := ⟨fun b o _ n2 n3 n4 z => e.keep b o (fun q => nomatch q) n2 n3 n4 z, e.gens, e.os⟩
theorem BWAt.mutObj {X : BX} {D : BS} {h : Heap} (B : BWAt X D h) {b : Addr} {o : Obj} (e : h.get? b = some o) (c : ∀ v, o.data = .cell v → b ≠ X.dx ∧ b ≠ X.dg ∧ b ≠ X.l) : True := trivial
theorem BWAt.notCell {X : BX} {D : BS} {h : Heap} (B : BWAt X D h) {b : Addr} {o : Obj} {v : Option Value} (e : h.get? b = some o) (hc : o.data = .cell v) : b ≠ X.dx ∧ b ≠ X.dg ∧ b ≠ X.l := by
  obtain ⟨⟨f, i1, f1⟩, ⟨g, i2, f2⟩, ⟨vs, n1, l1, _⟩, _⟩ := B
  obtain ⟨es, n, d1⟩ := i1.dict
  obtain ⟨es', n', d2⟩ := i2.dict
  refine ⟨fun q => ?_, fun q => ?_, fun q => ?_⟩
  · rw [q, d1] at e; cases e; cases hc
  · rw [q, d2] at e; cases e; cases hc
  · rw [q, l1] at e; cases e; cases hc
theorem fs_after {S : Sg} {X : BX} {D : BS} {env : Env} {L : ML} {h h' : Heap} {mv : Str → Option Value} (f : Fr S.base env.locals h mv) (r : ∀ x pv, (x, pv) ∈ stL X L → ∃ v, Has env h mv x v ∧ Rep S S.base h v pv) (f' : Fr S.base env.locals h' mv)
    (k : ∀ b o, b ≠ env.locals → b ≠ X.dx → b ≠ X.dg → b ≠ X.l → h.get? b = some o → h'.get? b = some o) (B : BWAt X D h) (fl : flatL L) (out : S.base.get? env.locals = none) : FS S X env L h' := by
  refine ⟨⟨mv, f', fun x pv hm => ?_⟩, f'.keep, out⟩
  obtain ⟨v, hh, g⟩ := r x pv hm
  refine ⟨v, ⟨hh.loc, fun q => let ⟨c, p, oc, c1, c2⟩ := hh.cell q; ⟨c, p, oc, ?_, c2⟩⟩, ?_⟩
  · obtain ⟨n1, n2, n3⟩ := B.notCell c1 c2
    refine k c oc (fun z => ?_) n1 n2 n3 c1
    obtain ⟨o', es, ep, e', d', _⟩ := f.ns
    rw [z, e'] at c1
    cases c1
    rw [d'] at c2
    cases c2
  · obtain ⟨p, hp, e⟩ := List.mem_map.mp hm
    cases e
    have := fl p hp
    obtain ⟨y, k⟩ := p
    cases k with
    | fl x => exact FlatD.rd this g
    | ob p => exact g
    | cd => exact g
theorem FS.call {S : Sg} {X : BX} {D : BS} {env : Env} {L : ML} {s s' : Shared} (F : FS S X env L s.heap) (B : BWAt X D s.heap) (c : ChgB X none s s') (hL : env.locals ∉ X.all) (hb : ∀ a ∈ X.all, S.base.get? a = none) (fl : flatL L) : FS S X env L s'.heap := by
  have m : ∀ a, a ∈ X.all ↔ _ := fun a => by unfold BX.all; simp only [List.mem_cons, List.not_mem_nil, or_false]; exact Iff.rfl
  have i1 : X.dx ∈ X.all := (m _).mpr (by simp)
  have i2 : X.dg ∈ X.all := (m _).mpr (by simp)
  have i3 : X.l ∈ X.all := (m _).mpr (by simp)
  have kp : ∀ b o, b ∉ X.all → s.heap.get? b = some o → s'.heap.get? b = some o := fun b o n z => c.keep b o (fun q => nomatch q) (fun q => n (q ▸ i1)) (fun q => n (q ▸ i2)) (fun q => n (q ▸ i3)) z
  obtain ⟨⟨mv, f, r⟩, o, u⟩ := F
  refine fs_after f r ⟨?_, fun b o z => kp b o (fun hm => by rw [hb b hm] at z; cases z) (f.keep b o z), f.above⟩ (fun b o _ n1 n2 n3 z => c.keep b o (fun q => nomatch q) n1 n2 n3 z) B fl u
  obtain ⟨oL, es, ep, z, rest⟩ := f.ns
  exact ⟨oL, es, ep, kp _ _ hL z, rest⟩
theorem in_all {X : BX} : X.x ∈ X.all ∧ X.dx ∈ X.all ∧ X.g ∈ X.all ∧ X.dg ∈ X.all ∧ X.l ∈ X.all ∧ X.ma ∈ X.all ∧ X.dma ∈ X.all ∧ X.rd ∈ X.all ∧ X.ls ∈ X.all ∧ X.lc ∈ X.all := by
  unfold BX.all
  exact ⟨.head _, .tail _ (.head _), .tail _ (.tail _ (.head _)), .tail _ (.tail _ (.tail _ (.head _))), .tail _ (.tail _ (.tail _ (.tail _ (.head _)))), .tail _ (.tail _ (.tail _ (.tail _ (.tail _ (.head _))))), .tail _ (.tail _ (.tail _ (.tail _ (.tail _ (.tail _ (.head _)))))), .tail _ (.tail _ (.tail _ (.tail _ (.tail _ (.tail _ (.tail _ (.head _))))))), .tail _ (.tail _ (.tail _ (.tail _ (.tail _ (.tail _ (.tail _ (.tail _ (.head _)))))))), .tail _ (.tail _ (.tail _ (.tail _ (.tail _ (.tail _ (.tail _ (.tail _ (.tail _ (.head _)))))))))⟩
theorem ne_mem {a b : Addr} {l : List Addr} (h : a ∉ l) (m : b ∈ l) : a ≠ b := fun q => h (q ▸ m)
theorem nd_all {S : Sg} {X : BX} (O : XOk S X) : (X.x ≠ X.dx ∧ X.x ≠ X.dg ∧ X.x ≠ X.l) ∧ (X.g ≠ X.dx ∧ X.g ≠ X.dg ∧ X.g ≠ X.l) ∧ (X.ma ≠ X.dx ∧ X.ma ≠ X.dg ∧ X.ma ≠ X.l) ∧ (X.dma ≠ X.dx ∧ X.dma ≠ X.dg ∧ X.dma ≠ X.l) ∧ (X.rd ≠ X.dx ∧ X.rd ≠ X.dg ∧ X.rd ≠ X.l) ∧ (X.ls ≠ X.dx ∧ X.ls ≠ X.dg ∧ X.ls ≠ X.l) ∧ (X.lc ≠ X.dx ∧ X.lc ≠ X.dg ∧ X.lc ≠ X.l) ∧ (X.dx ≠ X.dg ∧ X.dx ≠ X.l ∧ X.dg ≠ X.l) := by
  have nd := O.nd
  unfold BX.all at nd
  have n1 := List.nodup_cons.mp nd
  have n2 := List.nodup_cons.mp n1.2
  have n3 := List.nodup_cons.mp n2.2
  have n4 := List.nodup_cons.mp n3.2
  have n5 := List.nodup_cons.mp n4.2
  exact ⟨⟨ne_mem n1.1 (.head _), ne_mem n1.1 (.tail _ (.tail _ (.head _))), ne_mem n1.1 (.tail _ (.tail _ (.tail _ (.head _))))⟩, ⟨(ne_mem n2.1 (.head _)).symm, ne_mem n3.1 (.head _), ne_mem n3.1 (.tail _ (.head _))⟩, ⟨(ne_mem n2.1 (.tail _ (.tail _ (.tail _ (.head _))))).symm, (ne_mem n4.1 (.tail _ (.head _))).symm, (ne_mem n5.1 (.head _)).symm⟩, ⟨(ne_mem n2.1 (.tail _ (.tail _ (.tail _ (.tail _ (.head _)))))).symm, (ne_mem n4.1 (.tail _ (.tail _ (.head _)))).symm, (ne_mem n5.1 (.tail _ (.head _))).symm⟩, ⟨(ne_mem n2.1 (.tail _ (.tail _ (.tail _ (.tail _ (.tail _ (.head _))))))).symm, (ne_mem n4.1 (.tail _ (.tail _ (.tail _ (.head _))))).symm, (ne_mem n5.1 (.tail _ (.tail _ (.head _)))).symm⟩, ⟨(ne_mem n2.1 (.tail _ (.tail _ (.tail _ (.tail _ (.tail _ (.tail _ (.head _)))))))).symm, (ne_mem n4.1 (.tail _ (.tail _ (.tail _ (.tail _ (.head _)))))).symm, (ne_mem n5.1 (.tail _ (.tail _ (.tail _ (.head _))))).symm⟩, ⟨(ne_mem n2.1 (.tail _ (.tail _ (.tail _ (.tail _ (.tail _ (.tail _ (.tail _ (.head _))))))))).symm, (ne_mem n4.1 (.tail _ (.tail _ (.tail _ (.tail _ (.tail _ (.head _))))))).symm, (ne_mem n5.1 (.tail _ (.tail _ (.tail _ (.tail _ (.head _)))))).symm⟩, ⟨ne_mem n2.1 (.tail _ (.head _)), ne_mem n2.1 (.tail _ (.tail _ (.head _))), ne_mem n4.1 (.head _)⟩⟩
section
variable {S : Sg} {X : BX} {D D' : BS} {env : Env} {L : ML} {A : Around} {s : Shared} {name : Str} {v : Value}
theorem setB {Q : Unit → Shared → Prop} (O : XOk S X) (ok : S.Ok) (F : FS S X env L s.heap) (fl : flatL L) (B : BWAt X D s.heap) (hL : env.locals ∉ X.all) (hn : name ∈ (["begv", "zv", "point", "ticks", "codes_ticks"] : List Str))
    (up : ∀ f, BufF X D f → (f name).isSome = true ∧ BufF X D' (updF f name v)) (gp : ∀ f, GapF X D f → GapF X D' f) (cl : D'.cells = D.cells)
    (hq : ∀ s', ChgB X (some env.locals) s s' → FS S X env L s'.heap → BWAt X D' s'.heap → Q () s') : wpAny (model S.prog S.w) A (setAttr (.ref X.x) name v) Q NoE s := by
  obtain ⟨i1, i2, i3, i4, i5, i6, i7, i8, i9, i10⟩ := in_all (X := X)
  obtain ⟨⟨a1, a2, a3⟩, ⟨b1, b2, b3⟩, ⟨c1, c2, c3⟩, ⟨d1, d2, d3⟩, ⟨e1, e2, e3⟩, ⟨f1, f2, f3⟩, ⟨g1, g2, g3⟩, h1, h2, h3⟩ := nd_all O
  have ne : ∀ {a : Addr}, a ∈ X.all → a ≠ env.locals := fun ha q => hL (q ▸ ha)
  have B' := B
  obtain ⟨⟨f, ib, fb⟩, ⟨g, ig, fg⟩, cells, ⟨mf, im, fm⟩, ⟨n, rows⟩, lis, codes⟩ := B
  obtain ⟨⟨mv, fr, r⟩, o, u⟩ := F
  refine set_inst fr ok O.bset hn ib (O.base _ i2) (ne i2) (O.base _ i1) (ne i1) a1 (by decide) fun h' t k fr' ib' => ?_
  have kk : ∀ {a : Addr}, a ∈ X.all → a ≠ X.dx → ∀ o, s.heap.get? a = some o → h'.get? a = some o := fun ha n o z => k _ o (ne ha) n z
  rw [if_pos (up f fb).1] at ib'
  refine hq { s with heap := h', toks := t } ⟨fun b o n1 n2 _ _ z => k b o (fun q => n1 (congrArg some q)) n2 z, rfl, rfl⟩ (fs_after fr r fr' (fun b o n1 n2 _ _ z => k b o n1 n2 z) B' fl u) ?_
  exact ⟨⟨_, ib', (up f fb).2⟩, ⟨g, ig.on (kk i3 b1) (kk i4 (Ne.symm h1)), gp g fg⟩, cl ▸ cells.on (kk i5 (Ne.symm h2)), ⟨mf, im.on (kk i6 c1) (kk i7 d1), fm⟩, ⟨n, kk i8 e1 _ rows⟩, kk i9 f1 _ lis, codes.on (kk i10 g1)⟩
theorem setG {Q : Unit → Shared → Prop} (O : XOk S X) (ok : S.Ok) (F : FS S X env L s.heap) (fl : flatL L) (B : BWAt X D s.heap) (hL : env.locals ∉ X.all) (hn : name ∈ (["gap_start", "gap_end"] : List Str))
    (up : ∀ f, GapF X D f → (f name).isSome = true ∧ GapF X D' (updF f name v)) (bp : ∀ f, BufF X D f → BufF X D' f) (cl : D'.cells = D.cells)
    (hq : ∀ s', ChgB X (some env.locals) s s' → FS S X env L s'.heap → BWAt X D' s'.heap → Q () s') : wpAny (model S.prog S.w) A (setAttr (.ref X.g) name v) Q NoE s := by
  obtain ⟨i1, i2, i3, i4, i5, i6, i7, i8, i9, i10⟩ := in_all (X := X)
  obtain ⟨⟨a1, a2, a3⟩, ⟨b1, b2, b3⟩, ⟨c1, c2, c3⟩, ⟨d1, d2, d3⟩, ⟨e1, e2, e3⟩, ⟨f1, f2, f3⟩, ⟨g1, g2, g3⟩, h1, h2, h3⟩ := nd_all O
  have ne : ∀ {a : Addr}, a ∈ X.all → a ≠ env.locals := fun ha q => hL (q ▸ ha)
  have B' := B
  obtain ⟨⟨f, ib, fb⟩, ⟨g, ig, fg⟩, cells, ⟨mf, im, fm⟩, ⟨n, rows⟩, lis, codes⟩ := B
  obtain ⟨⟨mv, fr, r⟩, o, u⟩ := F
  refine set_inst fr ok O.gset hn ig (O.base _ i4) (ne i4) (O.base _ i3) (ne i3) b2 (by decide) fun h' t k fr' ig' => ?_
  have kk : ∀ {a : Addr}, a ∈ X.all → a ≠ X.dg → ∀ o, s.heap.get? a = some o → h'.get? a = some o := fun ha n o z => k _ o (ne ha) n z
  rw [if_pos (up g fg).1] at ig'
  refine hq { s with heap := h', toks := t } ⟨fun b o n1 _ n2 _ z => k b o (fun q => n1 (congrArg some q)) n2 z, rfl, rfl⟩ (fs_after fr r fr' (fun b o n1 _ n2 _ z => k b o n1 n2 z) B' fl u) ?_
  exact ⟨⟨f, ib.on (kk i1 a2) (kk i2 h1), bp f fb⟩, ⟨_, ig', (up g fg).2⟩, cl ▸ cells.on (kk i5 (Ne.symm h3)), ⟨mf, im.on (kk i6 c2) (kk i7 d2), fm⟩, ⟨n, kk i8 e2 _ rows⟩, kk i9 f2 _ lis, codes.on (kk i10 g2)⟩
theorem setL {sl b : Addr} {its2 : Array Value} {n2 : Nat} {vl vu : Value} {lo hi : Option Int} {cs2 : List Int} {Q : Unit → Shared → Prop} (O : XOk S X) (F : FS S X env L s.heap) (fl : flatL L) (B : BWAt X D s.heap) (hL : env.locals ∉ X.all)
    (hs : s.heap.IsSliceOf sl vl vu .none) (pl : IsPart vl lo) (pu : IsPart vu hi) (hb : s.heap.get? b = some (W.listOf its2 n2)) (hi2 : IntsAre its2.toList cs2) (hne : X.l ≠ b) (hsz : D.cells.length + cs2.length ≤ 1000)
    (bp : ∀ f, BufF X D f → BufF X D' f) (gp : ∀ f, GapF X D f → GapF X D' f)
    (cl : D'.cells = D.cells.take (kms_lo lo D.cells.length) ++ cs2 ++ D.cells.drop (max (kms_lo lo D.cells.length) (kms_hi hi D.cells.length)))
    (hq : ∀ s', ChgB X (some env.locals) s s' → FS S X env L s'.heap → BWAt X D' s'.heap → Q () s') : wpAny (model S.prog S.w) A (setItem (.ref X.l) (.ref sl) (.ref b)) Q NoE s := by
  obtain ⟨i1, i2, i3, i4, i5, i6, i7, i8, i9, i10⟩ := in_all (X := X)
  obtain ⟨⟨a1, a2, a3⟩, ⟨b1, b2, b3⟩, ⟨c1, c2, c3⟩, ⟨d1, d2, d3⟩, ⟨e1, e2, e3⟩, ⟨f1, f2, f3⟩, ⟨g1, g2, g3⟩, h1, h2, h3⟩ := nd_all O
  have B' := B
  obtain ⟨⟨f, ib, fb⟩, ⟨g, ig, fg⟩, ⟨vs, nl, lo_, hi_⟩, ⟨mf, im, fm⟩, ⟨n, rows⟩, lis, codes⟩ := B
  obtain ⟨⟨mv, fr, r⟩, o, u⟩ := F
  have z1 : vs.size = D.cells.length := by rw [← Array.length_toList]; exact hi_.length
  have z2 : its2.size = cs2.length := by rw [← Array.length_toList]; exact hi2.length
  refine setSlice_at lo_ hs pl pu hb hne (by omega) fun h' n' k ol' => ?_
  have kk : ∀ {a : Addr}, a ≠ X.l → ∀ o, s.heap.get? a = some o → h'.get? a = some o := fun n o z => (k.2 _ n).trans z
  refine hq { s with heap := h' } ⟨fun b o _ _ _ n2 z => kk n2 o z, rfl, rfl⟩ (fs_after fr r ⟨?_, fun b o z => kk (fun q => ?_) o (fr.keep b o z), fr.above⟩ (fun b o _ _ _ n2 z => kk n2 o z) B' fl u) ?_
  · obtain ⟨oL, es, ep, z, rest⟩ := fr.ns
    exact ⟨oL, es, ep, kk (a := env.locals) (fun q => hL (q ▸ i5)) _ z, rest⟩
  · rw [q, O.base _ i5] at z; cases z
  · refine ⟨⟨f, ib.on (kk a3) (kk h2), bp f fb⟩, ⟨g, ig.on (kk b3) (kk h3), gp g fg⟩, ⟨_, n', ol', ?_⟩, ⟨mf, im.on (kk c3) (kk d3), fm⟩, ⟨n, kk e3 _ rows⟩, kk f3 _ lis, codes.on (kk g3)⟩
    rw [cl, z1]
    have e1 : vs.toList.length = D.cells.length := hi_.length
    simp only [Array.toList_append, Array.toList_extract, Nat.sub_zero, List.drop_zero, List.extract_eq_take_drop]
    refine ((hi_.take _).append hi2).append ?_
    have q := hi_.drop (max (kms_lo lo D.cells.length) (kms_hi hi D.cells.length))
    rwa [List.take_of_length_le (by simp [e1])]
end
inductive OutB where
  | next (L : ML) (D : BS)
  | ret (x : PyData) (D : BS)
noncomputable def OutBR (S : Sg) (X : BX) (env : Env) (fl : Flow) (h : Heap) : OutB → Prop
  | .next L D => fl = .next ∧ FS S X env L h ∧ BWAt X D h
  | .ret x D => ∃ v, fl = .ret v ∧ Rd h v x ∧ BWAt X D h
noncomputable def StB (S : Sg) (X : BX) (n : Nat) (sc : Scope) (L : ML) (D : BS) (st : Stmt) (out : OutB) : Prop :=
  ∀ A env s (Q : Flow → Shared → Prop), At S sc n A env → FS S X env L s.heap → BWAt X D s.heap → env.locals ∉ X.all → (∀ fl s', ChgB X (some env.locals) s s' → OutBR S X env fl s'.heap out → Q fl s') →
    wpAny (model S.prog S.w) A (exec st env) Q NoE s
noncomputable def ExB (S : Sg) (X : BX) (n : Nat) (sc : Scope) (L : ML) (D : BS) (ss : List Stmt) (out : OutB) : Prop :=
  ∀ A env s (Q : Flow → Shared → Prop), At S sc n A env → FS S X env L s.heap → BWAt X D s.heap → env.locals ∉ X.all → (∀ fl s', ChgB X (some env.locals) s s' → OutBR S X env fl s'.heap out → Q fl s') →
    wpAny (model S.prog S.w) A (execs ss env) Q NoE s
noncomputable def CallB (S : Sg) (X : BX) (n : Nat) (st : Stmt) (args : List MK) (D : BS) (res : PyData) (D' : BS) : Prop :=
  ∀ A s f vs (R : Result → Shared → Prop), Room n A → S.On s.heap → FnAt S st f → vs.length = args.length → (∀ (i : Nat) v k, vs[i]? = some v → args[i]? = some k → Rep S S.base s.heap v (k.st X)) → BWAt X D s.heap →
    (∀ v s', ChgB X none s s' → Rd s'.heap v res → BWAt X D' s'.heap → R (.ok (.ret v)) s') → codeAny (model S.prog S.w) A (.call (.ref f) ⟨vs, []⟩) R s
noncomputable def EvB (S : Sg) (X : BX) (n : Nat) (sc : Scope) (L : ML) (D : BS) (e : PySem.Expr) (k : MK) : Prop :=
  ∀ A env s (Q : Value → Shared → Prop), At S sc n A env → FS S X env L s.heap → BWAt X D s.heap → env.locals ∉ X.all → (∀ v s', Ext s s' → Rep S S.base s'.heap v (k.st X) → Q v s') → wpAny (model S.prog S.w) A (eval e env) Q NoE s
noncomputable def EvsB (S : Sg) (X : BX) (n : Nat) (sc : Scope) (L : ML) (D : BS) (es : List PySem.Expr) (ks : List MK) : Prop :=
  ∀ A env pos s (Q : List Value → Shared → Prop), At S sc n A env → FS S X env L s.heap → BWAt X D s.heap → env.locals ∉ X.all →
    (∀ vs s', Ext s s' → vs.length = ks.length → (∀ (i : Nat) v k, vs[i]? = some v → ks[i]? = some k → Rep S S.base s'.heap v (k.st X)) → Q vs s') → wpAny (model S.prog S.w) A (spliced (backTo pos (starEach es env))) Q NoE s
theorem BWAt.keeps {X : BX} {D : BS} {h h' : Heap} (b : BWAt X D h) (k : ∀ a o, h.get? a = some o → h'.get? a = some o) : BWAt X D h' := b.on fun a _ o z => k a o z
section
variable {S : Sg} {X : BX} {n : Nat} {sc : Scope} {L L' : ML} {D D' : BS} {m : Loc}
theorem ExB.nil : ExB S X n sc L D [] (.next L D) := by
  intro A env s Q at_ F B hL k
  exact wpAny_execs_nil (k _ _ (Ext.refl _).chg ⟨rfl, F, B⟩)
theorem ExB.cons {st : Stmt} {rest : List Stmt} {out : OutB} (h : StB S X n sc L D st (.next L' D')) (g : ExB S X n sc L' D' rest out) : ExB S X n sc L D (st :: rest) out := by
  intro A env s Q at_ F B hL k
  refine wpAny_execs_cons (h A env s _ at_ F B hL fun fl s' c o => ?_)
  obtain ⟨rfl, F', B'⟩ := o
  exact g A env s' Q at_ F' B' hL fun fl s'' c' o => k _ _ (c.trans c') o
theorem ExB.stop {st : Stmt} {rest : List Stmt} {x : PyData} (h : StB S X n sc L D st (.ret x D')) : ExB S X n sc L D (st :: rest) (.ret x D') := by
  intro A env s Q at_ F B hL k
  refine wpAny_execs_cons (h A env s _ at_ F B hL fun fl s' c o => ?_)
  have o' := o
  obtain ⟨v, rfl, _⟩ := o'
  exact k _ _ c o
theorem EvB.of {e : PySem.Expr} {x : PyData} (h : EvT S n sc m e (.d x)) (hm : upL X D L = m := by rfl) : EvB S X n sc L D e (.fl x) := by
  subst hm
  intro A env s Q at_ F B hL k
  exact h A _ env s _ at_ (F.lift B hL) fun v s' e r => k v s' e r
theorem EvB.name {x : Str} {pos : Pos} {k : MK} (hm : (x, k) ∈ L) (hx : sc.names.lookup x = some .local) (hd : (x == ("__debug__" : Str)) = false := by decide +kernel) : EvB S X n sc L D (.Name x pos) k := by
  intro A env s Q at_ F B hL kk
  exact EvT.loc (m := stL X L) hx (List.mem_map.mpr ⟨(x, k), hm, rfl⟩) hd A _ env s _ at_ F fun v s' e r => kk v s' e r
theorem EvsB.nil : EvsB S X n sc L D [] [] := by
  intro A env pos s Q at_ F B hL k
  exact spliced_none (k [] s (.refl _) rfl fun i v pv e => by simp at e)
theorem FS.keeps {env : Env} {h h' : Heap} (F : FS S X env L h) (k : ∀ b o, h.get? b = some o → h'.get? b = some o) : FS S X env L h' := FrameAt.keeps F k
theorem EvsB.cons {x : PySem.Expr} {rest : List PySem.Expr} {k : MK} {ks : List MK} (h : EvB S X n sc L D x k) (g : EvsB S X n sc L D rest ks) (he : ∀ env, starEach (x :: rest) env = (false, eval x env) :: starEach rest env := by intro _; with_unfolding_all rfl) :
    EvsB S X n sc L D (x :: rest) (k :: ks) := by
  intro A env pos s Q at_ F B hL kk
  refine spliced_more (h A env s _ at_ F B hL fun v s₁ e₁ r₁ => ?_) (he _)
  refine g A env pos s₁ _ at_ (F.keeps e₁.keep) (B.keeps e₁.keep) hL fun vs s₂ e₂ l₂ r₂ => kk _ _ (e₁.trans e₂) (by simp [l₂]) fun i w pw ew ep => ?_
  cases i with
  | zero => simp at ew ep; subst ew; subst ep; exact r₁.keeps e₂.keep
  | succ i => simp at ew ep; exact r₂ i w pw ew ep
theorem StB.asg {x : Str} {p pos : Pos} {e : PySem.Expr} {y : PyData} (h : EvT S n sc m e (.d y)) (t : SetAt (stL X L) x (.d y) (stL X L')) (hx : sc.names.lookup x = some .local) (hm : upL X D L = m := by rfl)
    (hs : ∀ env, swapsWith e (some (.Name x p)) pos.line env = pure false := by intro _; with_unfolding_all rfl) : StB S X n sc L D (.Assign [.Name x p] e pos) (.next L' D) := by
  subst hm
  intro A env s Q at_ F B hL k
  refine wpAny_Assign_Name (h A _ env s _ at_ (F.lift B hL) fun v s' e r => ?_) (hs _)
  have F' := F.keeps e.keep
  have B' := B.keeps e.keep
  obtain ⟨mv, f', r'⟩ := F'.fr
  refine wpAny_storeName_local (at_.of hx) f'.ns (fun h' hn hs => ?_) (at_.plain _ _)
  refine k _ _ (e.chg.trans (SExt.chg (s := s') ⟨fun b o nb e => (hs.2 b nb).trans e, rfl, rfl⟩)) ⟨rfl, FrameAt.store F' (v := v) (pv := .d y) r (at_.of hx) f' r' hn hs t, B'.on fun a ha o z => (hs.2 a (fun q => hL (q ▸ ha))).trans z⟩
theorem StB.ite {pos : Pos} {t : PySem.Expr} {b : Bool} {body orelse : List Stmt} {out : OutB} (h : TrT S n sc m t b) (g : if b then ExB S X n sc L D body out else ExB S X n sc L D orelse out) (hm : upL X D L = m := by rfl) : StB S X n sc L D (.If t body orelse pos) out := by
  subst hm
  intro A env s Q at_ F B hL k
  refine wpAny_If (h A _ env s _ at_ (F.lift B hL) fun s' e => ?_)
  cases b with
  | true => exact g A env s' Q at_ (F.keeps e.keep) (B.keeps e.keep) hL fun fl s'' c o => k _ _ (e.chg.trans c) o
  | false => exact g A env s' Q at_ (F.keeps e.keep) (B.keeps e.keep) hL fun fl s'' c o => k _ _ (e.chg.trans c) o
theorem StB.ret {pos : Pos} {e : PySem.Expr} {x : PyData} (h : EvT S n sc m e (.d x)) (hm : upL X D L = m := by rfl) : StB S X n sc L D (.Return (some e) pos) (.ret x D) := by
  subst hm
  intro A env s Q at_ F B hL k
  exact wpAny_Return_some (h A _ env s _ at_ (F.lift B hL) fun v s' e r => k _ _ e.chg ⟨v, rfl, r, B.keeps e.keep⟩)
theorem StB.ret0 {pos : Pos} : StB S X n sc L D (.Return none pos) (.ret .none D) := by
  intro A env s Q at_ F B hL k
  exact wpAny_Return_none (k _ _ (Ext.refl _).chg ⟨_, rfl, .none, B⟩)
theorem StB.expr {pos : Pos} {e : PySem.Expr} {pv : PV} (h : EvT S n sc m e pv) (hm : upL X D L = m := by rfl) (hs : ∀ env, swapsWith e none pos.line env = pure false := by intro _; with_unfolding_all rfl) : StB S X n sc L D (.Expr e pos) (.next L D) := by
  subst hm
  intro A env s Q at_ F B hL k
  exact wpAny_Expr_any (h A _ env s _ at_ (F.lift B hL) fun v s' e r => k _ _ e.chg ⟨rfl, F.keeps e.keep, B.keeps e.keep⟩) (by unfold interactive; rw [at_.fn]; rfl) (hs _)
theorem StB.setb {y name : Str} {p q pos : Pos} {e : PySem.Expr} {i : Int} (O : XOk S X) (hy : (y, MK.ob X.x) ∈ L) (hyl : sc.names.lookup y = some .local) (h : EvT S n sc m e (it i)) (fl : flatL L) (hn : name ∈ (["begv", "zv", "point", "ticks", "codes_ticks"] : List Str))
    (up : ∀ f t, BufF X D f → (f name).isSome = true ∧ BufF X D' (updF f name (.int i t))) (gp : ∀ f, GapF X D f → GapF X D' f) (cl : D'.cells = D.cells) (hm : upL X D L = m := by rfl)
    (hs : ∀ env, swapsWith e (some (.Attribute (.Name y p) name q)) pos.line env = pure false := by intro _; with_unfolding_all rfl) (hd : (y == ("__debug__" : Str)) = false := by decide +kernel) : StB S X n sc L D (.Assign [.Attribute (.Name y p) name q] e pos) (.next L D') := by
  subst hm
  intro A env s Q at_ F B hL k
  refine plainObj_wpAny_Assign_Attribute (h A _ env s _ at_ (F.lift B hL) fun v s' e r => ?_) (hs _)
  obtain ⟨t, rfl⟩ := rd_int r
  refine EvB.name hy hyl hd A env s' _ at_ (F.keeps e.keep) (B.keeps e.keep) hL fun u s₂ e₂ r₂ => ?_
  have : u = .ref X.x := r₂
  subst this
  have x := e.trans e₂
  exact setB O at_.ok (F.keeps x.keep) fl (B.keeps x.keep) hL hn (fun f => up f t) gp cl fun s₃ c F₃ B₃ => k _ _ (x.chg.trans c) ⟨rfl, F₃, B₃⟩
theorem StB.setg {y name : Str} {p q pos : Pos} {e : PySem.Expr} {i : Int} (O : XOk S X) (hy : (y, MK.ob X.g) ∈ L) (hyl : sc.names.lookup y = some .local) (h : EvT S n sc m e (it i)) (fl : flatL L) (hn : name ∈ (["gap_start", "gap_end"] : List Str))
    (up : ∀ f t, GapF X D f → (f name).isSome = true ∧ GapF X D' (updF f name (.int i t))) (bp : ∀ f, BufF X D f → BufF X D' f) (cl : D'.cells = D.cells) (hm : upL X D L = m := by rfl)
    (hs : ∀ env, swapsWith e (some (.Attribute (.Name y p) name q)) pos.line env = pure false := by intro _; with_unfolding_all rfl) (hd : (y == ("__debug__" : Str)) = false := by decide +kernel) : StB S X n sc L D (.Assign [.Attribute (.Name y p) name q] e pos) (.next L D') := by
  subst hm
  intro A env s Q at_ F B hL k
  refine plainObj_wpAny_Assign_Attribute (h A _ env s _ at_ (F.lift B hL) fun v s' e r => ?_) (hs _)
  obtain ⟨t, rfl⟩ := rd_int r
  refine EvB.name hy hyl hd A env s' _ at_ (F.keeps e.keep) (B.keeps e.keep) hL fun u s₂ e₂ r₂ => ?_
  have : u = .ref X.g := r₂
  subst this
  have x := e.trans e₂
  exact setG O at_.ok (F.keeps x.keep) fl (B.keeps x.keep) hL hn (fun f => up f t) bp cl fun s₃ c F₃ B₃ => k _ _ (x.chg.trans c) ⟨rfl, F₃, B₃⟩
end
section
variable {S : Sg} {X : BX} {n : Nat} {sc : Scope} {L L' : ML} {D D' : BS} {m : Loc}
theorem callB_core {A : Around} {env : Env} {g : Addr} {pos : Pos} {s : Shared} {st : Stmt} {args : List PySem.Expr} {ks fks : List MK} {first : List Value} {res : PyData} {Q : Value → Shared → Prop} (at_ : At S sc n A env) (F : FS S X env L s.heap) (B : BWAt X D s.heap) (hL : env.locals ∉ X.all)
    (fn : FnAt S st g) (hfl : first.length = fks.length) (hf : ∀ (i : Nat) v k, first[i]? = some v → fks[i]? = some k → Rep S S.base s.heap v (k.st X)) (ha : EvsB S X n sc L D args ks) (c : CallB S X n st (fks ++ ks) D res D')
    (k : ∀ v s', ChgB X (some env.locals) s s' → FS S X env L s'.heap → Rd s'.heap v res → BWAt X D' s'.heap → Q v s') (O : XOk S X) (fl : flatL L)
    (hc : (args = [] ∧ ks = []) ∨ ∃ e rest, args = e :: rest ∧ (∀ env, starEach (e :: rest) env = (false, eval e env) :: starEach rest env) ∧ ∀ env pos, (backTo pos (starEach rest env)).any (·.1) = false) :
    wpAny (model S.prog S.w) A (callWith pos (.ref g) first (backTo pos (starEach args env)) []) Q NoE s := by
  have fin : ∀ vs s', Ext s s' → vs.length = ks.length → (∀ (i : Nat) v k, vs[i]? = some v → ks[i]? = some k → Rep S S.base s'.heap v (k.st X)) → wpAny (model S.prog S.w) A (call (.ref g) (first ++ vs)) Q NoE s' := by
    intro vs s' e l r
    have F' := F.keeps e.keep
    have B' := B.keeps e.keep
    refine wpAny_call (c A s' g (first ++ vs) _ at_.room (FrameAt.on F' at_.ok) fn (by simp [hfl, l]) (fun i v pv ev ep => ?_) B' fun v s'' c' r' b' => k v s'' (e.chg.trans c'.weak) (F'.call B' c' hL O.base fl) r' b')
    by_cases hi : i < first.length
    · rw [List.getElem?_append_left hi] at ev
      rw [List.getElem?_append_left (hfl ▸ hi)] at ep
      exact (hf i v pv ev ep).keeps e.keep
    · rw [List.getElem?_append_right (by omega)] at ev
      rw [List.getElem?_append_right (by omega)] at ep
      exact r _ v pv ev (hfl ▸ ep)
  rcases hc with ⟨rfl, rfl⟩ | ⟨e, rest, rfl, he, hp⟩
  · refine callWith_K0 (K := S.K) (FrameAt.on F at_.ok).x fn.keep ?_
    exact fin [] s (.refl _) rfl fun i v pv e => by simp at e
  · exact callWith_K (K := S.K) at_.ok.k fn.keep (ha A env pos s _ at_ F B hL fun vs s' e l r => ⟨(FrameAt.on (F.keeps e.keep) at_.ok).x, fin vs s' e l r⟩) (he _) (hp _ _)
theorem StB.callG {x : Str} {xp cpos pos : Pos} {st : Stmt} {args : List PySem.Expr} {ks : List MK} {res : PyData} (O : XOk S X) (g : GFn S x st) (ha : EvsB S X n sc L D args ks) (c : CallB S X n st ks D res D') (fl : flatL L) (hx : sc.names.lookup x = some .globalImplicit)
    (hc : ∃ e rest, args = e :: rest ∧ (∀ env, starEach (e :: rest) env = (false, eval e env) :: starEach rest env) ∧ ∀ env pos, (backTo pos (starEach rest env)).any (·.1) = false)
    (he : ∀ env, eval (.Call (.Name x xp) args [] cpos) env = (do callWith cpos (← eval (.Name x xp) env) [] (backTo cpos (starEach args env)) (backToKw cpos (keywordEach [] env))) := by intro _; with_unfolding_all rfl)
    (hd : (x == ("__debug__" : Str)) = false := by decide +kernel) (hs : ∀ env, swapsWith (.Call (.Name x xp) args [] cpos) none pos.line env = pure false := by intro _; with_unfolding_all rfl) :
    StB S X n sc L D (.Expr (.Call (.Name x xp) args [] cpos) pos) (.next L D') := by
  intro A env s Q at_ F B hL k
  obtain ⟨g, e, fn⟩ := g
  refine wpAny_Expr_any (Call_ (EvT.glob (m := stL X L) e hx hd A _ env s _ at_ F fun v s' e' r => ?_) (he _)) (by unfold interactive; rw [at_.fn]; rfl) (hs _)
  cases r
  exact callB_core at_ (F.keeps e'.keep) (B.keeps e'.keep) hL fn (first := []) (fks := []) rfl (fun i v pv e => by simp at e) ha c (fun v s'' c' F' r' b' => k _ _ (e'.chg.trans c') ⟨rfl, F', b'⟩) O fl (.inr hc)
theorem StB.callM {recv : PySem.Expr} {name : Str} {ap cpos pos : Pos} {p dp C : Addr} {st : Stmt} {args : List PySem.Expr} {ks : List MK} {res : PyData} {pl : Env → Sem Bool} (O : XOk S X) (hr : EvB S X n sc L D recv (.ob p)) (cls : PlainCls S C) (mt : MethAt S C name st)
    (look : ∀ h, BWAt X D h → ∃ f k, Inst h p dp C f k ∧ f name = none) (ha : EvsB S X n sc L D args ks) (c : CallB S X n st (.ob p :: ks) D res D') (fl : flatL L)
    (hc : (args = [] ∧ ks = []) ∨ ∃ e rest, args = e :: rest ∧ (∀ env, starEach (e :: rest) env = (false, eval e env) :: starEach rest env) ∧ ∀ env pos, (backTo pos (starEach rest env)).any (·.1) = false)
    (he : ∀ env, eval (.Call (.Attribute recv name ap) args [] cpos) env = (do
      let ov ← eval recv env
      standAt ap.atName
      let (f, first) ← holding [ov] (getMethod ov name (pl env))
      callWith cpos f first (backTo cpos (starEach args env)) []) := by intro _; with_unfolding_all rfl)
    (hs : ∀ env, swapsWith (.Call (.Attribute recv name ap) args [] cpos) none pos.line env = pure false := by intro _; with_unfolding_all rfl) :
    StB S X n sc L D (.Expr (.Call (.Attribute recv name ap) args [] cpos) pos) (.next L D') := by
  intro A env s Q at_ F B hL k
  refine wpAny_Expr_any (MethodCall_ (pl := pl _) (hr A env s _ at_ F B hL fun v s' e' r => ?_) (he _)) (by unfold interactive; rw [at_.fn]; rfl) (hs _)
  have : v = .ref p := r
  subst this
  have F' := F.keeps e'.keep
  have B' := B.keeps e'.keep
  obtain ⟨f, k', I, hn⟩ := look _ B'
  obtain ⟨ox, es, nn, I', d, DF⟩ := I
  obtain ⟨g, hf, fn⟩ := mt.at_
  obtain ⟨⟨mv, f', _⟩, _⟩ := id F'
  refine method_inst f' at_.ok.k I' (cls.get _) hf fn.fn (by rw [DF.get, hn]) ?_
  refine callB_core at_ F' B' hL fn (first := [.ref p]) (fks := [.ob p]) rfl (fun i v pv ev ep => ?_) ha c (fun v s'' c' F'' r' b' => k _ _ (e'.chg.trans c') ⟨rfl, F'', b'⟩) O fl hc
  cases i with
  | zero => simp at ev ep; subst ev; subst ep; rfl
  | succ i => simp at ev
theorem CallB.mk {st : Stmt} (L : ML) {ks : List MK} {res : PyData} (ok : DefOk st (L.map (·.1))) (ha : L.map (·.2) = ks) (O : XOk S X) (h : ExB S X n (stScope st) L D (stBody st) (.ret res D') ∨ (∃ L', ExB S X n (stScope st) L D (stBody st) (.next L' D')) ∧ res = .none) : CallB S X (n + 1) st ks D res D' := by
  subst ha
  intro A s f vs R room on fn hl hr B kk
  have e0 : (stL X L).map (·.1) = L.map (·.1) := by unfold stL; rw [List.map_map]; rfl
  refine enter (n := n) (stL X L) (args := L.map fun p => p.2.st X) (e0 ▸ ok) (by unfold stL; rw [List.map_map]; rfl) room on fn (by simpa using hl) (hv := S.base) (fun i v pv ev ep => ?_) on.keep fun env h₁ t at_ F eL eF _ hk₁ => toE ?_
  · obtain ⟨k, hk, rfl⟩ : ∃ k, (L.map (·.2))[i]? = some k ∧ k.st X = pv := by
      rw [List.getElem?_map] at ep
      obtain ⟨p, hp, e⟩ := Option.map_eq_some_iff.mp ep
      exact ⟨p.2, by rw [List.getElem?_map, hp]; rfl, e⟩
    exact hr i v k ev hk
  have hL : env.locals ∉ X.all := fun hm => by
    obtain ⟨o, z⟩ := B.there _ hm
    rw [eL] at z
    exact Nat.lt_irrefl _ (Heap.lt_size z)
  have B₁ := B.keeps hk₁
  have fin : ∀ s', ChgB X (some env.locals) { s with heap := h₁, toks := t } s' → ChgB X none s s' := fun s' c => ⟨fun b o _ n2 n3 n4 z => c.keep b o (fun q => by cases q; rw [eL] at z; exact Nat.lt_irrefl _ (Heap.lt_size z)) n2 n3 n4 (hk₁ _ _ z), c.gens, c.os⟩
  rcases h with h | ⟨⟨L', h⟩, rfl⟩
  · refine h (A.deeper env) env _ _ at_ F B₁ hL fun fl s' c o => ?_
    obtain ⟨v, rfl, r, b⟩ := o
    exact kk v s' (fin _ c) r b
  · refine h (A.deeper env) env _ _ at_ F B₁ hL fun fl s' c o => ?_
    obtain ⟨rfl, _, b⟩ := o
    exact kk _ s' (fin _ c) .none b
theorem CallB.up {k : Nat} {st : Stmt} {ks : List MK} {res : PyData} (h : CallB S X k st ks D res D') (le : k ≤ n := by decide) : CallB S X n st ks D res D' :=
  fun A s f vs R room on fn hl hr B kk => h A s f vs R (room.le le) on fn hl hr B kk
theorem upAttr {p : Addr} {y name : Str} {xp q : Pos} {pv : PV} {C dp : Addr} (hm : (y, .o (PAt X D p)) ∈ m) (hx : sc.names.lookup y = some .local) (cls : PlainCls S C) (hno : findIn S.K (.ref C) name = some Option.none)
    (look : ∀ h, BWAt X D h → ∃ f k u, Inst h p dp C f k ∧ f name = some u ∧ handedIn u = true ∧ Rep S h h u pv) (hd : (y == ("__debug__" : Str)) = false := by decide +kernel) : EvT S n sc m (.Attribute (.Name y xp) name q) pv :=
  EvT.attr (EvT.loc hx hm hd) fun h v P => by
    obtain ⟨rfl, B⟩ := P
    obtain ⟨f, k, u, I, e, hh, r⟩ := look h B
    obtain ⟨es, ow, ge⟩ := I.own
    exact ⟨p, C, es, u, rfl, cls, ow, hno, by rw [ge, e], hh, r⟩
theorem upB {y name : Str} {xp q : Pos} {i : Int} (O : XOk S X) (hm : (y, .o (PAt X D X.x)) ∈ m) (hx : sc.names.lookup y = some .local) (hno : findIn S.K (.ref X.C) name = some Option.none) (hf : ∀ f, BufF X D f → IsInt f name i) (hd : (y == ("__debug__" : Str)) = false := by decide +kernel) : EvT S n sc m (.Attribute (.Name y xp) name q) (it i) :=
  upAttr hm hx O.buf.toPlainCls hno (fun h B => by
    obtain ⟨f, I, ff⟩ := B.buf
    obtain ⟨t, e⟩ := hf f ff
    exact ⟨f, _, _, I, e, rfl, .int _ _⟩) hd
theorem upG {y name : Str} {xp q : Pos} {i : Int} (O : XOk S X) (hm : (y, .o (PAt X D X.g)) ∈ m) (hx : sc.names.lookup y = some .local) (hno : findIn S.K (.ref X.Cg) name = some Option.none) (hf : ∀ f, GapF X D f → IsInt f name i) (hd : (y == ("__debug__" : Str)) = false := by decide +kernel) : EvT S n sc m (.Attribute (.Name y xp) name q) (it i) :=
  upAttr hm hx O.gap.toPlainCls hno (fun h B => by
    obtain ⟨f, I, ff⟩ := B.gap
    obtain ⟨t, e⟩ := hf f ff
    exact ⟨f, _, _, I, e, rfl, .int _ _⟩) hd
theorem upCells {y : Str} {xp q : Pos} (O : XOk S X) (hm : (y, .o (PAt X D X.g)) ∈ m) (hx : sc.names.lookup y = some .local) (hd : (y == ("__debug__" : Str)) = false := by decide +kernel) : EvT S n sc m (.Attribute (.Name y xp) "cells" q) (.d (.list (D.cells.map .int))) :=
  upAttr hm hx O.gap.toPlainCls O.gap.noCells (fun h B => by
    obtain ⟨f, I, ff⟩ := B.gap
    exact ⟨f, _, _, I, ff.cells, rfl, B.cells.rd⟩) hd
theorem slice_core {A : Around} {h₀ : Heap} {env : Env} {s : Shared} {Q : Value → Shared → Prop} {value lo hi : PySem.Expr} {p pos : Pos} {xs : List PyData} {a b : Int} (hv : EvT S n sc m value (.d (.list xs))) (h1 : EvT S n sc m lo (it a)) (h2 : EvT S n sc m hi (it b)) (hl : xs.length ≤ 1000)
    (hs : ∀ o i, subscripted (.Slice (some lo) (some hi) Option.none p) false o i = operate [i, o] (getItem o i) := by intro _ _; with_unfolding_all rfl)
    (at_ : At S sc n A env) (F : FrameAt S h₀ env m s.heap) (kk : ∀ b' s', Ext s s' → s.heap.get? b' = Option.none → Rd s'.heap (.ref b') (.list ((xs.drop (kms_lo (some a) xs.length)).take (kms_hi (some b) xs.length - kms_lo (some a) xs.length))) → Q (.ref b') s') :
    wpAny (model S.prog S.w) A (eval (.Subscript value (.Slice (some lo) (some hi) Option.none p) pos) env) Q NoE s := by
  refine Subscript_ (hv A h₀ env s _ at_ F fun v s₁ e₁ r₁ => ?_)
  refine wpAny_Slice (wpAny_evalPart_some (h1 A h₀ env s₁ _ at_ (F.keeps e₁.keep) fun u s₂ e₂ r₂ => wpAny_evalPart_some (h2 A h₀ env s₂ _ at_ ((F.keeps e₁.keep).keeps e₂.keep) fun w s₃ e₃ r₃ => wpAny_evalPart_none ?_)))
  obtain ⟨l, vs, nn, rfl, ho, ra⟩ := rd_list ((r₁.keeps e₂.keep).keeps e₃.keep)
  obtain ⟨t2, rfl⟩ := rd_int r₂
  obtain ⟨t3, rfl⟩ := rd_int r₃
  have e0 : vs.size = xs.length := by rw [← ra.1, Array.length_toList]
  have ho' : (s₃.heap.push { cls := .type "slice", data := .fields #[.int a t2, .int b t3, .none] }).get? l = _ := Heap.get?_push_of_some _ ho
  have hl₇ : (s₃.heap.push { cls := .type "slice", data := .fields #[.int a t2, .int b t3, .none] }).IsList l vs := ⟨_, ho', rfl, _, rfl⟩
  refine kba_turn (value' := .Name "_" ⟨0, 0, 0, 0⟩) (fun _ => rfl) ?_
  refine subscriptTail_ops (T := "list") ⟨_, ho', rfl⟩ list_getitem_lookup (ops := [.ref s₃.heap.objs.size, .ref l]) (wpAny_getItem_list_slice hl₇ ⟨_, Heap.get?_push_size _ rfl, rfl, rfl⟩ (.int a t2) (.int b t3) .none (by decide) ?_ (by rw [sizeLine_eq]; omega)) (hs _ _) (fun _ => rfl)
  rw [kms_pick_eq]
  have kp : ∀ (o₁ o₂ : Obj) b o, s₃.heap.get? b = some o → ((s₃.heap.push o₁).push o₂).get? b = some o := fun o₁ o₂ _ _ e => Heap.get?_push_of_some _ (Heap.get?_push_of_some _ e)
  have x₃ := (e₁.trans e₂).trans e₃
  refine kk _ _ (x₃.trans ⟨fun b o z => kp _ _ b o z, rfl, rfl⟩) ?_ ?_
  · cases q : s.heap.get? (s₃.heap.push { cls := .type "slice", data := .fields #[.int a t2, .int b t3, .none] }).objs.size with
    | none => rfl
    | some o => exact absurd (Heap.lt_size (Heap.get?_push_of_some _ (x₃.keep _ _ q))) (Nat.lt_irrefl _)
  have q : RdAll s₃.heap (kms_pick vs.toList (some a) (some b)) ((xs.drop (kms_lo (some a) xs.length)).take (kms_hi (some b) xs.length - kms_lo (some a) xs.length)) := by
    unfold kms_pick
    rw [Array.length_toList, e0]
    refine ⟨by simp [ra.1], fun i v x ev ex => ?_⟩
    rw [List.getElem?_take] at ev ex
    split at ev
    · rename_i hi'
      rw [if_pos hi', List.getElem?_drop] at ex
      rw [List.getElem?_drop] at ev
      exact ra.2 _ v x ev ex
    · cases ev
  have q' := q.mono (seqKept_of (kp { cls := .type "slice", data := .fields #[.int a t2, .int b t3, .none] } { cls := .type "list", data := .seq (kms_pick vs.toList (some a) (some b)).toArray }))
  exact .list (Heap.get?_push_size _ rfl) q'.1 q'.2
theorem EvT.slice {value lo hi : PySem.Expr} {p pos : Pos} {xs : List PyData} {a b : Int} (hv : EvT S n sc m value (.d (.list xs))) (h1 : EvT S n sc m lo (it a)) (h2 : EvT S n sc m hi (it b)) (hl : xs.length ≤ 1000)
    (hs : ∀ o i, subscripted (.Slice (some lo) (some hi) Option.none p) false o i = operate [i, o] (getItem o i) := by intro _ _; with_unfolding_all rfl) :
    EvT S n sc m (.Subscript value (.Slice (some lo) (some hi) Option.none p) pos) (.d (.list ((xs.drop (kms_lo (some a) xs.length)).take (kms_hi (some b) xs.length - kms_lo (some a) xs.length)))) := by
  intro A h₀ env s Q at_ F kk
  exact slice_core hv h1 h2 hl hs at_ F fun b' s' e _ r => kk _ s' e r
theorem EvT.list1 {xp pos : Pos} {a : PySem.Expr} {xs : List PyData} (e : nsIn S.K mainGlobals "list" = some Option.none) (ha : EvT S n sc m a (.d (.list xs))) (hl : xs.length ≤ 1000) (hx : sc.names.lookup (Str.ofString "list") = some .globalImplicit)
    (h1 : ∀ env, starEach [a] env = [(false, eval a env)] := by intro _; with_unfolding_all rfl) : EvT S n sc m (.Call (.Name "list" xp) [a] [] pos) (.d (.list xs)) := by
  intro A h₀ env s Q at_ F k
  refine EvT.callTy (T := "list") e hx (by decide +kernel) (by decide +kernel) (EvsT.cons ha .nil (fun env => by rw [h1]; rfl)) at_ F (fun vs s' e' l r => ?_) (fun env => by rw [h1]; rfl) (fun env pos => rfl)
  obtain ⟨u, rfl, r1⟩ := one_of l r
  obtain ⟨la, vs, nn, rfl, ho, ra⟩ := rd_list r1
  have e0 : vs.size = xs.length := by rw [← ra.1, Array.length_toList]
  refine call_list_seq la (.inl rfl) ho rfl rfl (fun h' c' hk hD => ?_) (by rw [sizeLine_eq]; omega)
  have q' := ra.mono (seqKept_of hk)
  exact k _ _ (e'.trans ⟨hk, rfl, rfl⟩) (.list hD q'.1 q'.2)
end
section
variable {S : Sg} {X : BX} {n : Nat} {sc : Scope} {L L' : ML} {D D' : BS} {m : Loc}
theorem upCellsR {y : Str} {xp q : Pos} (O : XOk S X) (hm : (y, .o (PAt X D X.g)) ∈ m) (hx : sc.names.lookup y = some .local) (hd : (y == ("__debug__" : Str)) = false := by decide +kernel) : EvT S n sc m (.Attribute (.Name y xp) "cells" q) (.r (.ref X.l)) :=
  upAttr hm hx O.gap.toPlainCls O.gap.noCells (fun h B => by
    obtain ⟨f, I, ff⟩ := B.gap
    exact ⟨f, _, _, I, ff.cells, rfl, rfl⟩) hd
noncomputable def EvLst (S : Sg) (X : BX) (n : Nat) (sc : Scope) (L : ML) (D : BS) (e : PySem.Expr) (cs : List Int) : Prop :=
  ∀ A env s (Q : Value → Shared → Prop), At S sc n A env → FS S X env L s.heap → BWAt X D s.heap → env.locals ∉ X.all → (∀ b s', Ext s s' → LstAt s'.heap b cs → X.l ≠ b → Q (.ref b) s') → wpAny (model S.prog S.w) A (eval e env) Q NoE s
theorem intsAre_eq {vs : List Value} {xs : List Int} (h : IntsAre vs xs) : ∀ {ys : List Int}, IntsAre vs ys → xs = ys := by
  induction h with
  | nil => intro ys h'; cases h'; rfl
  | cons n t _ ih => intro ys h'; cases h' with | cons _ _ h' => rw [ih h']
theorem EvLst.of {e : PySem.Expr} {cs : List Int} (h : EvT S n sc m e (.d (.list (cs.map .int)))) (ne : cs ≠ D.cells) (hm : upL X D L = m := by rfl) : EvLst S X n sc L D e cs := by
  subst hm
  intro A env s Q at_ F B hL k
  refine h A _ env s _ at_ (F.lift B hL) fun v s' e r => ?_
  obtain ⟨l, rfl, la⟩ := LstAt.of r
  refine k l s' e la fun q => ne ?_
  obtain ⟨vs, nn, z, i⟩ := la
  obtain ⟨vs', nn', z', i'⟩ := (B.keeps e.keep).cells
  rw [← q, z'] at z
  cases z
  exact intsAre_eq i i'
theorem EvLst.cd {x : Str} {pos : Pos} (O : XOk S X) (hm : (x, MK.cd) ∈ L) (hx : sc.names.lookup x = some .local) (hd : (x == ("__debug__" : Str)) = false := by decide +kernel) : EvLst S X n sc L D (.Name x pos) X.cs := by
  intro A env s Q at_ F B hL k
  refine EvB.name hm hx hd A env s _ at_ F B hL fun v s' e r => ?_
  have : v = .ref X.lc := r
  subst this
  obtain ⟨_, _, _, _, _, _, ⟨_, _, q⟩, _⟩ := nd_all O
  exact k _ s' e (B.keeps e.keep).codes (Ne.symm q)
theorem StB.setl {y : Str} {p q pos' pos sp : Pos} {e lo hi : PySem.Expr} {a b : Int} {cs2 : List Int} (O : XOk S X) (hy : (y, MK.ob X.g) ∈ L) (hyl : sc.names.lookup y = some .local) (hv : EvLst S X n sc L D e cs2) (h1 : EvT S n sc m lo (it a)) (h2 : EvT S n sc m hi (it b)) (fl : flatL L)
    (hsz : D.cells.length + cs2.length ≤ 1000) (bp : ∀ f, BufF X D f → BufF X D' f) (gp : ∀ f, GapF X D f → GapF X D' f)
    (cl : D'.cells = D.cells.take (kms_lo (some a) D.cells.length) ++ cs2 ++ D.cells.drop (max (kms_lo (some a) D.cells.length) (kms_hi (some b) D.cells.length))) (hm : upL X D L = m := by rfl)
    (hs : ∀ env, swapsWith e (some (.Subscript (.Attribute (.Name y p) "cells" q) (.Slice (some lo) (some hi) Option.none sp) pos')) pos.line env = pure false := by intro _; with_unfolding_all rfl) (hd : (y == ("__debug__" : Str)) = false := by decide +kernel) :
    StB S X n sc L D (.Assign [.Subscript (.Attribute (.Name y p) "cells" q) (.Slice (some lo) (some hi) Option.none sp) pos'] e pos) (.next L D') := by
  subst hm
  intro A env s Q at_ F B hL k
  refine wpAny_Assign_Subscript (hv A env s _ at_ F B hL fun bb s₁ e₁ la ne => ?_) (hs _)
  have F₁ := F.keeps e₁.keep
  have B₁ := B.keeps e₁.keep
  have hmem : (y, PV.o (PAt X D X.g)) ∈ upL X D L := List.mem_map.mpr ⟨(y, .ob X.g), hy, rfl⟩
  refine upCellsR (q := q) (xp := p) O hmem hyl hd A _ env s₁ _ at_ (F₁.lift B₁ hL) fun v s₂ e₂ r₂ => ?_
  cases r₂
  have F₂ := F₁.keeps e₂.keep
  have B₂ := B₁.keeps e₂.keep
  refine wpAny_Slice (wpAny_evalPart_some (h1 A _ env s₂ _ at_ (F₂.lift B₂ hL) fun u s₃ e₃ r₃ => wpAny_evalPart_some (h2 A _ env s₃ _ at_ ((F₂.keeps e₃.keep).lift (B₂.keeps e₃.keep) hL) fun w s₄ e₄ r₄ => wpAny_evalPart_none ?_)))
  obtain ⟨t3, rfl⟩ := rd_int r₃
  obtain ⟨t4, rfl⟩ := rd_int r₄
  have x₄ : Ext s s₄ := ((e₁.trans e₂).trans e₃).trans e₄
  have kp : ∀ (o₁ : Obj) b o, s₄.heap.get? b = some o → (s₄.heap.push o₁).get? b = some o := fun o₁ _ _ e => Heap.get?_push_of_some _ e
  obtain ⟨its2, n2, lb, li⟩ := ((la.on fun o z => e₂.keep _ o z).on fun o z => e₃.keep _ o z).on fun o z => e₄.keep _ o z
  have F₅ := (F.keeps x₄.keep).keeps (kp { cls := .type "slice", data := .fields #[.int a t3, .int b t4, .none] })
  have B₅ := (B.keeps x₄.keep).keeps (kp { cls := .type "slice", data := .fields #[.int a t3, .int b t4, .none] })
  refine setL (s := { s₄ with heap := _ }) O F₅ fl B₅ hL ⟨_, Heap.get?_push_size _ rfl, rfl, rfl⟩ (.int a t3) (.int b t4) (kp _ _ _ lb) li ne hsz bp gp cl fun s' c F' B' => ?_
  exact k _ s' ((x₄.trans (.push _ _)).chg.trans c) ⟨rfl, F', B'⟩
end
theorem updF_ne {f : Str → Option Value} {n y : Str} {v : Value} (h : y ≠ n) : updF f n v y = f y := if_neg h
theorem updF_eq {f : Str → Option Value} {n : Str} {v : Value} : updF f n v n = some v := if_pos rfl
theorem IsInt.put {f : Str → Option Value} {n : Str} {i : Int} {t : Tok} : IsInt (updF f n (.int i t)) n i := ⟨t, updF_eq⟩
theorem IsInt.off {f : Str → Option Value} {n y : Str} {i : Int} {v : Value} (h : IsInt f y i) (ne : y ≠ n) : IsInt (updF f n v) y i := let ⟨t, e⟩ := h; ⟨t, (updF_ne ne).trans e⟩
theorem IsInt.some {f : Str → Option Value} {n : Str} {i : Int} (h : IsInt f n i) : (f n).isSome = true := by obtain ⟨t, e⟩ := h; rw [e]; rfl
theorem BufF.same {X : BX} {D D' : BS} {f : Str → Option Value} (h : BufF X D f) (h1 : D'.begv = D.begv := by rfl) (h2 : D'.zv = D.zv := by rfl) (h3 : D'.point = D.point := by rfl) (h4 : D'.ticks = D.ticks := by rfl) (h5 : D'.ctk = D.ctk := by rfl) : BufF X D' f := by
  obtain ⟨a, b, c, d, e, r⟩ := h
  exact ⟨h1 ▸ a, h2 ▸ b, h3 ▸ c, h4 ▸ d, h5 ▸ e, by assumption, by assumption, by assumption, by assumption, by assumption, by assumption, by assumption, by assumption, by assumption, by assumption, by assumption, by assumption, by assumption, by assumption⟩
theorem GapF.same {X : BX} {D D' : BS} {f : Str → Option Value} (h : GapF X D f) (h1 : D'.room = D.room := by rfl) (h2 : D'.gst = D.gst := by rfl) (h3 : D'.gen = D.gen := by rfl) : GapF X D' f := by
  obtain ⟨a, b, c, r⟩ := h
  exact ⟨h1 ▸ a, h2 ▸ b, h3 ▸ c, by assumption, by assumption, by assumption, by assumption, by assumption, by assumption, by assumption⟩
theorem GapF.setGst {X : BX} {D : BS} {f : Str → Option Value} (h : GapF X D f) (i : Int) (t : Tok) : (f "gap_start").isSome = true ∧ GapF X { D with gst := i } (updF f "gap_start" (.int i t)) := by
  obtain ⟨a, b, c, d, e, f1, g, h1, i1, j⟩ := h
  exact ⟨b.some, a.off (by decide +kernel), .put, c.off (by decide +kernel), (updF_ne (by decide +kernel)).trans d, (updF_ne (by decide +kernel)).trans e, (updF_ne (by decide +kernel)).trans f1, (updF_ne (by decide +kernel)).trans g, (updF_ne (by decide +kernel)).trans h1, (updF_ne (by decide +kernel)).trans i1, (updF_ne (by decide +kernel)).trans j⟩
theorem GapF.setGen {X : BX} {D : BS} {f : Str → Option Value} (h : GapF X D f) (i : Int) (t : Tok) : (f "gap_end").isSome = true ∧ GapF X { D with gen := i } (updF f "gap_end" (.int i t)) := by
  obtain ⟨a, b, c, d, e, f1, g, h1, i1, j⟩ := h
  exact ⟨c.some, a.off (by decide +kernel), b.off (by decide +kernel), .put, (updF_ne (by decide +kernel)).trans d, (updF_ne (by decide +kernel)).trans e, (updF_ne (by decide +kernel)).trans f1, (updF_ne (by decide +kernel)).trans g, (updF_ne (by decide +kernel)).trans h1, (updF_ne (by decide +kernel)).trans i1, (updF_ne (by decide +kernel)).trans j⟩
section
variable {S : Sg} {X : BX} {n : Nat} {sc : Scope} {D : BS} {m : Loc} {xp q : Pos}
theorem rGst (O : XOk S X) (hm : ((Str.ofString "self"), .o (PAt X D X.g)) ∈ m) (hx : sc.names.lookup (Str.ofString "self") = some .local) : EvT S n sc m (.Attribute (.Name "self" xp) "gap_start" q) (it D.gst) := upG O hm hx (O.gapM.no _ (by decide +kernel)) fun f h => h.gst
theorem rGen (O : XOk S X) (hm : ((Str.ofString "self"), .o (PAt X D X.g)) ∈ m) (hx : sc.names.lookup (Str.ofString "self") = some .local) : EvT S n sc m (.Attribute (.Name "self" xp) "gap_end" q) (it D.gen) := upG O hm hx (O.gapM.no _ (by decide +kernel)) fun f h => h.gen
theorem rRoom (O : XOk S X) (hm : ((Str.ofString "self"), .o (PAt X D X.g)) ∈ m) (hx : sc.names.lookup (Str.ofString "self") = some .local) : EvT S n sc m (.Attribute (.Name "self" xp) "room" q) (it D.room) := upG O hm hx (O.gapM.no _ (by decide +kernel)) fun f h => h.room
theorem ok_widen : DefOk (inCls 42 5) ["self", "wanted"] := by ktd_rel
noncomputable def gapW (n : Nat) : Nat := if 8 < n then n + 8 else 8
noncomputable abbrev wantU (X : BX) (D : BS) (k : Nat) : Loc := [("self", .o (PAt X D X.g)), ("wanted", it k)]
noncomputable abbrev lackU (X : BX) (D : BS) (k : Nat) : Loc := [("self", .o (PAt X D X.g)), ("wanted", it k), ("lack", it (k - 8))]
noncomputable abbrev lackL (X : BX) (k : Nat) : ML := [("self", .ob X.g), ("wanted", .fl (.int k)), ("lack", .fl (.int (k - 8)))]
theorem lackFl {k : Nat} : flatL (lackL X k) := fun p hp => by
  simp only [List.mem_cons, List.not_mem_nil, or_false] at hp
  rcases hp with rfl | rfl | rfl <;> exact trivial
theorem s_widen (H : KF S) (O : XOk S X) (k : Nat) (hk : k ≤ 16) (h1 : D.room = 8) (h2 : D.gst = 0) (h3 : D.gen = 8) (h4 : D.cells = List.replicate 8 0) : CallB S X 3 (inCls 42 5) [.ob X.g, .fl (.int k)] D .none { D with cells := List.replicate (gapW k) 0, gen := gapW k } := by
  refine CallB.mk [("self", .ob X.g), ("wanted", .fl (.int k))] ok_widen rfl O (.inr ⟨⟨lackL X k, ?_⟩, rfl⟩)
  refine ExB.cons (StB.asg (y := .int (k - 8)) (m := wantU X D k) (L' := lackL X k) (EvT.castI (EvT.sub (by kwd_rel) (EvT.sub (rGen O (by kaf_pre) (by kernel_rfl)) (rGst O (by kaf_pre) (by kernel_rfl)))) (by rw [h2, h3]; omega)) ?_ (by kernel_rfl)) ?_
  · show SetAt [("self", .r (.ref X.g)), ("wanted", it k)] _ _ [("self", .r (.ref X.g)), ("wanted", it k), ("lack", it (k - 8))]
    kaf_suf
  by_cases h : 8 < k
  · rw [gapW, if_pos h]
    refine ExB.cons (StB.ite (m := lackU X D k) (b := true) (TrT.icmp (by kwd_rel) (by kwd_rel) (by kwd_less)) ?_) ExB.nil
    simp only [if_true]
    refine ExB.cons (StB.setl (m := lackU X D k) (D' := { D with cells := List.replicate (k + 8) 0 }) (cs2 := List.replicate k 0) O (.head _) (by kernel_rfl) (EvLst.of (m := lackU X D k) (EvT.castD (EvT.rep1 (EvT.lst1 (by kwd_rel)) (EvT.add (by kwd_rel) (rRoom O (by kaf_pre) (by kernel_rfl))) (by omega) (by omega)) ?_) ?_) (rGen O (by kaf_pre) (by kernel_rfl)) (rGen O (by kaf_pre) (by kernel_rfl)) lackFl ?_ (fun f h => h.same) (fun f h => h.same) ?_) ?_
    · rw [h1, List.map_replicate, show ((k : Int) - 8 + 8).toNat = k by omega]
    · rw [h4]; intro q; have := congrArg List.length q; simp at this; omega
    · rw [h4]; simp; omega
    · rw [h3, h4]
      simp only [kms_lo, kms_hi, List.length_replicate, List.take_replicate, List.drop_replicate]
      rw [List.replicate_append_replicate, List.replicate_append_replicate]
      congr 1
      omega
    refine ExB.cons (StB.setg (m := lackU X { D with cells := List.replicate (k + 8) 0 } k) (i := ((k + 8 : Nat) : Int)) O (.head _) (by kernel_rfl) (EvT.castI (EvT.add (EvT.add (rGen O (by kaf_pre) (by kernel_rfl)) (by kwd_rel)) (rRoom O (by kaf_pre) (by kernel_rfl))) ?_) lackFl (by decide +kernel) (fun f t h => h.setGen _ t) (fun f h => h.same) rfl) ?_
    · rw [h3, h1]; omega
    exact ExB.nil
  · rw [gapW, if_neg h]
    have e : ({ D with cells := List.replicate 8 0, gen := ((8 : Nat) : Int) } : BS) = D := by
      obtain ⟨a, b, c, d, e, f, g, h, i⟩ := D
      simp only at h3 h4
      subst h3; subst h4
      rfl
    rw [e]
    refine ExB.cons (StB.ite (m := lackU X D k) (b := false) (TrT.icmp (by kwd_rel) (by kwd_rel) (by kwd_less)) ?_) ExB.nil
    simp only [Bool.false_eq_true, if_false]
    exact ExB.nil
end
noncomputable abbrev BX.with (X : BX) (b : Addr) (cs : List Int) : BX := { X with lc := b, cs := cs }
theorem BWAt.to {X : BX} {D : BS} {h : Heap} {b : Addr} {cs : List Int} (B : BWAt X D h) (la : LstAt h b cs) : BWAt (X.with b cs) D h := by
  obtain ⟨⟨f, i1, f1⟩, ⟨g, i2, f2⟩, l1, ⟨mf, i3, f3⟩, r, ls, lc⟩ := B
  obtain ⟨a1, a2, a3, a4, a5, a6, a7, a8, a9, b1, b2, b3, b4, b5, b6, b7, b8, b9, c1⟩ := f1
  obtain ⟨d1, d2, d3, d4, d5, d6, d7, d8, d9, e1⟩ := f2
  obtain ⟨g1, g2, g3⟩ := f3
  exact ⟨⟨f, i1, ⟨a1, a2, a3, a4, a5, a6, a7, a8, a9, b1, b2, b3, b4, b5, b6, b7, b8, b9, c1⟩⟩, ⟨g, i2, ⟨d1, d2, d3, d4, d5, d6, d7, d8, d9, e1⟩⟩, l1, ⟨mf, i3, ⟨g1, g2, g3⟩⟩, r, ls, la⟩
theorem BWAt.back {X : BX} {D : BS} {h : Heap} {b : Addr} {cs : List Int} (B : BWAt (X.with b cs) D h) (la : LstAt h X.lc X.cs) : BWAt X D h := BWAt.to (X := X.with b cs) B la
noncomputable abbrev BX.pre (X : BX) : List Addr := [X.x, X.dx, X.g, X.dg, X.l, X.ma, X.dma, X.rd, X.ls]
theorem XOk.to {S : Sg} {X : BX} {b : Addr} {cs : List Int} (O : XOk S X) (hb : S.base.get? b = none) (hn : b ∉ X.all) : XOk S (X.with b cs) := by
  have q : (X.pre ++ [X.lc]).Nodup := O.nd
  have q' := List.nodup_append.mp q
  refine ⟨O.bufM, O.gapM, O.markM, O.sys, O.buf, O.bset, O.gap, O.gset, fun a ha => ?_, ?_⟩
  · rcases List.mem_append.mp (show a ∈ X.pre ++ [b] from ha) with h | h
    · exact O.base a (List.mem_append_left [X.lc] h)
    · exact List.mem_singleton.mp h ▸ hb
  · show (X.pre ++ [b]).Nodup
    exact List.nodup_append.mpr ⟨q'.1, List.nodup_cons.mpr ⟨nofun, List.nodup_nil⟩, fun a ha c hc e => hn (List.mem_append_left [X.lc] (List.mem_singleton.mp hc ▸ e ▸ ha))⟩
section
variable {S : Sg} {X : BX} {n : Nat} {sc : Scope} {D : BS} {m : Loc} {xp q : Pos}
theorem ok_move : DefOk (inCls 42 4) ["self", "at"] := by ktd_rel
noncomputable abbrev moveU (X : BX) (D : BS) : Loc := [("self", .o (PAt X D X.g)), ("at", it 0)]
noncomputable abbrev moveL (X : BX) : ML := [("self", .ob X.g), ("at", .fl (.int 0))]
noncomputable abbrev movdU (X : BX) (D : BS) : Loc := [("self", .o (PAt X D X.g)), ("at", it 0), ("moved", .d (.list []))]
noncomputable abbrev movdL (X : BX) : ML := [("self", .ob X.g), ("at", .fl (.int 0)), ("moved", .cd)]
theorem movFl : flatL (moveL X) := fun p hp => by
  simp only [List.mem_cons, List.not_mem_nil, or_false] at hp
  rcases hp with rfl | rfl <;> exact trivial
theorem movdFl : flatL (movdL X) := fun p hp => by
  simp only [List.mem_cons, List.not_mem_nil, or_false] at hp
  rcases hp with rfl | rfl | rfl <;> exact trivial
noncomputable def ifElse : Stmt → List Stmt
  | .If _ _ o _ => o
  | _ => []
theorem BS.eta_gen {D : BS} {i : Int} (h : i = D.gen) : ({ D with gen := i } : BS) = D := by subst h; rfl
theorem BS.eta_gst {D : BS} {i : Int} (h : i = D.gst) : ({ D with gst := i } : BS) = D := by subst h; rfl
theorem BS.eta_cells {D : BS} {i : List Int} (h : i = D.cells) : ({ D with cells := i } : BS) = D := by subst h; rfl
theorem move_else (H : KF S) (O : XOk S X) (hb : n = n) {w : Nat} (h2 : D.gst = 0) (h3 : D.gen = w) (h4 : D.cells = List.replicate w 0) (hw : 8 ≤ w) (hw' : w ≤ 24) :
    ExB S X n (stScope (inCls 42 4)) (moveL X) D (ifElse ((stBody (inCls 42 4)).getD 0 (.Pass default))) (.next (moveL X) D) := by
  intro A env s Q at_ F B hL k
  have hl : (D.cells.map PyData.int).length = w := by rw [h4]; simp
  have c1 : kms_lo (some D.gen) w = w := by rw [h3]; simp only [kms_lo]; rw [if_neg (by omega)]; omega
  have c2 : kms_hi (some (D.gen + 0 - D.gst)) w = w := by rw [h2, h3]; simp only [kms_hi]; rw [if_neg (by omega)]; omega
  refine wpAny_execs_cons (wpAny_Assign_Name (slice_core (m := moveU X D) (a := D.gen) (b := D.gen + 0 - D.gst) (upCells O (by kaf_pre) (by kernel_rfl)) (rGen O (by kaf_pre) (by kernel_rfl)) (EvT.sub (EvT.add (rGen O (by kaf_pre) (by kernel_rfl)) (by kwd_rel)) (rGst O (by kaf_pre) (by kernel_rfl))) (by rw [hl]; omega) (by intro _ _; with_unfolding_all rfl) at_ (F.lift B hL) fun b s₁ e₁ new r₁ => ?_) (by with_unfolding_all rfl))
  rw [hl, c1, c2, Nat.sub_self, List.take_zero] at r₁
  have la : LstAt s₁.heap b [] := by
    obtain ⟨l, q, la⟩ := LstAt.of (cs := []) r₁
    cases q
    exact la
  have F₁ := F.keeps e₁.keep
  have B₁ := B.keeps e₁.keep
  have hnb : S.base.get? b = none := by
    cases z : S.base.get? b with
    | none => rfl
    | some o =>
      obtain ⟨⟨_, f, _⟩, _⟩ := F
      rw [f.keep _ _ z] at new; cases new
  have hna : b ∉ X.all := fun hm => by
    obtain ⟨o, z⟩ := B.there _ hm
    rw [new] at z; cases z
  have hnL : env.locals ≠ b := fun q => by
    obtain ⟨o, _, _, z, _⟩ := FrameAt.locals F
    rw [q, new] at z; cases z
  have O' := O.to (cs := []) hnb hna
  have B' := B₁.to la
  have hL' : env.locals ∉ (X.with b []).all := fun hm => by
    unfold BX.all at hL hm
    simp only [List.mem_cons, List.not_mem_nil, or_false, not_or] at hL hm
    obtain ⟨n1, n2, n3, n4, n5, n6, n7, n8, n9, n10⟩ := hL
    rcases hm with h | h | h | h | h | h | h | h | h | h <;> first | exact n1 h | exact n2 h | exact n3 h | exact n4 h | exact n5 h | exact n6 h | exact n7 h | exact n8 h | exact n9 h | exact hnL h
  obtain ⟨mv, f₁, r'⟩ := FrameAt.fr F₁
  refine wpAny_storeName_local (at_.of (by kernel_rfl)) f₁.ns (fun h₂ hn₂ hs₂ => ?_) (at_.plain _ _)
  have F₂ : FS S (X.with b []) env (movdL (X.with b [])) h₂ := FrameAt.store F₁ (v := .ref b) (pv := .r (.ref b)) rfl (at_.of (by kernel_rfl)) f₁ r' hn₂ hs₂ (show SetAt [("self", .r (.ref X.g)), ("at", it 0)] _ _ [("self", .r (.ref X.g)), ("at", it 0), ("moved", .r (.ref b))] by kaf_suf)
  have B₂ : BWAt (X.with b []) D h₂ := B'.on fun a ha o z => (hs₂.2 a (fun q => hL' (q ▸ ha))).trans z
  have rest : ExB S (X.with b []) n (stScope (inCls 42 4)) (movdL (X.with b [])) D ((ifElse ((stBody (inCls 42 4)).getD 0 (.Pass default))).drop 1) (.next (movdL (X.with b [])) D) := by
    refine ExB.cons (StB.setl (D' := D) (m := movdU (X.with b []) D) (cs2 := []) O' (.head _) (by kernel_rfl) (EvLst.cd O' (.tail _ (.tail _ (.head _))) (by kernel_rfl)) (rGst O' (by kaf_pre) (by kernel_rfl)) (EvT.add (rGst O' (by kaf_pre) (by kernel_rfl)) (EvT.len (xs := []) H.b_len (EvT.loc (by kernel_rfl) (by kaf_pre) (by kernel_rfl)) (by decide) (by kernel_rfl))) movdFl ?_ (fun f h => h) (fun f h => h) ?_) ?_
    · rw [h4]; simp; omega
    · rw [h2, h4]; simp [kms_lo, kms_hi]
    have e := BS.eta_gen (D := D) (i := D.gen + (([] : List PyData).length : Int)) (by simp)
    refine ExB.cons (StB.setg (D' := D) (m := movdU (X.with b []) D) (i := D.gen + (([] : List PyData).length : Int)) O' (.head _) (by kernel_rfl) (EvT.add (rGen O' (by kaf_pre) (by kernel_rfl)) (EvT.len (xs := []) H.b_len (EvT.loc (by kernel_rfl) (by kaf_pre) (by kernel_rfl)) (by decide) (by kernel_rfl))) movdFl (by decide +kernel) (fun f t h => ?_) (fun f h => h) rfl) ExB.nil
    have := h.setGen (D.gen + (([] : List PyData).length : Int)) t
    rwa [e] at this
  refine rest A env _ _ at_ F₂ B₂ hL' fun fl s₃ c₃ o₃ => ?_
  obtain ⟨rfl, F₃, B₃⟩ := o₃
  obtain ⟨_, _, _, _, _, _, ⟨g1, g2, g3⟩, _⟩ := nd_all O
  have hlc : X.lc ≠ env.locals := fun q => hL (q ▸ (in_all (X := X)).2.2.2.2.2.2.2.2.2)
  have lc₃ : LstAt s₃.heap X.lc X.cs := (B₁.codes.on fun o z => (hs₂.2 _ hlc).trans z).on fun o z => c₃.keep _ o (fun q => hlc (Option.some.inj q)) g1 g2 g3 z
  refine k _ s₃ ((e₁.chg.trans (SExt.chg (s := s₁) (s' := { s₁ with heap := h₂, toks := _ }) ⟨fun b o nb z => (hs₂.2 b nb).trans z, rfl, rfl⟩)).trans ⟨c₃.keep, c₃.gens, c₃.os⟩) ⟨rfl, FrameAt.drop F₃ (fun p hp => ?_), B₃.back lc₃⟩
  have hp' : p ∈ ([("self", .r (.ref X.g)), ("at", it 0)] : Loc) := hp
  show p ∈ ([("self", .r (.ref X.g)), ("at", it 0), ("moved", .r (.ref b))] : Loc)
  simp only [List.mem_cons, List.not_mem_nil, or_false] at hp' ⊢
  rcases hp' with h | h
  · exact .inl h
  · exact .inr (.inl h)
theorem s_move (H : KF S) (O : XOk S X) {w : Nat} (h2 : D.gst = 0) (h3 : D.gen = w) (h4 : D.cells = List.replicate w 0) (hw : 8 ≤ w) (hw' : w ≤ 24) : CallB S X 3 (inCls 42 4) [.ob X.g, .fl (.int 0)] D .none D := by
  refine CallB.mk (moveL X) ok_move rfl O (.inr ⟨⟨moveL X, ?_⟩, rfl⟩)
  refine ExB.cons (L' := moveL X) (D' := D) (StB.ite (m := moveU X D) (b := false) (TrT.icmp (by kwd_rel) (rGst O (by kaf_pre) (by kernel_rfl)) (by simp [Mine.icmp, h2])) ?_) ?_
  · simp only [Bool.false_eq_true, if_false]
    exact move_else H O rfl h2 h3 h4 hw hw'
  · refine ExB.cons (StB.setg (D' := D) (m := moveU X D) (i := 0) O (.head _) (by kernel_rfl) (by kwd_rel) movFl (by decide +kernel) (fun f t h => ?_) (fun f h => h) rfl) ExB.nil
    have := h.setGst 0 t
    rwa [BS.eta_gst h2.symm] at this
end
section
variable {S : Sg} {X : BX} {n : Nat} {sc : Scope} {D : BS} {m : Loc} {xp q : Pos}
theorem ok_gap_insert : DefOk (inCls 42 6) ["self", "at", "codes"] := by ktd_rel
noncomputable abbrev ginU (X : BX) (D : BS) : Loc := [("self", .o (PAt X D X.g)), ("at", it 0), ("codes", .d (.list (X.cs.map .int)))]
noncomputable abbrev ginL (X : BX) : ML := [("self", .ob X.g), ("at", .fl (.int 0)), ("codes", .cd)]
theorem ginFl : flatL (ginL X) := fun p hp => by
  simp only [List.mem_cons, List.not_mem_nil, or_false] at hp
  rcases hp with rfl | rfl | rfl <;> exact trivial
theorem gapLook {D : BS} {name : Str} (hf : ∀ f, GapF X D f → f name = none) : ∀ h, BWAt X D h → ∃ f k, Inst h X.g X.dg X.Cg f k ∧ f name = none := fun h B => by
  obtain ⟨f, I, ff⟩ := B.gap
  exact ⟨f, _, I, hf f ff⟩
theorem bufLook {D : BS} {name : Str} (hf : ∀ f, BufF X D f → f name = none) : ∀ h, BWAt X D h → ∃ f k, Inst h X.x X.dx X.C f k ∧ f name = none := fun h B => by
  obtain ⟨f, I, ff⟩ := B.buf
  exact ⟨f, _, I, hf f ff⟩
theorem evCodesLen (H : KF S) {y : Str} (hm : (y, PV.d (.list (X.cs.map .int))) ∈ m) (hx : sc.names.lookup y = some .local) (hl : sc.names.lookup (Str.ofString "len") = some .globalImplicit) (hk : X.cs.length ≤ 16) (hd : (y == ("__debug__" : Str)) = false := by decide +kernel)
    (h1 : ∀ env xp, starEach [.Name y xp] env = [(false, eval (.Name y xp) env)] := by intro _ _; with_unfolding_all rfl) {lp cp np : Pos} : EvT S n sc m (.Call (.Name "len" lp) [.Name y np] [] cp) (it X.cs.length) :=
  EvT.castI (EvT.len (xs := X.cs.map .int) H.b_len (EvT.loc hx hm hd) (by simp; omega) hl) (by simp)
theorem s_gap_insert (H : KF S) (O : XOk S X) (hk : X.cs.length ≤ 16) (h1 : D.room = 8) (h2 : D.gst = 0) (h3 : D.gen = 8) (h4 : D.cells = List.replicate 8 0) :
    CallB S X 5 (inCls 42 6) [.ob X.g, .fl (.int 0), .cd] D .none { D with cells := X.cs ++ List.replicate (gapW X.cs.length - X.cs.length) 0, gen := gapW X.cs.length, gst := X.cs.length } := by
  have w1 : 8 ≤ gapW X.cs.length ∧ gapW X.cs.length ≤ 24 ∧ X.cs.length ≤ gapW X.cs.length := by unfold gapW; split <;> omega
  refine CallB.mk (ginL X) ok_gap_insert rfl O (.inr ⟨⟨ginL X, ?_⟩, rfl⟩)
  refine ExB.cons (StB.callM O (EvB.name (.head _) (by kernel_rfl)) O.gap.toPlainCls O.gapM.mWiden (gapLook fun f h => h.widen) (EvsB.cons (EvB.of (m := ginU X D) (evCodesLen H (by kaf_pre) (by kernel_rfl) (by kernel_rfl) hk)) .nil) ((s_widen H O X.cs.length hk h1 h2 h3 h4).up (n := 4)) ginFl (.inr ⟨_, _, rfl, fun _ => by with_unfolding_all rfl, fun _ _ => by with_unfolding_all rfl⟩)) ?_
  refine ExB.cons (StB.callM O (EvB.name (.head _) (by kernel_rfl)) O.gap.toPlainCls O.gapM.mMove (gapLook fun f h => h.move) (EvsB.cons (EvB.name (.tail _ (.head _)) (by kernel_rfl)) .nil) ((s_move (D := { D with cells := List.replicate (gapW X.cs.length) 0, gen := gapW X.cs.length }) H O (w := gapW X.cs.length) h2 rfl rfl w1.1 w1.2.1).up (n := 4)) ginFl (.inr ⟨_, _, rfl, fun _ => by with_unfolding_all rfl, fun _ _ => by with_unfolding_all rfl⟩)) ?_
  refine ExB.cons (StB.setl (m := ginU X _) (D' := { D with cells := X.cs ++ List.replicate (gapW X.cs.length - X.cs.length) 0, gen := gapW X.cs.length }) (cs2 := X.cs) O (.head _) (by kernel_rfl) (EvLst.cd O (.tail _ (.tail _ (.head _))) (by kernel_rfl)) (by kwd_rel) (EvT.add (by kwd_rel) (evCodesLen H (by kaf_pre) (by kernel_rfl) (by kernel_rfl) hk)) ginFl ?_ (fun f h => h.same) (fun f h => h.same) ?_) ?_
  · simp; omega
  · simp only [List.length_replicate, kms_lo, kms_hi]
    rw [if_neg (by omega), if_neg (by omega)]
    simp only [List.drop_replicate]
    rw [show min (0 : Int).toNat (gapW X.cs.length) = 0 by simp, List.take_zero, List.nil_append]
    congr 2
    omega
  refine ExB.cons (StB.setg (m := ginU X _) (i := X.cs.length) O (.head _) (by kernel_rfl) (EvT.castI (EvT.add (by kwd_rel) (evCodesLen H (by kaf_pre) (by kernel_rfl) (by kernel_rfl) hk)) (by omega)) ginFl (by decide +kernel) (fun f t h => h.setGst _ t) (fun f h => h.same) rfl) ExB.nil
end
section
variable {prog : Program} {w : World} {A : Around} {s : Shared}
theorem sorted_empty {d : Addr} {n : Nat} {Q : Value → Shared → Prop} (hd : (d == sysModules) = false) (ho : s.heap.get? d = some (dictOf [] n)) (hh : A.handled = none) (h : ∀ s', Ext s s' → ∀ b, Rd s'.heap (.ref b) (.list []) → Q (.ref b) s') :
    wpAny (model prog w) A (call (.builtin "sorted") [.ref d]) Q NoE s := by
  have hat : s.heap.DictAt (strKind prog w) d [] n := ⟨_, _, ho, ⟨rfl, rfl, rfl⟩, rfl, fun e he => (by simp at he), .nil, List.nodup_nil⟩
  refine PySem.Calls.call_function_entry kind_sorted plain_sorted entry_sorted (args_sorted1 _) ?_
  unfold Builtin.«sorted»
  refine wpAny_bind (m := checkCount "sorted" 1 1 _) (wpAny_pure ?_)
  refine wpAny_bind (kdu_collect (A := A.in1) (kdl_dict (knd := strKind prog w) (kvs := []) (ep := n) hd) hh hat (Nat.zero_le _) fun h' tk acc hk hacc => ?_)
  have hl : acc.toList = [] := List.length_eq_zero_iff.mp (by rw [Array.length_toList]; exact hacc.1)
  rw [hl]
  refine wpAny_bind (wpAny_newList ?_ (Nat.zero_le _))
  have hD : (h'.push (seqObj "list" ([] : List Value).toArray 0)).get? h'.objs.size = some (seqObj "list" ([] : List Value).toArray 0) := Heap.get?_push_size _ rfl
  refine wpAny_bind (wpAny_holding (wpAny_call_entry slot_list_sort ⟨_, hD, rfl⟩ entry_list_sort (list_sort_tree (n := 0) (vs := []) hD IntsAre.nil (by decide) fun out ns' hI hp hP => ⟨.none, rfl, ?_⟩) (args_list_sort _)))
  have hout : out = #[] := by
    have := hp.eq_nil
    subst this
    cases hI' : out.toList with
    | nil => exact Array.toList_inj.mp (by rw [hI'])
    | cons a b => rw [hI'] at hI; cases hI
  subst hout
  refine wpAny_pure ⟨_, rfl, ?_⟩
  obtain ⟨e, he⟩ := sortedHeap_at (vs := []) (out := #[]) hD
  refine h { s with heap := sortedHeap (h'.push (seqObj "list" ([] : List Value).toArray 0)) h'.objs.size [] #[], toks := tk } ⟨fun b o z => ?_, rfl, rfl⟩ _ (.list (vs := #[]) he rfl (fun i v x z _ => by simp at z))
  have zb := hk b o z
  have nb : b ≠ h'.objs.size := Nat.ne_of_lt (Heap.lt_size zb)
  rw [sortedHeap_old nb (by rw [Heap.size_push]; exact Nat.lt_succ_of_lt (Heap.lt_size zb))]
  exact Heap.get?_push_of_some _ zb
end
section
variable {S : Sg} {n : Nat} {sc : Scope} {m : Loc}
theorem StT.for0 {x : Str} {px pos : Pos} {iter : PySem.Expr} {body : List Stmt} (hi : EvT S n sc m iter (.d (.list []))) (hs : ∀ env x, foldedSetIterable iter env x = pure x := by intro _ _; with_unfolding_all rfl) : StT S n sc m (.For (.Name x px) iter body [] pos) (.next m) := by
  intro A h₀ env s Q at_ F kk
  refine wpAny_For (hi A h₀ env s _ at_ F fun v s₁ e₁ r₁ => ?_) (hs _)
  obtain ⟨l, vs, nn, rfl, ho, ra⟩ := rd_list r₁
  have hvs : vs = #[] := Array.toList_inj.mp (RdAll.unnil ra)
  subst hvs
  have hl : s₁.heap.IsList l #[] := ⟨_, ho, rfl, _, rfl⟩
  refine wpAny_pyIter_list hl ?_
  have hp : ∀ b o, s₁.heap.get? b = some o → (s₁.heap.push { cls := .type "list_iterator", data := .fields #[.ref l, .int 0 0] }).get? b = some o := fun b o e => Heap.get?_push_of_some _ e
  refine for_turn (wpAny_pyNext_list_end at_.room.2.2 ⟨_, Heap.get?_push_size _ rfl, rfl, rfl⟩ ⟨_, hp _ _ ho, rfl, _, rfl⟩ rfl fun h' ext => wpAny_execs_nil ?_)
  have x : Ext s { s₁ with heap := h' } := e₁.trans ⟨fun b o z => ext b o (Nat.ne_of_lt (Heap.lt_size z)) (hp b o z), rfl, rfl⟩
  exact kk _ _ x.sExt ⟨rfl, F.keeps x.keep⟩
theorem CallT.mkN {st : Stmt} (m : Loc) {m' : Loc} {args : List PV} (ok : DefOk st (m.map (·.1))) (ha : m.map (·.2) = args) (h : ExT S n (stScope st) m (stBody st) (.next m')) : CallT S (n + 1) st args .none := by
  subst ha
  exact CallT.of (names := m.map (·.1)) (out := .next m') (by simp) ok.bind ok.nd ok.loc ok.cell ok.co ok.gen ok.k (.inr ⟨⟨m', rfl⟩, rfl⟩) (by rw [zip_parts]; exact h)
end
section
variable {S : Sg} {X : BX} {n : Nat} {sc : Scope} {D : BS} {m : Loc} {xp q : Pos}
theorem upMeth {recv : PySem.Expr} {name : Str} {ap pos : Pos} {p dp C : Addr} {st : Stmt} {args : List PySem.Expr} {pvs : List PV} {res : PyData} {pl : Env → Sem Bool} (hr : EvT S n sc m recv (.o (PAt X D p))) (cls : PlainCls S C) (mt : MethAt S C name st)
    (look : ∀ h, BWAt X D h → ∃ f k, Inst h p dp C f k ∧ f name = none) (ha : EvsT S n sc m args pvs) (c : CallT S n st (.o (PAt X D p) :: pvs) res) (hc : PlainArgs args pvs)
    (he : ∀ env, eval (.Call (.Attribute recv name ap) args [] pos) env = (do
      let ov ← eval recv env
      standAt ap.atName
      let (f, first) ← holding [ov] (getMethod ov name (pl env))
      callWith pos f first (backTo pos (starEach args env)) []) := by intro _; with_unfolding_all rfl) : EvT S n sc m (.Call (.Attribute recv name ap) args [] pos) (.d res) :=
  EvT.meth hr pat_mono (fun h v P => by
    obtain ⟨rfl, B⟩ := P
    obtain ⟨f, k, I, hn⟩ := look h B
    obtain ⟨es, ow, ge⟩ := I.own
    obtain ⟨g, hf, fn⟩ := mt.at_
    exact ⟨p, C, es, g, rfl, cls, ow, hf, fn, by rw [ge, hn], rfl, B⟩) ha c hc he
theorem upPart {y name : Str} {xp q : Pos} {p' : Addr} (O : XOk S X) (hm : (y, .o (PAt X D X.x)) ∈ m) (hx : sc.names.lookup y = some .local) (hno : findIn S.K (.ref X.C) name = some Option.none) (hf : ∀ f, BufF X D f → f name = some (.ref p')) (hd : (y == ("__debug__" : Str)) = false := by decide +kernel) :
    EvT S n sc m (.Attribute (.Name y xp) name q) (.o (PAt X D p')) :=
  upAttr hm hx O.buf.toPlainCls hno (fun h B => by
    obtain ⟨f, I, ff⟩ := B.buf
    exact ⟨f, _, _, I, hf f ff, rfl, ⟨⟨rfl, B⟩, pat_mono⟩⟩) hd
theorem upVal {y name : Str} {xp q : Pos} {v : Value} {x : PyData} (O : XOk S X) (hm : (y, .o (PAt X D X.x)) ∈ m) (hx : sc.names.lookup y = some .local) (hno : findIn S.K (.ref X.C) name = some Option.none) (hf : ∀ f, BufF X D f → f name = some v) (hh : handedIn v = true) (hr : ∀ h, BWAt X D h → Rd h v x)
    (hd : (y == ("__debug__" : Str)) = false := by decide +kernel) : EvT S n sc m (.Attribute (.Name y xp) name q) (.d x) :=
  upAttr hm hx O.buf.toPlainCls hno (fun h B => by
    obtain ⟨f, I, ff⟩ := B.buf
    exact ⟨f, _, _, I, hf f ff, hh, hr h B⟩) hd
noncomputable abbrev sB (X : BX) (D : BS) : PV := .o (PAt X D X.x)
noncomputable abbrev sG (X : BX) (D : BS) : PV := .o (PAt X D X.g)
noncomputable abbrev sM (X : BX) (D : BS) : PV := .o (PAt X D X.ma)
theorem upRows {xp q : Pos} (O : XOk S X) (hm : ((Str.ofString "self"), sM X D) ∈ m) (hx : sc.names.lookup (Str.ofString "self") = some .local) : EvT S n sc m (.Attribute (.Name "self" xp) "rows" q) (.o (PAt X D X.rd)) :=
  upAttr hm hx O.markM.toPlainCls O.markM.noRows fun h B => by
    obtain ⟨f, I, ff⟩ := B.mark
    exact ⟨f, _, _, I, ff.rows, rfl, ⟨⟨rfl, B⟩, pat_mono⟩⟩
theorem ok_gsize : DefOk (inCls 42 1) ["self"] := by ktd_rel
theorem ok_bsize : DefOk (inCls 48 5) ["self"] := by ktd_rel
theorem s_gsize (H : KF S) (O : XOk S X) (hl : D.cells.length ≤ 1000) : CallT S 2 (inCls 42 1) [sG X D] (.int (D.cells.length - D.gen + D.gst)) := by
  refine CallT.mk [("self", sG X D)] ok_gsize rfl ?_
  exact ExT.stop (StT.ret (EvT.add (EvT.sub (EvT.lenI H.b_len (upCells O (by kaf_pre) (by kernel_rfl)) (by omega) (by kernel_rfl)) (rGen O (by kaf_pre) (by kernel_rfl))) (rGst O (by kaf_pre) (by kernel_rfl)))) trivial
theorem s_bsize (H : KF S) (O : XOk S X) (hl : D.cells.length ≤ 1000) : CallT S 3 (inCls 48 5) [sB X D] (.int (D.cells.length - D.gen + D.gst)) := by
  refine CallT.mk [("self", sB X D)] ok_bsize rfl ?_
  exact ExT.stop (StT.ret (upMeth (upPart O (by kaf_pre) (by kernel_rfl) (O.bufM.no _ (by decide +kernel)) fun f h => h.text) O.gap.toPlainCls O.gapM.mSize (gapLook fun f h => h.size) .nil (s_gsize H O hl) (.inl ⟨rfl, rfl⟩))) trivial
end
structure KF2 (S : Sg) : Prop where
  b_sorted : nsIn S.K mainGlobals "sorted" = some none
section
variable {S : Sg} {X : BX} {n : Nat} {sc : Scope} {D : BS} {m : Loc} {xp q : Pos}
theorem TrT.isNotNone {a : PySem.Expr} {k' : Nat} {p pos : Pos} (ha : EvT S n sc m a (.d .none)) : TrT S n sc m (.Compare a [.IsNot] [.Constant .none k' p] pos) false := by
  refine TrT.cmp ha EvT.none (fun A h₀ s v u Q _ r₁ r₂ k => ?_) rfl
  rw [rd_none r₂, rd_none r₁]
  exact wpAny_of_eq (a := .bool false) rfl (k _ (.refl _))
theorem EvT.sortedE {cp xp : Pos} {a : PySem.Expr} (O : XOk S X) (K2 : KF2 S) (ha : EvT S n sc m a (.o (PAt X D X.rd))) (hx : sc.names.lookup (Str.ofString "sorted") = some .globalImplicit) (h1 : ∀ env, starEach [a] env = [(false, eval a env)] := by intro _; with_unfolding_all rfl) :
    EvT S n sc m (.Call (.Name "sorted" xp) [a] [] cp) (.d (.list [])) := by
  intro A h₀ env s Q at_ F k
  refine Call_ (EvT.bi K2.b_sorted hx (v := .builtin "sorted") (by decide +kernel) (by decide +kernel) (by decide +kernel) A h₀ env s _ at_ F fun v s' e' r => ?_) (by with_unfolding_all rfl)
  cases r
  have F' := F.keeps e'.keep
  refine callWith_method1 (first := []) (spliced_more (ha A h₀ env s' _ at_ F' fun v s₂ e₂ r₂ => spliced_none ?_) (by rw [h1]; rfl)) (by rw [h1]; rfl) (by with_unfolding_all rfl)
  obtain ⟨rfl, B⟩ := r₂.1
  obtain ⟨n', hr⟩ := B.rows
  exact sorted_empty O.sys ((F'.keeps e₂.keep).old _ _ hr) at_.room.2.2 fun s₃ e₃ b r₃ => k _ s₃ ((e'.trans e₂).trans e₃) r₃
theorem ok_numbers : DefOk (inCls 44 1) ["self"] := by ktd_rel
theorem s_numbers (O : XOk S X) (K2 : KF2 S) : CallT S 2 (inCls 44 1) [sM X D] (.list []) := by
  refine CallT.mk [("self", sM X D)] ok_numbers rfl ?_
  exact ExT.stop (StT.ret (EvT.sortedE O K2 (upRows O (by kaf_pre) (by kernel_rfl)) (by kernel_rfl))) trivial
theorem markLook {name : Str} (hf : ∀ f, MarkF X f → f name = none) : ∀ h, BWAt X D h → ∃ f k, Inst h X.ma X.dma X.Cm f k ∧ f name = none := fun h B => by
  obtain ⟨f, I, ff⟩ := B.mark
  exact ⟨f, _, I, hf f ff⟩
theorem ok_inserted : DefOk (inCls 44 5) ["self", "start", "end", "is_before"] := by ktd_rel
theorem s_inserted (O : XOk S X) (K2 : KF2 S) (a b : Int) (c : Bool) : CallT S 3 (inCls 44 5) [sM X D, it a, it b, bl c] .none := by
  refine CallT.mkN [("self", sM X D), ("start", it a), ("end", it b), ("is_before", bl c)] (m' := [("self", sM X D), ("start", it a), ("end", it b), ("is_before", bl c)]) ok_inserted rfl ?_
  exact ExT.cons (StT.for0 (upMeth (EvT.loc (by kernel_rfl) (by kaf_pre) (by kernel_rfl)) O.markM.toPlainCls O.markM.mNumbers (markLook fun f h => h.numbers) .nil (s_numbers O K2) (.inl ⟨rfl, rfl⟩))) ExT.nil
theorem ok_need_writable : DefOk (topStmt 77) ["buffer"] := by ktd_rel
theorem s_need_writable (O : XOk S X) : CallT S 1 (topStmt 77) [sB X D] .none := by
  refine CallT.mkN [("buffer", sB X D)] (m' := [("buffer", sB X D)]) ok_need_writable rfl ?_
  refine ExT.cons (StT.ite (b := false) (TrT.val (upVal (v := .bool false) (x := .bool false) O (by kaf_pre) (by kernel_rfl) (O.bufM.no _ (by decide +kernel)) (fun f h => h.ro) rfl fun _ _ => .bool _)) ?_) ExT.nil
  exact ExT.nil
theorem ok_need_room : DefOk (topStmt 78) ["buffer", "growth"] := by ktd_rel
theorem s_need_room (H : KF S) (O : XOk S X) (hl : D.cells.length ≤ 1000) (h2 : D.gst = 0) (h3 : D.gen = D.cells.length) (k : Nat) (hk : k ≤ 1000) : CallT S 4 (topStmt 78) [sB X D, it k] .none := by
  refine CallT.mkN [("buffer", sB X D), ("growth", it k)] (m' := [("buffer", sB X D), ("growth", it k)]) ok_need_room rfl ?_
  refine ExT.cons (StT.ite (b := false) (TrT.icmp (EvT.add (upMeth (EvT.loc (by kernel_rfl) (by kaf_pre) (by kernel_rfl)) O.buf.toPlainCls O.bufM.mSize (bufLook fun f h => h.size) .nil (s_bsize H O hl) (.inl ⟨rfl, rfl⟩)) (by kwd_rel)) (EvT.gint H.c_LONGEST (by kernel_rfl) (by kernel_rfl)) ?_) ?_) ExT.nil
  · simp only [Mine.icmp, decide_eq_false_iff_not, h2, h3]; omega
  · exact ExT.nil
theorem ok_tell_ahead : DefOk (topStmt 80) ["buffer", "start", "end"] := by ktd_rel
theorem upLis {y : Str} (O : XOk S X) (hm : (y, sB X D) ∈ m) (hx : sc.names.lookup y = some .local) (hd : (y == ("__debug__" : Str)) = false := by decide +kernel) : EvT S n sc m (.Attribute (.Name y xp) "listeners" q) (.d (.list [])) :=
  upVal (v := .ref X.ls) O hm hx (O.bufM.no _ (by decide +kernel)) (fun f h => h.listeners) rfl (fun h B => .list (vs := #[]) B.lis rfl fun i v x e _ => by simp at e) hd
theorem s_tell_ahead (H : KF S) (O : XOk S X) (a b : Int) : CallT S 1 (topStmt 80) [sB X D, it a, it b] .none := by
  refine CallT.mkN [("buffer", sB X D), ("start", it a), ("end", it b)] (m' := [("buffer", sB X D), ("start", it a), ("end", it b)]) ok_tell_ahead rfl ?_
  exact ExT.cons (StT.for0 (EvT.list1 H.b_list (upLis O (by kaf_pre) (by kernel_rfl)) (by simp) (by kernel_rfl))) ExT.nil
theorem upNone {y name : Str} (O : XOk S X) (hm : (y, sB X D) ∈ m) (hx : sc.names.lookup y = some .local) (hno : findIn S.K (.ref X.C) name = some Option.none) (hf : ∀ f, BufF X D f → f name = some .none) (hd : (y == ("__debug__" : Str)) = false := by decide +kernel) : EvT S n sc m (.Attribute (.Name y xp) name q) (.d .none) :=
  upVal O hm hx hno hf rfl (fun _ _ => .none) hd
theorem ok_hung_in : DefOk (topStmt 83) ["buffer", "place", "many", "before_markers"] := by ktd_rel
theorem s_hung_in (O : XOk S X) (a b : Int) (c : Bool) : CallT S 1 (topStmt 83) [sB X D, it a, it b, bl c] .none := by
  refine CallT.mkN [("buffer", sB X D), ("place", it a), ("many", it b), ("before_markers", bl c)] (m' := [("buffer", sB X D), ("place", it a), ("many", it b), ("before_markers", bl c)]) ok_hung_in rfl ?_
  refine ExT.cons (StT.ite (b := false) (TrT.isNotNone (upNone O (by kaf_pre) (by kernel_rfl) (O.bufM.no _ (by decide +kernel)) fun f h => h.props)) ExT.nil) ?_
  exact ExT.cons (StT.ite (b := false) (TrT.isNotNone (upNone O (by kaf_pre) (by kernel_rfl) (O.bufM.no _ (by decide +kernel)) fun f h => h.overlays)) ExT.nil) ExT.nil
end
section
variable {S : Sg} {X : BX} {n : Nat} {sc : Scope} {L L' : ML} {D D' : BS} {m m' : Loc} {xp q : Pos}
theorem StB.pure {st : Stmt} (h : StT S n sc m st (.next m')) (nc : ∀ p ∈ L', p.2 ≠ .cd) (hm : upL X D L = m := by rfl) (hm' : upL X D L' = m' := by rfl) : StB S X n sc L D st (.next L' D) := by
  subst hm
  subst hm'
  intro A env s Q at_ F B hL k
  refine h A _ env s _ at_ (F.lift B hL) fun fl s' e o => ?_
  obtain ⟨rfl, F'⟩ := o
  obtain ⟨mv, f, r⟩ := F'.fr
  have u : S.base.get? env.locals = none := F.out
  refine k _ s' e.chg ⟨rfl, ⟨⟨mv, f, fun x pv hm => ?_⟩, f.keep, u⟩, B.on fun a ha o z => e.keep a o (fun q => hL (q ▸ ha)) z⟩
  obtain ⟨p, hp, e⟩ := List.mem_map.mp hm
  cases e
  obtain ⟨v, hv, hr⟩ := r p.1 (p.2.up X D) (List.mem_map.mpr ⟨p, hp, rfl⟩)
  refine ⟨v, hv, ?_⟩
  have := nc p hp
  obtain ⟨y, k⟩ := p
  cases k with
  | fl x => exact hr
  | ob a => exact hr.1.1
  | cd => exact absurd rfl this
theorem EvB.ofR {e : PySem.Expr} {p : Addr} (h : EvT S n sc m e (.r (.ref p))) (hm : upL X D L = m := by rfl) : EvB S X n sc L D e (.ob p) := by
  subst hm
  intro A env s Q at_ F B hL k
  exact h A _ env s _ at_ (F.lift B hL) fun v s' e r => k v s' e r
theorem upPartR {y name : Str} {p' : Addr} (O : XOk S X) (hm : (y, sB X D) ∈ m) (hx : sc.names.lookup y = some .local) (hno : findIn S.K (.ref X.C) name = some Option.none) (hf : ∀ f, BufF X D f → f name = some (.ref p')) (hd : (y == ("__debug__" : Str)) = false := by decide +kernel) :
    EvT S n sc m (.Attribute (.Name y xp) name q) (.r (.ref p')) :=
  upAttr hm hx O.buf.toPlainCls hno (fun h B => by
    obtain ⟨f, I, ff⟩ := B.buf
    exact ⟨f, _, _, I, hf f ff, rfl, rfl⟩) hd
theorem BufF.put {f : Str → Option Value} (h : BufF X D f) {name : Str} {v : Value} (hn : ∀ y ∈ (["text", "markers", "listeners", "is_read_only", "undo", "props", "overlays", "begin", "end", "code_at", "size", "codes", "goto", "touch"] : List Str), y ≠ name)
    (h1 : IsInt (updF f name v) "begv" D'.begv) (h2 : IsInt (updF f name v) "zv" D'.zv) (h3 : IsInt (updF f name v) "point" D'.point) (h4 : IsInt (updF f name v) "ticks" D'.ticks) (h5 : IsInt (updF f name v) "codes_ticks" D'.ctk) : BufF X D' (updF f name v) := by
  obtain ⟨_, _, _, _, _, a1, a2, a3, a4, a5, a6, a7, a8, a9, b1, b2, b3, b4, b5⟩ := h
  have c : ∀ {y : Str} {r : Option Value}, y ∈ (["text", "markers", "listeners", "is_read_only", "undo", "props", "overlays", "begin", "end", "code_at", "size", "codes", "goto", "touch"] : List Str) → f y = r → updF f name v y = r := fun hm e => (updF_ne (hn _ hm)).trans e
  exact ⟨h1, h2, h3, h4, h5, c (by decide +kernel) a1, c (by decide +kernel) a2, c (by decide +kernel) a3, c (by decide +kernel) a4, c (by decide +kernel) a5, c (by decide +kernel) a6, c (by decide +kernel) a7, c (by decide +kernel) a8, c (by decide +kernel) a9, c (by decide +kernel) b1, c (by decide +kernel) b2, c (by decide +kernel) b3, c (by decide +kernel) b4, c (by decide +kernel) b5⟩
theorem BufF.setZv {f : Str → Option Value} (h : BufF X D f) (i : Int) (t : Tok) : (f "zv").isSome = true ∧ BufF X { D with zv := i } (updF f "zv" (.int i t)) :=
  ⟨h.zv.some, h.put (by decide +kernel) (h.begv.off (by decide +kernel)) .put (h.point.off (by decide +kernel)) (h.ticks.off (by decide +kernel)) (h.ctk.off (by decide +kernel))⟩
theorem BufF.setBegv {f : Str → Option Value} (h : BufF X D f) (i : Int) (t : Tok) : (f "begv").isSome = true ∧ BufF X { D with begv := i } (updF f "begv" (.int i t)) :=
  ⟨h.begv.some, h.put (by decide +kernel) .put (h.zv.off (by decide +kernel)) (h.point.off (by decide +kernel)) (h.ticks.off (by decide +kernel)) (h.ctk.off (by decide +kernel))⟩
theorem BufF.setPoint {f : Str → Option Value} (h : BufF X D f) (i : Int) (t : Tok) : (f "point").isSome = true ∧ BufF X { D with point := i } (updF f "point" (.int i t)) :=
  ⟨h.point.some, h.put (by decide +kernel) (h.begv.off (by decide +kernel)) (h.zv.off (by decide +kernel)) .put (h.ticks.off (by decide +kernel)) (h.ctk.off (by decide +kernel))⟩
theorem BufF.setTicks {f : Str → Option Value} (h : BufF X D f) (i : Int) (t : Tok) : (f "ticks").isSome = true ∧ BufF X { D with ticks := i } (updF f "ticks" (.int i t)) :=
  ⟨h.ticks.some, h.put (by decide +kernel) (h.begv.off (by decide +kernel)) (h.zv.off (by decide +kernel)) (h.point.off (by decide +kernel)) .put (h.ctk.off (by decide +kernel))⟩
theorem BufF.setCtk {f : Str → Option Value} (h : BufF X D f) (i : Int) (t : Tok) : (f "codes_ticks").isSome = true ∧ BufF X { D with ctk := i } (updF f "codes_ticks" (.int i t)) :=
  ⟨h.ctk.some, h.put (by decide +kernel) (h.begv.off (by decide +kernel)) (h.zv.off (by decide +kernel)) (h.point.off (by decide +kernel)) (h.ticks.off (by decide +kernel)) .put⟩
theorem bInt {y name : Str} {i : Int} (O : XOk S X) (hm : (y, sB X D) ∈ m) (hx : sc.names.lookup y = some .local) (hf : ∀ f, BufF X D f → IsInt f name i) (hn : name ∈ (["begv", "zv", "point", "ticks", "codes_ticks", "text", "markers", "listeners", "is_read_only", "undo", "props", "overlays"] : List Str)) (hd : (y == ("__debug__" : Str)) = false := by decide +kernel) :
    EvT S n sc m (.Attribute (.Name y xp) name q) (it i) := upB O hm hx (O.bufM.no _ hn) hf hd
theorem ok_reached : DefOk (topStmt 79) ["buffer", "start", "end"] := by ktd_rel
theorem s_reached (H : KF S) (O : XOk S X) (h1 : D.begv = 1) (h2 : D.zv = 1) : CallT S 2 (topStmt 79) [sB X D, it 1, it 1] (.tuple [.int 1, .int 1]) := by
  refine CallT.mk [("buffer", sB X D), ("start", it 1), ("end", it 1)] ok_reached rfl ?_
  refine ExT.cons (StT.swap2 (p := .int 1) (q := .int 1) (EvT.tup2 (EvT.castI (EvT.min2 H.b_min (by kwd_rel) (by kwd_rel) (by kernel_rfl)) rfl) (EvT.castI (EvT.max2 H.b_max (by kwd_rel) (by kwd_rel) (by kernel_rfl)) rfl)) (by kaf_suf) (by kaf_suf) (by kernel_rfl) (by kernel_rfl)) ?_
  refine ExT.cons (StT.ite (b := false) (TrT.bops (TrsT.consO (b := false) (TrT.icmp (by kwd_rel) (bInt O (by kaf_pre) (by kernel_rfl) (fun f h => h.begv) (by decide +kernel)) (by rw [h1]; rfl)) fun _ => TrsT.consO (b := false) (TrT.icmp (by kwd_rel) (bInt O (by kaf_pre) (by kernel_rfl) (fun f h => h.zv) (by decide +kernel)) (by rw [h2]; rfl)) fun _ => TrsT.nilO)) ExT.nil) ?_
  exact ExT.stop (StT.ret (by kwd_rel)) trivial
theorem ok_touch : DefOk (inCls 48 12) ["self", "are_codes"] := by ktd_rel
noncomputable abbrev touL (X : BX) : ML := [("self", .ob X.x), ("are_codes", .fl (.bool true))]
noncomputable abbrev touU (X : BX) (D : BS) : Loc := [("self", sB X D), ("are_codes", bl true)]
theorem touFl : flatL (touL X) := fun p hp => by
  simp only [List.mem_cons, List.not_mem_nil, or_false] at hp
  rcases hp with rfl | rfl <;> exact trivial
theorem s_touch (O : XOk S X) : CallB S X 2 (inCls 48 12) [.ob X.x, .fl (.bool true)] D .none { D with ticks := D.ticks + 1, ctk := D.ticks + 1 } := by
  refine CallB.mk (touL X) ok_touch rfl O (.inr ⟨⟨touL X, ?_⟩, rfl⟩)
  refine ExB.cons (StB.setb (m := touU X D) (i := D.ticks + 1) (D' := { D with ticks := D.ticks + 1 }) O (.head _) (by kernel_rfl) (EvT.add (bInt O (by kaf_pre) (by kernel_rfl) (fun f h => h.ticks) (by decide +kernel)) EvT.int) touFl (by decide +kernel) (fun f t h => h.setTicks _ t) (fun f h => h.same) rfl) ?_
  refine ExB.cons (StB.ite (m := touU X { D with ticks := D.ticks + 1 }) (b := true) (TrT.val (EvT.loc (by kernel_rfl) (by kaf_pre) (by kernel_rfl))) ?_) ExB.nil
  simp only [if_true]
  exact ExB.cons (StB.setb (m := touU X { D with ticks := D.ticks + 1 }) (i := D.ticks + 1) O (.head _) (by kernel_rfl) (bInt O (by kaf_pre) (by kernel_rfl) (fun f h => h.ticks) (by decide +kernel)) touFl (by decide +kernel) (fun f t h => h.setCtk _ t) (fun f h => h.same) rfl) ExB.nil
theorem ok_tell_behind : DefOk (topStmt 81) ["buffer", "start", "end", "old_length"] := by ktd_rel
noncomputable abbrev tebL (X : BX) (a b c : Int) : ML := [("buffer", .ob X.x), ("start", .fl (.int a)), ("end", .fl (.int b)), ("old_length", .fl (.int c))]
noncomputable abbrev tebU (X : BX) (D : BS) (a b c : Int) : Loc := [("buffer", sB X D), ("start", it a), ("end", it b), ("old_length", it c)]
theorem tebFl {a b c : Int} : flatL (tebL X a b c) := fun p hp => by
  simp only [List.mem_cons, List.not_mem_nil, or_false] at hp
  rcases hp with rfl | rfl | rfl | rfl <;> exact trivial
theorem s_tell_behind (H : KF S) (O : XOk S X) (a b c : Int) : CallB S X 3 (topStmt 81) [.ob X.x, .fl (.int a), .fl (.int b), .fl (.int c)] D .none { D with ticks := D.ticks + 1, ctk := D.ticks + 1 } := by
  refine CallB.mk (tebL X a b c) ok_tell_behind rfl O (.inr ⟨⟨tebL X a b c, ?_⟩, rfl⟩)
  refine ExB.cons (StB.callM O (EvB.name (.head _) (by kernel_rfl)) O.buf.toPlainCls O.bufM.mTouch (bufLook fun f h => h.touch) (EvsB.cons (EvB.of (m := tebU X D a b c) EvT.bool) .nil) (s_touch O) tebFl (.inr ⟨_, _, rfl, fun _ => by with_unfolding_all rfl, fun _ _ => by with_unfolding_all rfl⟩)) ?_
  refine ExB.cons (StB.pure (m := tebU X _ a b c) (m' := tebU X _ a b c) (L' := tebL X a b c) (StT.for0 (EvT.list1 H.b_list (upLis O (by kaf_pre) (by kernel_rfl)) (by simp) (by kernel_rfl))) ?_) ExB.nil
  intro p hp
  simp only [List.mem_cons, List.not_mem_nil, or_false] at hp
  rcases hp with rfl | rfl | rfl | rfl <;> exact fun q => nomatch q
end
section
variable {S : Sg} {X : BX} {n : Nat} {sc : Scope} {L L' : ML} {D D' : BS} {m m' : Loc} {xp q : Pos}
theorem ok_text_in : DefOk (topStmt 82) ["buffer", "place", "codes"] := by ktd_rel
noncomputable abbrev tinL (X : BX) : ML := [("buffer", .ob X.x), ("place", .fl (.int 1)), ("codes", .cd)]
noncomputable abbrev tinU (X : BX) (D : BS) : Loc := [("buffer", sB X D), ("place", it 1), ("codes", .d (.list (X.cs.map .int)))]
theorem tinFl : flatL (tinL X) := fun p hp => by
  simp only [List.mem_cons, List.not_mem_nil, or_false] at hp
  rcases hp with rfl | rfl | rfl <;> exact trivial
noncomputable abbrev inG (X : BX) (D : BS) : BS := { D with cells := X.cs ++ List.replicate (gapW X.cs.length - X.cs.length) 0, gen := gapW X.cs.length, gst := X.cs.length }
theorem s_text_in (H : KF S) (O : XOk S X) (hk : X.cs.length ≤ 16) (h1 : D.room = 8) (h2 : D.gst = 0) (h3 : D.gen = 8) (h4 : D.cells = List.replicate 8 0) (h5 : D.point = 1) :
    CallB S X 6 (topStmt 82) [.ob X.x, .fl (.int 1), .cd] D .none { inG X D with zv := D.zv + X.cs.length } := by
  refine CallB.mk (tinL X) ok_text_in rfl O (.inr ⟨⟨tinL X, ?_⟩, rfl⟩)
  refine ExB.cons (StB.ite (out := .next (tinL X) D) (m := tinU X D) (b := false) (TrT.isNotNone (upNone O (by kaf_pre) (by kernel_rfl) (O.bufM.no _ (by decide +kernel)) fun f h => h.undo)) ExB.nil) ?_
  refine ExB.cons (StB.callM O (EvB.ofR (m := tinU X D) (upPartR O (by kaf_pre) (by kernel_rfl) (O.bufM.no _ (by decide +kernel)) fun f h => h.text)) O.gap.toPlainCls O.gapM.mInsert (gapLook fun f h => h.insert)
    (EvsB.cons (EvB.of (m := tinU X D) (EvT.castI (y := 0) (EvT.sub (by kwd_rel) EvT.int) rfl)) (EvsB.cons (EvB.name (.tail _ (.tail _ (.head _))) (by kernel_rfl)) .nil)) (s_gap_insert H O hk h1 h2 h3 h4) tinFl (.inr ⟨_, _, rfl, fun _ => by with_unfolding_all rfl, fun _ _ => by with_unfolding_all rfl⟩)) ?_
  refine ExB.cons (StB.setb (m := tinU X _) (i := D.zv + X.cs.length) (D' := { inG X D with zv := D.zv + X.cs.length }) O (.head _) (by kernel_rfl) (EvT.add (bInt (D := inG X D) O (by kaf_pre) (by kernel_rfl) (fun f h => h.zv) (by decide +kernel)) (evCodesLen H (by kaf_pre) (by kernel_rfl) (by kernel_rfl) hk)) tinFl (by decide +kernel) (fun f t h => h.setZv _ t) (fun f h => h.same) rfl) ?_
  exact ExB.cons (StB.ite (out := .next (tinL X) { inG X D with zv := D.zv + X.cs.length }) (m := tinU X { inG X D with zv := D.zv + X.cs.length }) (b := false) (TrT.icmp (bInt (D := { inG X D with zv := D.zv + X.cs.length }) (i := D.point) O (by kaf_pre) (by kernel_rfl) (fun f h => h.point) (by decide +kernel)) (by kwd_rel) (by rw [h5]; rfl)) ExB.nil) ExB.nil
theorem ok_put_in : DefOk (topStmt 84) ["buffer", "place", "codes", "before_markers", "is_point_behind"] := by
  refine DefOk.of (fun _ _ _ _ _ _ _ vs h => ?_) (by kernel_rfl)
  obtain ⟨a, b, c, d, e, q⟩ := len5 h
  subst q
  rfl
noncomputable abbrev pinL (X : BX) : ML := [("buffer", .ob X.x), ("place", .fl (.int 1)), ("codes", .cd), ("before_markers", .fl (.bool false)), ("is_point_behind", .fl (.bool true))]
noncomputable abbrev pinU (X : BX) (D : BS) : Loc := [("buffer", sB X D), ("place", it 1), ("codes", .d (.list (X.cs.map .int))), ("before_markers", bl false), ("is_point_behind", bl true)]
theorem pinFl : flatL (pinL X) := fun p hp => by
  simp only [List.mem_cons, List.not_mem_nil, or_false] at hp
  rcases hp with rfl | rfl | rfl | rfl | rfl <;> exact trivial
noncomputable def putD (X : BX) (D : BS) : BS := if X.cs.length = 0 then D else { inG X D with zv := D.zv + X.cs.length, point := 1 + X.cs.length, ticks := D.ticks + 1, ctk := D.ticks + 1 }
theorem s_put_in (H : KF S) (O : XOk S X) (K2 : KF2 S) (hk : X.cs.length ≤ 16) (h1 : D.room = 8) (h2 : D.gst = 0) (h3 : D.gen = 8) (h4 : D.cells = List.replicate 8 0) (h5 : D.point = 1) (h6 : D.begv = 1) (h7 : D.zv = 1) :
    CallB S X 7 (topStmt 84) [.ob X.x, .fl (.int 1), .cd, .fl (.bool false), .fl (.bool true)] D .none (putD X D) := by
  have c8 : D.cells.length = 8 := by rw [h4]; simp
  unfold putD
  by_cases hz : X.cs.length = 0
  · rw [if_pos hz]
    refine CallB.mk (pinL X) ok_put_in rfl O (.inl ?_)
    refine ExB.cons (StB.expr (m := pinU X D) (EvT.call1 H.f_need_writable (by kwd_rel) (s_need_writable O).up (by kernel_rfl))) ?_
    refine ExB.cons (StB.expr (m := pinU X D) (EvT.call3 H.f_reached (by kwd_rel) (by kwd_rel) (by kwd_rel) (s_reached H O h6 h7).up (by kernel_rfl))) ?_
    refine ExB.stop (StB.ite (m := pinU X D) (b := true) (TrT.icmp (evCodesLen H (by kaf_pre) (by kernel_rfl) (by kernel_rfl) hk) EvT.int (by rw [hz]; rfl)) ?_)
    simp only [if_true]
    exact ExB.stop StB.ret0
  · rw [if_neg hz]
    refine CallB.mk (pinL X) ok_put_in rfl O (.inr ⟨⟨pinL X, ?_⟩, rfl⟩)
    refine ExB.cons (StB.expr (m := pinU X D) (EvT.call1 H.f_need_writable (by kwd_rel) (s_need_writable O).up (by kernel_rfl))) ?_
    refine ExB.cons (StB.expr (m := pinU X D) (EvT.call3 H.f_reached (by kwd_rel) (by kwd_rel) (by kwd_rel) (s_reached H O h6 h7).up (by kernel_rfl))) ?_
    refine ExB.cons (StB.ite (out := .next (pinL X) D) (m := pinU X D) (b := false) (TrT.icmp (evCodesLen H (by kaf_pre) (by kernel_rfl) (by kernel_rfl) hk) EvT.int (by simp only [Mine.icmp, beq_eq_false_iff_ne]; omega)) ExB.nil) ?_
    refine ExB.cons (StB.expr (m := pinU X D) (EvT.call2 H.f_need_room (by kwd_rel) (evCodesLen H (by kaf_pre) (by kernel_rfl) (by kernel_rfl) hk) (s_need_room H O (by omega) h2 (by rw [h3, c8]; rfl) X.cs.length (by omega)).up (by kernel_rfl))) ?_
    refine ExB.cons (StB.expr (m := pinU X D) (EvT.call3 H.f_tell_ahead (by kwd_rel) (by kwd_rel) (by kwd_rel) (s_tell_ahead H O 1 1).up (by kernel_rfl))) ?_
    refine ExB.cons (StB.callG O H.f_text_in (EvsB.cons (EvB.name (.head _) (by kernel_rfl)) (EvsB.cons (EvB.name (.tail _ (.head _)) (by kernel_rfl)) (EvsB.cons (EvB.name (.tail _ (.tail _ (.head _))) (by kernel_rfl)) .nil))) (s_text_in H O hk h1 h2 h3 h4 h5) pinFl (by kernel_rfl) ⟨_, _, rfl, fun _ => by with_unfolding_all rfl, fun _ _ => by with_unfolding_all rfl⟩) ?_
    refine ExB.cons (StB.ite (out := .next (pinL X) { inG X D with zv := D.zv + X.cs.length, point := 1 + X.cs.length }) (m := pinU X _) (b := true) (TrT.val (EvT.loc (by kernel_rfl) (by kaf_pre) (by kernel_rfl))) ?_) ?_
    · simp only [if_true]
      exact ExB.cons (StB.setb (m := pinU X _) (i := 1 + X.cs.length) O (.head _) (by kernel_rfl) (EvT.add (by kwd_rel) (evCodesLen H (by kaf_pre) (by kernel_rfl) (by kernel_rfl) hk)) pinFl (by decide +kernel) (fun f t h => h.setPoint _ t) (fun f h => h.same) rfl) ExB.nil
    refine ExB.cons (StB.expr (m := pinU X _) (upMeth (upPart O (by kaf_pre) (by kernel_rfl) (O.bufM.no _ (by decide +kernel)) fun f h => h.markers) O.markM.toPlainCls O.markM.mInserted (markLook fun f h => h.inserted) (EvsT.cons (by kwd_rel) (EvsT.cons (EvT.add (by kwd_rel) (evCodesLen H (by kaf_pre) (by kernel_rfl) (by kernel_rfl) hk)) (EvsT.one (by kwd_rel)))) (s_inserted O K2 1 (1 + X.cs.length) false).up (.inr ⟨_, _, rfl, fun _ => by with_unfolding_all rfl, fun _ _ => by with_unfolding_all rfl⟩))) ?_
    refine ExB.cons (StB.expr (m := pinU X _) (EvT.call4 H.f_hung_in (by kwd_rel) (by kwd_rel) (evCodesLen H (by kaf_pre) (by kernel_rfl) (by kernel_rfl) hk) (by kwd_rel) (s_hung_in O 1 X.cs.length false).up (by kernel_rfl))) ?_
    exact ExB.cons (StB.callG O H.f_tell_behind (EvsB.cons (EvB.name (.head _) (by kernel_rfl)) (EvsB.cons (EvB.name (.tail _ (.head _)) (by kernel_rfl)) (EvsB.cons (EvB.of (m := pinU X _) (EvT.add (by kwd_rel) (evCodesLen H (by kaf_pre) (by kernel_rfl) (by kernel_rfl) hk))) (EvsB.cons (EvB.of (m := pinU X _) EvT.int) .nil)))) ((s_tell_behind H O 1 (1 + X.cs.length) 0).up (n := 6)) pinFl (by kernel_rfl) ⟨_, _, rfl, fun _ => by with_unfolding_all rfl, fun _ _ => by with_unfolding_all rfl⟩) ExB.nil
end
section
variable {M : Model} {A : Around} {E : Value → Shared → Prop} {s : Shared} {env : Env}
theorem assign_Attr {o : PySem.Expr} {attr : Str} {pos : Pos} {v : Value} {Q : Unit → Shared → Prop} (h : wpAny M A (eval o env) (fun ov s₁ => wpAny M A (setAttr ov attr v) (fun _ => Q ()) E s₁) E s) : wpAny M A (assign (.Attribute o attr pos) env v) Q E s := by
  rw [assign_Attribute]
  exact wpAny_bind (wpAny_holding (wpAny_mono h (fun ov s₁ h₁ => wpAny_bind (wpAny_standAt (wpAny_bind (wpAny_holding (wpAny_mono h₁ (fun _ s₂ h₂ => wpAny_release h₂) fun _ _ x => x))))) fun _ _ x => x))
end
section
variable {S : Sg} {X : BX} {n : Nat} {sc : Scope} {L L' : ML} {D D' : BS} {m m' : Loc} {xp q : Pos}
theorem ok_goto : DefOk (inCls 48 8) ["self", "place"] := by ktd_rel
noncomputable abbrev gotL (X : BX) (p : Int) : ML := [("self", .ob X.x), ("place", .fl (.int p))]
noncomputable abbrev gotU (X : BX) (D : BS) (p : Int) : Loc := [("self", sB X D), ("place", it p)]
theorem gotFl {p : Int} : flatL (gotL X p) := fun p hp => by
  simp only [List.mem_cons, List.not_mem_nil, or_false] at hp
  rcases hp with rfl | rfl <;> exact trivial
theorem s_goto (H : KF S) (O : XOk S X) (p : Int) (h1 : D.begv ≤ p) (h2 : p ≤ D.zv) : CallB S X 2 (inCls 48 8) [.ob X.x, .fl (.int p)] D (.int p) { D with point := p } := by
  refine CallB.mk (gotL X p) ok_goto rfl O (.inl ?_)
  refine ExB.cons (StB.setb (m := gotU X D p) (i := p) (D' := { D with point := p }) O (.head _) (by kernel_rfl) (EvT.castI (EvT.min2 H.b_min (EvT.max2 H.b_max (by kwd_rel) (bInt O (by kaf_pre) (by kernel_rfl) (fun f h => h.begv) (by decide +kernel)) (by kernel_rfl)) (bInt O (by kaf_pre) (by kernel_rfl) (fun f h => h.zv) (by decide +kernel)) (by kernel_rfl)) ?_) gotFl (by decide +kernel) (fun f t h => h.setPoint _ t) (fun f h => h.same) rfl) ?_
  · split <;> split <;> omega
  exact ExB.stop (StB.ret (m := gotU X { D with point := p } p) (bInt (D := { D with point := p }) O (by kaf_pre) (by kernel_rfl) (fun f h => h.point) (by decide +kernel)))
theorem ok_narrow : DefOk (topStmt 87) ["buffer", "start", "end"] := by ktd_rel
noncomputable abbrev narL (X : BX) (a b : Int) : ML := [("buffer", .ob X.x), ("start", .fl (.int a)), ("end", .fl (.int b))]
noncomputable abbrev narU (X : BX) (D : BS) (a b : Int) : Loc := [("buffer", sB X D), ("start", it a), ("end", it b)]
noncomputable abbrev nar2L (X : BX) (a b : Int) : ML := [("buffer", .ob X.x), ("start", .fl (.int a)), ("end", .fl (.int b)), ("high", .fl (.int b)), ("low", .fl (.int a))]
noncomputable abbrev nar2U (X : BX) (D : BS) (a b : Int) : Loc := [("buffer", sB X D), ("start", it a), ("end", it b), ("high", it b), ("low", it a)]
theorem nar2Fl {a b : Int} : flatL (nar2L X a b) := fun p hp => by
  simp only [List.mem_cons, List.not_mem_nil, or_false] at hp
  rcases hp with rfl | rfl | rfl | rfl | rfl <;> exact trivial
theorem StB.setPair {y : Str} {p1 p2 q1 q2 tp pos : Pos} {k' : Nat} {e : PySem.Expr} {a b : Int} (O : XOk S X) (hy : (y, MK.ob X.x) ∈ L) (hyl : sc.names.lookup y = some .local) (h : EvT S n sc m e (.d (.tuple [.int a, .int b]))) (fl : flatL L) (hm : upL X D L = m := by rfl)
    (hs : ∀ env, swapsWithSole [.Tuple [.Attribute (.Name y p1) "begv" q1, .Attribute (.Name y p2) "zv" q2] k' tp] e pos.line env = Pure.pure false := by intro _; with_unfolding_all rfl)
    (hw : ∀ env : Env, env.scope = sc → swappedStores [.Tuple [.Attribute (.Name y p1) "begv" q1, .Attribute (.Name y p2) "zv" q2] k' tp] e env = Pure.pure Option.none := by intro env h; obtain ⟨a, b, c, d, e, f, g, h, i⟩ := env; dsimp only at h; subst h; with_unfolding_all rfl) (hd : (y == ("__debug__" : Str)) = false := by decide +kernel) :
    StB S X n sc L D (.Assign [.Tuple [.Attribute (.Name y p1) "begv" q1, .Attribute (.Name y p2) "zv" q2] k' tp] e pos) (.next L { D with begv := a, zv := b }) := by
  subst hm
  intro A env s Q at_ F B hL kk
  refine Assign_Tuple (h A _ env s _ at_ (F.lift B hL) fun v s₁ e₁ r₁ => ?_) (hs _) (hw _ at_.sc)
  obtain ⟨t, vs, nn, rfl, ho, ra⟩ := rd_tuple r₁
  obtain ⟨u, us, e1, ru, rr⟩ := RdAll.uncons ra
  obtain ⟨w, ws, e2, rw_, rn⟩ := RdAll.uncons rr
  have e3 := RdAll.unnil rn
  subst e3
  subst e2
  have hsz : vs.size = 2 := by rw [← Array.length_toList, e1]; rfl
  obtain ⟨t1, rfl⟩ := rd_int ru
  obtain ⟨t2, rfl⟩ := rd_int rw_
  refine assign_Tuple_tuple at_.room.2.2 ⟨_, ho, rfl, nn, rfl⟩ (by show 2 = vs.size; rw [hsz]) (by rfl) fun h' he => ?_
  have k₁ : ∀ b o, s₁.heap.get? b = some o → h'.get? b = some o := fun b o e => he b o (Nat.ne_of_lt (Heap.lt_size e)) e
  have x₁ : Ext s { s₁ with heap := h' } := e₁.trans ⟨k₁, rfl, rfl⟩
  have F₁ := F.keeps x₁.keep
  have B₁ := B.keeps x₁.keep
  rw [e1]
  refine assignInOrder_cons (assign_Attr (EvB.name hy hyl hd A env { s₁ with heap := h' } _ at_ F₁ B₁ hL fun u s₂ e₂ r₂ => ?_))
  have : u = .ref X.x := r₂
  subst this
  refine setB (D' := { D with begv := a }) O at_.ok (F₁.keeps e₂.keep) fl (B₁.keeps e₂.keep) hL (by decide +kernel) (fun f h => h.setBegv _ _) (fun f h => h.same) rfl fun s₃ c₃ F₃ B₃ => ?_
  refine assignInOrder_cons (assign_Attr (EvB.name hy hyl hd A env s₃ _ at_ F₃ B₃ hL fun u s₄ e₄ r₄ => ?_))
  have : u = .ref X.x := r₄
  subst this
  refine setB (D' := { D with begv := a, zv := b }) O at_.ok (F₃.keeps e₄.keep) fl (B₃.keeps e₄.keep) hL (by decide +kernel) (fun f h => h.setZv _ _) (fun f h => h.same) rfl fun s₅ c₅ F₅ B₅ => ?_
  exact assignInOrder_nil (kk _ _ ((((x₁.trans e₂).chg.trans c₃).trans e₄.chg).trans c₅) ⟨rfl, F₅, B₅⟩)
end
structure FnAtD (S : Sg) (st : Stmt) (f : Addr) (dv : Array Value) : Prop where
  fd : ∃ o name qual doc pm an cdv ct T oT nT, S.K.lookup f = some o ∧ o.data = .func (fnX name qual (stArgs st) (stBody st) (stScope st) [] (.ref T) .none doc pm an cdv ct) ∧ S.K.lookup T = some oT ∧ oT.data = .seq dv nT ∧ codeIn S.K cdv qual = true
  keep : keepIn S.K (.ref f) = true
  fn : isFn S.K (.ref f) = true
structure DefOkD (st : Stmt) (names : List Str) (dv : Array Value) (given : Nat) (dflt : List Value) : Prop where
  bind : ∀ name qual doc pm an cdv ct T vs, vs.length = given → ∃ k : Option (Array Value) → Sem (List (Str × Value)), bindArgs (fnX name qual (stArgs st) (stBody st) (stScope st) [] (.ref T) .none doc pm an cdv ct) ⟨vs, []⟩ = seqItems? (.ref T) >>= k ∧ k (some dv) = pure (names.zip (vs ++ dflt))
  nd : names.Nodup
  loc : ∀ x ∈ names, (stScope st).names.lookup x = some .local
  cell : ∀ x ∈ (stScope st).names, x.2 ≠ .cell
  co : (stScope st).isCoroutine = false
  gen : (stScope st).isGenerator = false
  k : (stScope st).kind = .function
theorem DefOkD.of {st : Stmt} {names : List Str} {dv : Array Value} {given : Nat} {dflt : List Value} (bind : ∀ name qual doc pm an cdv ct T vs, vs.length = given → ∃ k : Option (Array Value) → Sem (List (Str × Value)), bindArgs (fnX name qual (stArgs st) (stBody st) (stScope st) [] (.ref T) .none doc pm an cdv ct) ⟨vs, []⟩ = seqItems? (.ref T) >>= k ∧ k (some dv) = pure (names.zip (vs ++ dflt)))
    (h : defCheck st names = true) : DefOkD st names dv given dflt :=
  let c := defSc h
  ⟨bind, c.nd, c.loc, c.cell, c.co, c.gen, c.k⟩
theorem enterG {S : Sg} {n : Nat} {st : Stmt} (m : Loc) {A : Around} {s : Shared} {f : Addr} {vs ws : List Value} {R : Result → Shared → Prop} (room : Room (n + 1) A) (on : S.On s.heap) {o : Obj} {name qual : Str} {dfl doc pm : Value} {an : Option Addr} {cdv ct : Value}
    (e1 : S.K.lookup f = some o) (e2 : o.data = .func (fnX name qual (stArgs st) (stBody st) (stScope st) [] dfl .none doc pm an cdv ct)) (e3 : codeIn S.K cdv qual = true)
    (hbind : BindsTo s (fnX name qual (stArgs st) (stBody st) (stScope st) [] dfl .none doc pm an cdv ct) ⟨vs, []⟩ ((m.map (·.1)).zip ws)) (hl : ws.length = m.length)
    (nd : (m.map (·.1)).Nodup) (loc : ∀ x ∈ m.map (·.1), (stScope st).names.lookup x = some .local) (cell : ∀ x ∈ (stScope st).names, x.2 ≠ .cell) (co : (stScope st).isCoroutine = false) (gen : (stScope st).isGenerator = false) (kd : (stScope st).kind = .function)
    {hv : Heap} (hr : ∀ (i : Nat) v p, ws[i]? = some v → m[i]? = some p → Rep S hv s.heap v p.2) (hvk : ∀ b o, hv.get? b = some o → s.heap.get? b = some o)
    (h : ∀ env h₁ t, At S (stScope st) n (A.deeper env) env → FrameAt S hv env m h₁ → env.locals = s.heap.objs.size → env.frame = some env.locals → (∀ outer, A.frames = some outer → (A.deeper env).frames = some (env :: outer)) → (∀ b o, s.heap.get? b = some o → h₁.get? b = some o) →
      wpAny (model S.prog S.w) (A.deeper env) (execs (stBody st) env) (fun f s' => R (.ok (.ret (match f with | .ret v => v | _ => .none))) s') (fun e s' => wpAny (model S.prog S.w) (A.deeper env) (leaving env e) (fun _ s'' => R (.error e) s'') (fun e' s'' => R (.error e') s'') s') { s with heap := h₁, toks := t }) :
    codeAny (model S.prog S.w) A (.call (.ref f) ⟨vs, []⟩) R s := by
  have hln : ws.length = (m.map (·.1)).length := by rw [hl]; simp
  have hO := on.x _ _ e1
  have lz : ∀ {α : Type} (l : List Str) (w : List α) x v, (x, v) ∈ l.zip w → x ∈ l := fun l w x v hm => (List.of_mem_zip hm).1
  refine codeAny_call_def (binds := (m.map (·.1)).zip ws) (by have := room.1; omega) hO e2 on.t.nolimit (codeRec_of on.x e3) rfl hbind cell (fun x hx => loc _ (lz _ _ x.1 x.2 hx)) (fun h₁ hns hk₁ => ?_) co gen kd
  have F : FrameAt S hv (callEnv (fnX name qual (stArgs st) (stBody st) (stScope st) [] dfl .none doc pm an cdv ct) s.heap.objs.size f) m h₁ := by
    refine ⟨⟨_, ⟨hns, fun b o e => hk₁ b o (on.keep b o e), on.size⟩, fun x pv hm => ?_⟩, fun b o z => hk₁ b o (hvk b o z), ?_⟩
    · obtain ⟨i, hi⟩ := List.getElem?_of_mem hm
      have hil : i < ws.length := by rw [hl]; exact (List.getElem?_eq_some_iff.mp hi).1
      have e1 : (m.map (·.1))[i]? = some x := by rw [List.getElem?_map, hi]; rfl
      have e3 : ws[i]? = some ws[i] := List.getElem?_eq_getElem hil
      refine ⟨ws[i], ⟨fun _ => ?_, fun q => ?_⟩, (hr i _ (x, pv) e3 hi).keeps hk₁⟩
      · have := bindL_get (kd := fun _ => some .local) (m.map (·.1)) ws (fun _ => none) x i ws[i] nd e1 e3 rfl
        exact (lookup_bindL _ _ nd).trans this
      · have := loc x (List.mem_of_getElem? e1)
        rw [show (stScope st).names.lookup x = some .cell from q] at this
        cases this
    · show hv.get? s.heap.objs.size = none
      cases q : hv.get? s.heap.objs.size with
      | none => rfl
      | some o => exact absurd (Heap.lt_size (hvk _ _ q)) (Nat.lt_irrefl _)
  exact h _ _ _ ⟨room.deeper _, on.ok, kd, rfl, rfl, rfl⟩ F rfl rfl (fun outer hfr => Around.frames_deeper hfr) hk₁
theorem FnAtD.enter {S : Sg} {n : Nat} {st : Stmt} (m : Loc) {dv : Array Value} {given : Nat} {dflt : List Value} (ok : DefOkD st (m.map (·.1)) dv given dflt) {A : Around} {s : Shared} {f : Addr} {vs : List Value} {R : Result → Shared → Prop} (room : Room (n + 1) A) (on : S.On s.heap) (fn : FnAtD S st f dv)
    (hg : vs.length = given) (hl : (vs ++ dflt).length = m.length) {hv : Heap} (hr : ∀ (i : Nat) v p, (vs ++ dflt)[i]? = some v → m[i]? = some p → Rep S hv s.heap v p.2) (hvk : ∀ b o, hv.get? b = some o → s.heap.get? b = some o)
    (h : ∀ env h₁ t, At S (stScope st) n (A.deeper env) env → FrameAt S hv env m h₁ → env.locals = s.heap.objs.size → env.frame = some env.locals → (∀ outer, A.frames = some outer → (A.deeper env).frames = some (env :: outer)) → (∀ b o, s.heap.get? b = some o → h₁.get? b = some o) →
      wpAny (model S.prog S.w) (A.deeper env) (execs (stBody st) env) (fun f s' => R (.ok (.ret (match f with | .ret v => v | _ => .none))) s') (fun e s' => wpAny (model S.prog S.w) (A.deeper env) (leaving env e) (fun _ s'' => R (.error e) s'') (fun e' s'' => R (.error e') s'') s') { s with heap := h₁, toks := t }) :
    codeAny (model S.prog S.w) A (.call (.ref f) ⟨vs, []⟩) R s := by
  obtain ⟨o, name, qual, doc, pm, an, cdv, ct, T, oT, nT, e1, e2, e3, e4, e5⟩ := fn.fd
  obtain ⟨k, k1, k2⟩ := ok.bind name qual doc pm an cdv ct T vs hg
  exact enterG m (ws := vs ++ dflt) room on e1 e2 e5 (BindsTo.of_defaults rfl (on.x _ _ e3) e4 k1 k2) hl ok.nd ok.loc ok.cell ok.co ok.gen ok.k hr hvk h
theorem ok_dflt_row (t : Tok) : DefOkD (inCls 89 0) ["self", "codes", "place"] #[.int 1 t] 2 [.int 1 t] := by
  refine DefOkD.of (fun _ _ _ _ _ _ _ T vs h => ?_) (by kernel_rfl)
  obtain ⟨a, b, q⟩ := len2 h
  subst q
  exact ⟨_, rfl, rfl⟩
theorem ok_dflt_row3 (t : Tok) : DefOkD (inCls 89 0) ["self", "codes", "place"] #[.int 1 t] 3 [] := by
  refine DefOkD.of (fun _ _ _ _ _ _ _ T vs h => ?_) (by kernel_rfl)
  obtain ⟨a, b, c, q⟩ := len3 h
  subst q
  exact ⟨_, rfl, rfl⟩
theorem ok_dflt_insert : DefOkD (topStmt 85) ["buffer", "codes", "before_markers"] #[.bool false] 2 [.bool false] := by
  refine DefOkD.of (fun _ _ _ _ _ _ _ T vs h => ?_) (by kernel_rfl)
  obtain ⟨a, b, q⟩ := len2 h
  subst q
  exact ⟨_, rfl, rfl⟩
theorem ok_dflt_buffer (t : Tok) : DefOkD (inCls 48 0) ["self", "number", "name", "room"] #[.int 8 t] 3 [.int 8 t] := by
  refine DefOkD.of (fun _ _ _ _ _ _ _ T vs h => ?_) (by kernel_rfl)
  obtain ⟨a, b, c, q⟩ := len3 h
  subst q
  exact ⟨_, rfl, rfl⟩
theorem Inst.weak {h : Heap} {x dx C : Addr} {f : Str → Option Value} {k k' : Nat} (i : Inst h x dx C f k) (le : k ≤ k') : Inst h x dx C f k' := by
  obtain ⟨ox, es, n, I, d, D⟩ := i
  exact ⟨ox, es, n, I, d, D.ref, D.val, Nat.le_trans D.len le⟩
section
variable {S : Sg} {n : Nat} {sc : Scope} {m : Loc}
theorem ctor_set {A : Around} {h₀ : Heap} {env : Env} {s : Shared} {Q : Flow → Shared → Prop} {y attr : Str} {p q pos : Pos} {e : PySem.Expr} {pv : PV} {x dx C : Addr} {f : Str → Option Value} {k : Nat} {names : List Str} (at_ : At S sc n A env) (F : FrameAt S h₀ env m s.heap) (SC : SetCls S C names) (hn : attr ∈ names)
    (hm : (y, .r (.ref x)) ∈ m) (hx : sc.names.lookup y = some .local) (I : Inst s.heap x dx C f k) (D0 : h₀.get? dx = none) (b1 : S.base.get? dx = none) (b2 : S.base.get? x = none) (n1 : dx ≠ env.locals) (n2 : x ≠ env.locals) (n3 : x ≠ dx) (hk : k ≤ 900)
    (h : wpAny (model S.prog S.w) A (eval e env) (fun v s₁ => Ext s s₁ ∧ Rep S h₀ s₁.heap v pv ∧ ∀ s', (∀ b o, b ≠ env.locals → b ≠ dx → s₁.heap.get? b = some o → s'.heap.get? b = some o) → s'.gens = s₁.gens → s'.os = s₁.os → FrameAt S h₀ env m s'.heap → Inst s'.heap x dx C (updF f attr v) (k + 1) → Rep S h₀ s'.heap v pv → Q .next s') NoE s)
    (hs : ∀ env, swapsWith e (some (.Attribute (.Name y p) attr q)) pos.line env = pure false := by intro _; with_unfolding_all rfl) (hd : (y == ("__debug__" : Str)) = false := by decide +kernel) :
    wpAny (model S.prog S.w) A (exec (.Assign [.Attribute (.Name y p) attr q] e pos) env) Q NoE s := by
  refine plainObj_wpAny_Assign_Attribute (wpAny_mono h (fun v s₁ h₁ => ?_) fun _ _ x => x) (hs _)
  obtain ⟨e₁, r₁, kk⟩ := h₁
  refine EvT.loc hx hm hd A h₀ env s₁ _ at_ (F.keeps e₁.keep) fun u s₂ e₂ r₂ => ?_
  cases r₂
  have F₂ := (F.keeps e₁.keep).keeps e₂.keep
  have I₂ := (I.keeps e₁.keep).keeps e₂.keep
  obtain ⟨es, nn, hdx⟩ := I₂.dict
  obtain ⟨mv, fr, r⟩ := F₂.fr
  refine set_inst fr at_.ok SC hn I₂ b1 n1 b2 n2 n3 hk fun h' t keep fr' I' => ?_
  have sk : SeqKept s₂.heap h' := fun a o vs n z d => keep a o (fun q => by
    obtain ⟨o', es', ep, z', d'⟩ := F₂.locals
    rw [← q, z] at z'; cases z'
    rw [d] at d'; cases d') (fun q => by
    rw [q, hdx] at z; cases z; cases d) z
  have rk : ∀ v pv, Rep S h₀ s₂.heap v pv → Rep S h₀ h' v pv := fun v pv => by
    cases pv with
    | d x => exact Rd.mono sk
    | r u => exact id
    | v b cs => exact id
    | o P => exact id
  refine kk { s₂ with heap := h', toks := t } (fun b o n1 n2 z => keep b o n1 n2 (e₂.keep b o z)) e₂.gens e₂.os ⟨⟨mv, fr', fun x pv hm => ?_⟩, fun b o z => keep b o (F₂.apart b o z) (fun q => by rw [q, D0] at z; cases z) (F₂.old b o z), F₂.out⟩ (I'.weak (by split <;> omega)) (rk _ _ (r₁.keeps e₂.keep))
  obtain ⟨v, hh, g⟩ := r x pv hm
  refine ⟨v, ⟨hh.loc, fun q => let ⟨c, p, oc, c1, c2⟩ := hh.cell q; ⟨c, p, oc, keep _ _ (fun z => ?_) (fun z => ?_) c1, c2⟩⟩, rk _ _ g⟩
  · obtain ⟨o', es', ep, z', d'⟩ := F₂.locals
    rw [z, z'] at c1; cases c1
    rw [d'] at c2; cases c2
  · rw [z, hdx] at c1; cases c1; cases c2
theorem ctor_of {A : Around} {h₀ : Heap} {env : Env} {s : Shared} {e : PySem.Expr} {pv : PV} {G : Value → Shared → Prop} (h : EvT S n sc m e pv) (at_ : At S sc n A env) (F : FrameAt S h₀ env m s.heap) (g : ∀ v s₁, Ext s s₁ → Rep S h₀ s₁.heap v pv → G v s₁) :
    wpAny (model S.prog S.w) A (eval e env) (fun v s₁ => Ext s s₁ ∧ Rep S h₀ s₁.heap v pv ∧ G v s₁) NoE s :=
  h A h₀ env s _ at_ F fun v s₁ e r => ⟨e, r, g v s₁ e r⟩
end
structure RowMk (S : Sg) (C : Addr) : Prop where
  row : RowCls S C
  set : SetCls S C ["codes", "place"]
  makes : makesIn S.K C = true
  keep : keepIn S.K (.ref C) = true
  init : ∃ f t, findIn S.K (.ref C) "__init__" = some (some (.ref f)) ∧ FnAtD S (inCls 89 0) f #[.int 1 t] ∧ typeIn S.K (.ref f) = some (.type "function")
structure RowIn (S : Sg) (h : Heap) (x dx l C : Addr) (b : Int) (cs : List Int) : Prop where
  cls : RowCls S C
  inst : ∃ f, Inst h x dx C f 5 ∧ f "codes" = some (.ref l) ∧ IsInt f "place" b ∧ f "begin" = none ∧ f "end" = none ∧ f "code_at" = none
  lst : LstAt h l cs
theorem RowIn.on {S : Sg} {h h' : Heap} {x dx l C : Addr} {b : Int} {cs : List Int} (r : RowIn S h x dx l C b cs) (k1 : ∀ o, h.get? x = some o → h'.get? x = some o) (k2 : ∀ o, h.get? dx = some o → h'.get? dx = some o) (k3 : ∀ o, h.get? l = some o → h'.get? l = some o) : RowIn S h' x dx l C b cs := by
  obtain ⟨c, ⟨f, i, rest⟩, la⟩ := r
  exact ⟨c, ⟨f, i.on k1 k2, rest⟩, la.on k3⟩
theorem RowIn.row {S : Sg} {h : Heap} {x dx l C : Addr} {b : Int} {cs : List Int} (r : RowIn S h x dx l C b cs) : RowAt S h (.ref x) b cs := by
  obtain ⟨c, ⟨f, i, e1, ⟨t, e2⟩, e3, e4, e5⟩, la⟩ := r
  obtain ⟨es, ow, ge⟩ := i.own
  exact ⟨⟨x, C, es, l, t⟩, rfl, c, ow, (ge _).trans (congrArg some e1), (ge _).trans (congrArg some e2), (ge _).trans (congrArg some e3), (ge _).trans (congrArg some e4), (ge _).trans (congrArg some e5), la.rd⟩
section
variable {S : Sg} {n : Nat}
theorem row_body (H : KF S) {C : Addr} (K : RowMk S C) {x dx : Addr} {cs : List Int} {p : Int} {A : Around} {h₀ : Heap} {env : Env} {s : Shared} {Q : Flow → Shared → Prop} (hl : cs.length ≤ 1000) (at_ : At S (stScope (inCls 89 0)) n A env)
    (F : FrameAt S h₀ env [("self", .r (.ref x)), ("codes", .d (.list (cs.map .int))), ("place", it p)] s.heap) (I : Inst s.heap x dx C (fun _ => none) 0) (D0 : h₀.get? dx = none) (b1 : S.base.get? dx = none) (b2 : S.base.get? x = none) (n1 : dx ≠ env.locals) (n2 : x ≠ env.locals) (n3 : x ≠ dx)
    (kk : ∀ l s', (∀ b o, b ≠ env.locals → b ≠ dx → s.heap.get? b = some o → s'.heap.get? b = some o) → s'.gens = s.gens → s'.os = s.os → RowIn S s'.heap x dx l C p cs → Q .next s') : wpAny (model S.prog S.w) A (execs (stBody (inCls 89 0)) env) Q NoE s := by
  refine wpAny_execs_cons (ctor_set (pv := .d (.list (cs.map .int))) at_ F K.set (by decide +kernel) (by kaf_pre) (by kernel_rfl) I D0 b1 b2 n1 n2 n3 (by decide) (ctor_of (EvT.list1 H.b_list (EvT.loc (by kernel_rfl) (by kaf_pre) (by kernel_rfl)) (by simpa using hl) (by kernel_rfl)) at_ F fun v s₁ e₁ r₁ s₂ k₂ g₂ o₂ F₂ I₂ r₂ => ?_))
  refine wpAny_execs_cons (ctor_set (pv := it p) at_ F₂ K.set (by decide +kernel) (by kaf_pre) (by kernel_rfl) I₂ D0 b1 b2 n1 n2 n3 (by decide) (ctor_of (by kwd_rel) at_ F₂ fun u s₃ e₃ r₃ s₄ k₄ g₄ o₄ F₄ I₄ r₄ => wpAny_execs_nil ?_))
  obtain ⟨t, rfl⟩ := rd_int r₄
  obtain ⟨l, rfl, la⟩ := LstAt.of r₂
  have la' : LstAt s₄.heap l cs := by
    obtain ⟨vs, nn, z, i⟩ := la
    refine ⟨vs, nn, k₄ _ _ (fun q => ?_) (fun q => ?_) (e₃.keep _ _ z), i⟩
    · obtain ⟨o', es', ep, z', d'⟩ := F₂.locals
      rw [← q, z] at z'; cases z'; cases d'
    · obtain ⟨es', n', hdx⟩ := I₂.dict
      rw [q, hdx] at z; exact nomatch congrArg Obj.data (Option.some.inj z)
  refine kk l s₄ (fun b o a c z => k₄ b o a c (e₃.keep b o (k₂ b o a c (e₁.keep b o z)))) (g₄.trans (e₃.gens.trans (g₂.trans e₁.gens))) (o₄.trans (e₃.os.trans (o₂.trans e₁.os))) ⟨K.row, ⟨_, I₄.weak (by decide), ?_, ⟨t, updF_eq⟩, ?_, ?_, ?_⟩, la'⟩
  · rw [updF_ne (by decide +kernel), updF_eq]
  · rw [updF_ne (by decide +kernel), updF_ne (by decide +kernel)]
  · rw [updF_ne (by decide +kernel), updF_ne (by decide +kernel)]
  · rw [updF_ne (by decide +kernel), updF_ne (by decide +kernel)]
end
theorem Sg.On.push {S : Sg} {h : Heap} (o : S.On h) (ob : Obj) : S.On (h.push ob) := ⟨o.ok, fun b x e => Heap.get?_push_of_some _ (o.keep b x e), Nat.le_trans o.size (by rw [Heap.size_push]; exact Nat.le_succ _)⟩
noncomputable abbrev inMade (A : Around) : Around := { A with depth := A.depth + 1, units := A.units + 1 }
theorem tc_under (A : Around) (C : Addr) (rest : List Value) (kw : List (Str × Value)) : A.under (.builtin "type.__call__" ⟨.ref C :: rest, kw⟩) = inMade A := by
  have w : (Code.builtin "type.__call__" ⟨.ref C :: rest, kw⟩).weight = 1 := by kernel_rfl
  have u : (Code.builtin "type.__call__" ⟨.ref C :: rest, kw⟩).cUnits = 1 := by kernel_rfl
  have e : (Code.builtin "type.__call__" ⟨.ref C :: rest, kw⟩).envs = [] := by kernel_rfl
  have g : (Code.builtin "type.__call__" ⟨.ref C :: rest, kw⟩).guards = [] := by kernel_rfl
  unfold Around.under
  rw [w, u, e, g]
  rfl
theorem Room.made {n : Nat} {A : Around} (r : Room (n + 1) A) : Room n (inMade A) := by
  obtain ⟨a, b, c⟩ := r
  exact ⟨by show A.depth + 1 + n < recursionLimit; omega, by show A.units + 1 + 16 * n + 200 < cLine; omega, c⟩
section
variable {S : Sg} {n : Nat}
theorem make_new {C fI : Addr} {A : Around} {s : Shared} {rest : List Value} {R : Result → Shared → Prop} (on : S.On s.heap) (hm : makesIn S.K C = true) (hi : findIn S.K (.ref C) "__init__" = some (some (.ref fI))) (hf : typeIn S.K (.ref fI) = some (.type "function"))
    (h : ∀ x dx s₂, Ext s s₂ → s.heap.get? x = none → s.heap.get? dx = none → x ≠ dx → S.On s₂.heap → Inst s₂.heap x dx C (fun _ => none) 0 → codeAny (model S.prog S.w) (inMade A) (.call (.ref fI) ⟨.ref x :: rest, []⟩) (InitBack x R) s₂) :
    codeAny (model S.prog S.w) A (.call (.ref C) ⟨rest, []⟩) R s := by
  obtain ⟨hh, g, d, t, os⟩ := s
  refine make_core (makes_of on.x hm) (looks_findIn on.x hi) (fun self => bind_fn on.x self hf) (.inl rfl) ?_
  rw [tc_under]
  have k : ∀ b o, hh.get? b = some o → ((hh.push emptyDict).push (instObj C hh.objs.size)).get? b = some o := fun b o e => Heap.get?_push_of_some _ (Heap.get?_push_of_some _ e)
  have hx : ((hh.push emptyDict).push (instObj C hh.objs.size)).get? (hh.objs.size + 1) = some (instObj C hh.objs.size) := by heap_get
  have hd : ((hh.push emptyDict).push (instObj C hh.objs.size)).get? hh.objs.size = some emptyDict := by heap_get
  refine h (hh.objs.size + 1) hh.objs.size ⟨_, g, d, t, os⟩ ⟨k, rfl, rfl⟩ ?_ (size_none _) (Nat.succ_ne_self _) ((on.push _).push _) ⟨_, [], 0, ⟨hx, rfl, rfl, hd⟩, rfl, .nil⟩
  cases q : hh.get? (hh.objs.size + 1) with
  | none => rfl
  | some o => exact absurd (Heap.lt_size q) (Nat.not_lt.mpr (Nat.le_succ _))
theorem two_at {S : Sg} {h₀ h : Heap} {m : Loc} {a b c : Value} {p q r : Str × PV} (hm : m = [p, q, r]) (h1 : Rep S h₀ h a p.2) (h2 : Rep S h₀ h b q.2) (h3 : Rep S h₀ h c r.2) : ∀ (i : Nat) v z, ([a, b, c] : List Value)[i]? = some v → m[i]? = some z → Rep S h₀ h v z.2 := by
  subst hm
  intro i v z e1 e2
  match i with
  | 0 => simp at e1 e2; subst e1; subst e2; exact h1
  | 1 => simp at e1 e2; subst e1; subst e2; exact h2
  | 2 => simp at e1 e2; subst e1; subst e2; exact h3
  | i + 3 => simp at e1
theorem make_row (H : KF S) {C : Addr} (K : RowMk S C) {A : Around} {s : Shared} {rest : List Value} {v : Value} {cs : List Int} {p : Int} {R : Result → Shared → Prop} (room : Room 3 A) (on : S.On s.heap) (hl : cs.length ≤ 1000) (hv : Rd s.heap v (.list (cs.map .int)))
    (hrest : (∃ t, rest = [v, .int p t]) ∨ (rest = [v] ∧ p = 1)) (kk : ∀ x dx l s', Ext s s' → s.heap.get? x = none → s.heap.get? dx = none → RowIn S s'.heap x dx l C p cs → R (.ok (.ret (.ref x))) s') : codeAny (model S.prog S.w) A (.call (.ref C) ⟨rest, []⟩) R s := by
  obtain ⟨fI, tk, hi, fn, hf⟩ := K.init
  refine make_new on K.makes hi hf fun x dx s₂ e₂ nx nd nxd on₂ I₂ => ?_
  have hv₂ : Rd s₂.heap v (.list (cs.map .int)) := Rd.mono (seqKept_of e₂.keep) hv
  have fin : ∀ env h₁ t, At S (stScope (inCls 89 0)) 1 ((inMade A).deeper env) env → FrameAt S s.heap env [("self", .r (.ref x)), ("codes", .d (.list (cs.map .int))), ("place", it p)] h₁ → env.locals = s₂.heap.objs.size → env.frame = some env.locals → (∀ outer, (inMade A).frames = some outer → ((inMade A).deeper env).frames = some (env :: outer)) → (∀ b o, s₂.heap.get? b = some o → h₁.get? b = some o) →
      wpAny (model S.prog S.w) ((inMade A).deeper env) (execs (stBody (inCls 89 0)) env) (fun f s' => InitBack x R (.ok (.ret (match f with | .ret v => v | _ => .none))) s') (fun e s' => wpAny (model S.prog S.w) ((inMade A).deeper env) (leaving env e) (fun _ s'' => InitBack x R (.error e) s'') (fun e' s'' => InitBack x R (.error e') s'') s') { s₂ with heap := h₁, toks := t } := by
    intro env h₁ t at_ F eL eF _ hk₁
    have ox : ∃ o, s₂.heap.get? x = some o := by obtain ⟨ox, _, _, I, _⟩ := I₂; exact ⟨_, I.at_⟩
    have odx : ∃ o, s₂.heap.get? dx = some o := by obtain ⟨es, nn, z⟩ := I₂.dict; exact ⟨_, z⟩
    have lt : ∀ b, (∃ o, s₂.heap.get? b = some o) → b ≠ env.locals := fun b ⟨o, z⟩ q => by rw [q, eL] at z; exact Nat.lt_irrefl _ (Heap.lt_size z)
    have bn : ∀ b, s.heap.get? b = none → S.base.get? b = none := fun b z => by
      cases q : S.base.get? b with
      | none => rfl
      | some o => rw [on.keep _ _ q] at z; cases z
    refine toE (row_body H K hl at_ F (I₂.keeps hk₁) nd (bn _ nd) (bn _ nx) (lt _ odx) (lt _ ox) nxd fun l s' k g o r => ?_)
    refine ⟨rfl, kk x dx l s' ⟨fun b ob z => k b ob (lt b ⟨ob, e₂.keep _ _ z⟩) (fun q => by rw [q, nd] at z; cases z) (hk₁ _ _ (e₂.keep _ _ z)), g.trans e₂.gens, o.trans e₂.os⟩ nx nd r⟩
  rcases hrest with ⟨t, rfl⟩ | ⟨rfl, rfl⟩
  · exact fn.enter (n := 1) [("self", .r (.ref x)), ("codes", .d (.list (cs.map .int))), ("place", it p)] (ok_dflt_row3 tk) room.made on₂ rfl rfl (hv := s.heap) (two_at rfl rfl hv₂ (.int _ _)) e₂.keep fin
  · exact fn.enter (n := 1) [("self", .r (.ref x)), ("codes", .d (.list (cs.map .int))), ("place", it 1)] (ok_dflt_row tk) room.made on₂ rfl rfl (hv := s.heap) (two_at rfl rfl hv₂ (.int _ _)) e₂.keep fin
end
structure GapMk (S : Sg) (C : Addr) : Prop where
  set : SetCls S C ["room", "cells", "gap_start", "gap_end"]
  makes : makesIn S.K C = true
  keep : keepIn S.K (.ref C) = true
  init : ∃ f, findIn S.K (.ref C) "__init__" = some (some (.ref f)) ∧ FnAt S (inCls 42 0) f ∧ typeIn S.K (.ref f) = some (.type "function")
structure MarkMk (S : Sg) (C : Addr) : Prop where
  set : SetCls S C ["rows"]
  makes : makesIn S.K C = true
  keep : keepIn S.K (.ref C) = true
  init : ∃ f, findIn S.K (.ref C) "__init__" = some (some (.ref f)) ∧ FnAt S (inCls 44 0) f ∧ typeIn S.K (.ref f) = some (.type "function")
noncomputable def gapF (l : Addr) (t1 t2 t3 : Tok) : Str → Option Value := updF (updF (updF (updF (fun _ => none) "room" (.int 8 t1)) "cells" (.ref l)) "gap_start" (.int 0 t2)) "gap_end" (.int 8 t3)
noncomputable def markF (r : Addr) : Str → Option Value := updF (fun _ => none) "rows" (.ref r)
theorem none_of_ext {s s' : Shared} (e : Ext s s') {b : Addr} (h : s'.heap.get? b = none) : s.heap.get? b = none := by
  cases q : s.heap.get? b with
  | none => rfl
  | some o => rw [e.keep _ _ q] at h; cases h
theorem list_not_dict {h : Heap} {l dx : Addr} {vs : Array Value} {n : Nat} {es : List DictEntry} {n' : Nat} (a : h.get? l = some (W.listOf vs n)) (b : h.get? dx = some (dictOf es n')) : l ≠ dx := fun q => by
  rw [q, b] at a
  exact nomatch congrArg Obj.data (Option.some.inj a)
theorem rep_three {S : Sg} {h₀ h : Heap} {a b c : Value} {p q r : PV} (h1 : Rep S h₀ h a p) (h2 : Rep S h₀ h b q) (h3 : Rep S h₀ h c r) : ∀ (i : Nat) v z, ([a, b, c] : List Value)[i]? = some v → ([p, q, r] : List PV)[i]? = some z → Rep S h₀ h v z := by
  intro i v z e1 e2
  match i with
  | 0 => simp at e1 e2; subst e1; subst e2; exact h1
  | 1 => simp at e1 e2; subst e1; subst e2; exact h2
  | 2 => simp at e1 e2; subst e1; subst e2; exact h3
  | i + 3 => simp at e1
theorem rep_one {S : Sg} {h₀ h : Heap} {a : Value} {p : PV} (h1 : Rep S h₀ h a p) : ∀ (i : Nat) v z, ([a] : List Value)[i]? = some v → ([p] : List PV)[i]? = some z → Rep S h₀ h v z := by
  intro i v z e1 e2
  match i with
  | 0 => simp at e1 e2; subst e1; subst e2; exact h1
  | i + 1 => simp at e1
section
variable {S : Sg} {n : Nat}
theorem ok_gap_init : DefOk (inCls 42 0) ["self", "codes", "room"] := by ktd_rel
theorem ok_mark_init : DefOk (inCls 44 0) ["self"] := by ktd_rel
theorem base_none {S : Sg} {h : Heap} (on : S.On h) {b : Addr} (z : h.get? b = none) : S.base.get? b = none := by
  cases q : S.base.get? b with
  | none => rfl
  | some o => rw [on.keep _ _ q] at z; cases z
theorem make_gap (H : KF S) {C : Addr} (K : GapMk S C) {A : Around} {s : Shared} {v : Value} {t0 : Tok} {R : Result → Shared → Prop} (room : Room 3 A) (on : S.On s.heap) (hv : Rd s.heap v (.list []))
    (kk : ∀ g dg l t1 t2 t3 s', Ext s s' → s.heap.get? g = none → s.heap.get? dg = none → s.heap.get? l = none → g ≠ dg → g ≠ l → dg ≠ l → Inst s'.heap g dg C (gapF l t1 t2 t3) 10 → LstAt s'.heap l (List.replicate 8 0) → R (.ok (.ret (.ref g))) s') :
    codeAny (model S.prog S.w) A (.call (.ref C) ⟨[v, .int 8 t0], []⟩) R s := by
  obtain ⟨fI, hi, fn, hf⟩ := K.init
  refine make_new on K.makes hi hf fun x dx s₂ e₂ nx nd nxd on₂ I₂ => ?_
  have hv₂ : Rd s₂.heap v (.list []) := Rd.mono (seqKept_of e₂.keep) hv
  refine enter (n := 1) [("self", .r (.ref x)), ("codes", .d (.list [])), ("room", it 8)] ok_gap_init rfl room.made on₂ fn rfl (hv := s.heap) (rep_three rfl hv₂ (.int 8 t0)) e₂.keep fun env h₁ t at_ F eL eF _ hk₁ => toE ?_
  have ox : ∃ o, s₂.heap.get? x = some o := by obtain ⟨ox, _, _, I, _⟩ := I₂; exact ⟨_, I.at_⟩
  have odx : ∃ o, s₂.heap.get? dx = some o := by obtain ⟨es, nn, z⟩ := I₂.dict; exact ⟨_, z⟩
  have lt : ∀ b, (∃ o, s₂.heap.get? b = some o) → b ≠ env.locals := fun b ⟨o, z⟩ q => by rw [q, eL] at z; exact Nat.lt_irrefl _ (Heap.lt_size z)
  have b1 := base_none on nd
  have b2 := base_none on nx
  have n1 := lt _ odx
  have n2 := lt _ ox
  refine wpAny_execs_cons (ctor_set (pv := it 8) at_ F K.set (by decide +kernel) (by kaf_pre) (by kernel_rfl) (I₂.keeps hk₁) nd b1 b2 n1 n2 nxd (by decide) (ctor_of (by kwd_rel) at_ F fun v1 s₃ e₃ r₃ s₄ k₄ g₄ o₄ F₄ I₄ r₄ => ?_))
  obtain ⟨t1, rfl⟩ := rd_int r₃
  refine wpAny_execs_cons (ctor_set (pv := .d (.list (List.replicate 8 (.int 0)))) at_ F₄ K.set (by decide +kernel) (by kaf_pre) (by kernel_rfl) I₄ nd b1 b2 n1 n2 nxd (by decide) ?_)
  refine wpAny_BinOp ((?X : EvT S 1 (stScope (inCls 42 0)) [("self", .r (.ref x)), ("codes", .d (.list [])), ("room", it 8)] _ (.d (.list []))) (inMade A |>.deeper env) s.heap env s₄ _ at_ F₄ fun v2 s₅ e₅ r₅ => ?_)
  case X => exact EvT.list1 H.b_list (by kwd_rel) (by simp) (by kernel_rfl)
  refine (?Y : EvT S 1 (stScope (inCls 42 0)) [("self", .r (.ref x)), ("codes", .d (.list [])), ("room", it 8)] _ (.d (.list (List.replicate 8 (.int 0))))) (inMade A |>.deeper env) s.heap env s₅ _ at_ (F₄.keeps e₅.keep) fun v3 s₆ e₆ r₆ => ?_
  case Y => exact EvT.rep1 (x := .int 0) (i := 8) (EvT.lst1 (by kwd_rel)) (by kwd_rel) (by decide) (by decide)
  refine addL_wp (h₀ := s.heap) (Rd.mono (seqKept_of e₆.keep) r₅) r₆ (by simp) fun l s₇ e₇ new r₇ => ⟨(e₅.trans e₆).trans e₇, r₇, fun s₈ k₈ g₈ o₈ F₈ I₈ r₈ => ?_⟩
  have x₄₇ : Ext s₄ s₇ := (e₅.trans e₆).trans e₇
  refine wpAny_execs_cons (ctor_set (pv := it 0) at_ F₈ K.set (by decide +kernel) (by kaf_pre) (by kernel_rfl) I₈ nd b1 b2 n1 n2 nxd (by decide) (ctor_of (EvT.castI (EvT.len (xs := []) H.b_len (by kwd_rel) (by decide) (by kernel_rfl)) rfl) at_ F₈ fun v4 s₉ e₉ r₉ s10 k10 g10 o10 F10 I10 r10 => ?_))
  obtain ⟨t2, rfl⟩ := rd_int r₉
  refine wpAny_execs_cons (ctor_set (pv := it 8) at_ F10 K.set (by decide +kernel) (by kaf_pre) (by kernel_rfl) I10 nd b1 b2 n1 n2 nxd (by decide) (ctor_of (EvT.castI (EvT.add (EvT.len (xs := []) H.b_len (by kwd_rel) (by decide) (by kernel_rfl)) (by kwd_rel)) rfl) at_ F10 fun v5 s11 e11 r11 s12 k12 g12 o12 F12 I12 r12 => wpAny_execs_nil ?_))
  obtain ⟨t3, rfl⟩ := rd_int r11
  have old : ∀ b ob, s.heap.get? b = some ob → s₄.heap.get? b = some ob := fun b ob z => k₄ b ob (lt b ⟨ob, e₂.keep _ _ z⟩) (fun q => by rw [q, nd] at z; cases z) (e₃.keep _ _ (hk₁ _ _ (e₂.keep _ _ z)))
  have nl₆ := none_of_ext (e₅.trans e₆) new
  have nl : s.heap.get? l = none := by
    cases q : s.heap.get? l with
    | none => rfl
    | some o => rw [old _ _ q] at nl₆; cases nl₆
  obtain ⟨l', ql, la₇⟩ := LstAt.of (cs := List.replicate 8 0) (by simpa using r₇)
  cases ql
  have hdx : ∀ {h : Heap} {f k}, Inst h x dx C f k → ∃ es n', h.get? dx = some (dictOf es n') := fun i => i.dict
  have nldx : l ≠ dx := fun q => by
    obtain ⟨es, n', z⟩ := hdx I₄
    rw [q, z] at nl₆; cases nl₆
  have nlx : l ≠ x := fun q => by
    obtain ⟨ox, _, _, I, _⟩ := I₄
    rw [q, I.at_] at nl₆; cases nl₆
  have nlL : l ≠ env.locals := fun q => by
    obtain ⟨o, _, _, z, _⟩ := F₄.locals
    rw [q, z] at nl₆; cases nl₆
  refine ⟨rfl, kk x dx l t1 t2 t3 s12 ⟨fun b ob z => ?_, ?_, ?_⟩ nx nd nl nxd (Ne.symm nlx) (Ne.symm nldx) (I12.weak (by decide)) ?_⟩
  · have nb := lt b ⟨ob, e₂.keep _ _ z⟩
    have nb2 : b ≠ dx := fun q => by rw [q, nd] at z; cases z
    exact k12 b ob nb nb2 (e11.keep _ _ (k10 b ob nb nb2 (e₉.keep _ _ (k₈ b ob nb nb2 (x₄₇.keep _ _ (old b ob z))))))
  · exact g12.trans (e11.gens.trans (g10.trans (e₉.gens.trans (g₈.trans (x₄₇.gens.trans (g₄.trans (e₃.gens.trans e₂.gens)))))))
  · exact o12.trans (e11.os.trans (o10.trans (e₉.os.trans (o₈.trans (x₄₇.os.trans (o₄.trans (e₃.os.trans e₂.os)))))))
  · exact la₇.on fun o z => k12 l o nlL nldx (e11.keep _ _ (k10 l o nlL nldx (e₉.keep _ _ (k₈ l o nlL nldx z))))
end
structure KeepB (L dx : Addr) (s s' : Shared) : Prop where
  keep : ∀ b o, b ≠ L → b ≠ dx → s.heap.get? b = some o → s'.heap.get? b = some o
  gens : s'.gens = s.gens
  os : s'.os = s.os
theorem KeepB.trans {L dx : Addr} {a b c : Shared} (x : KeepB L dx a b) (y : KeepB L dx b c) : KeepB L dx a c := ⟨fun k o n1 n2 z => y.keep k o n1 n2 (x.keep k o n1 n2 z), y.gens.trans x.gens, y.os.trans x.os⟩
theorem Ext.keepB {L dx : Addr} {s s' : Shared} (e : Ext s s') : KeepB L dx s s' := ⟨fun b o _ _ z => e.keep b o z, e.gens, e.os⟩
section
variable {S : Sg} {n : Nat} {sc : Scope} {m : Loc}
theorem ctor_simple {A : Around} {h₀ : Heap} {env : Env} {s : Shared} {Q : Flow → Shared → Prop} {y attr : Str} {p q pos : Pos} {e : PySem.Expr} {z : PyData} {x dx C : Addr} {f : Str → Option Value} {k : Nat} {names : List Str} (at_ : At S sc n A env) (F : FrameAt S h₀ env m s.heap) (SC : SetCls S C names) (hn : attr ∈ names)
    (hm : (y, .r (.ref x)) ∈ m) (hx : sc.names.lookup y = some .local) (I : Inst s.heap x dx C f k) (D0 : h₀.get? dx = none) (b1 : S.base.get? dx = none) (b2 : S.base.get? x = none) (n1 : dx ≠ env.locals) (n2 : x ≠ env.locals) (n3 : x ≠ dx) (hk : k ≤ 900)
    (h : EvT S n sc m e (.d z)) (kk : ∀ v s', KeepB env.locals dx s s' → FrameAt S h₀ env m s'.heap → Inst s'.heap x dx C (updF f attr v) (k + 1) → Rd s'.heap v z → Q .next s')
    (hs : ∀ env, swapsWith e (some (.Attribute (.Name y p) attr q)) pos.line env = pure false := by intro _; with_unfolding_all rfl) (hd : (y == ("__debug__" : Str)) = false := by decide +kernel) :
    wpAny (model S.prog S.w) A (exec (.Assign [.Attribute (.Name y p) attr q] e pos) env) Q NoE s :=
  ctor_set (pv := .d z) at_ F SC hn hm hx I D0 b1 b2 n1 n2 n3 hk (ctor_of h at_ F fun v s₁ e₁ r₁ s₂ k₂ g₂ o₂ F₂ I₂ r₂ => kk v s₂ (e₁.keepB.trans ⟨k₂, g₂, o₂⟩) F₂ I₂ r₂) hs hd
theorem make_mark {C : Addr} (K : MarkMk S C) {A : Around} {s : Shared} {R : Result → Shared → Prop} (room : Room 3 A) (on : S.On s.heap)
    (kk : ∀ g dg r s', Ext s s' → s.heap.get? g = none → s.heap.get? dg = none → s.heap.get? r = none → g ≠ dg → g ≠ r → dg ≠ r → Inst s'.heap g dg C (markF r) 10 → s'.heap.get? r = some (dictOf [] 0) → R (.ok (.ret (.ref g))) s') :
    codeAny (model S.prog S.w) A (.call (.ref C) ⟨[], []⟩) R s := by
  obtain ⟨fI, hi, fn, hf⟩ := K.init
  refine make_new on K.makes hi hf fun x dx s₂ e₂ nx nd nxd on₂ I₂ => ?_
  refine enter (n := 1) [("self", .r (.ref x))] ok_mark_init rfl room.made on₂ fn rfl (hv := s.heap) (rep_one rfl) e₂.keep fun env h₁ t at_ F eL eF _ hk₁ => toE ?_
  have ox : ∃ o, s₂.heap.get? x = some o := by obtain ⟨ox, _, _, I, _⟩ := I₂; exact ⟨_, I.at_⟩
  have odx : ∃ o, s₂.heap.get? dx = some o := by obtain ⟨es, nn, z⟩ := I₂.dict; exact ⟨_, z⟩
  have lt : ∀ b, (∃ o, s₂.heap.get? b = some o) → b ≠ env.locals := fun b ⟨o, z⟩ q => by rw [q, eL] at z; exact Nat.lt_irrefl _ (Heap.lt_size z)
  have b1 := base_none on nd
  have b2 := base_none on nx
  have n1 := lt _ odx
  have n2 := lt _ ox
  refine wpAny_execs_cons (ctor_set (pv := .r (.ref h₁.objs.size)) at_ F K.set (by decide +kernel) (by kaf_pre) (by kernel_rfl) (I₂.keeps hk₁) nd b1 b2 n1 n2 nxd (by decide) (wpAny_Dict_empty ⟨.push _ _, rfl, fun s₄ k₄ g₄ o₄ F₄ I₄ r₄ => wpAny_execs_nil ?_⟩))
  have lx : x ≠ h₁.objs.size := fun q => by obtain ⟨o, z⟩ := ox; have := hk₁ _ _ z; rw [q] at this; exact Nat.lt_irrefl _ (Heap.lt_size this)
  have ldx : dx ≠ h₁.objs.size := fun q => by obtain ⟨o, z⟩ := odx; have := hk₁ _ _ z; rw [q] at this; exact Nat.lt_irrefl _ (Heap.lt_size this)
  have nL : h₁.objs.size ≠ env.locals := fun q => by
    obtain ⟨o, _, _, z, _⟩ := F.locals
    rw [← q] at z; exact Nat.lt_irrefl _ (Heap.lt_size z)
  refine ⟨rfl, kk x dx h₁.objs.size s₄ ⟨fun b ob z => ?_, g₄.trans e₂.gens, o₄.trans e₂.os⟩ nx nd ?_ nxd lx ldx (I₄.weak (by decide)) (k₄ _ _ nL (Ne.symm ldx) (Heap.get?_push_size _ rfl))⟩
  · exact k₄ b ob (lt b ⟨ob, e₂.keep _ _ z⟩) (fun q => by rw [q, nd] at z; cases z) (Heap.get?_push_of_some _ (hk₁ _ _ (e₂.keep _ _ z)))
  · cases q : s.heap.get? h₁.objs.size with
    | none => rfl
    | some o => exact absurd (Heap.lt_size (hk₁ _ _ (e₂.keep _ _ q))) (Nat.lt_irrefl _)
end
structure BufMk (S : Sg) (C Cg Cm : Addr) : Prop where
  set : SetCls S C ["number", "name", "text", "markers", "point", "begv", "zv", "mark", "is_live", "is_read_only", "ticks", "codes_ticks", "saved_ticks", "listeners", "undo", "props", "overlays", "locals", "syntax", "file"]
  makes : makesIn S.K C = true
  keep : keepIn S.K (.ref C) = true
  init : ∃ f t, findIn S.K (.ref C) "__init__" = some (some (.ref f)) ∧ FnAtD S (inCls 48 0) f #[.int 8 t] ∧ typeIn S.K (.ref f) = some (.type "function")
  gname : nsIn S.K mainGlobals "GapText" = some (some (.ref Cg))
  mname : nsIn S.K mainGlobals "Markers" = some (some (.ref Cm))
  gap : GapMk S Cg
  mark : MarkMk S Cm
noncomputable def D0 : BS := ⟨1, 1, 1, 1, 1, 8, 0, 8, List.replicate 8 0⟩
noncomputable abbrev biM (x : Addr) : Loc := [("self", .r (.ref x)), ("number", it 1), ("name", .d (.str "one")), ("room", it 8)]
theorem rep_four {S : Sg} {h₀ h : Heap} {m : Loc} {a b c d : Value} {p q r t : Str × PV} (hm : m = [p, q, r, t]) (h1 : Rep S h₀ h a p.2) (h2 : Rep S h₀ h b q.2) (h3 : Rep S h₀ h c r.2) (h4 : Rep S h₀ h d t.2) : ∀ (i : Nat) v z, ([a, b, c, d] : List Value)[i]? = some v → m[i]? = some z → Rep S h₀ h v z.2 := by
  subst hm
  intro i v z e1 e2
  match i with
  | 0 => simp at e1 e2; subst e1; subst e2; exact h1
  | 1 => simp at e1 e2; subst e1; subst e2; exact h2
  | 2 => simp at e1 e2; subst e1; subst e2; exact h3
  | 3 => simp at e1 e2; subst e1; subst e2; exact h4
  | i + 4 => simp at e1
theorem KeepB.lst {L dx l : Addr} {s s' : Shared} {cs : List Int} (k : KeepB L dx s s') (a : LstAt s.heap l cs) (n1 : l ≠ L) (n2 : l ≠ dx) : LstAt s'.heap l cs := a.on fun o z => k.keep l o n1 n2 z
theorem KeepB.inst {L dx x dx' C : Addr} {s s' : Shared} {f : Str → Option Value} {k : Nat} (kp : KeepB L dx s s') (i : Inst s.heap x dx' C f k) (n1 : x ≠ L) (n2 : x ≠ dx) (n3 : dx' ≠ L) (n4 : dx' ≠ dx) : Inst s'.heap x dx' C f k := i.on (fun o z => kp.keep x o n1 n2 z) fun o z => kp.keep dx' o n3 n4 z
section
variable {S : Sg} {n : Nat} {sc : Scope} {m : Loc}
inductive CtorL (S : Sg) (n : Nat) (sc : Scope) (m : Loc) (y : Str) : List Stmt → List (Str × PyData) → Prop
  | nil : CtorL S n sc m y [] []
  | cons {attr : Str} {p q pos : Pos} {e : PySem.Expr} {z : PyData} {ss : List Stmt} {l : List (Str × PyData)} (h : EvT S n sc m e (.d z)) (fl : FlatD z) (c : CtorL S n sc m y ss l) (hs : ∀ env, swapsWith e (some (.Attribute (.Name y p) attr q)) pos.line env = Pure.pure false := by intro _; with_unfolding_all rfl) :
      CtorL S n sc m y (.Assign [.Attribute (.Name y p) attr q] e pos :: ss) ((attr, z) :: l)
theorem ctor_run {A : Around} {h₀ : Heap} {env : Env} {Q : Flow → Shared → Prop} {y : Str} {x dx C : Addr} {names : List Str} {rest : List Stmt} (at_ : At S sc n A env) (SC : SetCls S C names) (hm : (y, .r (.ref x)) ∈ m) (hx : sc.names.lookup y = some .local) (hd : (y == ("__debug__" : Str)) = false)
    (D0 : h₀.get? dx = none) (b1 : S.base.get? dx = none) (b2 : S.base.get? x = none) (n1 : dx ≠ env.locals) (n2 : x ≠ env.locals) (n3 : x ≠ dx) {ss : List Stmt} {l : List (Str × PyData)} (c : CtorL S n sc m y ss l) :
    ∀ (hn : ∀ a ∈ l.map Prod.fst, a ∈ names) (nd : (l.map Prod.fst).Nodup) {s : Shared} {f : Str → Option Value} {k : Nat} (F : FrameAt S h₀ env m s.heap) (I : Inst s.heap x dx C f k) (hk : k + l.length ≤ 900)
      (kk : ∀ s' f', KeepB env.locals dx s s' → FrameAt S h₀ env m s'.heap → Inst s'.heap x dx C f' (k + l.length) → (∀ a, a ∉ l.map Prod.fst → f' a = f a) → (∀ a z, (a, z) ∈ l → ∃ v, f' a = some v ∧ Rd s'.heap v z) → wpAny (model S.prog S.w) A (execs rest env) Q NoE s'),
      wpAny (model S.prog S.w) A (execs (ss ++ rest) env) Q NoE s := by
  induction c with
  | nil =>
    intro hn nd s f k F I hk kk
    exact kk s f ⟨fun _ _ _ _ z => z, rfl, rfl⟩ F I (fun _ _ => rfl) fun a z h => nomatch h
  | @cons attr p q pos e z ss l h fl c hs ih =>
    intro hn nd s f k F I hk kk
    have nd' := List.nodup_cons.mp nd
    have e0 : k + 1 + l.length = k + (l.length + 1) := by rw [Nat.add_assoc, Nat.add_comm 1]
    have hk' : k + (l.length + 1) ≤ 900 := hk
    refine wpAny_execs_cons (ctor_simple at_ F SC (hn _ (.head _)) hm hx I D0 b1 b2 n1 n2 n3 (Nat.le_trans (Nat.le_add_right _ _) hk) h (fun v s1 k1 F1 I1 r1 => ?_) hs hd)
    refine ih (fun a ha => hn a (.tail _ ha)) nd'.2 F1 I1 (e0 ▸ hk') fun s' f' k' F' I' e1 e2 => ?_
    refine kk s' f' (k1.trans k') F' (e0 ▸ I') (fun a ha => ?_) fun a z' hm' => ?_
    · exact (e1 a fun q => ha (.tail _ q)).trans (updF_ne fun q => ha (q ▸ .head _))
    · rcases List.mem_cons.mp hm' with q' | q'
      · cases q'
        exact ⟨v, (e1 _ nd'.1).trans updF_eq, fl.rd r1⟩
      · exact e2 a z' q'
end
section
variable {S : Sg} {n : Nat}
set_option maxHeartbeats 2000000 in
theorem make_buf (H : KF S) {C Cg Cm : Addr} (K : BufMk S C Cg Cm) {A : Around} {s : Shared} {ta tb : Tok} {lc : Addr} {cs : List Int} {R : Result → Shared → Prop} (room : Room 6 A) (on : S.On s.heap) (hlc : LstAt s.heap lc cs)
    (kk : ∀ (X : BX) s', Ext s s' → X.C = C → X.Cg = Cg → X.Cm = Cm → X.lc = lc → X.cs = cs → (∀ a ∈ [X.x, X.dx, X.g, X.dg, X.l, X.ma, X.dma, X.rd, X.ls], s.heap.get? a = none) → X.all.Nodup → BWAt X D0 s'.heap → R (.ok (.ret (.ref X.x))) s') :
    codeAny (model S.prog S.w) A (.call (.ref C) ⟨[.int 1 ta, .str "one" tb], []⟩) R s := by
  obtain ⟨fI, tk, hi, fn, hf⟩ := K.init
  refine make_new on K.makes hi hf fun x dx s₂ e₂ nx nd nxd on₂ I₂ => ?_
  refine fn.enter (n := 4) (biM x) (ok_dflt_buffer tk) room.made on₂ rfl rfl (hv := s.heap) (rep_four rfl rfl (.int 1 ta) (.str "one" tb) (.int 8 tk)) e₂.keep fun env h₁ t at_ F eL eF _ hk₁ => toE ?_
  have ox : ∃ o, s₂.heap.get? x = some o := by obtain ⟨ox, _, _, I, _⟩ := I₂; exact ⟨_, I.at_⟩
  have odx : ∃ o, s₂.heap.get? dx = some o := by obtain ⟨es, nn, z⟩ := I₂.dict; exact ⟨_, z⟩
  have lt : ∀ b, (∃ o, s₂.heap.get? b = some o) → b ≠ env.locals := fun b ⟨o, z⟩ q => by rw [q, eL] at z; exact Nat.lt_irrefl _ (Heap.lt_size z)
  have b1 := base_none on nd
  have b2 := base_none on nx
  have n1 := lt _ odx
  have n2 := lt _ ox
  have onL : ∀ {h : Heap}, FrameAt S s.heap env (biM x) h → ∃ o, h.get? env.locals = some o := fun F => by
    obtain ⟨o, _, _, z, _⟩ := F.locals
    exact ⟨o, z⟩
  have inst0 := I₂.keeps hk₁
  have k0 : KeepB env.locals dx s { s₂ with heap := h₁, toks := t } := ⟨fun b ob _ _ z => hk₁ _ _ (e₂.keep _ _ z), e₂.gens, e₂.os⟩
  have cA : CtorL S 4 (stScope (inCls 48 0)) (biM x) "self" ((stBody (inCls 48 0)).take 2) [("number", .int 1), ("name", .str "one")] := .cons (by kwd_rel) trivial (.cons (by kwd_rel) trivial .nil)
  show wpAny _ _ (execs ((stBody (inCls 48 0)).take 2 ++ (stBody (inCls 48 0)).drop 2) env) _ _ _
  refine ctor_run at_ K.set (by kaf_pre) (by kernel_rfl) (by kernel_rfl) nd b1 b2 n1 n2 nxd cA (by decide +kernel) (by decide +kernel) F inst0 (by decide) fun s2 fA k2 F2 I2 oA _ => ?_
  have k12 := k0.trans k2
  refine wpAny_execs_cons (ctor_set (pv := .o fun _ _ => True) at_ F2 K.set (by decide +kernel) (by kaf_pre) (by kernel_rfl) I2 nd b1 b2 n1 n2 nxd (by decide) ?_)
  refine Call_ ((?G : EvT S 4 (stScope (inCls 48 0)) (biM x) _ (.r (.ref Cg))) ((inMade A).deeper env) s.heap env s2 _ at_ F2 fun w3 sa ea ra => ?_) (by with_unfolding_all rfl)
  case G => exact EvT.glob K.gname (by kernel_rfl) (by kernel_rfl)
  cases ra
  refine callWith_K (K := S.K) at_.ok.k K.gap.keep ((?X : EvsT S 4 (stScope (inCls 48 0)) (biM x) _ [.d (.list []), it 8]) ((inMade A).deeper env) s.heap env _ sa _ at_ (F2.keeps ea.keep) fun vs sb eb lb rb => ⟨(((F2.keeps ea.keep).keeps eb.keep).on at_.ok).x, ?_⟩) (by with_unfolding_all rfl) (by with_unfolding_all rfl)
  case X => exact EvsT.cons (by kwd_rel) (EvsT.one (by kwd_rel))
  obtain ⟨va, vb, rfl, r3a, r3b⟩ := two_of lb rb
  obtain ⟨t8, rfl⟩ := rd_int r3b
  have Fb := (F2.keeps ea.keep).keeps eb.keep
  have eb2 := ea.trans eb
  refine wpAny_call (make_gap H K.gap (at_.room.le (by decide)) (Fb.on at_.ok) r3a fun g dg l t1 t2 t3 sc ec ng ndg nl gdg gl dgl Ig lg => ?_)
  refine ⟨eb2.trans ec, ⟨trivial, fun _ _ _ _ _ => trivial⟩, fun s3 k3r g3 o3 F3 I3 r3 => ?_⟩
  have kb3 : KeepB env.locals dx sc s3 := ⟨k3r, g3, o3⟩
  have k3 : KeepB env.locals dx s2 s3 := (eb2.trans ec).keepB.trans kb3
  have Lb := onL Fb
  have dxb : ∃ o, sb.heap.get? dx = some o := by obtain ⟨es, nn, z⟩ := (I2.keeps eb2.keep).dict; exact ⟨_, z⟩
  have xb : ∃ o, sb.heap.get? x = some o := by obtain ⟨ox, _, _, I, _⟩ := I2.keeps eb2.keep; exact ⟨_, I.at_⟩
  have fr3 : ∀ a, sb.heap.get? a = none → a ≠ env.locals ∧ a ≠ dx ∧ a ≠ x := fun a z => ⟨fun q => by obtain ⟨o, y⟩ := Lb; rw [q, y] at z; (cases z), fun q => by obtain ⟨o, y⟩ := dxb; rw [q, y] at z; (cases z), fun q => by obtain ⟨o, y⟩ := xb; rw [q, y] at z; (cases z)⟩
  obtain ⟨g1', g2', g3'⟩ := fr3 g ng
  obtain ⟨h1', h2', h3'⟩ := fr3 dg ndg
  obtain ⟨l1', l2', l3'⟩ := fr3 l nl
  have Ig3 := kb3.inst Ig g1' g2' h1' h2'
  have lg3 := kb3.lst lg l1' l2'
  refine wpAny_execs_cons (ctor_set (pv := .o fun _ _ => True) at_ F3 K.set (by decide +kernel) (by kaf_pre) (by kernel_rfl) I3 nd b1 b2 n1 n2 nxd (by decide) ?_)
  refine Call_ ((?G : EvT S 4 (stScope (inCls 48 0)) (biM x) _ (.r (.ref Cm))) ((inMade A).deeper env) s.heap env s3 _ at_ F3 fun w4 sd ed rd => ?_) (by with_unfolding_all rfl)
  case G => exact EvT.glob K.mname (by kernel_rfl) (by kernel_rfl)
  cases rd
  have Fd := F3.keeps ed.keep
  refine callWith_K0 (K := S.K) (Fd.on at_.ok).x K.mark.keep ?_
  refine wpAny_call (make_mark K.mark (at_.room.le (by decide)) (Fd.on at_.ok) fun ma dma rd se ee nma ndma nrd mad mar dmar Im rdd => ?_)
  refine ⟨ed.trans ee, ⟨trivial, fun _ _ _ _ _ => trivial⟩, fun s4 k4r g4 o4 F4 I4 r4 => ?_⟩
  have kb4 : KeepB env.locals dx se s4 := ⟨k4r, g4, o4⟩
  have k4 : KeepB env.locals dx s3 s4 := (ed.trans ee).keepB.trans kb4
  have Ld := onL Fd
  have dxd : ∃ o, sd.heap.get? dx = some o := by obtain ⟨es, nn, z⟩ := (I3.keeps ed.keep).dict; exact ⟨_, z⟩
  have xd : ∃ o, sd.heap.get? x = some o := by obtain ⟨ox, _, _, I, _⟩ := I3.keeps ed.keep; exact ⟨_, I.at_⟩
  have gd : ∃ o, sd.heap.get? g = some o := by obtain ⟨ox, _, _, I, _⟩ := Ig3.keeps ed.keep; exact ⟨_, I.at_⟩
  have dgd : ∃ o, sd.heap.get? dg = some o := by obtain ⟨es, nn, z⟩ := (Ig3.keeps ed.keep).dict; exact ⟨_, z⟩
  have lgd : ∃ o, sd.heap.get? l = some o := by obtain ⟨_, _, z, _⟩ := lg3; exact ⟨_, ed.keep _ _ z⟩
  have ne_of : ∀ {h : Heap} {a b : Addr}, h.get? a = none → (∃ o, h.get? b = some o) → a ≠ b := fun z ⟨o, y⟩ q => by rw [q, y] at z; cases z
  have Im4 := kb4.inst Im (ne_of nma Ld) (ne_of nma dxd) (ne_of ndma Ld) (ne_of ndma dxd)
  have rd4 := kb4.keep _ _ (ne_of nrd Ld) (ne_of nrd dxd) rdd
  have cB : CtorL S 4 (stScope (inCls 48 0)) (biM x) "self" (((stBody (inCls 48 0)).drop 4).take 9) [("point", .int 1), ("begv", .int 1), ("zv", .int 1), ("mark", .none), ("is_live", .bool true), ("is_read_only", .bool false), ("ticks", .int 1), ("codes_ticks", .int 1), ("saved_ticks", .int 1)] :=
    .cons EvT.int trivial (.cons EvT.int trivial (.cons EvT.int trivial (.cons EvT.none trivial (.cons EvT.bool trivial (.cons EvT.bool trivial (.cons EvT.int trivial (.cons EvT.int trivial (.cons EvT.int trivial .nil))))))))
  show wpAny _ _ (execs (((stBody (inCls 48 0)).drop 4).take 9 ++ ((stBody (inCls 48 0)).drop 4).drop 9) env) _ _ _
  refine ctor_run at_ K.set (by kaf_pre) (by kernel_rfl) (by kernel_rfl) nd b1 b2 n1 n2 nxd cB (by decide +kernel) (by decide +kernel) F4 I4 (by decide) fun s13 fB kA F13 I13 oB rB => ?_
  refine wpAny_execs_cons (ctor_set (pv := .o fun _ _ => True) at_ F13 K.set (by decide +kernel) (by kaf_pre) (by kernel_rfl) I13 nd b1 b2 n1 n2 nxd (by decide) (List_ (spliced_none (newSeq (vs := []) (by simp) ⟨.push _ _, ⟨trivial, fun _ _ _ _ _ => trivial⟩, fun s14 k14r g14 o14 F14 I14 r14 => ?_⟩))))
  have kb14 : KeepB env.locals dx s13 s14 := (Ext.push s13 { cls := .type "list", dict := none, data := .seq #[] }).keepB.trans ⟨k14r, g14, o14⟩
  have cC : CtorL S 4 (stScope (inCls 48 0)) (biM x) "self" (((stBody (inCls 48 0)).drop 14).take 6) [("undo", .none), ("props", .none), ("overlays", .none), ("locals", .none), ("syntax", .none), ("file", .none)] :=
    .cons EvT.none trivial (.cons EvT.none trivial (.cons EvT.none trivial (.cons EvT.none trivial (.cons EvT.none trivial (.cons EvT.none trivial .nil)))))
  show wpAny _ _ (execs (((stBody (inCls 48 0)).drop 14).take 6 ++ []) env) _ _ _
  refine ctor_run at_ K.set (by kaf_pre) (by kernel_rfl) (by kernel_rfl) nd b1 b2 n1 n2 nxd cC (by decide +kernel) (by decide +kernel) F14 I14 (by decide) fun s20 fC kB F20 I20 oC rC => ?_
  refine wpAny_execs_nil ?_
  have nls : s13.heap.get? s13.heap.objs.size = none := size_none _
  have L13 := onL F13
  have dx13 : ∃ o, s13.heap.get? dx = some o := by obtain ⟨es, nn, z⟩ := I13.dict; exact ⟨_, z⟩
  have kC : KeepB env.locals dx s4 s20 := (kA.trans kb14).trans kB
  have nLs : s13.heap.objs.size ≠ env.locals := ne_of nls L13
  have nDs : s13.heap.objs.size ≠ dx := ne_of nls dx13
  have kD : KeepB env.locals dx s3 s20 := k4.trans kC
  have kS : KeepB env.locals dx s s20 := (k12.trans k3).trans kD
  have oldb : ∀ b, (∃ o, s.heap.get? b = some o) → b ≠ env.locals ∧ b ≠ dx := fun b ⟨o, z⟩ => ⟨lt b ⟨o, e₂.keep _ _ z⟩, fun q => by rw [q, nd] at z; cases z⟩
  have frb : ∀ a, sb.heap.get? a = none → s.heap.get? a = none := fun a z => by
    cases q : s.heap.get? a with
    | none => rfl
    | some o =>
      obtain ⟨p1, p2⟩ := oldb a ⟨o, q⟩
      rw [eb2.keep _ _ (k12.keep a o p1 p2 q)] at z; cases z
  have frd : ∀ a, sd.heap.get? a = none → s.heap.get? a = none := fun a z => by
    cases q : s.heap.get? a with
    | none => rfl
    | some o =>
      obtain ⟨p1, p2⟩ := oldb a ⟨o, q⟩
      rw [ed.keep _ _ ((k12.trans k3).keep a o p1 p2 q)] at z; cases z
  have frs : ∀ a, s13.heap.get? a = none → s.heap.get? a = none := fun a z => by
    cases q : s.heap.get? a with
    | none => rfl
    | some o =>
      obtain ⟨p1, p2⟩ := oldb a ⟨o, q⟩
      rw [(((k12.trans k3).trans k4).trans kA).keep a o p1 p2 q] at z; cases z
  have up4 : ∀ b, b ≠ env.locals → b ≠ dx → (∃ o, sd.heap.get? b = some o) → ∃ o, s13.heap.get? b = some o := fun b p1 p2 ⟨o, z⟩ => ⟨o, kA.keep b o p1 p2 (kb4.keep b o p1 p2 (ee.keep _ _ z))⟩
  have q1 : ∃ o, s13.heap.get? x = some o := by obtain ⟨ox, _, _, I, _⟩ := I13; exact ⟨_, I.at_⟩
  have q2 := up4 g g1' g2' gd
  have q3 := up4 dg h1' h2' dgd
  have q4 := up4 l l1' l2' lgd
  have i4m := kA.inst Im4 (ne_of nma Ld) (ne_of nma dxd) (ne_of ndma Ld) (ne_of ndma dxd)
  have q5 : ∃ o, s13.heap.get? ma = some o := by obtain ⟨ox, _, _, I, _⟩ := i4m; exact ⟨_, I.at_⟩
  have q6 : ∃ o, s13.heap.get? dma = some o := by obtain ⟨es, nn, z⟩ := i4m.dict; exact ⟨_, z⟩
  have q7 : ∃ o, s13.heap.get? rd = some o := ⟨_, kA.keep _ _ (ne_of nrd Ld) (ne_of nrd dxd) rd4⟩
  have hlco : ∃ o, s.heap.get? lc = some o := by obtain ⟨_, _, z, _⟩ := hlc; exact ⟨_, z⟩
  have frg := frb g ng
  have frdg := frb dg ndg
  have frl := frb l nl
  have frm := frd ma nma
  have frdm := frd dma ndma
  have frr := frd rd nrd
  have frls := frs _ nls
  obtain ⟨p1, p2⟩ := oldb lc hlco
  refine ⟨rfl, kk ⟨x, dx, C, g, dg, Cg, l, ma, dma, Cm, rd, s13.heap.objs.size, lc, cs⟩ s20 ⟨fun b o z => ?_, kS.gens, kS.os⟩ rfl rfl rfl rfl rfl ?_ ?_ ?_⟩
  · obtain ⟨p1, p2⟩ := oldb b ⟨o, z⟩
    exact kS.keep b o p1 p2 z
  · intro a ha
    simp only [List.mem_cons, List.not_mem_nil, or_false] at ha
    rcases ha with rfl | rfl | rfl | rfl | rfl | rfl | rfl | rfl | rfl <;> assumption
  · unfold BX.all
    simp only [List.nodup_cons, List.mem_cons, List.not_mem_nil, or_false, not_or]
    exact ⟨⟨nxd, (fr3 g ng).2.2.symm, (fr3 dg ndg).2.2.symm, (fr3 l nl).2.2.symm, (ne_of nma xd).symm, (ne_of ndma xd).symm, (ne_of nrd xd).symm, (ne_of nls q1).symm, ne_of nx hlco⟩,
      ⟨g2'.symm, h2'.symm, l2'.symm, (ne_of nma dxd).symm, (ne_of ndma dxd).symm, (ne_of nrd dxd).symm, nDs.symm, ne_of nd hlco⟩,
      ⟨gdg, gl, (ne_of nma gd).symm, (ne_of ndma gd).symm, (ne_of nrd gd).symm, (ne_of nls q2).symm, ne_of frg hlco⟩,
      ⟨dgl, (ne_of nma dgd).symm, (ne_of ndma dgd).symm, (ne_of nrd dgd).symm, (ne_of nls q3).symm, ne_of frdg hlco⟩,
      ⟨(ne_of nma lgd).symm, (ne_of ndma lgd).symm, (ne_of nrd lgd).symm, (ne_of nls q4).symm, ne_of frl hlco⟩,
      ⟨mad, mar, (ne_of nls q5).symm, ne_of frm hlco⟩, ⟨dmar, (ne_of nls q6).symm, ne_of frdm hlco⟩, ⟨(ne_of nls q7).symm, ne_of frr hlco⟩, ne_of frls hlco, not_false, List.nodup_nil⟩
  · have c : ∀ a, a ∉ (["undo", "props", "overlays", "locals", "syntax", "file"] : List Str) → a ≠ "listeners" → fC a = fB a := fun a h1 h2 => (oC a h1).trans (updF_ne h2)
    have b : ∀ a, a ∉ (["undo", "props", "overlays", "locals", "syntax", "file"] : List Str) → a ≠ "listeners" → a ∉ (["point", "begv", "zv", "mark", "is_live", "is_read_only", "ticks", "codes_ticks", "saved_ticks"] : List Str) → fC a = _ := fun a h1 h2 h3 => (c a h1 h2).trans (oB a h3)
    have no : ∀ a, a ∉ (["undo", "props", "overlays", "locals", "syntax", "file"] : List Str) → a ≠ "listeners" → a ∉ (["point", "begv", "zv", "mark", "is_live", "is_read_only", "ticks", "codes_ticks", "saved_ticks"] : List Str) → a ≠ "markers" → a ≠ "text" → a ∉ (["number", "name"] : List Str) → fC a = none := fun a h1 h2 h3 h4 h5 h6 =>
      (b a h1 h2 h3).trans ((updF_ne h4).trans ((updF_ne h5).trans (oA a h6)))
    have no' : ∀ a, (fun a : Str => decide (a ∉ (["undo", "props", "overlays", "locals", "syntax", "file"] : List Str) ∧ a ≠ "listeners" ∧ a ∉ (["point", "begv", "zv", "mark", "is_live", "is_read_only", "ticks", "codes_ticks", "saved_ticks"] : List Str) ∧ a ≠ "markers" ∧ a ≠ "text" ∧ a ∉ (["number", "name"] : List Str))) a = true → fC a = none := fun a h => by
      obtain ⟨h1, h2, h3, h4, h5, h6⟩ := of_decide_eq_true h
      exact no a h1 h2 h3 h4 h5 h6
    have ib : ∀ a, (a, PyData.int 1) ∈ ([("point", .int 1), ("begv", .int 1), ("zv", .int 1), ("mark", .none), ("is_live", .bool true), ("is_read_only", .bool false), ("ticks", .int 1), ("codes_ticks", .int 1), ("saved_ticks", .int 1)] : List (Str × PyData)) → a ∉ (["undo", "props", "overlays", "locals", "syntax", "file"] : List Str) → a ≠ "listeners" → IsInt fC a 1 := fun a hm h1 h2 => by
      obtain ⟨v, e, r⟩ := rB a _ hm
      obtain ⟨t, rfl⟩ := rd_int r
      exact ⟨t, (c a h1 h2).trans e⟩
    have ic : ∀ a, (a, PyData.none) ∈ ([("undo", .none), ("props", .none), ("overlays", .none), ("locals", .none), ("syntax", .none), ("file", .none)] : List (Str × PyData)) → fC a = some .none := fun a hm => by
      obtain ⟨v, e, r⟩ := rC a _ hm
      exact e.trans (congrArg some (rd_none r))
    have ro : fC "is_read_only" = some (.bool false) := by
      obtain ⟨v, e, r⟩ := rB "is_read_only" (.bool false) (by kaf_pre)
      exact (c _ (by decide +kernel) (by decide +kernel)).trans (e.trans (congrArg some (rd_bool r)))
    refine ⟨⟨_, I20.weak (by decide), ?_⟩, ⟨_, (kD.inst Ig3 g1' g2' h1' h2').weak (by decide), ?_⟩, kD.lst lg3 l1' l2', ⟨_, kC.inst Im4 (ne_of nma Ld) (ne_of nma dxd) (ne_of ndma Ld) (ne_of ndma dxd), ?_⟩, ⟨0, kC.keep _ _ (ne_of nrd Ld) (ne_of nrd dxd) rd4⟩, kB.keep _ _ nLs nDs (k14r _ _ nLs nDs (Heap.get?_push_size _ rfl)), kS.lst hlc p1 p2⟩
    · exact ⟨ib _ (by kaf_pre) (by decide +kernel) (by decide +kernel), ib _ (by kaf_pre) (by decide +kernel) (by decide +kernel), ib _ (by kaf_pre) (by decide +kernel) (by decide +kernel), ib _ (by kaf_pre) (by decide +kernel) (by decide +kernel), ib _ (by kaf_pre) (by decide +kernel) (by decide +kernel),
        (b _ (by decide +kernel) (by decide +kernel) (by decide +kernel)).trans ((updF_ne (by decide +kernel)).trans updF_eq), (b _ (by decide +kernel) (by decide +kernel) (by decide +kernel)).trans updF_eq, (oC _ (by decide +kernel)).trans updF_eq, ro, ic _ (by kaf_pre), ic _ (by kaf_pre), ic _ (by kaf_pre),
        no' _ (by decide +kernel), no' _ (by decide +kernel), no' _ (by decide +kernel), no' _ (by decide +kernel), no' _ (by decide +kernel), no' _ (by decide +kernel), no' _ (by decide +kernel)⟩
    · unfold gapF
      refine ⟨⟨t1, ?_⟩, ⟨t2, ?_⟩, ⟨t3, ?_⟩, ?_, ?_, ?_, ?_, ?_, ?_, ?_⟩ <;> kernel_rfl
    · unfold markF
      refine ⟨?_, ?_, ?_⟩ <;> kernel_rfl
end
section
variable {S : Sg} {X : BX} {n : Nat} {sc : Scope} {L L' : ML} {D D' : BS} {m m' : Loc} {xp q : Pos}
theorem ok_gcodes : DefOk (inCls 42 3) ["self", "start", "end"] := by ktd_rel
theorem ok_bcodes : DefOk (inCls 48 7) ["self", "start", "end"] := by ktd_rel
theorem s_gcodes (H : KF S) (O : XOk S X) (k : Nat) (hl : D.cells.length ≤ 1000) (h1 : D.gst = k) (hk : k ≤ D.cells.length) : CallT S 2 (inCls 42 3) [sG X D, it 0, it k] (.list ((D.cells.take k).map .int)) := by
  refine CallT.mk [("self", sG X D), ("start", it 0), ("end", it k)] ok_gcodes rfl ?_
  refine ExT.cons (StT.assign (EvT.sub (rGen O (by kaf_pre) (by kernel_rfl)) (rGst O (by kaf_pre) (by kernel_rfl))) (by kaf_suf) (by kernel_rfl)) ?_
  refine ExT.stop (StT.ite (b := true) (TrT.icmp (by kwd_rel) (rGst O (by kaf_pre) (by kernel_rfl)) (by rw [h1]; simp [Mine.icmp])) ?_) trivial
  simp only [if_true]
  refine ExT.stop (StT.ret (EvT.castD (EvT.slice (a := 0) (b := k) (upCells O (by kaf_pre) (by kernel_rfl)) (by kwd_rel) (by kwd_rel) (by simpa using hl)) ?_)) trivial
  have e1 : kms_lo (some 0) (D.cells.map PyData.int).length = 0 := by simp [kms_lo]
  have e2 : kms_hi (some (k : Int)) (D.cells.map PyData.int).length = k := by
    simp only [kms_hi, List.length_map]
    rw [if_neg (by omega)]
    omega
  rw [e1, e2, List.drop_zero, Nat.sub_zero, List.map_take]
theorem s_bcodes (H : KF S) (O : XOk S X) (k : Nat) (hl : D.cells.length ≤ 1000) (h1 : D.gst = k) (hk : k ≤ D.cells.length) : CallT S 3 (inCls 48 7) [sB X D, it 1, it (k + 1)] (.list ((D.cells.take k).map .int)) := by
  refine CallT.mk [("self", sB X D), ("start", it 1), ("end", it (k + 1))] ok_bcodes rfl ?_
  exact ExT.stop (StT.ret (upMeth (upPart O (by kaf_pre) (by kernel_rfl) (O.bufM.no _ (by decide +kernel)) fun f h => h.text) O.gap.toPlainCls O.gapM.mCodes (gapLook fun f h => h.codes) (EvsT.cons (EvT.castI (y := 0) (EvT.sub (by kwd_rel) (by kwd_rel)) rfl) (EvsT.one (EvT.castI (y := k) (EvT.sub (by kwd_rel) (by kwd_rel)) (by omega)))) (s_gcodes H O k hl h1 hk) (.inr ⟨_, _, rfl, fun _ => by with_unfolding_all rfl, fun _ _ => by with_unfolding_all rfl⟩))) trivial
noncomputable abbrev insL (X : BX) : ML := [("buffer", .ob X.x), ("codes", .cd), ("before_markers", .fl (.bool false))]
noncomputable abbrev insU (X : BX) (D : BS) : Loc := [("buffer", sB X D), ("codes", .d (.list (X.cs.map .int))), ("before_markers", bl false)]
theorem insFl : flatL (insL X) := fun p hp => by
  simp only [List.mem_cons, List.not_mem_nil, or_false] at hp
  rcases hp with rfl | rfl | rfl <;> exact trivial
theorem s_insert (H : KF S) (O : XOk S X) (K2 : KF2 S) (hk : X.cs.length ≤ 16) (h1 : D.room = 8) (h2 : D.gst = 0) (h3 : D.gen = 8) (h4 : D.cells = List.replicate 8 0) (h5 : D.point = 1) (h6 : D.begv = 1) (h7 : D.zv = 1)
    {A : Around} {s : Shared} {f : Addr} {R : Result → Shared → Prop} (room : Room 8 A) (on : S.On s.heap) (fn : FnAtD S (topStmt 85) f #[.bool false]) (B : BWAt X D s.heap) (kk : ∀ s', ChgB X none s s' → BWAt X (putD X D) s'.heap → R (.ok (.ret .none)) s') :
    codeAny (model S.prog S.w) A (.call (.ref f) ⟨[.ref X.x, .ref X.lc], []⟩) R s := by
  refine fn.enter (n := 7) (stL X (insL X)) ok_dflt_insert room on rfl rfl (hv := S.base) (two_at rfl rfl rfl (.bool false)) on.keep fun env h₁ t at_ F eL eF _ hk₁ => toE ?_
  have hL : env.locals ∉ X.all := fun hm => by
    obtain ⟨o, z⟩ := B.there _ hm
    rw [eL] at z
    exact Nat.lt_irrefl _ (Heap.lt_size z)
  have body : ExB S X 7 (stScope (topStmt 85)) (insL X) D (stBody (topStmt 85)) (.next (insL X) (putD X D)) :=
    ExB.cons (StB.callG O H.f_put_in (EvsB.cons (EvB.name (.head _) (by kernel_rfl)) (EvsB.cons (EvB.of (m := insU X D) (EvT.castI (y := 1) (bInt O (by kaf_pre) (by kernel_rfl) (fun f h => h.point) (by decide +kernel)) h5)) (EvsB.cons (EvB.name (.tail _ (.head _)) (by kernel_rfl)) (EvsB.cons (EvB.name (.tail _ (.tail _ (.head _))) (by kernel_rfl)) (EvsB.cons (EvB.of (m := insU X D) EvT.bool) .nil))))) (s_put_in H O K2 hk h1 h2 h3 h4 h5 h6 h7) insFl (by kernel_rfl) ⟨_, _, rfl, fun _ => by with_unfolding_all rfl, fun _ _ => by with_unfolding_all rfl⟩) ExB.nil
  refine body (A.deeper env) env _ _ at_ F (B.keeps hk₁) hL fun fl s' c o => ?_
  obtain ⟨rfl, _, b⟩ := o
  exact kk s' ⟨fun b o _ n2 n3 n4 z => c.keep b o (fun q => by cases q; rw [eL] at z; exact Nat.lt_irrefl _ (Heap.lt_size z)) n2 n3 n4 (hk₁ _ _ z), c.gens, c.os⟩ b
end
structure DeckAt (Dk l0 : Addr) (ds : List Int) (k : Nat) (h : Heap) : Prop where
  deck : ∃ t n, h.get? Dk = some (W.listOf #[.ref l0, .int k t] n)
  cells : LstAt h l0 ds
  ne : Dk ≠ l0
theorem DeckAt.on {Dk l0 : Addr} {ds : List Int} {k : Nat} {h h' : Heap} (d : DeckAt Dk l0 ds k h) (k1 : ∀ o, h.get? Dk = some o → h'.get? Dk = some o) (k2 : ∀ o, h.get? l0 = some o → h'.get? l0 = some o) : DeckAt Dk l0 ds k h' := by
  obtain ⟨⟨t, n, e⟩, c, ne⟩ := d
  exact ⟨⟨t, n, k1 _ e⟩, c.on k2, ne⟩
noncomputable abbrev deckD (ds : List Int) (k : Nat) : PyData := .list [.list (ds.map .int), .int k]
theorem DeckAt.rd {Dk l0 : Addr} {ds : List Int} {k : Nat} {h : Heap} (d : DeckAt Dk l0 ds k h) : Rd h (.ref Dk) (deckD ds k) := by
  obtain ⟨⟨t, n, e⟩, c, ne⟩ := d
  have q := RdAll.cons c.rd (RdAll.cons (Rd.int (h := h) (k : Int) t) .nil)
  exact .list e q.1 q.2
noncomputable def drawV (ds : List Int) (k : Nat) (many : Int) : Int := if k < ds.length then (ds.getD k 0).fmod many else ((((k + 1 : Nat) : Int) * ((k + 1 : Nat) : Int) * 31 + 17 * ((k + 1 : Nat) : Int) + 5 * ds.length).fdiv 7).fmod many
theorem drawV_range (ds : List Int) (k : Nat) {many : Int} (h : 0 < many) : 0 ≤ drawV ds k many ∧ drawV ds k many < many := by
  unfold drawV
  split <;> exact ⟨Int.fmod_nonneg_of_pos _ h, Int.fmod_lt_of_pos _ h⟩
section
variable {S : Sg}
theorem ok_draw : DefOk (topStmt 102) ["deck", "many"] := by ktd_rel
theorem s_draw (H : KF S) {Dk l0 : Addr} {ds : List Int} {k : Nat} {many : Int} (hm : many ≠ 0) (hk : k < 900) (hd : ds.length ≤ 100) {A : Around} {s : Shared} {f : Addr} {tm : Tok} {R : Result → Shared → Prop} (room : Room 2 A) (on : S.On s.heap) (fn : FnAt S (topStmt 102) f)
    (B : DeckAt Dk l0 ds k s.heap) (hb : S.base.get? Dk = none) (kk : ∀ v s', (∀ b o, b ≠ Dk → s.heap.get? b = some o → s'.heap.get? b = some o) → s'.gens = s.gens → s'.os = s.os → DeckAt Dk l0 ds (k + 1) s'.heap → Rd s'.heap v (.int (drawV ds k many)) → R (.ok (.ret v)) s') :
    codeAny (model S.prog S.w) A (.call (.ref f) ⟨[.ref Dk, .int many tm], []⟩) R s := by
  refine enter (n := 1) [("deck", .r (.ref Dk)), ("many", it many)] ok_draw rfl room on fn rfl (hv := S.base) (fun i v p e1 e2 => ?_) on.keep fun env h₁ t at_ F eL eF _ hk₁ => toE ?_
  · match i with
    | 0 => simp at e1 e2; subst e1; subst e2; rfl
    | 1 => simp at e1 e2; subst e1; subst e2; exact .int _ _
    | i + 2 => simp at e1
  have nL : ∀ b o, s.heap.get? b = some o → b ≠ env.locals := fun b o z q => by rw [q, eL] at z; exact Nat.lt_irrefl _ (Heap.lt_size z)
  have lift : ∀ {h : Heap} {j : Nat}, FrameAt S S.base env [("deck", .r (.ref Dk)), ("many", it many)] h → DeckAt Dk l0 ds j h → FrameAt S S.base env [("deck", .d (deckD ds j)), ("many", it many)] h := fun F d => by
    obtain ⟨⟨mv, f, r⟩, o, u⟩ := F
    refine ⟨⟨mv, f, fun x pv hm => ?_⟩, o, u⟩
    simp only [List.mem_cons, List.not_mem_nil, or_false] at hm
    rcases hm with e | e
    · cases e
      obtain ⟨v, hv, rv⟩ := r "deck" (.r (.ref Dk)) (.head _)
      have : v = .ref Dk := rv
      subst this
      exact ⟨_, hv, d.rd⟩
    · cases e
      exact r "many" (it many) (.tail _ (.head _))
  have B₁ := B.on (hk₁ _) (hk₁ _)
  obtain ⟨t0, n0, eD⟩ := B₁.deck
  have nDk : Dk ≠ env.locals := by obtain ⟨_, _, z⟩ := B.deck; exact nL _ _ z
  refine wpAny_execs_cons (wpAny_Assign_Subscript ((?X : EvT S 1 (stScope (topStmt 102)) [("deck", .d (deckD ds k)), ("many", it many)] _ (it (k + 1))) (A.deeper env) S.base env _ _ at_ (lift F B₁) fun v s₂ e₂ r₂ => ?_) (by with_unfolding_all rfl))
  case X => exact EvT.add (EvT.itemL (k := 1) (xs := [.list (ds.map .int), .int k]) (by kwd_rel) EvT.int rfl (by decide) rfl) EvT.int
  obtain ⟨t1, rfl⟩ := rd_int r₂
  refine (?Y : EvT S 1 (stScope (topStmt 102)) [("deck", .r (.ref Dk)), ("many", it many)] _ (.r (.ref Dk))) (A.deeper env) S.base env s₂ _ at_ (F.keeps e₂.keep) fun u s₃ e₃ r₃ => ?_
  case Y => exact EvT.loc (by kernel_rfl) (by kaf_pre) (by kernel_rfl)
  cases r₃
  refine wpAny_Constant_int ?_
  have x₃ := e₂.trans e₃
  have eD₃ := x₃.keep _ _ eD
  refine ki_setAt (s := { s₃ with toks := s₃.toks + 1 }) eD₃ (by decide) (by decide) (by simp) ?_
  have up := PySem.IsL.update (n := n0) eD₃ fun xs => xs.setIfInBounds (1 : Int).toNat (.int (k + 1) t1)
  have F₃ := (F.keeps e₂.keep).keeps e₃.keep
  have sb : ∀ b o, b ≠ Dk → s₃.heap.get? b = some o → (s₃.heap.update Dk (Obj.mapSeq (·.setIfInBounds (1 : Int).toNat (.int (k + 1) t1)))).get? b = some o := fun b o n z => (Heap.get?_update_ne _ _ _ _ n).trans z
  have F₄ : FrameAt S S.base env [("deck", .r (.ref Dk)), ("many", it many)] (s₃.heap.update Dk (Obj.mapSeq (·.setIfInBounds (1 : Int).toNat (.int (k + 1) t1)))) := F₃.change (Ne.symm nDk) hb hb (fun o z v q => by rw [eD₃] at z; cases z; cases q) sb fun p hp v r => by
    simp only [List.mem_cons, List.not_mem_nil, or_false] at hp
    rcases hp with rfl | rfl
    · exact r
    · exact FlatD.rd (x := .int many) trivial r
  have B₄ : DeckAt Dk l0 ds (k + 1) (s₃.heap.update Dk (Obj.mapSeq (·.setIfInBounds (1 : Int).toNat (.int (k + 1) t1)))) := by
    refine ⟨⟨t1, _, up⟩, (B₁.cells.on fun o z => x₃.keep _ o z).on fun o z => sb _ o (Ne.symm B.ne) z, B.ne⟩
  have rest : ExT S 1 (stScope (topStmt 102)) [("deck", .d (deckD ds (k + 1))), ("many", it many)] ((stBody (topStmt 102)).drop 1) (.ret (.int (drawV ds k many))) := by
    have e0 : ∀ {p : Pos} {c : Nat} {p' q : Pos}, EvT S 1 (stScope (topStmt 102)) [("deck", .d (deckD ds (k + 1))), ("many", it many)] (.Subscript (.Name "deck" p) (.Constant (.int 0) c p') q) (.d (.list (ds.map .int))) := EvT.itemL (k := 0) (xs := [.list (ds.map .int), .int ((k + 1 : Nat) : Int)]) (by kwd_rel) EvT.int rfl (by decide) rfl
    have e1 : ∀ {p : Pos} {c : Nat} {p' q : Pos}, EvT S 1 (stScope (topStmt 102)) [("deck", .d (deckD ds (k + 1))), ("many", it many)] (.Subscript (.Name "deck" p) (.Constant (.int 1) c p') q) (it ((k + 1 : Nat) : Int)) := EvT.itemL (k := 1) (xs := [.list (ds.map .int), .int ((k + 1 : Nat) : Int)]) (by kwd_rel) EvT.int rfl (by decide) rfl
    unfold drawV
    by_cases h : k < ds.length
    · rw [if_pos h]
      refine ExT.stop (StT.ite (b := true) (TrT.icmp e1 (EvT.lenI H.b_len e0 (by omega) (by kernel_rfl)) (by kwd_less)) ?_) trivial
      simp only [if_true]
      refine ExT.stop (StT.ret (EvT.mod (EvT.itemL (k := k) (xs := ds.map .int) (x := .int (ds.getD k 0)) e0 (EvT.sub e1 EvT.int) (by omega) (by omega) ?_) (by kwd_rel) hm)) trivial
      rw [List.getElem?_map, List.getD_eq_getElem?_getD, List.getElem?_eq_getElem h]
      rfl
    · rw [if_neg h]
      refine ExT.cons (StT.ite (b := false) (TrT.icmp e1 (EvT.lenI H.b_len e0 (by omega) (by kernel_rfl)) (by kwd_less)) ExT.nil) ?_
      have sq : ((k + 1 : Nat) : Int) * ((k + 1 : Nat) : Int) ≤ 1000000 := by
        have : ((k + 1 : Nat) : Int) ≤ 1000 := by omega
        have h0 : (0 : Int) ≤ ((k + 1 : Nat) : Int) := by omega
        calc ((k + 1 : Nat) : Int) * ((k + 1 : Nat) : Int) ≤ 1000 * 1000 := Int.mul_le_mul this this h0 (by decide)
          _ = 1000000 := by decide
      have sq0 : 0 ≤ ((k + 1 : Nat) : Int) * ((k + 1 : Nat) : Int) := Int.mul_nonneg (by omega) (by omega)
      exact ExT.stop (StT.ret (EvT.mod (EvT.fdiv (EvT.add (EvT.add (EvT.mulS (EvT.mulS e1 e1 (by omega) (by omega)) EvT.int (by omega) sq) (EvT.mulS EvT.int e1 (by decide) (by decide))) (EvT.mulS EvT.int (EvT.lenI H.b_len e0 (by omega) (by kernel_rfl)) (by decide) (by decide))) EvT.int (by decide) (by decide)) (by kwd_rel) hm)) trivial
  refine rest (A.deeper env) S.base env _ _ at_ (lift F₄ B₄) fun fl s₅ e₅ o₅ => ?_
  obtain ⟨v, rfl, r⟩ := o₅
  obtain ⟨t5, n5, z5⟩ := B₄.deck
  obtain ⟨_, _, c5, _⟩ := B₁.cells
  have nl0 : l0 ≠ env.locals := by obtain ⟨_, _, z, _⟩ := B.cells; exact nL _ _ z
  refine kk v s₅ (fun b o n z => e₅.keep b o (nL b o z) (sb b o n (x₃.keep _ _ (hk₁ _ _ z)))) (e₅.gens.trans x₃.gens) (e₅.os.trans x₃.os) (B₄.on (fun o z => e₅.keep _ o nDk z) fun o z => e₅.keep _ o nl0 z) r
end
structure DExt (Dk : Addr) (s s' : Shared) : Prop where
  keep : ∀ b o, b ≠ Dk → s.heap.get? b = some o → s'.heap.get? b = some o
  gens : s'.gens = s.gens
  os : s'.os = s.os
theorem DExt.trans {Dk : Addr} {a b c : Shared} (x : DExt Dk a b) (y : DExt Dk b c) : DExt Dk a c := ⟨fun k o n z => y.keep k o n (x.keep k o n z), y.gens.trans x.gens, y.os.trans x.os⟩
theorem Ext.dext {Dk : Addr} {s s' : Shared} (e : Ext s s') : DExt Dk s s' := ⟨fun b o _ z => e.keep b o z, e.gens, e.os⟩
noncomputable def EvAt (S : Sg) (A : Around) (env : Env) (s : Shared) (e : PySem.Expr) (x : PyData) : Prop := ∀ Q : Value → Shared → Prop, (∀ v s', Ext s s' → Rd s'.heap v x → Q v s') → wpAny (model S.prog S.w) A (eval e env) Q NoE s
theorem EvT.at {S : Sg} {n : Nat} {sc : Scope} {m : Loc} {e : PySem.Expr} {x : PyData} (h : EvT S n sc m e (.d x)) {A : Around} {h₀ : Heap} {env : Env} {s : Shared} (at_ : At S sc n A env) (F : FrameAt S h₀ env m s.heap) : EvAt S A env s e x := fun Q k => h A h₀ env s Q at_ F k
noncomputable def FlatM (m : Loc) : Prop := ∀ p ∈ m, Flat p.2
theorem DeckAt.notCell {Dk l0 : Addr} {ds : List Int} {k : Nat} {h : Heap} (d : DeckAt Dk l0 ds k h) : ∀ o, h.get? Dk = some o → ∀ v, o.data ≠ .cell v := fun o z v q => by
  obtain ⟨t, n, e⟩ := d.deck
  rw [e] at z; cases z; cases q
section
variable {S : Sg} {n : Nat} {sc : Scope} {m : Loc}
theorem FrameAt.dext {h₀ : Heap} {env : Env} {s s' : Shared} {Dk l0 : Addr} {ds : List Int} {k : Nat} (F : FrameAt S h₀ env m s.heap) (x : DExt Dk s s') (d : DeckAt Dk l0 ds k s.heap) (fm : FlatM m) (h0 : h₀.get? Dk = none) (hb : S.base.get? Dk = none) : FrameAt S h₀ env m s'.heap := by
  have nL : env.locals ≠ Dk := fun q => by
    obtain ⟨o, es, ep, z, dd⟩ := F.locals
    obtain ⟨t, nn, e⟩ := d.deck
    rw [q, e] at z; cases z; cases dd
  exact F.change nL h0 hb d.notCell x.keep fun p hp v r => (fm p hp).rep r
theorem ev_draw (H : KF S) {A : Around} {h₀ : Heap} {env : Env} {s : Shared} {Q : Value → Shared → Prop} {Dk l0 : Addr} {ds : List Int} {k : Nat} {many : Int} {xp dp pos : Pos} {e : PySem.Expr} (hm : many ≠ 0) (hk : k < 900) (hd : ds.length ≤ 100) (hn : 2 ≤ n)
    (at_ : At S sc n A env) (F : FrameAt S h₀ env m s.heap) (fm : FlatM m) (h0 : h₀.get? Dk = none) (hb : S.base.get? Dk = none) (d : DeckAt Dk l0 ds k s.heap) (hx : sc.names.lookup (Str.ofString "_law_draw") = some .globalImplicit)
    (hdk : EvT S n sc m (.Name "deck" dp) (.r (.ref Dk))) (he : ∀ s₁, Ext s s₁ → EvAt S A env s₁ e (.int many))
    (kk : ∀ v s', DExt Dk s s' → FrameAt S h₀ env m s'.heap → DeckAt Dk l0 ds (k + 1) s'.heap → Rd s'.heap v (.int (drawV ds k many)) → Q v s')
    (h1 : ∀ env, starEach [.Name "deck" dp, e] env = [(false, eval (.Name "deck" dp) env), (false, eval e env)] := by intro _; with_unfolding_all rfl) (h2 : ∀ env, starEach [e] env = [(false, eval e env)] := by intro _; with_unfolding_all rfl)
    (hc : ∀ env, eval (.Call (.Name "_law_draw" xp) [.Name "deck" dp, e] [] pos) env = (do callWith pos (← eval (.Name "_law_draw" xp) env) [] (backTo pos (starEach [.Name "deck" dp, e] env)) (backToKw pos (keywordEach [] env))) := by intro _; with_unfolding_all rfl) :
    wpAny (model S.prog S.w) A (eval (.Call (.Name "_law_draw" xp) [.Name "deck" dp, e] [] pos) env) Q NoE s := by
  obtain ⟨g, hg, fn⟩ := H.f_law_draw
  refine Call_ (EvT.glob hg hx (by decide +kernel) A h₀ env s _ at_ F fun v s₁ e₁ r => ?_) (hc _)
  cases r
  have F₁ := F.keeps e₁.keep
  refine callWith_K (K := S.K) at_.ok.k fn.keep (spliced_more (hdk A h₀ env s₁ _ at_ F₁ fun u s₂ e₂ r₂ => ?_) (by rw [h1, h2])) (by rw [h1, h2]) (by rw [h2]; rfl)
  cases r₂
  refine spliced_more (he s₂ (e₁.trans e₂) _ fun w s₃ e₃ r₃ => spliced_none ?_) (by rw [h2]; rfl)
  obtain ⟨tm, rfl⟩ := rd_int r₃
  have x₃ := (e₁.trans e₂).trans e₃
  have F₃ := F.keeps x₃.keep
  have on₃ := F₃.on at_.ok
  have d₃ := d.on (fun o z => x₃.keep _ o z) fun o z => x₃.keep _ o z
  refine ⟨on₃.x, wpAny_call (s_draw H hm hk hd (at_.room.le hn) on₃ fn d₃ hb fun v s₄ k₄ g₄ o₄ d₄ r₄ => ?_)⟩
  have x₄ : DExt Dk s₃ s₄ := ⟨k₄, g₄, o₄⟩
  exact kk v s₄ (x₃.dext.trans x₄) (F₃.dext x₄ d₃ fm h0 hb) d₄ r₄
end
section
variable {S : Sg} {n : Nat} {sc : Scope} {m m' : Loc}
theorem comp_draws {A : Around} {h₀ : Heap} {env : Env} {s : Shared} {Q : Flow → Shared → Prop} {elt iter : PySem.Expr} {x y : Str} {px py pos spos : Pos} {scope : Scope} {mf : Loc} {Dk l0 ml : Addr} {ds mns : List Int} {k0 K : Nat} {g : Nat → Int} {mD : Addr → Loc}
    (at_ : At S sc n A env) (hK : K ≤ 1000) (hkind : scope.kind = .function) (hx : (relS scope sc).names.lookup x = some .local)
    (hnames : ∀ y ∈ scope.names, y.2 = .local → scope.names.lookup y.1 = some .local) (hcell : ∀ y ∈ scope.names, y.2 ≠ .cell)
    (hfree : ∀ y, (y, NameKind.free) ∈ scope.names → sc.names.lookup y = some .cell ∧ ∃ pv, (y, pv) ∈ m)
    (hmf : ∀ y pv, (y, pv) ∈ mf → (y, pv) ∈ m ∧ (y, NameKind.free) ∈ scope.names ∧ (relS scope sc).names.lookup y = some .cell)
    (hy : sc.names.lookup y = some .local) (F : FrameAt S h₀ env m s.heap) (fm : FlatM m) (h0 : h₀.get? Dk = none) (hb : S.base.get? Dk = none) (hml : ml ≠ Dk) (lm : LstAt s.heap ml mns) (dk : DeckAt Dk l0 ds k0 s.heap)
    (src : ∀ Q : Value → Shared → Prop, (∀ r b t u v s', DExt Dk s s' → FrameAt S h₀ env m s'.heap → DeckAt Dk l0 ds (k0 + 1) s'.heap → IsRange s'.heap r 0 b 1 t u v → Builtin.Range.small 0 b 1 = true → Builtin.Range.rangeSize 0 b 1 = K → Q (.ref r) s') → wpAny (model S.prog S.w) A (eval iter env) Q NoE s)
    (hel : ∀ i, i < K → ∀ (cenv : Env) (s₄ : Shared) (Q : Value → Shared → Prop), At S (relS scope sc) n A cenv → FrameAt S h₀ cenv ((x, it i) :: mf) s₄.heap → DeckAt Dk l0 ds (k0 + 1 + i) s₄.heap → LstAt s₄.heap ml mns →
      (∀ t s₅, DExt Dk s₄ s₅ → DeckAt Dk l0 ds (k0 + 1 + i + 1) s₅.heap → Q (.int (g i) t) s₅) → wpAny (model S.prog S.w) A (eval elt cenv) Q NoE s₄)
    (t : ∀ D, SetAt m y (.r (.ref D)) (mD D))
    (kk : ∀ D s', s.heap.get? D = none → (∀ b o, b ≠ env.locals → b ≠ Dk → s.heap.get? b = some o → s'.heap.get? b = some o) → s'.gens = s.gens → s'.os = s.os → FrameAt S h₀ env (mD D) s'.heap → DeckAt Dk l0 ds (k0 + 1 + K) s'.heap → LstAt s'.heap D ((List.range K).map g) → Q .next s')
    (hsw : swapsWith (.ListComp elt [⟨.Name x px, iter, [], 0⟩] scope pos) (some (.Name y py)) spos.line env = pure true)
    (hs : ∀ x, foldedSetIterable iter env x = pure x := by intro _; with_unfolding_all rfl) :
    wpAny (model S.prog S.w) A (exec (.Assign [.Name y py] (.ListComp elt [⟨.Name x px, iter, [], 0⟩] scope pos) spos) env) Q NoE s := by
  have cells : ∀ y, (y, NameKind.free) ∈ scope.names → ∃ c, env.cells.lookup y = some c := fun y hy => by
    obtain ⟨a, pv, b⟩ := hfree y hy
    obtain ⟨mv, _, r⟩ := F.fr
    obtain ⟨v, e, _⟩ := r y pv b
    obtain ⟨c, q, _⟩ := e.cell (at_.of a)
    exact ⟨c, q⟩
  obtain ⟨cl, hclos, hcl⟩ := closure_at (env := env) (scope := scope) cells
  rw [exec_Assign_Name_used _ _ _ _ hsw]
  refine wpAny_bind (wpAny_standAt (wpAny_bind ?_))
  show wpAny _ A (do let _ ← comprehension (.ListComp elt [⟨.Name x px, iter, [], 0⟩] scope pos) scope env _ (newList []) false (eval iter env) (some (assign (.Name y py) env))) _ _ s
  refine wpAny_bind (wpAny_mono (wpAny_comprehension_free (use := some (assign (.Name y py) env)) (Q := fun _ s' => Q .next s') rfl hs hclos hkind hnames
    (src _ fun r b tt u v s₁ x₁ F₁ d₁ hr hsm hsz => ?_)) (fun _ s' hq => wpAny_pure (wpAny_pure hq)) fun _ _ e => e)
  refine wpAny_pyIter_range hr hsm ?_
  rw [hsz]
  have hp : ∀ b o, s₁.heap.get? b = some o → (s₁.heap.push { cls := .type "range_iterator", data := .fields #[rawInt 0, rawInt K, rawInt 1] }).get? b = some o := fun b o e => Heap.get?_push_of_some _ e
  generalize hH1 : s₁.heap.push { cls := .type "range_iterator", data := .fields #[rawInt 0, rawInt K, rawInt 1] } = H1 at hp ⊢
  obtain ⟨I, hIe⟩ : ∃ I, I = s₁.heap.objs.size := ⟨_, rfl⟩
  have hI1 : H1.objs.size = I + 1 := by rw [← hH1, Heap.size_push, hIe]
  have hst0 : IsRangeIter H1 I 0 K 1 := by rw [← hH1, hIe]; exact Heap.get?_push_size _ rfl
  have W := Walks.range (prog := S.prog) (w := S.w) (A := A) at_.room.2.2 I 0 1 K
  refine wpAny_newObj_type (wpAny_newFunctionEnv hcell (by intro y hy; simp at hy) (fun h₁ hns₁ hsb₁ => ?_) hkind)
  dsimp only at hns₁ hsb₁ ⊢
  generalize hH2 : H1.push { cls := .type "list", dict := Option.none, data := .seq ([] : List Value).toArray } = H2 at hns₁ hsb₁ ⊢
  obtain ⟨D, hDe⟩ : ∃ D, D = H1.objs.size := ⟨_, rfl⟩
  obtain ⟨C, hCe⟩ : ∃ C, C = H2.objs.size := ⟨_, rfl⟩
  have hC : C = D + 1 := by rw [hCe, ← hH2, Heap.size_push, hDe]
  have hD : D = I + 1 := by rw [hDe, hI1]
  have hDC : D ≠ C := by rw [hC]; exact Nat.ne_of_lt (Nat.lt_succ_self _)
  have hDI : D ≠ I := by rw [hD]; exact Nat.succ_ne_self _
  have hCI : C ≠ I := by rw [hC, hD]; exact Nat.ne_of_gt (Nat.lt_succ_of_lt (Nat.lt_succ_self _))
  have below : ∀ b o, s₁.heap.get? b = some o → b ≠ I ∧ b ≠ D ∧ b ≠ C := fun b o e => by
    have := Heap.lt_size e
    rw [← hIe] at this
    exact ⟨Nat.ne_of_lt this, by rw [hD]; exact Nat.ne_of_lt (Nat.lt_succ_of_lt this), by rw [hC, hD]; exact Nat.ne_of_lt (Nat.lt_succ_of_lt (Nat.lt_succ_of_lt this))⟩
  have old : ∀ b o, H1.get? b = some o → h₁.get? b = some o := fun b o e => hsb₁.extBut b o (fun q => by
    have := Heap.lt_size e
    rw [← hDe] at this
    have q' : b = C := q.trans hCe.symm
    rw [q', hC] at this
    exact Nat.lt_irrefl _ (Nat.lt_of_succ_lt this)) (Heap.get?_push_of_some _ (hH2 ▸ Heap.get?_push_of_some _ e))
  have hacc : h₁.get? D = some { cls := .type "list", dict := Option.none, data := .seq ([] : List Value).toArray } := hsb₁.extBut _ _ (fun q => hDC (q.trans hCe.symm)) (Heap.get?_push_of_some _ (by rw [← hH2, hDe]; exact Heap.get?_push_size _ rfl))
  have hDk1 : ∃ o, s₁.heap.get? Dk = some o := by obtain ⟨_, _, z⟩ := d₁.deck; exact ⟨_, z⟩
  obtain ⟨oDk, zDk⟩ := hDk1
  obtain ⟨nDI, nDD, nDC⟩ := below Dk _ zDk
  have lm₁ : LstAt s₁.heap ml mns := lm.on fun o z => x₁.keep _ o hml z
  obtain ⟨_, _, zml, _⟩ := id lm₁
  obtain ⟨nmI, nmD, nmC⟩ := below ml _ zml
  obtain ⟨_, _, zl0, _⟩ := id d₁.cells
  obtain ⟨n0I, n0D, n0C⟩ := below l0 _ zl0
  have new : s.heap.get? D = none := by
    cases q : s.heap.get? D with
    | none => rfl
    | some o =>
      by_cases e : D = Dk
      · exact absurd e.symm nDD
      · exact absurd rfl (below D o (x₁.keep D o e q)).2.1
  have frame : ∀ h mC v (i : Nat), h.Ns C mC → mC x = some v → Rd h v (.int i) → (∀ b o, s₁.heap.get? b = some o → b ≠ Dk → h.get? b = some o) → FrameAt S h₀ (compEnvC scope cl C env) ((x, it i) :: mf) h := by
    intro h mC v i hn hv hr hk
    obtain ⟨mv, f, r⟩ := F₁.fr
    refine ⟨⟨mC, ⟨hn, fun b o e => hk b o (f.keep b o e) (fun q => by rw [q, hb] at e; cases e), ?_⟩, fun y pv hm => ?_⟩, fun b o e => hk b o (F₁.old b o e) (fun q => by rw [q, h0] at e; cases e), ?_⟩
    · show S.base.objs.size ≤ C
      have a1 := f.above
      have a2 := f.ns.lt
      rw [hC, hD, hIe]
      exact Nat.le_of_lt (Nat.lt_succ_of_lt (Nat.lt_succ_of_lt (Nat.lt_of_le_of_lt a1 a2)))
    · rcases List.mem_cons.mp hm with q | q
      · cases q
        refine ⟨v, ⟨fun _ => hv, fun q => ?_⟩, hr⟩
        have q' : (relS scope sc).names.lookup x = some .cell := by rw [← at_.sc]; exact q
        rw [hx] at q'
        cases q'
      · obtain ⟨a1, a2, a3⟩ := hmf y pv q
        obtain ⟨u, e, gg⟩ := r y pv a1
        obtain ⟨c, c1, oc, c2, c3⟩ := e.cell (at_.of (hfree y a2).1)
        refine ⟨u, ⟨fun q => ?_, fun _ => ⟨c, ?_, oc, hk c oc c2 (fun z => d₁.notCell oc (z ▸ c2) _ c3), c3⟩⟩, (fm _ a1).rep gg⟩
        · have q' : (relS scope sc).names.lookup y = some .local := by rw [← at_.sc]; exact q
          rw [a3] at q'
          cases q'
        · show cl.lookup y = some c
          rw [hcl y a2]; exact c1
    · show h₀.get? C = Option.none
      cases e : h₀.get? C with
      | none => rfl
      | some o => exact absurd rfl (below C o (F₁.old _ _ e)).2.2
  have atc : At S (relS scope sc) n A (compEnvC scope cl C env) := ⟨at_.room, at_.ok, hkind, by rw [← at_.sc]; rfl, at_.gl, at_.bi⟩
  have loop : ∀ s₃ : Shared, s₃.heap = h₁ → s₃.gens = s₁.gens → s₃.os = s₁.os →
      codeAny (model S.prog S.w) A (.compLoop (.ListComp elt [⟨.Name x px, iter, [], 0⟩] scope pos) 0 (.ref I) (.ref D) (compEnvC scope cl C env))
        (compPost (model S.prog S.w) A NoE (some (assign (.Name y py) env)) (fun _ s' => Q .next s') (.ref D) C) s₃ := by
    intro s₃ e3 eg eo
    refine codeAny_compLoop_tests
      (fun q s' => ∃ i ys mC nn, i ≤ K ∧ q = K + 1 - i ∧ (∀ b o, s₁.heap.get? b = some o → b ≠ Dk → s'.heap.get? b = some o) ∧ s'.gens = s₁.gens ∧ s'.os = s₁.os ∧ IsRangeIter s'.heap I (0 + (i : Nat) * 1) ((K : Int) - (i : Nat)) 1 ∧ s'.heap.Ns C mC ∧
        s'.heap.get? D = some { cls := .type "list", dict := Option.none, data := .seq (List.toArray ys) nn } ∧ IntsAre ys ((List.range i).map g) ∧ DeckAt Dk l0 ds (k0 + 1 + i) s'.heap) ?_ (K + 1)
      ⟨0, [], _, _, Nat.zero_le _, rfl, fun b o e _ => e3 ▸ old b o (hp b o e), eg, eo, ?_, e3 ▸ hCe ▸ hns₁, e3 ▸ hacc, .nil, e3 ▸ d₁.on (fun o z => old _ o (hp _ o z)) fun o z => old _ o (hp _ o z)⟩
    rotate_left
    · rw [e3]
      have := old I _ hst0
      simpa using this
    · intro q s' hI
      refine elim4_10 hI fun i ys mC nn hi hq hk hg ho hst' hn' hD' hR' hd' => ?_
      subst hq
      by_cases hlt : i < K
      · refine wpAny_pyNext_range_item hst' (by omega) fun h₂ hst₂ hs₂ => ?_
        have hkI : ∀ b o, b ≠ I → s'.heap.get? b = some o → h₂.get? b = some o := fun b o nb e => hs₂.extBut b o nb e
        refine wpAny_assign_Name (wpAny_storeName_local (atc.of hx) (hn'.at' fun o e => hkI _ o hCI e) (fun h₃ hn₃ hs₃ => ?_) (atc.plain _ _))
        have hs₃' : Heap.SameBut C h₂ h₃ := hs₃
        have k3 : ∀ b o, s₁.heap.get? b = some o → b ≠ Dk → h₃.get? b = some o := fun b o e nb => (hs₃'.2 b (below b o e).2.2).trans (hkI b o (below b o e).1 (hk b o e nb))
        have hD₃ : h₃.get? D = some { cls := .type "list", dict := Option.none, data := .seq (List.toArray ys) nn } := (hs₃'.2 _ hDC).trans (hkI _ _ hDI hD')
        have hst₃ : IsRangeIter h₃ I (0 + (i : Nat) * 1 + 1) ((K : Int) - (i : Nat) - 1) 1 := (hs₃'.2 I (Ne.symm hCI)).trans hst₂
        have d₃ : DeckAt Dk l0 ds (k0 + 1 + i) h₃ := hd'.on (fun o z => (hs₃'.2 _ nDC).trans (hkI _ o nDI z)) fun o z => (hs₃'.2 _ n0C).trans (hkI _ o n0I z)
        have lm₃ : LstAt h₃ ml mns := lm₁.on fun o z => k3 _ o z hml
        have FC := frame h₃ _ (.int (0 + (i : Nat) * 1) s'.toks) i hn₃ (by simp) (by simpa using Rd.int (h := h₃) (i : Int) s'.toks) k3
        refine wpAny_tests_nil ?_
        simp only [if_true]
        refine toE (hel i hlt _ _ _ atc FC d₃ lm₃ fun tt s₅ x₅ d₅ => ?_)
        refine append_at (x₅.keep _ _ (Ne.symm nDD) hD₃) (fun h₆ hs₆ hD₆ => ?_) (by rw [sizeLine_eq, List.size_toArray, hR'.length, List.length_map, List.length_range]; omega)
        have k6 : ∀ b o, b ≠ D → b ≠ Dk → h₃.get? b = some o → h₆.get? b = some o := fun b o n1 n2 z => (hs₆.2 b n1).trans (x₅.keep b o n2 z)
        refine ⟨K + 1 - (i + 1), by omega, i + 1, ys ++ [.int (g i) tt], _, nn + 1, hlt, rfl, fun b o e nb => k6 b o (below b o e).2.1 nb (k3 b o e nb), x₅.gens.trans hg, x₅.os.trans ho, ?_, hn₃.at' fun o e => k6 _ o (Ne.symm hDC) (Ne.symm nDC) e, by rw [hD₆]; simp, ?_, ?_⟩
        · have := k6 I _ (Ne.symm hDI) (Ne.symm nDI) hst₃
          have e1 : (0 : Int) + ((i + 1 : Nat) : Int) * 1 = 0 + (i : Nat) * 1 + 1 := by omega
          have e2 : (K : Int) - ((i + 1 : Nat) : Int) = (K : Int) - (i : Nat) - 1 := by omega
          rw [e1, e2]
          exact this
        · rw [List.range_succ, List.map_append]
          exact hR'.append (.cons _ _ .nil)
        · exact d₅.on (fun o z => (hs₆.2 _ nDD).trans z) fun o z => (hs₆.2 _ n0D).trans z
      · obtain rfl : i = K := Nat.le_antisymm hi (Nat.not_lt.mp hlt)
        refine wpAny_pyNext_range_end at_.room.2.2 hst' (by omega) fun h₂ hs₂ => ?_
        have hkI : ∀ b o, b ≠ I → s'.heap.get? b = some o → h₂.get? b = some o := fun b o nb e => hs₂ b o nb e
        have k2 : ∀ b o, s₁.heap.get? b = some o → b ≠ Dk → h₂.get? b = some o := fun b o e nb => hkI b o (below b o e).1 (hk b o e nb)
        have F₂ : FrameAt S h₀ env m h₂ := F₁.dext (s := s₁) (s' := { s' with heap := h₂ }) ⟨fun b o nb e => k2 b o e nb, hg, ho⟩ d₁ fm h0 hb
        have hL : ∃ o, s₁.heap.get? env.locals = some o := by obtain ⟨o, _, _, z, _⟩ := F₁.locals; exact ⟨o, z⟩
        obtain ⟨oL, zL⟩ := hL
        obtain ⟨nLI, nLD, nLC⟩ := below _ _ zL
        have nLDk : env.locals ≠ Dk := fun q => by
          obtain ⟨o, es, ep, z, dd⟩ := F₁.locals
          obtain ⟨tt, nn, e⟩ := d₁.deck
          rw [q, e] at z; cases z; cases dd
        show wpAny _ A (assign (.Name y py) env (.ref D)) _ _ _
        obtain ⟨mv, f₂, r₂⟩ := F₂.fr
        refine wpAny_assign_Name (wpAny_storeName_local (at_.of hy) f₂.ns (fun h₃ hn₃ hs₃ => ?_) (at_.plain _ _))
        have hs₃' : Heap.SameBut env.locals h₂ h₃ := hs₃
        have F₃ := F₂.store (v := .ref D) (pv := .r (.ref D)) rfl (at_.of hy) f₂ r₂ hn₃ hs₃ (t D)
        refine ⟨mC, (hn'.at' fun o e => hkI _ o hCI e).sameBut hs₃' (Ne.symm nLC), fun h'' hs'' => ?_⟩
        have kf : ∀ b o, b ≠ env.locals → b ≠ Dk → s.heap.get? b = some o → h''.get? b = some o := fun b o n1 n2 z => by
          have z1 := x₁.keep b o n2 z
          exact (hs''.2 b (below b o z1).2.2).trans ((hs₃'.2 b n1).trans (k2 b o z1 n2))
        refine kk D { s' with heap := h'', toks := _ } new kf (hg.trans x₁.gens) (ho.trans x₁.os) (F₃.change (D := C) nLC ?_ ?_ ?_ (fun b o nb z => (hs''.2 b nb).trans z) ?_) ?_ ⟨_, nn, (hs''.2 D hDC).trans ((hs₃'.2 D (Ne.symm nLD)).trans (hkI _ _ hDI hD')), by simpa using hR'⟩
        · cases e : h₀.get? C with
          | none => rfl
          | some o => exact absurd rfl (below C o (F₁.old _ _ e)).2.2
        · cases e : S.base.get? C with
          | none => rfl
          | some o =>
            obtain ⟨_, f, _⟩ := F₁.fr
            exact absurd rfl (below C o (f.keep _ _ e)).2.2
        · intro o z v q
          obtain ⟨oC, es, ep, zC, dC, _⟩ := (hn'.at' fun o e => hkI _ o hCI e).sameBut hs₃' (Ne.symm nLC)
          rw [zC] at z; cases z
          rw [dC] at q; cases q
        · intro p hp v r
          refine Flat.rep (?_ : Flat p.2) r
          rcases t D p.1 p.2 hp with ⟨_, e⟩ | ⟨e, _⟩
          · rw [e]; exact trivial
          · exact fm _ e
        · exact hd'.on (fun o z => (hs''.2 _ nDC).trans ((hs₃'.2 _ (Ne.symm nLDk)).trans (hkI _ o nDI z))) fun o z => (hs''.2 _ n0C).trans ((hs₃'.2 _ (fun q => by
            obtain ⟨o', es, ep, z', dd⟩ := F₁.locals
            rw [← q, zl0] at z'; cases z'; cases dd)).trans (hkI _ o n0I z))
  have hst := loop { s₁ with heap := h₁, toks := s₁.toks + ([] : List (Str × Value)).length } rfl rfl rfl
  have hst1 : IsRangeIter h₁ I (0 + ((0 : Nat) : Int) * 1) ((K : Int) - ((0 : Nat) : Int)) 1 := by
    have := old I _ hst0
    simpa using this
  subst hCe
  subst hDe
  subst hIe
  exact codeAny_compStart_list hst (W.self 0 _ _ _ hst1 hst)
end
noncomputable def GoodD (k : Nat) (d : PyData) : Prop := d.canLay0 = true ∧ d.depth ≤ k
theorem GoodD.int {k : Nat} {i : Int} : GoodD k (.int i) := ⟨rfl, Nat.zero_le _⟩
theorem GoodD.none {k : Nat} : GoodD k .none := ⟨rfl, Nat.zero_le _⟩
theorem good_all {k : Nat} : ∀ {xs : List PyData}, (∀ x ∈ xs, GoodD k x) → PyData.canLayAll0 xs = true ∧ PyData.depthAll xs ≤ k
  | [], _ => ⟨rfl, Nat.zero_le _⟩
  | x :: xs, h => by
    obtain ⟨a, b⟩ := h x (.head _)
    obtain ⟨c, d⟩ := good_all (xs := xs) fun y hy => h y (.tail _ hy)
    exact ⟨by rw [PyData.canLayAll0, a, c]; rfl, by rw [PyData.depthAll]; exact Nat.max_le.mpr ⟨b, d⟩⟩
theorem GoodD.list {k : Nat} {xs : List PyData} (h : ∀ x ∈ xs, GoodD k x) : GoodD (k + 1) (.list xs) := by
  obtain ⟨a, b⟩ := good_all h
  exact ⟨by rw [PyData.canLay0, a], by rw [PyData.depth]; omega⟩
theorem GoodD.tuple {k : Nat} {xs : List PyData} (h : ∀ x ∈ xs, GoodD k x) : GoodD (k + 1) (.tuple xs) := by
  obtain ⟨a, b⟩ := good_all h
  exact ⟨by rw [PyData.canLay0, a], by rw [PyData.depth]; omega⟩
theorem GoodD.le {k j : Nat} {d : PyData} (h : GoodD k d) (l : k ≤ j) : GoodD j d := ⟨h.1, Nat.le_trans h.2 l⟩
theorem GoodD.ints {cs : List Int} : GoodD 1 (.list (cs.map .int)) := GoodD.list fun x hx => by
  obtain ⟨i, _, rfl⟩ := List.mem_map.mp hx
  exact .int
section
variable {S : Sg} {n : Nat} {sc : Scope} {m : Loc}
theorem ne_same {A : Around} {s : Shared} {a b : Value} {d : PyData} {Q : Value → Shared → Prop} (room : Room n A) (ra : Rd s.heap a d) (rb : Rd s.heap b d) (g : GoodD 64 d) (h : Q (.bool false) s) : wpAny (model S.prog S.w) A (compareOp .NotEq a b) Q NoE s := by
  obtain ⟨as, ra'⟩ := ra.reads
  obtain ⟨bs, rb'⟩ := rb.reads
  refine SeqAt.compareNe_reads ra' rb' g.1 g.1 ?_ (by rw [SeqAt.eqv_refl d g.1]; exact h)
  have := room.2.1
  have := g.2
  omega
theorem eq_same {A : Around} {s : Shared} {a b : Value} {d : PyData} {Q : Value → Shared → Prop} (room : Room n A) (ra : Rd s.heap a d) (rb : Rd s.heap b d) (g : GoodD 64 d) (h : Q (.bool true) s) : wpAny (model S.prog S.w) A (compareOp .Eq a b) Q NoE s := by
  obtain ⟨as, ra'⟩ := ra.reads
  obtain ⟨bs, rb'⟩ := rb.reads
  refine SeqAt.compareEq_reads ra' rb' g.1 g.1 ?_ (by rw [SeqAt.eqv_refl d g.1]; exact h)
  have := room.2.1
  have := g.2
  omega
theorem TrT.neSame {a b : PySem.Expr} {d : PyData} {pos : Pos} (ha : EvT S n sc m a (.d d)) (hb : EvT S n sc m b (.d d)) (g : GoodD 64 d) (hm : behindInMarks .NotEq b = false := by with_unfolding_all rfl) : TrT S n sc m (.Compare a [.NotEq] [b] pos) false :=
  TrT.cmp ha hb (fun A h₀ s v u Q room r₁ r₂ k => ne_same room r₁ r₂ g (k _ (.refl _))) hm
theorem EvT.eqSame {a b : PySem.Expr} {d : PyData} {pos : Pos} (ha : EvT S n sc m a (.d d)) (hb : EvT S n sc m b (.d d)) (g : GoodD 64 d) (hm : behindInMarks .Eq b = false := by with_unfolding_all rfl) : EvT S n sc m (.Compare a [.Eq] [b] pos) (bl true) :=
  ha.cmp hb (fun A h₀ s v u Q room r₁ r₂ k => eq_same room r₁ r₂ g (k _ (.refl _))) hm
theorem FrameAt.storeCell {h₀ h h' : Heap} {env : Env} {c : Addr} {x : Str} {v : Value} {pv : PV} (F : FrameAt S h₀ env m h) (hv : Rep S h₀ h' v pv) (hx : env.kindOf x = some .cell) (hc : env.cells.lookup x = some c) (hL : env.locals ≠ c) (h0 : h₀.get? c = none) (hb : S.base.get? c = none)
    (hcell : ∃ v₀, h.IsCell c v₀) (hn : h'.IsCell c (some v)) (hs : Heap.SameBut c h h') (ho : ∀ p ∈ m, env.cells.lookup p.1 ≠ some c) (hm : ∀ p ∈ m, ∀ u, Rep S h₀ h u p.2 → Rep S h₀ h' u p.2) : FrameAt S h₀ env ((x, pv) :: m) h' := by
  obtain ⟨⟨mv, f, r⟩, o, u⟩ := F
  refine ⟨⟨mv, ⟨?_, fun b ob e => (hs.2 b (fun q => by rw [q, hb] at e; cases e)).trans (f.keep b ob e), f.above⟩, fun y p hmm => ?_⟩, fun b ob e => (hs.2 b (fun q => by rw [q, h0] at e; cases e)).trans (o b ob e), u⟩
  · obtain ⟨oL, es, ep, e, d⟩ := f.ns
    exact ⟨oL, es, ep, (hs.2 _ hL).trans e, d⟩
  · rcases List.mem_cons.mp hmm with e | e
    · cases e
      exact ⟨v, ⟨fun q => (by rw [hx] at q; cases q), fun _ => ⟨c, hc, hn⟩⟩, hv⟩
    · obtain ⟨w, hw, g⟩ := r y p e
      refine ⟨w, ⟨hw.loc, fun q => let ⟨c', a, b⟩ := hw.cell q; ⟨c', a, b.sameBut hs fun q' => ho _ e (q' ▸ a)⟩⟩, hm _ e w g⟩
end
theorem bwat_view {S : Sg} {X : BX} {D : BS} {h : Heap} {cs : List Int} (O : XOk S X) (B : BWAt X D h) (hz : D.zv = D.begv + cs.length) (h1 : 1 ≤ D.begv) (h2 : D.begv - 1 + cs.length ≤ D.gst) (h3 : D.gst ≤ D.cells.length) (h4 : ∀ i : Nat, i < cs.length → D.cells[(D.begv - 1 + i).toNat]? = cs[i]?) (h5 : D.begv + cs.length ≤ 1000) : ViewAt S h (.ref X.x) D.begv cs := by
  obtain ⟨⟨f, i1, f1⟩, ⟨g, i2, f2⟩, l1, _⟩ := B
  obtain ⟨es, ow, ge⟩ := i1.own
  obtain ⟨gs, og, gg⟩ := i2.own
  obtain ⟨tb, e1⟩ := f1.begv
  obtain ⟨tz, e2⟩ := f1.zv
  obtain ⟨ts, e3⟩ := f2.gst
  obtain ⟨te, e4⟩ := f2.gen
  exact ⟨.inr ⟨⟨X.x, X.C, es, X.g, X.Cg, gs, X.l, tb, tz, D.gst, ts, D.gen, te, D.cells⟩, rfl, O.buf, ow, (ge _).trans (congrArg some e1), (ge _).trans (congrArg some (hz ▸ e2)), (ge _).trans (congrArg some f1.text), (ge _).trans (congrArg some f1.begin), (ge _).trans (congrArg some f1.end_), (ge _).trans (congrArg some f1.code_at),
    O.gap, og, (gg _).trans (congrArg some f2.cells), (gg _).trans (congrArg some e3), (gg _).trans (congrArg some e4), (gg _).trans (congrArg some f2.code), l1.rd, h2, h3, h4⟩, h1, h5⟩
section
variable {cs : List Int}
theorem places_le (i : Nat) (hi : i ≤ cs.length) (count tenths : Int) : ∀ p ∈ placesR cs i count tenths, p ≤ cs.length := by
  intro p hp
  unfold placesR at hp
  simp only [List.mem_cons, List.not_mem_nil, or_false] at hp
  rcases hp with rfl | rfl | rfl | rfl | rfl | rfl | rfl | rfl | rfl | rfl | rfl | rfl
  · exact Nat.le_trans (lineStart_le i) hi
  · exact lineEnd_le i hi
  · exact linesTarget_le i count hi
  · exact sentencesTarget_le i count hi
  · exact paragraphsTarget_le i count hi
  · have := oneBackward_lt (cs := cs) (oneForward cs i) (oneForward_le i)
    have := oneForward_le (cs := cs) i
    omega
  · exact oneForward_le i
  · exact clampR_le _ _
  · exact linesTarget_le _ _ (clampR_le _ _)
  · exact linesTarget_le _ _ (clampR_le _ _)
  · exact linesTarget_le _ _ (Nat.zero_le _)
  · exact placeAt_le i hi _
theorem good_edit {b : Int} {e : Nat × Nat} : GoodD 2 (editD b e.1 e.2) := GoodD.tuple fun x hx => by
  simp only [List.mem_cons, List.not_mem_nil, or_false] at hx
  rcases hx with rfl | rfl | rfl
  · exact .int
  · exact .int
  · exact GoodD.list (k := 0) fun y hy => nomatch hy
theorem good_edits {b : Int} {es : List (Nat × Nat)} : GoodD 3 (.list (es.map fun e => editD b e.1 e.2)) := GoodD.list fun x hx => by
  obtain ⟨e, _, rfl⟩ := List.mem_map.mp hx
  exact good_edit
theorem good_codes {i j : Nat} : ∀ x ∈ codesOf cs i j, GoodD 1 x := fun x hx => by
  obtain ⟨t, _, rfl⟩ := List.mem_map.mp hx
  exact .int
theorem good_rep {k : Nat} {d : PyData} (h : GoodD 1 d) : ∀ x ∈ List.replicate k d, GoodD 1 x := fun x hx => by rw [List.eq_of_mem_replicate hx]; exact h
theorem good_app {k : Nat} {xs ys : List PyData} (h1 : ∀ x ∈ xs, GoodD k x) (h2 : ∀ x ∈ ys, GoodD k x) : ∀ x ∈ xs ++ ys, GoodD k x := fun x hx => by
  rcases List.mem_append.mp hx with h | h
  · exact h1 x h
  · exact h2 x h
theorem good_nil {k : Nat} : ∀ x ∈ ([] : List PyData), GoodD k x := fun x hx => nomatch hx
theorem good_cons {k : Nat} {d : PyData} {xs : List PyData} (h : GoodD k d) (g : ∀ x ∈ xs, GoodD k x) : ∀ x ∈ d :: xs, GoodD k x := fun x hx => by
  rcases List.mem_cons.mp hx with rfl | hx
  · exact h
  · exact g x hx
theorem GoodD.strB {k : Nat} {x : Str} (h : PyData.strOk x = true) : GoodD k (.str x) := ⟨by rw [PyData.canLay0]; exact h, Nat.zero_le _⟩
theorem good_reg {b : Int} {f0 f1 g0 g1 : Nat} : GoodD 3 (regD b cs f0 f1 g0 g1) := GoodD.tuple (good_cons .int (good_cons .int (good_cons (GoodD.list (good_app (good_app good_codes good_codes) good_codes)) good_nil)))
theorem good_charsOut {b : Int} {i : Nat} {c : Option Int} : GoodD 10 (charsOut b cs i c) := by
  unfold charsOut
  cases e : charsErr cs i c with
  | none =>
    simp only
    unfold charsEditD
    split <;> exact (GoodD.tuple (good_cons good_reg (good_cons .int good_nil))).le (by decide)
  | some p =>
    obtain ⟨sym, dat⟩ := p
    simp only
    have key : GoodD 1 (.str sym) ∧ GoodD 1 dat := by
      unfold charsErr at e
      split at e
      · rename_i s hs
        cases e
        refine ⟨?_, GoodD.list (k := 0) good_nil⟩
        unfold unitsErr at hs
        split at hs
        · cases hs; exact .strB (by decide +kernel)
        · split at hs
          · split at hs
            · cases hs; exact .strB (by decide +kernel)
            · cases hs
          · split at hs
            · cases hs; exact .strB (by decide +kernel)
            · cases hs
      · split at e
        · cases e
          exact ⟨.strB (by decide +kernel), GoodD.list (k := 0) (good_cons (.strB (by decide +kernel)) good_nil)⟩
        · cases e
    exact (GoodD.list (good_cons key.1 (good_cons key.2 good_nil))).le (by decide)
theorem good_others {b : Int} {i : Nat} {count tenths : Int} : GoodD 64 (.list (othersD b cs i count tenths)) := by
  refine (GoodD.list (k := 10) ?_).le (by decide)
  unfold othersD
  refine good_app (good_app (good_app (good_app (good_cons .int (good_cons ?_ good_nil)) (good_cons .int (good_cons .int (good_cons ?_ good_nil)))) (good_cons ?_ (good_cons ?_ good_nil))) (good_cons ?_ (good_cons ?_ good_nil))) (good_cons ?_ (good_cons good_charsOut good_nil))
  · refine .strB ?_
    unfold charsWord
    split
    · decide +kernel
    · split <;> decide +kernel
  · exact (GoodD.tuple (k := 0) (good_cons .int (good_cons .int good_nil))).le (by decide)
  · exact good_edits.le (by decide)
  · exact (good_edit (b := b) (e := (blanksBegin cs i, if tenths.fmod 2 == 0 then i else blanksEnd cs i))).le (by decide)
  · exact (GoodD.tuple (k := 2) (good_cons .int (good_cons .int (good_cons ((GoodD.list (good_rep .int)).le (by decide)) good_nil)))).le (by decide)
  · exact good_edits.le (by decide)
  · refine (GoodD.tuple (k := 3) (good_cons (GoodD.tuple (k := 2) (good_cons .int (good_cons .int (good_cons (GoodD.list (k := 1) ?_) good_nil)))) (good_cons .int good_nil))).le (by decide)
    unfold linesEdit
    dsimp only
    exact good_app (good_app good_codes (good_rep .int)) (good_app good_codes (good_rep .int))
theorem good_places {b : Int} {ps : List Nat} : GoodD 64 (.list (ps.map fun p : Nat => .int (b + p))) := (GoodD.list (k := 0) fun x hx => by
  obtain ⟨p, _, rfl⟩ := List.mem_map.mp hx
  exact .int).le (by decide)
end
theorem FrameAt.lift {S : Sg} {h₀ h : Heap} {env : Env} {m m' : Loc} (F : FrameAt S h₀ env m h) (hm : ∀ p ∈ m', ∃ pv, (p.1, pv) ∈ m ∧ ∀ v, Rep S h₀ h v pv → Rep S (hideAll h [env.locals]) h v p.2) : FrameAt S (hideAll h [env.locals]) env m' h := by
  obtain ⟨⟨mv, f, r⟩, o, u⟩ := F
  refine ⟨⟨mv, f, fun x pv hmm => ?_⟩, fun b o z => of_hideAll _ z, hideAll_none _ (.head _)⟩
  obtain ⟨pv0, a, b⟩ := hm (x, pv) hmm
  obtain ⟨v, hv, g⟩ := r x pv0 a
  exact ⟨v, hv, b v g⟩
theorem lift_flat {S : Sg} {h₀ h₁ h : Heap} {pv : PV} (f : match pv with | .d _ => True | .r _ => True | _ => False) : ∀ v, Rep S h₀ h v pv → Rep S h₁ h v pv := fun v r => by
  cases pv with
  | d x => exact r
  | r u => exact r
  | v b cs => exact f.elim
  | o P => exact f.elim
theorem hid_bwat {X : BX} {D : BS} {h : Heap} {L : Addr} (B : BWAt X D h) (hL : L ∉ X.all) : BWAt X D (hideAll h [L]) := B.on fun a ha ob z => hideAll_get _ z fun hm => hL (List.mem_singleton.mp hm ▸ ha)
structure DOk (X : BX) (D : BS) : Prop where
  gst : D.gst = X.cs.length
  take : D.cells.take X.cs.length = X.cs
  len : D.cells.length ≤ 1000
  size : (D.cells.length : Int) - D.gen + D.gst = X.cs.length
  le : X.cs.length ≤ D.cells.length
theorem putD_ok {X : BX} (hk : X.cs.length ≤ 16) : DOk X (putD X D0) := by
  unfold putD D0
  by_cases h : X.cs.length = 0
  · rw [if_pos h]
    have : X.cs = [] := List.length_eq_zero_iff.mp h
    exact ⟨by rw [h]; rfl, by rw [this]; rfl, by simp, by rw [h]; simp, by rw [h]; exact Nat.zero_le _⟩
  · rw [if_neg h]
    have w1 : 8 ≤ gapW X.cs.length ∧ gapW X.cs.length ≤ 24 ∧ X.cs.length ≤ gapW X.cs.length := by unfold gapW; split <;> omega
    exact ⟨rfl, by simp, by simp; omega, by simp; omega, by simp⟩
section
variable {S : Sg} {X : BX} {D : BS} {n : Nat} {sc : Scope} {m : Loc}
theorem st_last (H : KF S) (O : XOk S X) (K : DOk X D) (hk : X.cs.length ≤ 16) (hn : 3 ≤ n)
    (m1 : ((Str.ofString "own_buffer"), sB X D) ∈ m) (m2 : ((Str.ofString "signs"), PV.d (.list (X.cs.map .int))) ∈ m) : StT S n (stScope (topStmt 106)) m ((stBody (topStmt 106)).getD 10 (.Pass default)) (.ret (.bool true)) := by
  refine StT.ret (EvT.eqSame (d := .list (X.cs.map .int)) (EvT.castD (upMeth (pvs := [it 1, it ((X.cs.length : Int) + 1)]) (EvT.loc (by kernel_rfl) m1) O.buf.toPlainCls O.bufM.mCodes (bufLook fun f h => h.codes) (EvsT.cons EvT.int (EvsT.one (EvT.castI (EvT.add (upMeth (EvT.loc (by kernel_rfl) m1) O.buf.toPlainCls O.bufM.mSize (bufLook fun f h => h.size) .nil ((s_bsize H O K.len).up hn) (.inl ⟨rfl, rfl⟩)) EvT.int) (by rw [K.size])))) ((s_bcodes H O X.cs.length K.len K.gst K.le).up hn) (.inr ⟨_, _, rfl, fun _ => by with_unfolding_all rfl, fun _ _ => by with_unfolding_all rfl⟩)) (by rw [K.take])) (EvT.loc (by kernel_rfl) m2) (GoodD.ints.le (by decide)))
end
section
variable {S : Sg} {n : Nat} {sc : Scope} {m : Loc}
theorem EvT.sliceTo {value hi : PySem.Expr} {p pos : Pos} {xs : List PyData} {b : Nat} (hv : EvT S n sc m value (.d (.list xs))) (h2 : EvT S n sc m hi (it b)) (hl : xs.length ≤ 1000)
    (hs : ∀ o i, subscripted (.Slice Option.none (some hi) Option.none p) false o i = operate [i, o] (getItem o i) := by intro _ _; with_unfolding_all rfl) :
    EvT S n sc m (.Subscript value (.Slice Option.none (some hi) Option.none p) pos) (.d (.list (xs.take b))) := by
  intro A h₀ env s Q at_ F kk
  refine Subscript_ (hv A h₀ env s _ at_ F fun v s₁ e₁ r₁ => ?_)
  refine wpAny_Slice (wpAny_evalPart_none (wpAny_evalPart_some (h2 A h₀ env s₁ _ at_ (F.keeps e₁.keep) fun w s₃ e₃ r₃ => wpAny_evalPart_none ?_)))
  obtain ⟨l, vs, nn, rfl, ho, ra⟩ := rd_list (r₁.keeps e₃.keep)
  obtain ⟨t3, rfl⟩ := rd_int r₃
  have e0 : vs.size = xs.length := by rw [← ra.1, Array.length_toList]
  have ho' : (s₃.heap.push { cls := .type "slice", data := .fields #[.none, .int b t3, .none] }).get? l = _ := Heap.get?_push_of_some _ ho
  have hl₇ : (s₃.heap.push { cls := .type "slice", data := .fields #[.none, .int b t3, .none] }).IsList l vs := ⟨_, ho', rfl, _, rfl⟩
  refine kba_turn (value' := .Name "_" ⟨0, 0, 0, 0⟩) (fun _ => rfl) ?_
  refine subscriptTail_ops (T := "list") ⟨_, ho', rfl⟩ list_getitem_lookup (ops := [.ref s₃.heap.objs.size, .ref l]) (wpAny_getItem_list_slice hl₇ ⟨_, Heap.get?_push_size _ rfl, rfl, rfl⟩ .none (.int b t3) .none (by decide) ?_ (by rw [sizeLine_eq]; omega)) (hs _ _) (fun _ => rfl)
  rw [kms_pick_eq]
  have kp : ∀ (o₁ o₂ : Obj) b o, s₃.heap.get? b = some o → ((s₃.heap.push o₁).push o₂).get? b = some o := fun o₁ o₂ _ _ e => Heap.get?_push_of_some _ (Heap.get?_push_of_some _ e)
  refine kk _ _ ((e₁.trans e₃).trans ⟨fun b o z => kp _ _ b o z, rfl, rfl⟩) ?_
  have q : RdAll s₃.heap (kms_pick vs.toList Option.none (some (b : Int))) (xs.take b) := by
    unfold kms_pick
    rw [Array.length_toList, e0]
    simp only [kms_lo, kms_hi, List.drop_zero, Nat.sub_zero]
    rw [if_neg (by omega)]
    refine ⟨by simp [ra.1], fun i v x ev ex => ?_⟩
    rw [List.getElem?_take] at ev ex
    split at ev
    · split at ex
      · exact ra.2 i v x ev ex
      · cases ex
    · cases ev
  have q' := q.mono (seqKept_of (kp { cls := .type "slice", data := .fields #[.none, .int b t3, .none] } { cls := .type "list", data := .seq (kms_pick vs.toList Option.none (some (b : Int))).toArray }))
  exact .list (Heap.get?_push_size _ rfl) q'.1 q'.2
end
theorem lst_ne_deck {Dk l0 l : Addr} {ds cs : List Int} {k : Nat} {h : Heap} (d : DeckAt Dk l0 ds k h) (a : LstAt h l cs) : l ≠ Dk := fun q => by
  obtain ⟨t, n, e⟩ := d.deck
  obtain ⟨vs, n', e', i⟩ := a
  rw [q, e] at e'
  cases e'
  cases i
theorem RowIn.there {S : Sg} {h : Heap} {x dx l C : Addr} {b : Int} {cs : List Int} (r : RowIn S h x dx l C b cs) : (∃ o, h.get? x = some o) ∧ (∃ es n, h.get? dx = some (dictOf es n)) ∧ ∃ vs n, h.get? l = some (W.listOf vs n) := by
  obtain ⟨_, ⟨f, i, _⟩, vs, n, e, _⟩ := r
  have d := i.dict
  obtain ⟨_, _, _, I, _⟩ := i
  exact ⟨⟨_, I.at_⟩, d, vs, n, e⟩
structure TurnAt (S : Sg) (X : BX) (D : BS) (Dk l0 ml xa da la xf df lf Cr : Addr) (ds : List Int) (cs : List Int) (lo : Int) (k : Nat) (env : Env) (h : Heap) : Prop where
  deck : DeckAt Dk l0 ds k h
  buf : BWAt X D h
  alone : RowIn S h xa da la Cr lo cs
  first : RowIn S h xf df lf Cr 1 cs
  n1 : xa ≠ Dk ∧ da ≠ Dk ∧ xf ≠ Dk ∧ df ≠ Dk
  n2 : xa ∉ X.all ∧ da ∉ X.all ∧ xf ∉ X.all ∧ df ∉ X.all
  n3 : Dk ∉ X.all
theorem TurnAt.notL {S : Sg} {X : BX} {D : BS} {Dk l0 ml xa da la xf df lf Cr : Addr} {ds cs : List Int} {lo : Int} {k : Nat} {env : Env} {h : Heap} (t : TurnAt S X D Dk l0 ml xa da la xf df lf Cr ds cs lo k env h) : True := trivial
theorem TurnAt.dext {S : Sg} {X : BX} {D : BS} {Dk l0 ml xa da la xf df lf Cr : Addr} {ds cs : List Int} {lo : Int} {k k' : Nat} {env : Env} {s s' : Shared} (t : TurnAt S X D Dk l0 ml xa da la xf df lf Cr ds cs lo k env s.heap) (x : DExt Dk s s') (d : DeckAt Dk l0 ds k' s'.heap) : TurnAt S X D Dk l0 ml xa da la xf df lf Cr ds cs lo k' env s'.heap := by
  obtain ⟨d0, b, a, f, ⟨m1, m2, m3, m4⟩, n2, n3⟩ := t
  exact ⟨d, b.on fun a ha o z => x.keep a o (fun q => n3 (q ▸ ha)) z, a.on (fun o z => x.keep _ o m1 z) (fun o z => x.keep _ o m2 z) (fun o z => x.keep _ o (lst_ne_deck d0 a.lst) z), f.on (fun o z => x.keep _ o m3 z) (fun o z => x.keep _ o m4 z) (fun o z => x.keep _ o (lst_ne_deck d0 f.lst) z), ⟨m1, m2, m3, m4⟩, n2, n3⟩
theorem TurnAt.keep {S : Sg} {X : BX} {D : BS} {Dk l0 ml xa da la xf df lf Cr : Addr} {ds cs : List Int} {lo : Int} {k : Nat} {env : Env} {h h' : Heap} (t : TurnAt S X D Dk l0 ml xa da la xf df lf Cr ds cs lo k env h) (kp : ∀ b o, b ≠ env.locals → h.get? b = some o → h'.get? b = some o)
    (hL : env.locals ∉ [Dk, l0, xa, da, la, xf, df, lf]) (hX : env.locals ∉ X.all) : TurnAt S X D Dk l0 ml xa da la xf df lf Cr ds cs lo k env h' := by
  obtain ⟨d0, b, a, f, n1, n2, n3⟩ := t
  simp only [List.mem_cons, List.not_mem_nil, or_false, not_or] at hL
  obtain ⟨p1, p2, p3, p4, p5, p6, p7, p8⟩ := hL
  exact ⟨d0.on (fun o z => kp _ o (Ne.symm p1) z) fun o z => kp _ o (Ne.symm p2) z, b.on fun a ha o z => kp a o (fun q => hX (q ▸ ha)) z, a.on (fun o z => kp _ o (Ne.symm p3) z) (fun o z => kp _ o (Ne.symm p4) z) (fun o z => kp _ o (Ne.symm p5) z),
    f.on (fun o z => kp _ o (Ne.symm p6) z) (fun o z => kp _ o (Ne.symm p7) z) (fun o z => kp _ o (Ne.symm p8) z), n1, n2, n3⟩
theorem LstAt.same {h h' : Heap} {l l' : Addr} {cs cells : List Int} (a : LstAt h l cs) (b : LstAt h l' cells) (b' : LstAt h' l' cells) (k : l ≠ l' → ∀ o, h.get? l = some o → h'.get? l = some o) : LstAt h' l cs := by
  by_cases q : l = l'
  · subst q
    obtain ⟨vs, n, z, i⟩ := a
    obtain ⟨vs', n', z', i'⟩ := b
    rw [z] at z'
    cases z'
    rw [intsAre_eq i i']
    exact b'
  · exact a.on (k q)
theorem FrameAt.chgB {S : Sg} {X : BX} {D D' : BS} {env : Env} {m : Loc} {s s' : Shared} (F : FrameAt S S.base env m s.heap) (B : BWAt X D s.heap) (c : ChgB X none s s') (hL : env.locals ∉ X.all) (hb : ∀ a ∈ X.all, S.base.get? a = none) (fm : FlatM m) : FrameAt S S.base env m s'.heap := by
  obtain ⟨i1, i2, i3, i4, i5, i6, i7, i8, i9, i10⟩ := in_all (X := X)
  have kp : ∀ b o, b ∉ X.all → s.heap.get? b = some o → s'.heap.get? b = some o := fun b o n z => c.keep b o (fun q => nomatch q) (fun q => n (q ▸ i2)) (fun q => n (q ▸ i4)) (fun q => n (q ▸ i5)) z
  obtain ⟨⟨mv, f, r⟩, o, u⟩ := F
  refine ⟨⟨mv, ⟨?_, fun b o z => kp b o (fun hm => by rw [hb b hm] at z; cases z) (f.keep b o z), f.above⟩, fun x pv hm => ?_⟩, fun b o' z => kp b o' (fun hm => by rw [hb b hm] at z; cases z) (o b o' z), u⟩
  · obtain ⟨oL, es, ep, z, rest⟩ := f.ns
    exact ⟨oL, es, ep, kp _ _ hL z, rest⟩
  · obtain ⟨v, hh, g⟩ := r x pv hm
    refine ⟨v, ⟨hh.loc, fun q => let ⟨c', p, oc, c1, c2⟩ := hh.cell q; ⟨c', p, oc, ?_, c2⟩⟩, (fm _ hm).rep g⟩
    obtain ⟨n1, n2, n3⟩ := B.notCell c1 c2
    exact c.keep c' oc (fun q => nomatch q) n1 n2 n3 c1
theorem TurnAt.chgB {S : Sg} {X : BX} {D D' : BS} {Dk l0 ml xa da la xf df lf Cr : Addr} {ds cs : List Int} {lo : Int} {k : Nat} {env : Env} {s s' : Shared} (t : TurnAt S X D Dk l0 ml xa da la xf df lf Cr ds cs lo k env s.heap) (c : ChgB X none s s') (B' : BWAt X D' s'.heap) (hc : D'.cells = D.cells) : TurnAt S X D' Dk l0 ml xa da la xf df lf Cr ds cs lo k env s'.heap := by
  obtain ⟨i1, i2, i3, i4, i5, i6, i7, i8, i9, i10⟩ := in_all (X := X)
  have kp : ∀ b o, b ∉ X.all → s.heap.get? b = some o → s'.heap.get? b = some o := fun b o n z => c.keep b o (fun q => nomatch q) (fun q => n (q ▸ i2)) (fun q => n (q ▸ i4)) (fun q => n (q ▸ i5)) z
  obtain ⟨d0, b, a, f, n1, ⟨m1, m2, m3, m4⟩, n3⟩ := t
  have dDict : ∀ {l : Addr}, (∃ vs n, s.heap.get? l = some (W.listOf vs n)) → l ≠ X.dx ∧ l ≠ X.dg := fun ⟨vs, n, z⟩ => by
    obtain ⟨⟨_, ib, _⟩, ⟨_, ig, _⟩, _⟩ := b
    obtain ⟨es, n1, d1⟩ := ib.dict
    obtain ⟨es', n2, d2⟩ := ig.dict
    exact ⟨list_not_dict z d1, list_not_dict z d2⟩
  have ls : ∀ {l : Addr} {xs : List Int}, LstAt s.heap l xs → LstAt s'.heap l xs := fun {l xs} h => by
    have q : ∃ vs n, s.heap.get? l = some (W.listOf vs n) := by obtain ⟨vs, n, z, _⟩ := h; exact ⟨vs, n, z⟩
    obtain ⟨q1, q2⟩ := dDict q
    exact h.same b.cells (hc ▸ B'.cells) fun ne o z => c.keep l o (fun q => nomatch q) q1 q2 ne z
  obtain ⟨⟨t, n, e⟩, cd, ne⟩ := d0
  refine ⟨⟨⟨t, n, kp _ _ n3 e⟩, ls cd, ne⟩, B', ?_, ?_, n1, ⟨m1, m2, m3, m4⟩, n3⟩
  · obtain ⟨c1, ⟨f, i, rest⟩, la'⟩ := a
    exact ⟨c1, ⟨f, i.on (fun o z => kp _ o m1 z) (fun o z => kp _ o m2 z), rest⟩, ls la'⟩
  · obtain ⟨c1, ⟨f, i, rest⟩, la'⟩ := f
    exact ⟨c1, ⟨f, i.on (fun o z => kp _ o m3 z) (fun o z => kp _ o m4 z), rest⟩, ls la'⟩
section
variable {S : Sg} {n : Nat} {sc : Scope} {m m₁ m₂ : Loc}
theorem swap2_at {A : Around} {h₀ : Heap} {env : Env} {s : Shared} {Q : Flow → Shared → Prop} {x y : Str} {px py tp pos : Pos} {k' : Nat} {e : PySem.Expr} {a b : Int} (at_ : At S sc n A env)
    (h : wpAny (model S.prog S.w) A (eval e env) (fun v s₁ => FrameAt S h₀ env m s₁.heap ∧ Rd s₁.heap v (.tuple [.int a, .int b]) ∧ ∀ s', SExt env.locals s₁ s' → FrameAt S h₀ env m₂ s'.heap → Q .next s') NoE s) (t₂ : SetAt m y (it b) m₁) (t₁ : SetAt m₁ x (it a) m₂)
    (hx : sc.names.lookup x = some .local) (hy : sc.names.lookup y = some .local)
    (hs : ∀ env, swapsWithSole [.Tuple [.Name x px, .Name y py] k' tp] e pos.line env = pure false := by intro _; with_unfolding_all rfl)
    (hw : ∀ env : Env, env.scope = sc → swappedStores [.Tuple [.Name x px, .Name y py] k' tp] e env = pure (some [x, y]) := by intro env h; obtain ⟨a, b, c, d, e, f, g, h, i⟩ := env; dsimp only at h; subst h; with_unfolding_all rfl) :
    wpAny (model S.prog S.w) A (exec (.Assign [.Tuple [.Name x px, .Name y py] k' tp] e pos) env) Q NoE s := by
  refine Assign_Tuple_swapped (wpAny_mono h (fun v s₁ h₁ => ?_) fun _ _ x => x) (hs _) (hw _ at_.sc)
  obtain ⟨F, r₁, kk⟩ := h₁
  obtain ⟨t, vs, nn, rfl, ho, ra⟩ := rd_tuple r₁
  obtain ⟨u, us, e1, ru, rr⟩ := RdAll.uncons ra
  obtain ⟨w, ws, e2, rw_, rn⟩ := RdAll.uncons rr
  have e3 := RdAll.unnil rn
  subst e3
  subst e2
  have hsz : 2 = vs.size := by rw [← Array.length_toList, e1]; rfl
  show wpAny _ A (unpackItems (.ref t) 2 Option.none) _ _ _
  rw [hsz]
  refine unpackItems_tuple at_.room.2.2 ⟨_, ho, rfl, nn, rfl⟩ fun h' he => ?_
  have k₁ : ∀ b o, s₁.heap.get? b = some o → h'.get? b = some o := fun b o e => he b o (Nat.ne_of_lt (Heap.lt_size e)) e
  have F₁ := F.keeps k₁
  obtain ⟨t1, rfl⟩ := rd_int ru
  obtain ⟨t2, rfl⟩ := rd_int rw_
  rw [e1]
  refine assignInOrder_cons (bindName_ ?_)
  obtain ⟨mv, f₁, r₁⟩ := F₁.fr
  refine wpAny_storeName_local (at_.of hy) f₁.ns (fun h₂ hn₂ hs₂ => ?_) (at_.plain _ _)
  have F₂ := F₁.store (v := .int b t2) (pv := it b) (Rd.int _ _) (at_.of hy) f₁ r₁ hn₂ hs₂ t₂
  refine assignInOrder_cons (bindName_ ?_)
  obtain ⟨mv₂, f₂, r₂⟩ := F₂.fr
  refine wpAny_storeName_local (at_.of hx) f₂.ns (fun h₃ hn₃ hs₃ => ?_) (at_.plain _ _)
  have F₃ := F₂.store (v := .int a t1) (pv := it a) (Rd.int _ _) (at_.of hx) f₂ r₂ hn₃ hs₃ t₁
  exact assignInOrder_nil (kk _ ⟨fun b o nb e => (hs₃.2 b nb).trans ((hs₂.2 b nb).trans (k₁ b o e)), rfl, rfl⟩ F₃)
end
noncomputable def lawFor : Stmt := (stBody (topStmt 106)).getD 9 (.Pass default)
noncomputable abbrev lawM (Dk ml lc x xa xf : Addr) (lo hi : Int) : Loc := [("deck", .r (.ref Dk)), ("menu", .r (.ref ml)), ("signs", .r (.ref lc)), ("own_buffer", .r (.ref x)), ("low", it lo), ("high", it hi), ("alone", .r (.ref xa)), ("first", .r (.ref xf))]
noncomputable abbrev lawP (Dk ml lc x xa xf : Addr) (lo hi p c : Int) : Loc := [("deck", .r (.ref Dk)), ("menu", .r (.ref ml)), ("signs", .r (.ref lc)), ("own_buffer", .r (.ref x)), ("low", it lo), ("high", it hi), ("alone", .r (.ref xa)), ("first", .r (.ref xf)), ("count", it c), ("place", it p)]
noncomputable abbrev lawT (Dk ml lc x xa xf : Addr) (lo hi p c t : Int) : Loc := [("deck", .r (.ref Dk)), ("menu", .r (.ref ml)), ("signs", .r (.ref lc)), ("own_buffer", .r (.ref x)), ("low", it lo), ("high", it hi), ("alone", .r (.ref xa)), ("first", .r (.ref xf)), ("count", it c), ("place", it p), ("tenths", it t)]
theorem lawM_flat {Dk ml lc x xa xf : Addr} {lo hi : Int} : FlatM (lawM Dk ml lc x xa xf lo hi) := fun p hp => by
  simp only [List.mem_cons, List.not_mem_nil, or_false] at hp
  rcases hp with rfl | rfl | rfl | rfl | rfl | rfl | rfl | rfl <;> exact trivial
theorem lawP_flat {Dk ml lc x xa xf : Addr} {lo hi p c : Int} : FlatM (lawP Dk ml lc x xa xf lo hi p c) := fun p hp => by
  simp only [List.mem_cons, List.not_mem_nil, or_false] at hp
  rcases hp with rfl | rfl | rfl | rfl | rfl | rfl | rfl | rfl | rfl | rfl <;> exact trivial
theorem lawT_flat {Dk ml lc x xa xf : Addr} {lo hi p c t : Int} : FlatM (lawT Dk ml lc x xa xf lo hi p c t) := fun p hp => by
  simp only [List.mem_cons, List.not_mem_nil, or_false] at hp
  rcases hp with rfl | rfl | rfl | rfl | rfl | rfl | rfl | rfl | rfl | rfl | rfl <;> exact trivial
structure TExt (X : BX) (Dk L : Addr) (s s' : Shared) : Prop where
  keep : ∀ b o, b ≠ L → b ≠ Dk → b ∉ X.all → s.heap.get? b = some o → s'.heap.get? b = some o
  gens : s'.gens = s.gens
  os : s'.os = s.os
theorem TExt.trans {X : BX} {Dk L : Addr} {a b c : Shared} (x : TExt X Dk L a b) (y : TExt X Dk L b c) : TExt X Dk L a c := ⟨fun k o n1 n2 n3 z => y.keep k o n1 n2 n3 (x.keep k o n1 n2 n3 z), y.gens.trans x.gens, y.os.trans x.os⟩
theorem SExt.text {X : BX} {Dk L : Addr} {s s' : Shared} (x : SExt L s s') : TExt X Dk L s s' := ⟨fun b o n _ _ z => x.keep b o n z, x.gens, x.os⟩
theorem Ext.text {X : BX} {Dk L : Addr} {s s' : Shared} (x : Ext s s') : TExt X Dk L s s' := ⟨fun b o _ _ _ z => x.keep b o z, x.gens, x.os⟩
theorem DExt.text {X : BX} {Dk L : Addr} {s s' : Shared} (x : DExt Dk s s') : TExt X Dk L s s' := ⟨fun b o _ n _ z => x.keep b o n z, x.gens, x.os⟩
theorem ChgB.text {X : BX} {Dk L : Addr} {s s' : Shared} (c : ChgB X none s s') : TExt X Dk L s s' := ⟨fun b o _ _ n z => c.keep b o (fun q => nomatch q) (fun q => n (q ▸ in_all.2.1)) (fun q => n (q ▸ in_all.2.2.2.1)) (fun q => n (q ▸ in_all.2.2.2.2.1)) z, c.gens, c.os⟩
section
variable {S : Sg} {X : BX} {D : BS} {Dk l0 ml xa da la xf df lf Cr : Addr} {ds cs : List Int} {lo : Int} {k n : Nat} {A : Around} {env : Env} {s : Shared}
theorem turn_a (H : KF S) (O : XOk S X) {Q : Flow → Shared → Prop} {rest : List Stmt} (hn : 12 ≤ n) (at_ : At S (stScope (topStmt 106)) n A env) (F : FrameAt S S.base env (lawM Dk ml X.lc X.x xa xf lo (lo + cs.length)) s.heap) (T : TurnAt S X D Dk l0 ml xa da la xf df lf Cr ds cs lo k env s.heap)
    (hk : k < 800) (hd : ds.length ≤ 100) (hb : S.base.get? Dk = none) (hL : env.locals ∉ [Dk, l0, xa, da, la, xf, df, lf]) (hX : env.locals ∉ X.all) (e1 : D.begv = lo) (e2 : D.zv = lo + cs.length)
    (kk : ∀ (i : Nat) (c t : Int) s', i ≤ cs.length → -3 ≤ c → c ≤ 3 → 0 ≤ t → t ≤ 10 → TExt X Dk env.locals s s' → FrameAt S S.base env (lawT Dk ml X.lc X.x xa xf lo (lo + cs.length) (lo + i) c t) s'.heap → TurnAt S X { D with point := lo + i } Dk l0 ml xa da la xf df lf Cr ds cs lo (k + 3) env s'.heap → wpAny (model S.prog S.w) A (execs rest env) Q NoE s') :
    wpAny (model S.prog S.w) A (execs ((forBody lawFor).take 3 ++ rest) env) Q NoE s := by
  have r0 := drawV_range ds k (many := (cs.length : Int) + 1) (by omega)
  have r1 := drawV_range ds (k + 1) (many := 7) (by decide)
  have r2 := drawV_range ds (k + 1 + 1) (many := 11) (by decide)
  obtain ⟨i, hi⟩ : ∃ i : Nat, drawV ds k ((cs.length : Int) + 1) = i := ⟨(drawV ds k ((cs.length : Int) + 1)).toNat, by omega⟩
  have fm := lawM_flat (Dk := Dk) (ml := ml) (lc := X.lc) (x := X.x) (xa := xa) (xf := xf) (lo := lo) (hi := lo + cs.length)
  refine wpAny_execs_cons (swap2_at (h₀ := S.base) (a := lo + i) (b := drawV ds (k + 1) 7 - 3) (m₁ := [("deck", .r (.ref Dk)), ("menu", .r (.ref ml)), ("signs", .r (.ref X.lc)), ("own_buffer", .r (.ref X.x)), ("low", it lo), ("high", it (lo + cs.length)), ("alone", .r (.ref xa)), ("first", .r (.ref xf)), ("count", it (drawV ds (k + 1) 7 - 3))]) (m₂ := lawP Dk ml X.lc X.x xa xf lo (lo + cs.length) (lo + i) (drawV ds (k + 1) 7 - 3)) at_ ?_ (by kaf_suf) (by kaf_suf) (by kernel_rfl) (by kernel_rfl))
  refine Tuple_ (spliced_more (wpAny_BinOp ((?L : EvT S n (stScope (topStmt 106)) (lawM Dk ml X.lc X.x xa xf lo (lo + cs.length)) _ (it lo)) A S.base env s _ at_ F fun vl s₁ e₁ q₁ => ?_)) (by with_unfolding_all rfl))
  case L => exact EvT.cel (by kernel_rfl) (by kaf_pre) (by kernel_rfl)
  obtain ⟨t1, rfl⟩ := rd_int q₁
  have F₁ := F.keeps e₁.keep
  have T₁ := T.dext e₁.dext (T.deck.on (fun o z => e₁.keep _ o z) fun o z => e₁.keep _ o z)
  refine ev_draw H (many := (cs.length : Int) + 1) (by omega) (by omega) hd (Nat.le_trans (by decide) hn) at_ F₁ fm hb hb T₁.deck (by kernel_rfl) (EvT.cel (by kernel_rfl) (by kaf_pre) (by kernel_rfl)) (fun s₂ e₂ => EvT.at (?A : EvT S n (stScope (topStmt 106)) (lawM Dk ml X.lc X.x xa xf lo (lo + cs.length)) _ (it ((cs.length : Int) + 1))) at_ (F₁.keeps e₂.keep)) fun v s₂ x₂ F₂ d₂ q₂ => ?_
  case A => exact EvT.castI (EvT.add (EvT.sub (EvT.cel (by kernel_rfl) (by kaf_pre) (by kernel_rfl)) (EvT.cel (by kernel_rfl) (by kaf_pre) (by kernel_rfl))) EvT.int) (by omega)
  rw [hi] at q₂
  obtain ⟨t2, rfl⟩ := rd_int q₂
  have T₂ := T₁.dext x₂ d₂
  refine PyProof.Rows.add_int ?_
  have e₂' := Ext.toks s₂ (s₂.toks + 1)
  refine spliced_more (wpAny_BinOp (ev_draw H (s := { s₂ with toks := s₂.toks + 1 }) (many := 7) (by decide) (by omega) hd (Nat.le_trans (by decide) hn) at_ F₂ fm hb hb T₂.deck (by kernel_rfl) (EvT.cel (by kernel_rfl) (by kaf_pre) (by kernel_rfl)) (fun s₃ e₃ => EvT.at (m := lawM Dk ml X.lc X.x xa xf lo (lo + cs.length)) EvT.int at_ (F₂.keeps e₃.keep)) fun w s₃ x₃ F₃ d₃ q₃ => ?_)) (by with_unfolding_all rfl)
  obtain ⟨t3, rfl⟩ := rd_int q₃
  have T₃ := T₂.dext (s := { s₂ with toks := s₂.toks + 1 }) x₃ d₃
  refine wpAny_Constant_int (PyProof.Rows.sub_int (spliced_none (newSeq (by simp) ⟨F₃.keeps fun b o z => Heap.get?_push_of_some _ z, ?_, fun s₄ x₄ F₄ => ?_⟩)))
  · have q := RdAll.cons (Rd.int (h := s₃.heap.push { cls := .type "tuple", dict := Option.none, data := .seq [Value.int (lo + i) s₂.toks, Value.int (drawV ds (k + 1) 7 - 3) (s₃.toks + 1)].toArray }) (lo + i) s₂.toks) (RdAll.cons (Rd.int (drawV ds (k + 1) 7 - 3) (s₃.toks + 1)) .nil)
    exact .tuple (Heap.get?_push_size _ rfl) q.1 q.2
  have T₄ := (T₃.keep (h' := (s₃.heap.push { cls := .type "tuple", dict := Option.none, data := .seq [Value.int (lo + i) s₂.toks, Value.int (drawV ds (k + 1) 7 - 3) (s₃.toks + 1)].toArray })) (fun b o _ z => Heap.get?_push_of_some _ z) hL hX).keep x₄.keep hL hX
  have fp := lawP_flat (Dk := Dk) (ml := ml) (lc := X.lc) (x := X.x) (xa := xa) (xf := xf) (lo := lo) (hi := lo + cs.length) (p := lo + i) (c := drawV ds (k + 1) 7 - 3)
  have x04 : TExt X Dk env.locals s s₄ := (((e₁.text.trans x₂.text).trans e₂'.text).trans x₃.text).trans ((Ext.text (s := s₃) (s' := { s₃ with heap := s₃.heap.push { cls := .type "tuple", dict := Option.none, data := .seq [Value.int (lo + i) s₂.toks, Value.int (drawV ds (k + 1) 7 - 3) (s₃.toks + 1)].toArray } }) ⟨fun b o z => Heap.get?_push_of_some _ z, rfl, rfl⟩).trans ⟨fun b o n _ _ z => x₄.keep b o n z, x₄.gens, x₄.os⟩)
  refine wpAny_execs_cons (wpAny_Assign_Name (ev_draw H (many := 11) (by decide) (by omega) hd (Nat.le_trans (by decide) hn) at_ F₄ fp hb hb T₄.deck (by kernel_rfl) (EvT.cel (by kernel_rfl) (by kaf_pre) (by kernel_rfl)) (fun s₅ e₅ => EvT.at (m := lawP Dk ml X.lc X.x xa xf lo (lo + cs.length) (lo + i) (drawV ds (k + 1) 7 - 3)) EvT.int at_ (F₄.keeps e₅.keep)) fun v s₅ x₅ F₅ d₅ q₅ => ?_) (by with_unfolding_all rfl))
  have T₅ := T₄.dext x₅ d₅
  obtain ⟨mv, f₅, r₅⟩ := F₅.fr
  refine wpAny_storeName_local (at_.of (by kernel_rfl)) f₅.ns (fun h' hn₆ hs₆ => ?_) (at_.plain _ _)
  have r5 := drawV_range ds (k + 1 + 1) (many := 11) (by decide)
  have F₆ := F₅.store (v := v) (pv := it (drawV ds (k + 1 + 1) 11)) q₅ (at_.of (by kernel_rfl)) f₅ r₅ hn₆ hs₆ (m' := lawT Dk ml X.lc X.x xa xf lo (lo + cs.length) (lo + i) (drawV ds (k + 1) 7 - 3) (drawV ds (k + 1 + 1) 11)) (by kaf_suf)
  have T₆ := T₅.keep (h' := h') (fun b o n z => (hs₆.2 b n).trans z) hL hX
  have x46 : TExt X Dk env.locals s₄ { s₅ with heap := h', toks := s₅.toks + 1 } := x₅.text.trans ⟨fun b o n _ _ z => (hs₆.2 b n).trans z, rfl, rfl⟩
  refine wpAny_execs_cons (wpAny_Expr_any (MethodCall_ (EvT.loc (m := lawT Dk ml X.lc X.x xa xf lo (lo + cs.length) (lo + i) (drawV ds (k + 1) 7 - 3) (drawV ds (k + 1 + 1) 11)) (by kernel_rfl) (by kaf_pre) (by decide +kernel) A _ env _ _ at_ F₆ fun u s₇ e₇ r₇ => ?_) (by with_unfolding_all rfl)) (by unfold interactive; rw [at_.fn]; rfl) (by with_unfolding_all rfl))
  have : u = .ref X.x := r₇
  subst this
  have F₇ := F₆.keeps e₇.keep
  have B₇ := T₆.buf.keeps e₇.keep
  obtain ⟨f, k', I, hno⟩ := bufLook (X := X) (D := D) (name := Str.ofString "goto") (fun f h => h.goto) _ B₇
  obtain ⟨ox, es, nn, I', dd, DF⟩ := I
  obtain ⟨g, hf, fn⟩ := O.bufM.mGoto.at_
  obtain ⟨⟨mv', f', _⟩, _⟩ := id F₇
  refine method_inst f' at_.ok.k I' (O.buf.toPlainCls.get _) hf fn.fn (by rw [DF.get, hno]) ?_
  refine callWith_K (K := S.K) at_.ok.k fn.keep (spliced_more (EvT.loc (m := lawT Dk ml X.lc X.x xa xf lo (lo + cs.length) (lo + i) (drawV ds (k + 1) 7 - 3) (drawV ds (k + 1 + 1) 11)) (by kernel_rfl) (by kaf_pre) (by decide +kernel) A _ env _ _ at_ F₇ fun w s₈ e₈ r₈ => spliced_none ?_) (by with_unfolding_all rfl)) (by with_unfolding_all rfl) (by with_unfolding_all rfl)
  have F₈ := F₇.keeps e₈.keep
  have T₈ := (T₆.dext (e₇.dext (Dk := Dk)) (T₆.deck.on (fun o z => e₇.keep _ o z) fun o z => e₇.keep _ o z)).dext (e₈.dext (Dk := Dk)) (T₆.deck.on (fun o z => e₈.keep _ o (e₇.keep _ o z)) fun o z => e₈.keep _ o (e₇.keep _ o z))
  refine ⟨(F₈.on at_.ok).x, wpAny_call (s_goto H O (lo + i) (by omega) (by omega) A s₈ g _ _ (at_.room.le (Nat.le_trans (by decide) hn)) (F₈.on at_.ok) fn (by rfl) (fun j v pv ev ep => ?_) T₈.buf fun v s₉ c₉ _ b₉ => ?_)⟩
  · rcases j with _ | _ | j
    · simp at ev ep; subst ev; subst ep; rfl
    · simp at ev ep; subst ev; subst ep; exact r₈
    · simp at ev
  have T₉ := T₈.chgB c₉ b₉ rfl
  have F₉ := F₈.chgB (D' := { D with point := lo + i }) T₈.buf c₉ hX O.base (lawT_flat (Dk := Dk) (ml := ml) (lc := X.lc) (x := X.x) (xa := xa) (xf := xf))
  exact kk i _ _ s₉ (by omega) (by omega) (by omega) (by omega) (by omega) (((x04.trans x46).trans (e₇.text.trans e₈.text)).trans c₉.text) F₉ T₉
end
theorem compOut_none {g : Nat → PyData} (k : Nat) : compOut (fun _ => false) g k = [] := by
  unfold compOut
  simp
theorem compOut_map {α : Type} [Inhabited α] (xs : List α) (f : α → PyData) : compOut (fun _ => true) (fun i => f (xs.getD i default)) xs.length = xs.map f := by
  unfold compOut
  simp only [if_true]
  apply List.ext_getElem?
  intro i
  rw [List.filterMap_eq_map']
  simp only [List.getElem?_map, List.getElem?_range']
  by_cases h : i < xs.length
  · rw [List.getElem?_range h, List.getElem?_eq_getElem h]
    simp [h]
  · rw [List.getElem?_eq_none (by simpa using h), List.getElem?_eq_none (by omega)]
    rfl
noncomputable abbrev dueD (lo : Int) (cs : List Int) (i : Nat) (c t : Int) : PyData := .list ((placesR cs i c t).map fun p : Nat => .int (lo + p))
noncomputable abbrev V1 (X : BX) (D : BS) (Dk ml xa xf : Addr) (lo : Int) (cs : List Int) (i : Nat) (c t : Int) : Loc := [("own_buffer", .v lo cs), ("own_buffer", sB X D), ("alone", .v lo cs), ("first", .v 1 cs), ("low", it lo), ("high", it (lo + cs.length)), ("place", it (lo + i)), ("count", it c), ("tenths", it t), ("deck", .r (.ref Dk)), ("menu", .r (.ref ml)), ("signs", .r (.ref X.lc)), ("own_buffer", .r (.ref X.x)), ("alone", .r (.ref xa)), ("first", .r (.ref xf))]
noncomputable abbrev V2 (X : BX) (D : BS) (Dk ml xa xf : Addr) (lo : Int) (cs : List Int) (i : Nat) (c t : Int) : Loc := [("own_buffer", .v lo cs), ("own_buffer", sB X D), ("alone", .v lo cs), ("first", .v 1 cs), ("low", it lo), ("high", it (lo + cs.length)), ("place", it (lo + i)), ("count", it c), ("tenths", it t), ("deck", .r (.ref Dk)), ("menu", .r (.ref ml)), ("signs", .r (.ref X.lc)), ("own_buffer", .r (.ref X.x)), ("alone", .r (.ref xa)), ("first", .r (.ref xf)), ("due", .d (dueD lo cs i c t))]
section
variable {S : Sg} {X : BX} {D : BS} {Dk ml xa xf : Addr} {cs : List Int} {lo : Int} {n i : Nat} {c t : Int}
theorem b3_ok (H : KF S) (hn : 12 ≤ n) (hb : 1 ≤ lo) (hh : lo + cs.length ≤ 1000) (hi : i ≤ cs.length) (c0 : -3 ≤ c) (c1 : c ≤ 3) (t0 : 0 ≤ t) (t1 : t ≤ 10) :
    StT S n (stScope (topStmt 106)) (V1 X D Dk ml xa xf lo cs i c t) ((forBody lawFor).getD 3 (.Pass default)) (.next (V2 X D Dk ml xa xf lo cs i c t)) :=
  StT.assign (EvT.call4 H.f_law_places (by kwd_rel) (by kwd_rel) (by kwd_rel) (by kwd_rel) ((s_law_places H hb hh i hi c t c0 c1 t0 t1).up (by omega)) (by kernel_rfl)) (by kaf_suf) (by kernel_rfl)
theorem b4_ok (H : KF S) (hn : 12 ≤ n) (hb : 1 ≤ lo) (hh : lo + cs.length ≤ 1000) (hi : i ≤ cs.length) (c0 : -3 ≤ c) (c1 : c ≤ 3) (t0 : 0 ≤ t) (t1 : t ≤ 10) :
    StT S n (stScope (topStmt 106)) (V2 X D Dk ml xa xf lo cs i c t) ((forBody lawFor).getD 4 (.Pass default)) (.next (V2 X D Dk ml xa xf lo cs i c t)) :=
  StT.ite (TrT.neSame (EvT.call4 H.f_law_places (by kwd_rel) (by kwd_rel) (by kwd_rel) (by kwd_rel) ((s_law_places H hb hh i hi c t c0 c1 t0 t1).up (by omega)) (by kernel_rfl)) (by kwd_rel) good_places) ExT.nil
theorem b6_ok (H : KF S) (hn : 12 ≤ n) (hb : 1 ≤ lo) (hh : lo + cs.length ≤ 1000) (hi : i ≤ cs.length) (c0 : -3 ≤ c) (c1 : c ≤ 3) (t0 : 0 ≤ t) (t1 : t ≤ 10) :
    StT S n (stScope (topStmt 106)) (V2 X D Dk ml xa xf lo cs i c t) ((forBody lawFor).getD 6 (.Pass default)) (.next (V2 X D Dk ml xa xf lo cs i c t)) := by
  refine StT.ite (TrT.neSame (d := dueD 1 cs i c t) (EvT.call4 (p := .v 1 cs) (q := it (1 + i)) H.f_law_places (by kwd_rel) (EvT.castI (EvT.add (EvT.sub (by kwd_rel) (EvT.cel (by kernel_rfl) (by kaf_pre) (by kernel_rfl))) EvT.int) (by omega)) (by kwd_rel) (by kwd_rel) ((s_law_places H (by decide) (by omega) i hi c t c0 c1 t0 t1).up (by omega)) (by kernel_rfl)) ?_ good_places) ExT.nil
  refine EvT.castD (EvT.comp (mf := [("low", it lo)]) (items := (placesR cs i c t).map fun p : Nat => .int (lo + p)) (p := fun _ => true) (g := fun j => .int (1 + ((placesR cs i c t).getD j default : Nat))) (SrcT.list (by kwd_rel)) (by simp [placesR]) (by kernel_rfl) (by kernel_rfl) (by decide +kernel) (by decide +kernel) (fun y hy => ?_) (fun y pv hm => ?_) (fun j d hd => rfl) (.inl fun j d hd _ => ⟨?_, rfl⟩)) ?_
  · have : y = "low" := by
      rcases List.mem_cons.mp hy with q | hy
      · cases q
      · rcases List.mem_cons.mp hy with q | hy
        · cases q
        · rcases List.mem_cons.mp hy with q | hy
          · exact (Prod.mk.inj q).1
          · exact nomatch hy
    subst this
    exact ⟨by kernel_rfl, it lo, by kaf_pre⟩
  · rcases List.mem_cons.mp hm with q | hm
    · obtain ⟨rfl, rfl⟩ := Prod.mk.inj q
      exact ⟨by kaf_pre, .tail _ (.tail _ (.head _)), by kernel_rfl⟩
    · exact nomatch hm
  · rw [List.getElem?_map] at hd
    obtain ⟨u, hu, rfl⟩ := Option.map_eq_some_iff.mp hd
    refine EvT.castI (EvT.add (EvT.sub (EvT.loc (by kernel_rfl) (by kaf_pre) (by kernel_rfl)) (EvT.cel (by kernel_rfl) (by kaf_pre) (by kernel_rfl))) EvT.int) ?_
    rw [List.getD_eq_getElem?_getD, hu]
    simp only [Option.getD_some]
    omega
  · rw [List.length_map, compOut_map (placesR cs i c t) fun p : Nat => .int (1 + p)]
end
section
variable {S : Sg} {X : BX} {D : BS} {Dk ml xa xf : Addr} {cs : List Int} {lo : Int} {n i : Nat} {c t : Int}
theorem b5_ok (H : KF S) (hn : 12 ≤ n) (hb : 1 ≤ lo) (hh : lo + cs.length ≤ 1000) (hi : i ≤ cs.length) :
    StT S n (stScope (topStmt 106)) (V2 X D Dk ml xa xf lo cs i c t) ((forBody lawFor).getD 5 (.Pass default)) (.next (V2 X D Dk ml xa xf lo cs i c t)) := by
  refine StT.ite (TrT.neSame (d := .list []) ?_ EvT.lst0 ((GoodD.list (k := 0) (xs := []) good_nil).le (by decide))) ExT.nil
  refine EvT.castD (EvT.comp (mf := [("low", it lo), ("high", it (lo + cs.length))]) (items := (placesR cs i c t).map fun p : Nat => .int (lo + p)) (p := fun _ => false) (g := fun j => .none) (SrcT.list (by kwd_rel)) (by simp [placesR]) (by kernel_rfl) (by kernel_rfl) (by decide +kernel) (by decide +kernel) (fun y hy => ?_) (fun y pv hm => ?_) (fun j d hd => ?_) (.inl fun j d hd h => absurd h Bool.false_ne_true)) (by rw [compOut_none])
  · rcases List.mem_cons.mp hy with q | hy
    · cases q
    · rcases List.mem_cons.mp hy with q | hy
      · cases q
      · rcases List.mem_cons.mp hy with q | hy
        · have := (Prod.mk.inj q).1
          subst this
          exact ⟨by kernel_rfl, _, by kaf_pre⟩
        · rcases List.mem_cons.mp hy with q | hy
          · have := (Prod.mk.inj q).1
            subst this
            exact ⟨by kernel_rfl, _, by kaf_pre⟩
          · exact nomatch hy
  · rcases List.mem_cons.mp hm with q | hm
    · obtain ⟨rfl, rfl⟩ := Prod.mk.inj q
      exact ⟨by kaf_pre, by kaf_pre, by kernel_rfl⟩
    · rcases List.mem_cons.mp hm with q | hm
      · obtain ⟨rfl, rfl⟩ := Prod.mk.inj q
        exact ⟨by kaf_pre, by kaf_pre, by kernel_rfl⟩
      · exact nomatch hm
  · rw [List.getElem?_map] at hd
    obtain ⟨u, hu, rfl⟩ := Option.map_eq_some_iff.mp hd
    have hu' : u ≤ cs.length := places_le i hi c t u (List.mem_of_getElem? hu)
    exact TrT.not (b := true) (TrT.chain (EvT.cel (by kernel_rfl) (by kaf_pre) (by kernel_rfl)) (EvT.loc (by kernel_rfl) (by kaf_pre) (by kernel_rfl)) (EvT.cel (by kernel_rfl) (by kaf_pre) (by kernel_rfl)) (by simp only [Mine.icmp, Bool.and_eq_true, decide_eq_true_eq]; omega))
theorem b8_ok (H : KF S) (O : XOk S X) (hn : 12 ≤ n) (e1 : D.begv = lo) (e2 : D.zv = lo + cs.length) (e3 : D.point = lo + i) :
    StT S n (stScope (topStmt 106)) (V2 X D Dk ml xa xf lo cs i c t) ((forBody lawFor).getD 8 (.Pass default)) (.next (V2 X D Dk ml xa xf lo cs i c t)) := by
  obtain ⟨k, rfl⟩ : ∃ k, n = k + 1 := ⟨n - 1, by omega⟩
  refine StT.ite (TrT.neSame (d := .tuple [.int (lo + i), .int lo, .int (lo + cs.length)]) (EvT.tup3 (EvT.castI (bInt (D := D) O (by kaf_pre) (by kernel_rfl) (fun f h => h.point) (by decide +kernel)) e3) ?_ ?_) (EvT.tup3 (by kwd_rel) (EvT.cel (by kernel_rfl) (by kaf_pre) (by kernel_rfl)) (EvT.cel (by kernel_rfl) (by kaf_pre) (by kernel_rfl))) ((GoodD.tuple (k := 0) (good_cons .int (good_cons .int (good_cons .int good_nil)))).le (by decide))) ExT.nil
  · exact EvT.vbegin (b := lo) (cs := cs) (by kwd_rel)
  · exact EvT.vend (b := lo) (cs := cs) H.b_len (by kwd_rel)
end
section
variable {S : Sg} {X : BX} {D : BS} {Dk ml xa xf : Addr} {cs : List Int} {lo : Int} {n i : Nat} {c t : Int} {C : Addr}
theorem oth_arg (H : KF S) (hLs : LispK S C) (hn : 12 ≤ n) (hb : 1 ≤ lo) (hh : lo + cs.length ≤ 1000) (hi : i ≤ cs.length) (c0 : -3 ≤ c) (c1 : c ≤ 3) (t0 : 0 ≤ t) (t1 : t ≤ 10) {y : Str} {xp pos p1 p2 p3 p4 : Pos}
    (hy : (y, PV.v lo cs) ∈ V2 X D Dk ml xa xf lo cs i c t) (hl : (stScope (topStmt 106)).names.lookup y = some .local) (hd : (y == ("__debug__" : Str)) = false) :
    EvW S n (stScope (topStmt 106)) (V2 X D Dk ml xa xf lo cs i c t) (.Call (.Name "_law_others" xp) [.Name y p1, .Name "place" p2, .Name "count" p3, .Name "tenths" p4] [] pos) (.d (.list (othersD lo cs i c t))) :=
  EvW.callG H.f_law_others (EvsT.cons (EvT.loc hl hy hd) (EvsT.cons (by kwd_rel) (EvsT.cons (by kwd_rel) (EvsT.one (by kwd_rel))))) ((s_law_others H hLs hb hh i hi c t c0 c1 t0 t1).up (by omega)) (by kernel_rfl) ⟨_, _, rfl, fun _ => by with_unfolding_all rfl, fun _ _ => by with_unfolding_all rfl⟩
theorem b7_wp (H : KF S) (hLs : LispK S C) (hn : 12 ≤ n) (hb : 1 ≤ lo) (hh : lo + cs.length ≤ 1000) (hi : i ≤ cs.length) (c0 : -3 ≤ c) (c1 : c ≤ 3) (t0 : 0 ≤ t) (t1 : t ≤ 10)
    {A : Around} {env : Env} {outer : List Env} {h₀ : Heap} {s : Shared} {Q : Flow → Shared → Prop} (at_ : At S (stScope (topStmt 106)) n A env) (F : FrameAt S h₀ env (V2 X D Dk ml xa xf lo cs i c t) s.heap) (K : StkW S A env outer h₀ s.heap)
    (kk : ∀ s', WExt (frs (env :: outer)) s s' → FrameAt S h₀ env (V2 X D Dk ml xa xf lo cs i c t) s'.heap → StkW S A env outer h₀ s'.heap → Q .next s') :
    wpAny (model S.prog S.w) A (exec ((forBody lawFor).getD 7 (.Pass default)) env) Q NoE s := by
  refine wpAny_If (wpAny_isTrue_Compare1 (oth_arg H hLs hn hb hh hi c0 c1 t0 t1 (by kaf_pre) (by kernel_rfl) (by kernel_rfl) A h₀ env outer s _ at_ F K fun v s₁ e₁ r₁ => ?_) (by with_unfolding_all rfl))
  have F₁ := F.wext K e₁
  have K₁ := K.wext e₁
  refine oth_arg H hLs hn hb hh hi c0 c1 t0 t1 (by kaf_pre) (by kernel_rfl) (by kernel_rfl) A h₀ env outer s₁ _ at_ F₁ K₁ fun u s₂ e₂ r₂ => ?_
  refine ne_same at_.room (Rd.mono (e₂.seq K₁.stk) r₁) r₂ good_others (wpAny_truthy_bool ?_)
  exact wpAny_execs_nil (kk s₂ (e₁.trans e₂) (F₁.wext K₁ e₂) (K₁.wext e₂))
end
theorem FrameAt.lower {S : Sg} {h₀ h : Heap} {env : Env} {m m' : Loc} (F : FrameAt S h₀ env m h) (hm : ∀ p ∈ m', p ∈ m ∧ (match p.2 with | .d _ => True | .r _ => True | _ => False)) : FrameAt S S.base env m' h := by
  obtain ⟨⟨mv, f, r⟩, o, u⟩ := F
  refine ⟨⟨mv, f, fun x pv hmm => ?_⟩, f.keep, ?_⟩
  · obtain ⟨a, b⟩ := hm _ hmm
    obtain ⟨v, hv, g⟩ := r x pv a
    exact ⟨v, hv, lift_flat b v g⟩
  · cases z : S.base.get? env.locals with
    | none => rfl
    | some o => exact absurd (Heap.lt_size z) (Nat.not_lt.mpr f.above)
structure VwD (D : BS) (lo : Int) (cs : List Int) : Prop where
  begv : D.begv = lo
  zv : D.zv = lo + cs.length
  low : 1 ≤ lo
  high : lo + cs.length ≤ 1000
  gst : lo - 1 + cs.length ≤ D.gst
  gle : D.gst ≤ D.cells.length
  cells : ∀ i : Nat, i < cs.length → D.cells[(lo - 1 + i).toNat]? = cs[i]?
theorem VwD.view {S : Sg} {X : BX} {D : BS} {h : Heap} {lo : Int} {cs : List Int} (V : VwD D lo cs) (O : XOk S X) (B : BWAt X D h) : ViewAt S h (.ref X.x) lo cs := by
  obtain ⟨rfl, a, b, c, d, e, f⟩ := V
  exact bwat_view O B a b d e f c
section
variable {S : Sg} {X : BX} {D : BS} {Dk l0 ml xa da la xf df lf Cr C : Addr} {ds cs : List Int} {lo : Int} {k n i : Nat} {c t : Int} {A : Around} {env : Env} {s : Shared}
theorem WExt.text {l : List Env} {s s' : Shared} (e : WExt (frs (env :: l)) s s') (hf : env.frame = some env.locals) (hl : l = []) : TExt X Dk env.locals s s' := ⟨fun b o n _ _ z => e.keep b o (fun hm => by
  subst hl
  rcases (frs_cons hf).mp hm with q | q
  · exact n q
  · exact nomatch q) z, e.gens, e.os⟩
theorem turn_b (H : KF S) (O : XOk S X) (hLs : LispK S C) {Q : Flow → Shared → Prop} {rest : List Stmt} (hn : 12 ≤ n) (at_ : At S (stScope (topStmt 106)) n A env) (F : FrameAt S S.base env (lawT Dk ml X.lc X.x xa xf lo (lo + cs.length) (lo + i) c t) s.heap) (T : TurnAt S X D Dk l0 ml xa da la xf df lf Cr ds cs lo k env s.heap)
    (V : VwD D lo cs) (e3 : D.point = lo + i) (hi : i ≤ cs.length) (c0 : -3 ≤ c) (c1 : c ≤ 3) (t0 : 0 ≤ t) (t1 : t ≤ 10) (hfr : A.frames = some [env]) (hef : env.frame = some env.locals) (hL : env.locals ∉ [Dk, l0, xa, da, la, xf, df, lf]) (hX : env.locals ∉ X.all)
    (kk : ∀ s', TExt X Dk env.locals s s' → FrameAt S S.base env (lawM Dk ml X.lc X.x xa xf lo (lo + cs.length)) s'.heap → TurnAt S X D Dk l0 ml xa da la xf df lf Cr ds cs lo k env s'.heap → wpAny (model S.prog S.w) A (execs rest env) Q NoE s') :
    wpAny (model S.prog S.w) A (execs ((forBody lawFor).drop 3 ++ rest) env) Q NoE s := by
  have hL' := hL
  simp only [List.mem_cons, List.not_mem_nil, or_false, not_or] at hL'
  obtain ⟨p1, p2, p3, p4, p5, p6, p7, p8⟩ := hL'
  have hg : ∀ {a : Addr} {o : Obj}, a ≠ env.locals → s.heap.get? a = some o → (hideAll s.heap [env.locals]).get? a = some o := fun ne z => hideAll_get _ z fun hm => ne (List.mem_singleton.mp hm)
  have Bh := hid_bwat T.buf hX
  have Ra := (T.alone.on (h' := hideAll s.heap [env.locals]) (fun o z => hg (Ne.symm p3) z) (fun o z => hg (Ne.symm p4) z) fun o z => hg (Ne.symm p5) z).row
  have Rf := (T.first.on (h' := hideAll s.heap [env.locals]) (fun o z => hg (Ne.symm p6) z) (fun o z => hg (Ne.symm p7) z) fun o z => hg (Ne.symm p8) z).row
  have VB := V.view O Bh
  have hb := V.low
  have hh := V.high
  have F₁ : FrameAt S (hideAll s.heap [env.locals]) env (V1 X D Dk ml xa xf lo cs i c t) s.heap := F.lift fun p hp => by
    simp only [List.mem_cons, List.not_mem_nil, or_false] at hp
    rcases hp with rfl | rfl | rfl | rfl | rfl | rfl | rfl | rfl | rfl | rfl | rfl | rfl | rfl | rfl | rfl
    · exact ⟨.r (.ref X.x), by kaf_pre, fun v r => by cases (show v = .ref X.x from r); exact VB⟩
    · exact ⟨.r (.ref X.x), by kaf_pre, fun v r => by cases (show v = .ref X.x from r); exact ⟨⟨rfl, Bh⟩, pat_mono⟩⟩
    · exact ⟨.r (.ref xa), by kaf_pre, fun v r => by cases (show v = .ref xa from r); exact ⟨.inl Ra, hb, hh⟩⟩
    · exact ⟨.r (.ref xf), by kaf_pre, fun v r => by cases (show v = .ref xf from r); exact ⟨.inl Rf, by decide, by omega⟩⟩
    · exact ⟨_, by kaf_pre, lift_flat trivial⟩
    · exact ⟨_, by kaf_pre, lift_flat trivial⟩
    · exact ⟨_, by kaf_pre, lift_flat trivial⟩
    · exact ⟨_, by kaf_pre, lift_flat trivial⟩
    · exact ⟨_, by kaf_pre, lift_flat trivial⟩
    · exact ⟨_, by kaf_pre, lift_flat trivial⟩
    · exact ⟨_, by kaf_pre, lift_flat trivial⟩
    · exact ⟨_, by kaf_pre, lift_flat trivial⟩
    · exact ⟨_, by kaf_pre, lift_flat trivial⟩
    · exact ⟨_, by kaf_pre, lift_flat trivial⟩
    · exact ⟨_, by kaf_pre, lift_flat trivial⟩
  refine wpAny_execs_cons (b3_ok H hn hb hh hi c0 c1 t0 t1 A _ env s _ at_ F₁ fun fl s₂ e₂ o₂ => ?_)
  obtain ⟨rfl, F₂⟩ := o₂
  refine wpAny_execs_cons (b4_ok H hn hb hh hi c0 c1 t0 t1 A _ env s₂ _ at_ F₂ fun fl s₃ e₃ o₃ => ?_)
  obtain ⟨rfl, F₃⟩ := o₃
  refine wpAny_execs_cons (b5_ok H hn hb hh hi A _ env s₃ _ at_ F₃ fun fl s₄ e₄ o₄ => ?_)
  obtain ⟨rfl, F₄⟩ := o₄
  refine wpAny_execs_cons (b6_ok H hn hb hh hi c0 c1 t0 t1 A _ env s₄ _ at_ F₄ fun fl s₅ e₅ o₅ => ?_)
  obtain ⟨rfl, F₅⟩ := o₅
  obtain ⟨oL, es, ep, z, dd⟩ := F₅.locals
  have K₅ : StkW S A env [] (hideAll s.heap [env.locals]) s₅.heap := ⟨hfr, hef, Stk.cons (by rw [at_.fn]; decide) hef z dd (fun _ hm => nomatch hm), fun L hm => nomatch hm⟩
  refine wpAny_execs_cons (b7_wp H hLs hn hb hh hi c0 c1 t0 t1 at_ F₅ K₅ fun s₆ e₆ F₆ K₆ => ?_)
  refine wpAny_execs_cons (b8_ok H O hn V.begv V.zv e3 A _ env s₆ _ at_ F₆ fun fl s₇ e₇ o₇ => ?_)
  obtain ⟨rfl, F₇⟩ := o₇
  have x : TExt X Dk env.locals s s₇ := (e₂.text.trans (e₃.text.trans (e₄.text.trans e₅.text))).trans ((e₆.text hef rfl).trans e₇.text)
  have k6 : ∀ b o, b ≠ env.locals → s₅.heap.get? b = some o → s₆.heap.get? b = some o := fun b o n z => e₆.keep b o (fun hm => by
    rcases (frs_cons hef).mp hm with q | q
    · exact n q
    · exact nomatch q) z
  refine kk s₇ x (F₇.lower fun p hp => ?_) (T.keep (fun b o n z => e₇.keep b o n (k6 b o n (e₅.keep b o n (e₄.keep b o n (e₃.keep b o n (e₂.keep b o n z)))))) hL hX)
  simp only [List.mem_cons, List.not_mem_nil, or_false] at hp
  rcases hp with rfl | rfl | rfl | rfl | rfl | rfl | rfl | rfl <;> exact ⟨by kaf_pre, trivial⟩
end
section
variable {S : Sg} {X : BX} {D : BS} {Dk l0 ml xa da la xf df lf Cr C : Addr} {ds cs : List Int} {lo : Int} {k n i : Nat} {c t : Int} {A : Around} {env : Env} {s : Shared}
theorem TurnAt.re {env' : Env} {h : Heap} (T : TurnAt S X D Dk l0 ml xa da la xf df lf Cr ds cs lo k env h) : TurnAt S X D Dk l0 ml xa da la xf df lf Cr ds cs lo k env' h := ⟨T.deck, T.buf, T.alone, T.first, T.n1, T.n2, T.n3⟩
theorem TurnAt.off {I : Addr} {h h' : Heap} (T : TurnAt S X D Dk l0 ml xa da la xf df lf Cr ds cs lo k env h) (kp : ∀ b o, b ≠ I → h.get? b = some o → h'.get? b = some o) (h1 : I ∉ [Dk, l0, xa, da, la, xf, df, lf]) (h2 : I ∉ X.all) : TurnAt S X D Dk l0 ml xa da la xf df lf Cr ds cs lo k env h' :=
  (TurnAt.keep (env := { env with locals := I }) T.re kp h1 h2).re
theorem TurnAt.fresh {I : Addr} {h : Heap} (T : TurnAt S X D Dk l0 ml xa da la xf df lf Cr ds cs lo k env h) (z : h.get? I = none) : I ∉ [Dk, l0, xa, da, la, xf, df, lf] ∧ I ∉ X.all := by
  have ne : ∀ {a : Addr}, (∃ o, h.get? a = some o) → I ≠ a := fun ⟨o, e⟩ q => by rw [q, e] at z; cases z
  obtain ⟨⟨t, m, e⟩, ⟨vs, m', e', _⟩, _⟩ := T.deck
  obtain ⟨a1, ⟨_, _, a2⟩, _, _, a3⟩ := T.alone.there
  obtain ⟨b1, ⟨_, _, b2⟩, _, _, b3⟩ := T.first.there
  refine ⟨?_, fun hm => ?_⟩
  · simp only [List.mem_cons, List.not_mem_nil, or_false, not_or]
    exact ⟨ne ⟨_, e⟩, ne ⟨_, e'⟩, ne a1, ne ⟨_, a2⟩, ne ⟨_, a3⟩, ne b1, ne ⟨_, b2⟩, ne ⟨_, b3⟩⟩
  · exact ne (T.buf.there _ hm) rfl
theorem law_loop (H : KF S) (O : XOk S X) (hLs : LispK S C) {I : Addr} {px : Pos} (hn : 12 ≤ n) (at_ : At S (stScope (topStmt 106)) n A env) (hfr : A.frames = some [env]) (hef : env.frame = some env.locals) (hL : env.locals ∉ [Dk, l0, xa, da, la, xf, df, lf]) (hX : env.locals ∉ X.all)
    (hd : ds.length ≤ 100) (hb : S.base.get? Dk = none) (hI : env.locals < I) (hIb : S.base.get? I = none) (hI1 : I ∉ [Dk, l0, xa, da, la, xf, df, lf]) (hI2 : I ∉ X.all) :
    ∀ (j : Nat) (a : Int) (D : BS) (k : Nat) (s : Shared) (R : Result → Shared → Prop), k + 3 * j ≤ 800 → FrameAt S S.base env (lawM Dk ml X.lc X.x xa xf lo (lo + cs.length)) s.heap → TurnAt S X D Dk l0 ml xa da la xf df lf Cr ds cs lo k env s.heap → VwD D lo cs → IsRangeIter s.heap I a j 1 →
      (∀ p s', s'.gens = s.gens → s'.os = s.os → FrameAt S S.base env (lawM Dk ml X.lc X.x xa xf lo (lo + cs.length)) s'.heap → BWAt X { D with point := p } s'.heap → R (.ok .next) s') →
      codeAny (model S.prog S.w) A (.forLoop (.Name "nth" px) (.ref I) (forBody lawFor) [] env) R s
  | 0, a, D, k, s, R, hk, F, T, V, hit, kk => by
    refine for_turn ?_
    refine wpAny_pyNext_range_end at_.room.2.2 hit (by simp) fun h₁ he => wpAny_execs_nil ?_
    have F' := F.but (h' := h₁) hI hIb (fun o e => by obtain ⟨vs', d⟩ := isIter_ns hit e; rw [d]; exact ⟨fun _ _ q => (by cases q), fun _ q => (by cases q)⟩) he
    exact kk D.point _ rfl rfl F' (T.off he hI1 hI2).buf
  | j + 1, a, D, k, s, R, hk, F, T, V, hit, kk => by
    refine for_turn ?_
    refine wpAny_pyNext_range_item hit (by omega) fun h₁ hit₁ hs₁ => ?_
    have he : ∀ b o, b ≠ I → s.heap.get? b = some o → h₁.get? b = some o := fun b o nb e => (hs₁.2 b nb).trans e
    have F₁ := F.but (h' := h₁) hI hIb (fun o e => by obtain ⟨vs', d⟩ := isIter_ns hit e; rw [d]; exact ⟨fun _ _ q => (by cases q), fun _ q => (by cases q)⟩) he
    have T₁ := T.off he hI1 hI2
    obtain ⟨mv, f₁, r₁⟩ := F₁.fr
    refine wpAny_assign_Name (wpAny_storeName_local (at_.of (by kernel_rfl)) f₁.ns (fun h₂ hn₂ hs₂ => ?_) (at_.plain _ _))
    have F₂ := F₁.store (v := .int a s.toks) (pv := it a) (m' := lawM Dk ml X.lc X.x xa xf lo (lo + cs.length)) (Rd.int _ _) (at_.of (by kernel_rfl)) f₁ r₁ hn₂ hs₂ (fun y p hm => .inr ⟨hm, fun q => by
      simp only [List.mem_cons, List.not_mem_nil, or_false] at hm
      rcases hm with e | e | e | e | e | e | e | e <;> (cases e; exact absurd q (by decide +kernel))⟩)
    have T₂ := T₁.keep (h' := h₂) (fun b o n z => (hs₂.2 b n).trans z) hL hX
    have hit₂ : IsRangeIter h₂ I (a + 1) j 1 := (hs₂.2 I (Nat.ne_of_gt hI)).trans (by simpa using hit₁)
    show wpAny _ A (execs ((forBody lawFor).take 3 ++ (forBody lawFor).drop 3) env) _ _ _
    refine turn_a H O hn at_ F₂ T₂ (by omega) hd hb hL hX V.begv V.zv fun i c t s₃ hi c0 c1 t0 t1 x₃ F₃ T₃ => ?_
    have V₃ : VwD { D with point := lo + i } lo cs := ⟨V.begv, V.zv, V.low, V.high, V.gst, V.gle, V.cells⟩
    rw [← List.append_nil ((forBody lawFor).drop 3)]
    refine turn_b H O hLs hn at_ F₃ T₃ V₃ rfl hi c0 c1 t0 t1 hfr hef hL hX fun s₄ x₄ F₄ T₄ => wpAny_execs_nil ?_
    have hDk : I ≠ Dk := fun q => hI1 (q ▸ List.mem_cons_self)
    have hit₄ : IsRangeIter s₄.heap I (a + 1) j 1 := (x₃.trans x₄).keep I _ (Nat.ne_of_gt hI) hDk hI2 hit₂
    exact law_loop H O hLs hn at_ hfr hef hL hX hd hb hI hIb hI1 hI2 j (a + 1) { D with point := lo + i } (k + 3) s₄ R (by omega) F₄ T₄ V₃ hit₄ fun p s' g o F' B' => kk p s' (g.trans ((x₃.trans x₄).gens)) (o.trans ((x₃.trans x₄).os)) F' B'
end
section
variable {S : Sg} {X : BX} {D : BS} {Dk l0 ml xa da la xf df lf Cr C : Addr} {ds cs : List Int} {lo : Int} {k n i : Nat} {c t : Int} {A : Around} {env : Env} {s : Shared}
theorem law_for (H : KF S) (O : XOk S X) (hLs : LispK S C) {Q : Flow → Shared → Prop} (hn : 12 ≤ n) (at_ : At S (stScope (topStmt 106)) n A env) (hfr : A.frames = some [env]) (hef : env.frame = some env.locals) (hL : env.locals ∉ [Dk, l0, xa, da, la, xf, df, lf]) (hX : env.locals ∉ X.all)
    (hd : ds.length ≤ 100) (hb : S.base.get? Dk = none) (hk : k + 6 ≤ 800) (F : FrameAt S S.base env (lawM Dk ml X.lc X.x xa xf lo (lo + cs.length)) s.heap) (T : TurnAt S X D Dk l0 ml xa da la xf df lf Cr ds cs lo k env s.heap) (V : VwD D lo cs)
    (kk : ∀ p s', s'.gens = s.gens → s'.os = s.os → FrameAt S S.base env (lawM Dk ml X.lc X.x xa xf lo (lo + cs.length)) s'.heap → BWAt X { D with point := p } s'.heap → Q .next s') :
    wpAny (model S.prog S.w) A (exec ((stBody (topStmt 106)).getD 9 (.Pass default)) env) Q NoE s := by
  have rg : ∀ rp np pos, RgT S n (stScope (topStmt 106)) (lawM Dk ml X.lc X.x xa xf lo (lo + cs.length)) (.Call (.Name "range" rp) [.Constant (.int 2) 0 np] [] pos) 0 1 2 := fun rp np pos => RgT.r1 H.b_range EvT.int (by decide) (by decide) (by kernel_rfl)
  refine wpAny_For (rg _ _ _ A S.base env s _ at_ F fun r b t u v s₁ e₁ hr hsm hsz => ?_) (by intro _; with_unfolding_all rfl)
  refine wpAny_pyIter_range hr hsm ?_
  rw [hsz]
  have F₁ := F.keeps e₁.keep
  have hp : ∀ b o, s₁.heap.get? b = some o → (s₁.heap.push { cls := .type "range_iterator", data := .fields #[rawInt 0, rawInt 2, rawInt 1] }).get? b = some o := fun b o e => Heap.get?_push_of_some _ e
  have hI : env.locals < s₁.heap.objs.size := by
    obtain ⟨o, _, _, e, _⟩ := F₁.locals
    exact Heap.lt_size e
  have hn0 : s₁.heap.get? s₁.heap.objs.size = none := size_none _
  have h0 : S.base.get? s₁.heap.objs.size = none := by
    cases e : S.base.get? s₁.heap.objs.size with
    | none => rfl
    | some o => exact absurd (Heap.lt_size (F₁.old _ _ e)) (Nat.lt_irrefl _)
  have T₁ := T.keep (fun b o _ z => e₁.keep b o z) hL hX
  obtain ⟨i1, i2⟩ := T₁.fresh hn0
  exact law_loop H O hLs hn at_ hfr hef hL hX hd hb hI h0 i1 i2 2 0 D k _ _ (by omega) (F₁.keeps hp) (T₁.keep (fun b o _ z => hp b o z) hL hX) V (Heap.get?_push_size _ rfl) fun p s' g o F' B' => kk p s' (g.trans e₁.gens) (o.trans e₁.os) F' B'
end
section
variable {S : Sg} {n : Nat} {sc : Scope} {m : Loc}
theorem flat_rep {h₀ h h' : Heap} {v : Value} {pv : PV} (sk : SeqKept h h') (r : Rep S h₀ h v pv) : Rep S h₀ h' v pv := by
  cases pv with
  | d x => exact Rd.mono sk r
  | r u => exact r
  | v b cs => exact r
  | o P => exact r
theorem cell_seq {c : Addr} {v₀ : Option Value} {h h' : Heap} (hv : h.IsCell c v₀) (hs : Heap.SameBut c h h') : SeqKept h h' := fun a o vs n z d => (hs.2 a (fun q => by
  obtain ⟨oc, z', d'⟩ := hv
  rw [q, z'] at z
  cases z
  rw [d'] at d
  cases d)).trans z
theorem store_cell {A : Around} {env : Env} {s : Shared} {x : Str} {c : Addr} {v : Value} {v₀ : Option Value} {pv : PV} {Q : Unit → Shared → Prop} (at_ : At S sc n A env) (F : FrameAt S S.base env m s.heap) (hx : sc.names.lookup x = some .cell) (hc : env.cells.lookup x = some c) (hv : s.heap.IsCell c v₀) (hb : S.base.get? c = none)
    (hr : Rep S S.base s.heap v pv) (ho : ∀ p ∈ m, env.cells.lookup p.1 ≠ some c)
    (kk : ∀ h', (∀ b o, b ≠ c → s.heap.get? b = some o → h'.get? b = some o) → h'.IsCell c (some v) → FrameAt S S.base env ((x, pv) :: m) h' → Q () { s with heap := h' }) : wpAny (model S.prog S.w) A (storeName env x v) Q NoE s := by
  refine wpAny_storeName_cell at_.fn (at_.of hx) hc hv fun h' hn hs => ?_
  have sk := cell_seq hv hs
  refine kk h' (fun b o ne z => (hs.2 b ne).trans z) hn (F.storeCell (flat_rep sk hr) (at_.of hx) hc (fun q => ?_) hb hb ⟨_, hv⟩ hn hs ho fun p hp u r => flat_rep sk r)
  obtain ⟨o, es, ep, z, d⟩ := F.locals
  obtain ⟨oc, z', d'⟩ := hv
  rw [q, z'] at z
  cases z
  rw [d'] at d
  cases d
end
section
variable {S : Sg} {n : Nat} {A : Around} {env : Env} {s : Shared} {Q : Flow → Shared → Prop} {c : Addr} {v₀ : Option Value} {ws : List Int}
noncomputable abbrev absL (ws : List Int) : List Int := (ws.take 63).map fun i => if i < 0 then -i else i
noncomputable abbrev scrM (ws : List Int) : Loc := [("script", .d (.list (ws.map .int)))]
theorem ev_cells (H : KF S) (hw : ws.length ≤ 1000) {e : PySem.Expr} (he : e = (match (stBody (topStmt 106)).getD 0 (.Pass default) with | .Assign _ (.List (e :: _) _) _ => e | _ => .Name "" default)) : EvT S n (stScope (topStmt 106)) (scrM ws) e (.d (.list ((absL ws).map .int))) := by
  subst he
  refine EvT.castD (EvT.comp (mf := []) (items := (ws.map .int).take 63) (p := fun _ => true) (g := fun j => .int (if (ws.take 63).getD j default < 0 then -(ws.take 63).getD j default else (ws.take 63).getD j default)) (SrcT.list (EvT.sliceTo (b := 63) (EvT.loc (by kernel_rfl) (by kaf_pre) (by kernel_rfl)) EvT.int (by simpa using hw))) (by simp; omega) (by kernel_rfl) (by kernel_rfl) (by decide +kernel) (by decide +kernel) (fun y hy => ?_) (fun y pv hm => nomatch hm) (fun j d hd => rfl) (.inl fun j d hd _ => ⟨?_, rfl⟩)) ?_
  · exfalso
    rcases List.mem_cons.mp hy with q | hy
    · cases q
    · rcases List.mem_cons.mp hy with q | hy
      · cases q
      · rcases List.mem_cons.mp hy with q | hy
        · cases q
        · exact nomatch hy
  · rw [← List.map_take, List.getElem?_map] at hd
    obtain ⟨u, hu, rfl⟩ := Option.map_eq_some_iff.mp hd
    rw [List.getD_eq_getElem?_getD, hu]
    simp only [Option.getD_some]
    exact EvT.abs H.b_abs (EvT.loc (by kernel_rfl) (by kaf_pre) (by kernel_rfl)) (by kernel_rfl)
  · rw [← List.map_take, List.length_map, compOut_map (ws.take 63) fun i : Int => .int (if i < 0 then -i else i), List.map_map]
    rfl
theorem st0_wp (H : KF S) (hw : ws.length ≤ 1000) (at_ : At S (stScope (topStmt 106)) n A env) (F : FrameAt S S.base env (scrM ws) s.heap) (hc : env.cells.lookup ("deck" : Str) = some c) (hv : s.heap.IsCell c v₀) (hb : S.base.get? c = none) (ho : env.cells.lookup ("script" : Str) ≠ some c)
    (kk : ∀ Dk l0 s', (∀ b o, b ≠ c → s.heap.get? b = some o → s'.heap.get? b = some o) → s'.gens = s.gens → s'.os = s.os → S.base.get? Dk = none → s.heap.get? Dk = none → FrameAt S S.base env (("deck", .r (.ref Dk)) :: scrM ws) s'.heap → DeckAt Dk l0 (absL ws) 0 s'.heap → Q .next s') :
    wpAny (model S.prog S.w) A (exec ((stBody (topStmt 106)).getD 0 (.Pass default)) env) Q NoE s := by
  refine wpAny_Assign_Name (List_ (spliced_more (ev_cells H hw rfl A S.base env s _ at_ F fun v s₁ e₁ r₁ => ?_) (by with_unfolding_all rfl))) (by with_unfolding_all rfl)
  refine spliced_more (wpAny_Constant_int (spliced_none (newSeq (by simp) ?_))) (by with_unfolding_all rfl)
  obtain ⟨l0, rfl, la⟩ := LstAt.of r₁
  obtain ⟨vs, nn, zl, il⟩ := id la
  have F₁ := F.keeps e₁.keep
  have kp : ∀ b o, s₁.heap.get? b = some o → (s₁.heap.push { cls := .type "list", dict := Option.none, data := .seq [Value.ref l0, Value.int 0 s₁.toks].toArray }).get? b = some o := fun b o z => Heap.get?_push_of_some _ z
  have hv₁ := hv
  obtain ⟨oc, z, d⟩ := hv₁
  have nDk : s.heap.get? s₁.heap.objs.size = none := by
    cases e : s.heap.get? s₁.heap.objs.size with
    | none => rfl
    | some o => exact absurd (Heap.lt_size (e₁.keep _ _ e)) (Nat.lt_irrefl _)
  have bDk : S.base.get? s₁.heap.objs.size = none := by
    cases e : S.base.get? s₁.heap.objs.size with
    | none => rfl
    | some o => exact absurd (Heap.lt_size (F₁.old _ _ e)) (Nat.lt_irrefl _)
  have hcD : s₁.heap.objs.size ≠ c := fun q => by rw [q, z] at nDk; cases nDk
  have hcl : l0 ≠ c := fun q => by
    have := e₁.keep _ _ z
    rw [← q, zl] at this
    cases this
    cases d
  refine store_cell (s := { s₁ with heap := _, toks := _ }) (v₀ := v₀) (pv := .r (.ref s₁.heap.objs.size)) at_ (F₁.keeps kp) (by kernel_rfl) hc ⟨oc, kp _ _ (e₁.keep _ _ z), d⟩ hb rfl (fun p hp => by
    cases List.mem_singleton.mp hp
    exact ho) fun h' kc hc' F' => ?_
  refine kk s₁.heap.objs.size l0 _ (fun b o nb z => kc b o nb (kp b o (e₁.keep b o z))) e₁.gens e₁.os bDk nDk F' ⟨⟨s₁.toks, _, kc _ _ hcD (Heap.get?_push_size _ rfl)⟩, la.on fun o z => kc _ o hcl (kp _ o z), fun q => ?_⟩
  rw [← q] at zl
  exact absurd (Heap.lt_size zl) (Nat.lt_irrefl _)
end
section
variable {S : Sg} {n : Nat} {A : Around} {env : Env} {s : Shared} {Q : Flow → Shared → Prop} {c : Addr} {v₀ : Option Value} {m : Loc}
noncomputable abbrev menuL : List Int := [97, 10, 32, 46, 98, 10, 9, 32]
theorem LstAt.but {h h' : Heap} {l c : Addr} {cs : List Int} {v₀ : Option Value} (la : LstAt h l cs) (hv : h.IsCell c v₀) (k : ∀ b o, b ≠ c → h.get? b = some o → h'.get? b = some o) : LstAt h' l cs := by
  refine la.on fun o z => k _ _ (fun q => ?_) z
  obtain ⟨vs, nn, zl, _⟩ := la
  obtain ⟨oc, z', d⟩ := hv
  rw [q, z'] at zl
  cases zl
  cases d
theorem DeckAt.but {h h' : Heap} {Dk l0 c : Addr} {ds : List Int} {k : Nat} {v₀ : Option Value} (d : DeckAt Dk l0 ds k h) (hv : h.IsCell c v₀) (kp : ∀ b o, b ≠ c → h.get? b = some o → h'.get? b = some o) : DeckAt Dk l0 ds k h' := by
  obtain ⟨⟨t, n, e⟩, la, ne⟩ := d
  refine ⟨⟨t, n, kp _ _ (fun q => ?_) e⟩, la.but hv kp, ne⟩
  obtain ⟨oc, z', d⟩ := hv
  rw [q, z'] at e
  cases e
  cases d
theorem IsCell.keeps {h h' : Heap} {c : Addr} {v₀ : Option Value} (hv : h.IsCell c v₀) (k : ∀ o, h.get? c = some o → h'.get? c = some o) : h'.IsCell c v₀ := let ⟨o, z, d⟩ := hv; ⟨o, k _ z, d⟩
theorem ev_menu {pos p0 p1 p2 p3 p4 p5 p6 p7 : Pos} : EvT S n (stScope (topStmt 106)) m (.List [.Constant (.int 97) 0 p0, .Constant (.int 10) 0 p1, .Constant (.int 32) 0 p2, .Constant (.int 46) 0 p3, .Constant (.int 98) 0 p4, .Constant (.int 10) 0 p5, .Constant (.int 9) 0 p6, .Constant (.int 32) 0 p7] pos) (.d (.list [.int 97, .int 10, .int 32, .int 46, .int 98, .int 10, .int 9, .int 32])) := by
  refine EvT.lst (xs := [.int 97, .int 10, .int 32, .int 46, .int 98, .int 10, .int 9, .int 32]) ?_
  exact EvsT.cons EvT.int (EvsT.cons EvT.int (EvsT.cons EvT.int (EvsT.cons EvT.int (EvsT.cons EvT.int (EvsT.cons EvT.int (EvsT.cons EvT.int (EvsT.one EvT.int)))))))
set_option maxHeartbeats 4000000 in
theorem st1_wp (at_ : At S (stScope (topStmt 106)) n A env) (F : FrameAt S S.base env m s.heap) (hc : env.cells.lookup ("menu" : Str) = some c) (hv : s.heap.IsCell c v₀) (hb : S.base.get? c = none) (ho : ∀ p ∈ m, env.cells.lookup p.1 ≠ some c)
    (kk : ∀ ml s', (∀ b o, b ≠ c → s.heap.get? b = some o → s'.heap.get? b = some o) → s'.gens = s.gens → s'.os = s.os → FrameAt S S.base env (("menu", .r (.ref ml)) :: m) s'.heap → LstAt s'.heap ml menuL → Q .next s') :
    wpAny (model S.prog S.w) A (exec ((stBody (topStmt 106)).getD 1 (.Pass default)) env) Q NoE s := by
  refine wpAny_Assign_Name (ev_menu A S.base env s _ at_ F fun v s₁ e₁ r₁ => ?_) (by with_unfolding_all rfl)
  obtain ⟨ml, rfl, la⟩ := LstAt.of (cs := menuL) r₁
  have hv₁ := IsCell.keeps hv (e₁.keep c)
  exact store_cell (pv := .r (.ref ml)) at_ (F.keeps e₁.keep) (by kernel_rfl) hc hv₁ hb rfl ho fun h' kc hc' F' => kk ml _ (fun b o nb z => kc b o nb (e₁.keep b o z)) e₁.gens e₁.os F' (la.but hv₁ kc)
theorem stC_wp {x : Str} {p pos : Pos} {e : PySem.Expr} {i : Int} {P : Shared → Prop} (at_ : At S (stScope (topStmt 106)) n A env) (hx : (stScope (topStmt 106)).names.lookup x = some .cell) (hc : env.cells.lookup x = some c) (hb : S.base.get? c = none) (ho : ∀ p ∈ m, env.cells.lookup p.1 ≠ some c)
    (he : wpAny (model S.prog S.w) A (eval e env) (fun v s₁ => FrameAt S S.base env m s₁.heap ∧ Rd s₁.heap v (.int i) ∧ s₁.heap.IsCell c v₀ ∧ ∀ h', (∀ b o, b ≠ c → s₁.heap.get? b = some o → h'.get? b = some o) → FrameAt S S.base env ((x, it i) :: m) h' → Q .next { s₁ with heap := h' }) NoE s)
    (hs : swapsWith e (some (.Name x p)) pos.line env = Pure.pure false := by with_unfolding_all rfl) :
    wpAny (model S.prog S.w) A (exec (.Assign [.Name x p] e pos) env) Q NoE s := by
  refine wpAny_Assign_Name (wpAny_mono he (fun v s₁ h₁ => ?_) fun _ _ x => x) hs
  obtain ⟨F₁, r₁, hv₁, k⟩ := h₁
  exact store_cell (pv := it i) at_ F₁ hx hc hv₁ hb r₁ ho fun h' kc _ F' => k h' kc F'
end
section
variable {S : Sg} {n : Nat} {A : Around} {env : Env} {s : Shared} {Q : Flow → Shared → Prop} {Dk l0 ml : Addr} {ds : List Int}
noncomputable abbrev drawnN (ds : List Int) : Nat := (drawV ds 0 17).toNat
noncomputable abbrev drawnL (ds : List Int) : List Int := (List.range (drawnN ds)).map fun i => menuL.getD (drawV ds (0 + 1 + i) 8).toNat 0
noncomputable abbrev hd2 (Dk ml : Addr) : Loc := [("menu", .r (.ref ml)), ("deck", .r (.ref Dk))]
theorem hd2_flat : FlatM (hd2 Dk ml) := fun p hp => by
  simp only [List.mem_cons, List.not_mem_nil, or_false] at hp
  rcases hp with rfl | rfl <;> exact trivial
theorem hd2x_flat {x : Str} {i : Int} {m : Loc} (h : FlatM m) : FlatM ((x, it i) :: m) := fun p hp => by
  rcases List.mem_cons.mp hp with rfl | hp
  · exact trivial
  · exact h p hp
set_option maxHeartbeats 4000000 in
theorem st2_wp (H : KF S) (hn : 4 ≤ n) (at_ : At S (stScope (topStmt 106)) n A env) (F : FrameAt S S.base env (hd2 Dk ml) s.heap) (hd : ds.length ≤ 100) (hb : S.base.get? Dk = none) (hml : ml ≠ Dk) (lm : LstAt s.heap ml menuL) (dk : DeckAt Dk l0 ds 0 s.heap)
    (kk : ∀ lc s', s.heap.get? lc = none → (∀ b o, b ≠ env.locals → b ≠ Dk → s.heap.get? b = some o → s'.heap.get? b = some o) → s'.gens = s.gens → s'.os = s.os → FrameAt S S.base env [("menu", .r (.ref ml)), ("deck", .r (.ref Dk)), ("signs", .r (.ref lc))] s'.heap → DeckAt Dk l0 ds (0 + 1 + drawnN ds) s'.heap → LstAt s'.heap lc (drawnL ds) → Q .next s') :
    wpAny (model S.prog S.w) A (exec ((stBody (topStmt 106)).getD 2 (.Pass default)) env) Q NoE s := by
  have r0 := drawV_range ds 0 (many := 17) (by decide)
  have hK16 : drawnN ds ≤ 16 := by unfold drawnN; omega
  have hK : drawnN ds ≤ 1000 := by omega
  refine comp_draws (n := n) (sc := stScope (topStmt 106)) (m := hd2 Dk ml) (k0 := 0) (K := drawnN ds) (g := fun i => menuL.getD (drawV ds (0 + 1 + i) 8).toNat 0) (mf := [("deck", .r (.ref Dk)), ("menu", .r (.ref ml))]) (mD := fun D => [("menu", .r (.ref ml)), ("deck", .r (.ref Dk)), ("signs", .r (.ref D))]) (l0 := l0) (ds := ds) (mns := menuL)
    at_ hK (by kernel_rfl) (by kernel_rfl) (by decide +kernel) (by decide +kernel) (fun y hy => ?_) (fun y pv hm => ?_) (by kernel_rfl) F hd2_flat hb hb hml lm dk (fun Q k => ?_) (fun i hi cenv s₄ Q atc Fc dc lmc k => ?_) (fun D => by kaf_suf) kk ?_ (by intro _; with_unfolding_all rfl)
  · have hy' : (y, NameKind.free) ∈ [((Str.ofString ".0"), NameKind.local), (Str.ofString "nth", NameKind.local), (Str.ofString "_law_draw", NameKind.globalImplicit), (Str.ofString "deck", NameKind.free), (Str.ofString "menu", NameKind.free)] := hy
    simp only [List.mem_cons, List.not_mem_nil, or_false, Prod.mk.injEq, reduceCtorEq, and_false, false_or, and_true] at hy'
    rcases hy' with rfl | rfl
    · exact ⟨by kernel_rfl, .r (.ref Dk), by kaf_pre⟩
    · exact ⟨by kernel_rfl, .r (.ref ml), by kaf_pre⟩
  · rcases List.mem_cons.mp hm with q | hm
    · obtain ⟨rfl, rfl⟩ := Prod.mk.inj q
      exact ⟨by kaf_pre, by kaf_pre, by kernel_rfl⟩
    · rcases List.mem_cons.mp hm with q | hm
      · obtain ⟨rfl, rfl⟩ := Prod.mk.inj q
        exact ⟨by kaf_pre, by kaf_pre, by kernel_rfl⟩
      · exact nomatch hm
  · refine Call_ (EvT.bi (v := .type "range") H.b_range (by kernel_rfl) (by decide +kernel) (by decide +kernel) (by decide +kernel) A S.base env s _ at_ F fun v s₁ e₁ r₁ => ?_) (by with_unfolding_all rfl)
    cases r₁
    refine Pv.callWith_type1 (spliced_more (ev_draw H (k := 0) (ds := ds) (many := 17) (by decide) (by decide) hd (Nat.le_trans (by decide) hn) at_ (F.keeps e₁.keep) hd2_flat hb hb (dk.on (fun o z => e₁.keep _ o z) fun o z => e₁.keep _ o z) (by kernel_rfl) (EvT.cel (by kernel_rfl) (by kaf_pre) (by kernel_rfl)) (fun s₂ e₂ => EvT.at (m := hd2 Dk ml) EvT.int at_ ((F.keeps e₁.keep).keeps e₂.keep)) fun w s₂ x₂ F₂ d₂ r₂ => spliced_none ?_) (by with_unfolding_all rfl)) (by with_unfolding_all rfl) (by with_unfolding_all rfl)
    obtain ⟨t2, rfl⟩ := rd_int r₂
    refine call_range_1 (k _ (drawV ds 0 17) _ _ _ _ ((e₁.dext.trans x₂).trans (Ext.dext (.heap (fun _ _ e => Heap.get?_push_of_some _ e) _))) (F₂.keeps fun _ _ e => Heap.get?_push_of_some _ e) (d₂.on (fun _ e => Heap.get?_push_of_some _ e) fun _ e => Heap.get?_push_of_some _ e) (IsRange.new ..) (small_one (by omega) (by omega) (by omega) (by omega)) ?_)
    rw [rangeSize_one]
    unfold drawnN
    split <;> omega
  · have r8 := drawV_range ds (0 + 1 + i) (many := 8) (by decide)
    have fm : FlatM (("nth", it (i : Int)) :: [("deck", PV.r (.ref Dk)), ("menu", PV.r (.ref ml))]) := fun p hp => by
      simp only [List.mem_cons, List.not_mem_nil, or_false] at hp
      rcases hp with rfl | rfl | rfl <;> exact trivial
    refine Subscript_ (EvT.cel (m := ("nth", it (i : Int)) :: [("deck", PV.r (.ref Dk)), ("menu", PV.r (.ref ml))]) (pv := .r (.ref ml)) (by kernel_rfl) (by kaf_pre) (by kernel_rfl) A S.base cenv s₄ _ atc Fc fun v s₅ e₅ r₅ => ?_)
    have : v = .ref ml := r₅
    subst this
    have F₅ := Fc.keeps e₅.keep
    refine ev_draw H (k := 0 + 1 + i) (ds := ds) (many := 8) (by decide) (by omega) hd (Nat.le_trans (by decide) hn) atc F₅ fm hb hb (dc.on (fun o z => e₅.keep _ o z) fun o z => e₅.keep _ o z) (by kernel_rfl) (EvT.cel (by kernel_rfl) (by kaf_pre) (by kernel_rfl)) (fun s₂ e₂ => EvT.at (m := ("nth", it (i : Int)) :: [("deck", PV.r (.ref Dk)), ("menu", PV.r (.ref ml))]) EvT.int atc (F₅.keeps e₂.keep)) fun w s₆ x₆ F₆ d₆ r₆ => ?_
    obtain ⟨tk, rfl⟩ := rd_int r₆
    have lm₆ : LstAt s₆.heap ml menuL := lmc.on fun o z => x₆.keep _ o hml (e₅.keep _ o z)
    obtain ⟨l, vs, nn, q, ho, ra⟩ := rd_list lm₆.rd
    cases q
    obtain ⟨j, hj⟩ : ∃ j : Nat, drawV ds (0 + 1 + i) 8 = j := ⟨(drawV ds (0 + 1 + i) 8).toNat, by omega⟩
    have hj8 : j < 8 := by omega
    have hlt : j < vs.toList.length := by rw [ra.1]; exact hj8
    have hval : vs.toList[j]? = some vs.toList[j] := List.getElem?_eq_getElem hlt
    have hmx : (menuL.map PyData.int)[j]? = some (.int (menuL.getD j 0)) := by
      rw [List.getElem?_map, List.getD_eq_getElem?_getD, List.getElem?_eq_getElem (l := menuL) (i := j) hj8]
      rfl
    obtain ⟨t', hv'⟩ := rd_int (ra.2 j _ _ hval hmx)
    have hl : s₆.heap.IsList ml vs := ⟨_, ho, rfl, nn, rfl⟩
    rw [hj]
    refine tail_any hl.typeIs slot_list_getitem.lookup (wpAny_getItem_list hl (by omega) (by omega) (by rw [← Array.getElem?_toList]; exact hval) ?_) (by with_unfolding_all rfl)
    rw [hv']
    have q := k t' s₆ (e₅.dext.trans x₆) d₆
    rw [hj, Int.toNat_natCast] at q
    exact q
  · have h := at_.sc
    obtain ⟨a, b, c, d, e, f, g, h', i⟩ := env
    dsimp only at h
    subst h
    with_unfolding_all rfl
end
section
variable {S : Sg} {n : Nat} {A : Around} {env : Env} {s : Shared} {Q : Flow → Shared → Prop} {Dk l0 ml lc C Cg Cm : Addr} {cs : List Int}
noncomputable abbrev hd3 (Dk ml lc : Addr) : Loc := [("menu", .r (.ref ml)), ("deck", .r (.ref Dk)), ("signs", .r (.ref lc))]
noncomputable abbrev hd4 (Dk ml lc x : Addr) : Loc := [("menu", .r (.ref ml)), ("deck", .r (.ref Dk)), ("signs", .r (.ref lc)), ("own_buffer", .r (.ref x))]
theorem hd4_flat {x : Addr} : FlatM (hd4 Dk ml lc x) := fun p hp => by
  simp only [List.mem_cons, List.not_mem_nil, or_false] at hp
  rcases hp with rfl | rfl | rfl | rfl <;> exact trivial
set_option maxHeartbeats 4000000 in
theorem st3_wp (H : KF S) (KB : BufMk S C Cg Cm) (hname : nsIn S.K mainGlobals "Buffer" = some (some (.ref C))) (hn : 6 ≤ n) (at_ : At S (stScope (topStmt 106)) n A env) (F : FrameAt S S.base env (hd3 Dk ml lc) s.heap) (hlc : LstAt s.heap lc cs)
    (kk : ∀ (X : BX) s', X.C = C → X.Cg = Cg → X.Cm = Cm → X.lc = lc → X.cs = cs → (∀ a ∈ [X.x, X.dx, X.g, X.dg, X.l, X.ma, X.dma, X.rd, X.ls], s.heap.get? a = none) → X.all.Nodup → (∀ b o, b ≠ env.locals → s.heap.get? b = some o → s'.heap.get? b = some o) → s'.gens = s.gens → s'.os = s.os →
      FrameAt S S.base env (hd4 Dk ml lc X.x) s'.heap → BWAt X D0 s'.heap → env.locals ∉ X.all → Q .next s') :
    wpAny (model S.prog S.w) A (exec ((stBody (topStmt 106)).getD 3 (.Pass default)) env) Q NoE s := by
  refine wpAny_Assign_Name (Call_ (EvT.glob (m := hd3 Dk ml lc) hname (by kernel_rfl) (by kernel_rfl) A S.base env s _ at_ F fun v s₁ e₁ r₁ => ?_) (by with_unfolding_all rfl)) (by with_unfolding_all rfl)
  cases r₁
  have F₁ := F.keeps e₁.keep
  refine callWith_K (K := S.K) at_.ok.k KB.keep (spliced_more (wpAny_Constant_int (spliced_more (wpAny_Constant_str (spliced_none ?_)) (by with_unfolding_all rfl))) (by with_unfolding_all rfl)) (by with_unfolding_all rfl) (by with_unfolding_all rfl)
  have e₂ : Ext s { s₁ with toks := s₁.toks + 1 + 1 } := e₁.trans (Ext.toks s₁ (s₁.toks + 1 + 1))
  have F₂ := F.keeps e₂.keep
  refine ⟨(F₁.on at_.ok).x, wpAny_call (make_buf (s := { s₁ with toks := s₁.toks + 1 + 1 }) H KB (at_.room.le hn) (F₁.on at_.ok) (hlc.on fun o z => e₁.keep _ o z) fun X s₃ e₃ x1 x2 x3 x4 x5 fr nd B₃ => ?_)⟩
  have F₃ := F₂.keeps e₃.keep
  have e03 := e₂.trans e₃
  obtain ⟨mv, f₃, r₃⟩ := F₃.fr
  have hL : env.locals ∉ X.all := fun hm => by
    obtain ⟨oL, es, ep, zL, dL⟩ := F.locals
    have key : env.locals ∈ [X.x, X.dx, X.g, X.dg, X.l, X.ma, X.dma, X.rd, X.ls] ∨ env.locals = X.lc := by
      rcases List.mem_append.mp (show env.locals ∈ [X.x, X.dx, X.g, X.dg, X.l, X.ma, X.dma, X.rd, X.ls] ++ [X.lc] from hm) with q | q
      · exact .inl q
      · exact .inr (List.mem_singleton.mp q)
    rcases key with hm | q
    · have := fr _ hm
      rw [e₂.keep _ _ zL] at this
      cases this
    · obtain ⟨vs, nn, zl, _⟩ := hlc
      rw [x4] at q
      rw [q, zl] at zL
      cases zL
      cases dL
  refine wpAny_storeName_local (at_.of (by kernel_rfl)) f₃.ns (fun h' hn₄ hs₄ => ?_) (at_.plain _ _)
  have F₄ := F₃.store (v := .ref X.x) (pv := .r (.ref X.x)) (m' := hd4 Dk ml lc X.x) rfl (at_.of (by kernel_rfl)) f₃ r₃ hn₄ hs₄ (by kaf_suf)
  exact kk X _ x1 x2 x3 x4 x5 (fun a ha => by
    cases z : s.heap.get? a with
    | none => rfl
    | some o => have := fr a ha; rw [e₂.keep a o z] at this; cases this) nd (fun b o nb z => (hs₄.2 b nb).trans (e03.keep b o z)) e03.gens e03.os F₄ (B₃.on fun a ha o z => (hs₄.2 a (fun q => hL (q ▸ ha))).trans z) hL
end
section
variable {S : Sg} {n : Nat} {A : Around} {env : Env} {s : Shared} {Q : Flow → Shared → Prop} {Dk l0 ml lc C Cg Cm : Addr} {cs : List Int} {X : BX}
theorem st4_wp (H : KF S) (K2 : KF2 S) (O : XOk S X) {fi : Addr} (hname : nsIn S.K mainGlobals "insert" = some (some (.ref fi))) (fn : FnAtD S (topStmt 85) fi #[.bool false]) (hn : 8 ≤ n) (hk : X.cs.length ≤ 16) (at_ : At S (stScope (topStmt 106)) n A env) (F : FrameAt S S.base env (hd4 Dk ml X.lc X.x) s.heap) (B : BWAt X D0 s.heap) (hX : env.locals ∉ X.all)
    (kk : ∀ s', ChgB X none s s' → FrameAt S S.base env (hd4 Dk ml X.lc X.x) s'.heap → BWAt X (putD X D0) s'.heap → Q .next s') :
    wpAny (model S.prog S.w) A (exec ((stBody (topStmt 106)).getD 4 (.Pass default)) env) Q NoE s := by
  refine wpAny_Expr_any (Call_ (EvT.glob (m := hd4 Dk ml X.lc X.x) hname (by kernel_rfl) (by kernel_rfl) A S.base env s _ at_ F fun v s₁ e₁ r₁ => ?_) (by with_unfolding_all rfl)) (by unfold interactive; rw [at_.fn]; rfl) (by with_unfolding_all rfl)
  cases r₁
  have F₁ := F.keeps e₁.keep
  refine callWith_K (K := S.K) at_.ok.k fn.keep (spliced_more (EvT.loc (m := hd4 Dk ml X.lc X.x) (pv := .r (.ref X.x)) (by kernel_rfl) (by kaf_pre) (by kernel_rfl) A S.base env s₁ _ at_ F₁ fun u s₂ e₂ r₂ => ?_) (by with_unfolding_all rfl)) (by with_unfolding_all rfl) (by with_unfolding_all rfl)
  have : u = .ref X.x := r₂
  subst this
  have F₂ := F₁.keeps e₂.keep
  refine spliced_more (EvT.loc (m := hd4 Dk ml X.lc X.x) (pv := .r (.ref X.lc)) (by kernel_rfl) (by kaf_pre) (by kernel_rfl) A S.base env s₂ _ at_ F₂ fun u s₃ e₃ r₃ => spliced_none ?_) (by with_unfolding_all rfl)
  have : u = .ref X.lc := r₃
  subst this
  have F₃ := F₂.keeps e₃.keep
  have e03 := (e₁.trans e₂).trans e₃
  have B₃ := B.keeps e03.keep
  refine ⟨(F₃.on at_.ok).x, wpAny_call (s_insert H O K2 hk rfl rfl rfl rfl rfl rfl rfl (at_.room.le hn) (F₃.on at_.ok) fn B₃ fun s₄ c₄ B₄ => ?_)⟩
  exact kk s₄ (e03.chg.trans c₄) (F₃.chgB (D := D0) (D' := putD X D0) B₃ c₄ hX O.base hd4_flat) B₄
end
section
variable {S : Sg} {n : Nat} {A : Around} {env : Env} {s : Shared} {Q : Flow → Shared → Prop} {Dk l0 ml lc C Cg Cm c : Addr} {cs ds : List Int} {X : BX} {k : Nat} {v₀ : Option Value}
noncomputable abbrev hd5 (Dk ml lc x : Addr) (lo : Int) : Loc := ("low", it lo) :: hd4 Dk ml lc x
noncomputable abbrev hd6 (Dk ml lc x : Addr) (lo hi : Int) : Loc := ("high", it hi) :: hd5 Dk ml lc x lo
theorem hd5_flat {x : Addr} {lo : Int} : FlatM (hd5 Dk ml lc x lo) := hd2x_flat hd4_flat
theorem hd6_flat {x : Addr} {lo hi : Int} : FlatM (hd6 Dk ml lc x lo hi) := hd2x_flat hd5_flat
theorem ev_signs {m : Loc} {e : PySem.Expr} {y : PyData} (h : EvT S n (stScope (topStmt 106)) (("signs", .d (.list (cs.map .int))) :: m) e (.d y)) (fm : ∀ p ∈ m, match p.2 with | .d _ => True | .r _ => True | _ => False) (at_ : At S (stScope (topStmt 106)) n A env) (F : FrameAt S S.base env m s.heap) (hm : (Str.ofString "signs", PV.r (.ref lc)) ∈ m) (la : LstAt s.heap lc cs) : EvAt S A env s e y := by
  intro Q kk
  have F' : FrameAt S (hideAll s.heap [env.locals]) env (("signs", .d (.list (cs.map .int))) :: m) s.heap := F.lift fun p hp => by
    rcases List.mem_cons.mp hp with rfl | hp
    · exact ⟨_, hm, fun v r => by cases (show v = .ref lc from r); exact la.rd⟩
    · exact ⟨p.2, hp, lift_flat (fm p hp)⟩
  exact h A _ env s Q at_ F' kk
theorem st5_wp (H : KF S) (hn : 2 ≤ n) (at_ : At S (stScope (topStmt 106)) n A env) (F : FrameAt S S.base env (hd4 Dk ml X.lc X.x) s.heap) (hd : ds.length ≤ 100) (hk : k < 800) (hb : S.base.get? Dk = none) (la : LstAt s.heap X.lc cs) (hl : cs.length ≤ 100) (dk : DeckAt Dk l0 ds k s.heap) (hld : X.lc ≠ Dk)
    (hc : env.cells.lookup ("low" : Str) = some c) (hv : s.heap.IsCell c v₀) (hbc : S.base.get? c = none) (ho : ∀ p ∈ hd4 Dk ml X.lc X.x, env.cells.lookup p.1 ≠ some c)
    (kk : ∀ s', (∀ b o, b ≠ c → b ≠ Dk → s.heap.get? b = some o → s'.heap.get? b = some o) → s'.gens = s.gens → s'.os = s.os → FrameAt S S.base env (hd5 Dk ml X.lc X.x (1 + drawV ds k (cs.length + 1))) s'.heap → DeckAt Dk l0 ds (k + 1) s'.heap → Q .next s') :
    wpAny (model S.prog S.w) A (exec ((stBody (topStmt 106)).getD 5 (.Pass default)) env) Q NoE s := by
  refine stC_wp (c := c) (v₀ := v₀) (m := hd4 Dk ml X.lc X.x) (i := 1 + drawV ds k (cs.length + 1)) (P := fun _ => True) at_ (by kernel_rfl) hc hbc ho (wpAny_BinOp (wpAny_Constant_int ?_)) (by with_unfolding_all rfl)
  have e₁ := Ext.toks s (s.toks + 1)
  refine ev_draw H (s := { s with toks := s.toks + 1 }) (k := k) (ds := ds) (many := (cs.length : Int) + 1) (by omega) (by omega) hd hn at_ F hd4_flat hb hb dk (by kernel_rfl) (EvT.cel (by kernel_rfl) (by kaf_pre) (by kernel_rfl)) (fun s₂ e₂ => ev_signs (cs := cs) (m := hd4 Dk ml X.lc X.x) ?_ (fun p hp => ?_) at_ (F.keeps e₂.keep) (by kaf_pre) (la.on fun o z => e₂.keep _ o z)) fun w s₃ x₃ F₃ d₃ r₃ => ?_
  · exact EvT.castI (EvT.add (EvT.len (xs := cs.map .int) H.b_len (EvT.loc (by kernel_rfl) (.head _) (by decide +kernel)) (by simp; omega) (by kernel_rfl)) EvT.int) (by simp)
  · simp only [List.mem_cons, List.not_mem_nil, or_false] at hp
    rcases hp with rfl | rfl | rfl | rfl <;> exact trivial
  · obtain ⟨t, rfl⟩ := rd_int r₃
    have hcD : c ≠ Dk := fun q => by
      obtain ⟨oc, z, d⟩ := hv
      exact dk.notCell oc (q ▸ z) _ d
    have hv₃ : s₃.heap.IsCell c v₀ := IsCell.keeps hv fun o z => x₃.keep c o hcD z
    refine PyProof.Rows.add_int ⟨F₃, .int _ _, hv₃, fun h' kp F' => ?_⟩
    exact kk _ (fun b o n1 n2 z => kp b o n1 (x₃.keep b o n2 z)) x₃.gens x₃.os F' (d₃.but hv₃ kp)
end
section
variable {S : Sg} {n : Nat} {A : Around} {env : Env} {s : Shared} {Q : Flow → Shared → Prop} {Dk l0 ml lc C Cg Cm c : Addr} {cs ds : List Int} {X : BX} {k : Nat} {v₀ : Option Value} {lo hi : Int}
theorem st6_wp (H : KF S) (hn : 2 ≤ n) (at_ : At S (stScope (topStmt 106)) n A env) (F : FrameAt S S.base env (hd5 Dk ml X.lc X.x lo) s.heap) (hd : ds.length ≤ 100) (hk : k < 800) (hb : S.base.get? Dk = none) (la : LstAt s.heap X.lc cs) (hl : cs.length ≤ 100) (dk : DeckAt Dk l0 ds k s.heap) (h2 : (cs.length : Int) + 2 - lo ≠ 0)
    (hc : env.cells.lookup ("high" : Str) = some c) (hv : s.heap.IsCell c v₀) (hbc : S.base.get? c = none) (ho : ∀ p ∈ hd5 Dk ml X.lc X.x lo, env.cells.lookup p.1 ≠ some c)
    (kk : ∀ s', (∀ b o, b ≠ c → b ≠ Dk → s.heap.get? b = some o → s'.heap.get? b = some o) → s'.gens = s.gens → s'.os = s.os → FrameAt S S.base env (hd6 Dk ml X.lc X.x lo (lo + drawV ds k (cs.length + 2 - lo))) s'.heap → DeckAt Dk l0 ds (k + 1) s'.heap → Q .next s') :
    wpAny (model S.prog S.w) A (exec ((stBody (topStmt 106)).getD 6 (.Pass default)) env) Q NoE s := by
  refine stC_wp (c := c) (v₀ := v₀) (m := hd5 Dk ml X.lc X.x lo) (i := lo + drawV ds k (cs.length + 2 - lo)) (P := fun _ => True) at_ (by kernel_rfl) hc hbc ho (wpAny_BinOp ((?L : EvT S n (stScope (topStmt 106)) (hd5 Dk ml X.lc X.x lo) _ (it lo)) A S.base env s _ at_ F fun vl s₁ e₁ q₁ => ?_)) (by with_unfolding_all rfl)
  case L => exact EvT.cel (by kernel_rfl) (by kaf_pre) (by kernel_rfl)
  obtain ⟨t1, rfl⟩ := rd_int q₁
  refine ev_draw H (k := k) (ds := ds) (many := (cs.length : Int) + 2 - lo) h2 (by omega) hd hn at_ (F.keeps e₁.keep) hd5_flat hb hb (dk.on (fun o z => e₁.keep _ o z) fun o z => e₁.keep _ o z) (by kernel_rfl) (EvT.cel (by kernel_rfl) (by kaf_pre) (by kernel_rfl)) (fun s₂ e₂ => ev_signs (cs := cs) (m := hd5 Dk ml X.lc X.x lo) ?_ (fun p hp => ?_) at_ ((F.keeps e₁.keep).keeps e₂.keep) (by kaf_pre) ((la.on fun o z => e₁.keep _ o z).on fun o z => e₂.keep _ o z)) fun w s₃ x₃ F₃ d₃ r₃ => ?_
  · exact EvT.castI (EvT.sub (EvT.add (EvT.len (xs := cs.map .int) H.b_len (EvT.loc (by kernel_rfl) (.head _) (by decide +kernel)) (by simp; omega) (by kernel_rfl)) EvT.int) (EvT.cel (by kernel_rfl) (by kaf_pre) (by kernel_rfl))) (by simp)
  · simp only [List.mem_cons, List.not_mem_nil, or_false] at hp
    rcases hp with rfl | rfl | rfl | rfl | rfl <;> exact trivial
  · obtain ⟨t, rfl⟩ := rd_int r₃
    have hcD : c ≠ Dk := fun q => by
      obtain ⟨oc, z, d⟩ := hv
      exact dk.notCell oc (q ▸ z) _ d
    have hv₃ : s₃.heap.IsCell c v₀ := IsCell.keeps hv fun o z => x₃.keep c o hcD (e₁.keep _ _ z)
    refine PyProof.Rows.add_int ⟨F₃, .int _ _, hv₃, fun h' kp F' => ?_⟩
    exact kk _ (fun b o n1 n2 z => kp b o n1 (x₃.keep b o n2 (e₁.keep _ _ z))) (x₃.gens.trans e₁.gens) (x₃.os.trans e₁.os) F' (d₃.but hv₃ kp)
end
section
variable {S : Sg} {X : BX} {n : Nat} {sc : Scope} {L L' : ML} {D D' : BS} {m m' : Loc} {xp q : Pos}
theorem s_gotoC (H : KF S) (O : XOk S X) (p q : Int) (h1 : D.begv ≤ D.zv) (h2 : p < D.begv → q = D.begv) (h3 : D.zv < p → q = D.zv) (h4 : D.begv ≤ p → p ≤ D.zv → q = p) : CallB S X 2 (inCls 48 8) [.ob X.x, .fl (.int p)] D (.int q) { D with point := q } := by
  refine CallB.mk (gotL X p) ok_goto rfl O (.inl ?_)
  refine ExB.cons (StB.setb (m := gotU X D p) (i := q) (D' := { D with point := q }) O (.head _) (by kernel_rfl) (EvT.castI (EvT.min2 H.b_min (EvT.max2 H.b_max (by kwd_rel) (bInt O (by kaf_pre) (by kernel_rfl) (fun f h => h.begv) (by decide +kernel)) (by kernel_rfl)) (bInt O (by kaf_pre) (by kernel_rfl) (fun f h => h.zv) (by decide +kernel)) (by kernel_rfl)) ?_) gotFl (by decide +kernel) (fun f t h => h.setPoint _ t) (fun f h => h.same) rfl) ?_
  · split <;> split <;> omega
  exact ExB.stop (StB.ret (m := gotU X { D with point := q } p) (bInt (D := { D with point := q }) O (by kaf_pre) (by kernel_rfl) (fun f h => h.point) (by decide +kernel)))
theorem s_narrowC (H : KF S) (O : XOk S X) (a b q : Int) (hl : D.cells.length ≤ 1000) (h0 : 1 ≤ a) (h1 : a ≤ b) (h2 : b ≤ D.cells.length - D.gen + D.gst + 1) (h3 : D.point < a → q = a) (h4 : b < D.point → q = b) (h5 : a ≤ D.point → D.point ≤ b → q = D.point) : CallB S X 5 (topStmt 87) [.ob X.x, .fl (.int a), .fl (.int b)] D .none { D with begv := a, zv := b, point := q } := by
  refine CallB.mk (narL X a b) ok_narrow rfl O (.inr ⟨⟨nar2L X a b, ?_⟩, rfl⟩)
  refine ExB.cons (StB.pure (m := narU X D a b) (m' := nar2U X D a b) (L' := nar2L X a b) (StT.swap2 (p := .int a) (q := .int b) (EvT.tup2 (EvT.castI (EvT.min2 H.b_min (by kwd_rel) (by kwd_rel) (by kernel_rfl)) (by split <;> omega)) (EvT.castI (EvT.max2 H.b_max (by kwd_rel) (by kwd_rel) (by kernel_rfl)) (by split <;> omega))) (by kaf_suf) (by kaf_suf) (by kernel_rfl) (by kernel_rfl)) ?_) ?_
  · intro p hp
    simp only [List.mem_cons, List.not_mem_nil, or_false] at hp
    rcases hp with rfl | rfl | rfl | rfl | rfl <;> exact fun q => nomatch q
  refine ExB.cons (StB.ite (out := .next (nar2L X a b) D) (m := nar2U X D a b) (b := false) (TrT.bops (TrsT.consO (b := false) (TrT.icmp (by kwd_rel) (by kwd_rel) (by kwd_less)) fun _ => TrsT.consO (b := false) (TrT.icmp (by kwd_rel) (EvT.add (upMeth (EvT.loc (by kernel_rfl) (by kaf_pre) (by kernel_rfl)) O.buf.toPlainCls O.bufM.mSize (bufLook fun f h => h.size) .nil (s_bsize H O hl).up (.inl ⟨rfl, rfl⟩)) EvT.int) (by kwd_less)) fun _ => TrsT.nilO)) ExB.nil) ?_
  refine ExB.cons (StB.setPair (m := nar2U X D a b) O (.head _) (by kernel_rfl) (by kwd_rel) nar2Fl) ?_
  exact ExB.cons (StB.callM O (EvB.name (.head _) (by kernel_rfl)) O.buf.toPlainCls O.bufM.mGoto (bufLook fun f h => h.goto) (EvsB.cons (EvB.of (m := nar2U X { D with begv := a, zv := b } a b) (bInt (D := { D with begv := a, zv := b }) O (by kaf_pre) (by kernel_rfl) (fun f h => h.point) (by decide +kernel))) .nil) ((s_gotoC (D := { D with begv := a, zv := b }) H O D.point q h1 h3 h4 h5).up (n := 4)) nar2Fl (.inr ⟨_, _, rfl, fun _ => by with_unfolding_all rfl, fun _ _ => by with_unfolding_all rfl⟩)) ExB.nil
end
section
variable {S : Sg} {n : Nat} {A : Around} {env : Env} {s : Shared} {Q : Flow → Shared → Prop} {Dk l0 ml : Addr} {X : BX} {D : BS} {lo hi q : Int}
theorem st7_wp (H : KF S) (O : XOk S X) (hn : 6 ≤ n) (at_ : At S (stScope (topStmt 106)) n A env) (F : FrameAt S S.base env (hd6 Dk ml X.lc X.x lo hi) s.heap) (B : BWAt X D s.heap) (hX : env.locals ∉ X.all)
    (hl : D.cells.length ≤ 1000) (h0 : 1 ≤ lo) (h1 : lo ≤ hi) (h2 : hi ≤ D.cells.length - D.gen + D.gst + 1) (h3 : D.point < lo → q = lo) (h4 : hi < D.point → q = hi) (h5 : lo ≤ D.point → D.point ≤ hi → q = D.point)
    (kk : ∀ s', ChgB X none s s' → FrameAt S S.base env (hd6 Dk ml X.lc X.x lo hi) s'.heap → BWAt X { D with begv := lo, zv := hi, point := q } s'.heap → Q .next s') :
    wpAny (model S.prog S.w) A (exec ((stBody (topStmt 106)).getD 7 (.Pass default)) env) Q NoE s := by
  obtain ⟨g, hname, fn⟩ := H.f_narrow
  refine wpAny_Expr_any (Call_ (EvT.glob (m := hd6 Dk ml X.lc X.x lo hi) hname (by kernel_rfl) (by kernel_rfl) A S.base env s _ at_ F fun v s₁ e₁ r₁ => ?_) (by with_unfolding_all rfl)) (by unfold interactive; rw [at_.fn]; rfl) (by with_unfolding_all rfl)
  cases r₁
  have F₁ := F.keeps e₁.keep
  refine callWith_K (K := S.K) at_.ok.k fn.keep (spliced_more (EvT.loc (m := hd6 Dk ml X.lc X.x lo hi) (pv := .r (.ref X.x)) (by kernel_rfl) (by kaf_pre) (by kernel_rfl) A S.base env s₁ _ at_ F₁ fun u s₂ e₂ r₂ => ?_) (by with_unfolding_all rfl)) (by with_unfolding_all rfl) (by with_unfolding_all rfl)
  have : u = .ref X.x := r₂
  subst this
  have F₂ := F₁.keeps e₂.keep
  refine spliced_more (EvT.cel (m := hd6 Dk ml X.lc X.x lo hi) (pv := it lo) (by kernel_rfl) (by kaf_pre) (by kernel_rfl) A S.base env s₂ _ at_ F₂ fun u s₃ e₃ r₃ => ?_) (by with_unfolding_all rfl)
  have F₃ := F₂.keeps e₃.keep
  refine spliced_more (EvT.cel (m := hd6 Dk ml X.lc X.x lo hi) (pv := it hi) (by kernel_rfl) (by kaf_pre) (by kernel_rfl) A S.base env s₃ _ at_ F₃ fun w s₄ e₄ r₄ => spliced_none ?_) (by with_unfolding_all rfl)
  have F₄ := F₃.keeps e₄.keep
  have e04 := ((e₁.trans e₂).trans e₃).trans e₄
  have B₄ := B.keeps e04.keep
  refine ⟨(F₄.on at_.ok).x, wpAny_call (s_narrowC H O lo hi q hl h0 h1 h2 h3 h4 h5 A s₄ g _ _ (at_.room.le (Nat.le_trans (by decide) hn)) (F₄.on at_.ok) fn (by rfl) (fun i v k ev ek => ?_) B₄ fun v s₅ c₅ _ B₅ => ?_)⟩
  · match i with
    | 0 => simp at ev ek; subst ev; subst ek; rfl
    | 1 => simp at ev ek; subst ev; subst ek; exact r₃.keeps e₄.keep
    | 2 => simp at ev ek; subst ev; subst ek; exact r₄
    | i + 3 => simp at ev
  · exact kk s₅ (e04.chg.trans c₅) (F₄.chgB (D := D) (D' := { D with begv := lo, zv := hi, point := q }) B₄ c₅ hX O.base hd6_flat) B₅
end
section
variable {S : Sg} {n : Nat} {sc : Scope} {m : Loc}
theorem swap2r_at {A : Around} {h₀ : Heap} {env : Env} {s : Shared} {Q : Flow → Shared → Prop} {x y : Str} {px py tp pos : Pos} {k' : Nat} {e : PySem.Expr} {m₁ m₂ : Addr → Addr → Loc} (at_ : At S sc n A env)
    (h : wpAny (model S.prog S.w) A (eval e env) (fun v s₁ => ∃ a b, v = .ref s₁.heap.objs.size.pred ∧ s₁.heap.get? s₁.heap.objs.size.pred = some { cls := .type "tuple", dict := none, data := .seq [Value.ref a, Value.ref b].toArray 0, slots := #[] } ∧ FrameAt S h₀ env m s₁.heap ∧ ∀ s', SExt env.locals s₁ s' → FrameAt S h₀ env (m₂ a b) s'.heap → Q .next s') NoE s)
    (t₂ : ∀ a b, SetAt m y (.r (.ref b)) (m₁ a b)) (t₁ : ∀ a b, SetAt (m₁ a b) x (.r (.ref a)) (m₂ a b))
    (hx : sc.names.lookup x = some .local) (hy : sc.names.lookup y = some .local)
    (hs : ∀ env, swapsWithSole [.Tuple [.Name x px, .Name y py] k' tp] e pos.line env = pure false := by intro _; with_unfolding_all rfl)
    (hw : ∀ env : Env, env.scope = sc → swappedStores [.Tuple [.Name x px, .Name y py] k' tp] e env = pure (some [x, y]) := by intro env h; obtain ⟨a, b, c, d, e, f, g, h, i⟩ := env; dsimp only at h; subst h; with_unfolding_all rfl) :
    wpAny (model S.prog S.w) A (exec (.Assign [.Tuple [.Name x px, .Name y py] k' tp] e pos) env) Q NoE s := by
  refine Assign_Tuple_swapped (wpAny_mono h (fun v s₁ h₁ => ?_) fun _ _ x => x) (hs _) (hw _ at_.sc)
  obtain ⟨a, b, rfl, ho, F, kk⟩ := h₁
  have hsz : 2 = ([Value.ref a, Value.ref b].toArray).size := rfl
  show wpAny _ A (unpackItems _ 2 Option.none) _ _ _
  rw [hsz]
  refine unpackItems_tuple at_.room.2.2 ⟨_, ho, rfl, _, rfl⟩ fun h' he => ?_
  have k₁ : ∀ b o, s₁.heap.get? b = some o → h'.get? b = some o := fun b o e => he b o (Nat.ne_of_lt (Heap.lt_size e)) e
  have F₁ := F.keeps k₁
  refine assignInOrder_cons (bindName_ ?_)
  obtain ⟨mv, f₁, r₁⟩ := F₁.fr
  refine wpAny_storeName_local (at_.of hy) f₁.ns (fun h₂ hn₂ hs₂ => ?_) (at_.plain _ _)
  have F₂ := F₁.store (v := .ref b) (pv := .r (.ref b)) rfl (at_.of hy) f₁ r₁ hn₂ hs₂ (t₂ a b)
  refine assignInOrder_cons (bindName_ ?_)
  obtain ⟨mv₂, f₂, r₂⟩ := F₂.fr
  refine wpAny_storeName_local (at_.of hx) f₂.ns (fun h₃ hn₃ hs₃ => ?_) (at_.plain _ _)
  have F₃ := F₂.store (v := .ref a) (pv := .r (.ref a)) rfl (at_.of hx) f₂ r₂ hn₃ hs₃ (t₁ a b)
  exact assignInOrder_nil (kk _ ⟨fun b o nb e => (hs₃.2 b nb).trans ((hs₂.2 b nb).trans (k₁ b o e)), rfl, rfl⟩ F₃)
end
theorem part_ok {n : Nat} {lo hi : Int} (h0 : 1 ≤ lo) (h1 : lo ≤ hi) (h2 : hi ≤ n + 1) : 0 ≤ lo - 1 ∧ lo - 1 ≤ n ∧ 0 ≤ hi - 1 ∧ hi - 1 ≤ n ∧ (hi - 1).toNat - (lo - 1).toNat = (hi - lo).toNat := by omega
noncomputable abbrev partL (cs : List Int) (lo hi : Int) : List Int := (cs.drop (lo - 1).toNat).take (hi - lo).toNat
section
variable {S : Sg} {n : Nat} {A : Around} {env : Env} {s : Shared} {Q : Flow → Shared → Prop} {Dk l0 ml lc x Cr : Addr} {cs : List Int} {lo hi : Int}
noncomputable abbrev hd7 (Dk ml lc x xa xf : Addr) (lo hi : Int) : Loc := [("high", it hi), ("low", it lo), ("menu", .r (.ref ml)), ("deck", .r (.ref Dk)), ("signs", .r (.ref lc)), ("own_buffer", .r (.ref x)), ("first", .r (.ref xf)), ("alone", .r (.ref xa))]
theorem part_len {cs : List Int} {lo hi : Int} (h0 : 1 ≤ lo) (h2 : hi ≤ cs.length + 1) : (partL cs lo hi).length = (hi - lo).toNat := by
  rw [List.length_take, List.length_drop]
  exact Nat.min_eq_left (by omega)
theorem ev_part (H : KF S) (h0 : 1 ≤ lo) (h1 : lo ≤ hi) (h2 : hi ≤ cs.length + 1) (hl : cs.length ≤ 100) (at_ : At S (stScope (topStmt 106)) n A env) (F : FrameAt S S.base env (hd6 Dk ml lc x lo hi) s.heap) (la : LstAt s.heap lc cs) {p1 p2 p3 p4 p5 p6 p7 p8 p9 : Pos} {c1 c2 : Nat} :
    EvAt S A env s (.Subscript (.Name "signs" p1) (.Slice (some (.BinOp (.Name "low" p2) .Sub (.Constant (.int 1) c1 p3) p4)) (some (.BinOp (.Name "high" p5) .Sub (.Constant (.int 1) c2 p6) p7)) Option.none p8) p9) (.list ((partL cs lo hi).map .int)) := by
  refine ev_signs (cs := cs) (m := hd6 Dk ml lc x lo hi) ?_ (fun p hp => ?_) at_ F (by kaf_pre) la
  · refine EvT.castD (EvT.slice (EvT.loc (by kernel_rfl) (.head _) (by decide +kernel)) (EvT.sub (EvT.cel (by kernel_rfl) (by kaf_pre) (by kernel_rfl)) EvT.int) (EvT.sub (EvT.cel (by kernel_rfl) (by kaf_pre) (by kernel_rfl)) EvT.int) (by simp; omega)) ?_
    rw [List.length_map, kms_lo_in (part_ok h0 h1 h2).1 (part_ok h0 h1 h2).2.1, kms_hi_in (part_ok h0 h1 h2).2.2.1 (part_ok h0 h1 h2).2.2.2.1, (part_ok h0 h1 h2).2.2.2.2, List.map_take, List.map_drop]
  · simp only [List.mem_cons, List.not_mem_nil, or_false] at hp
    rcases hp with rfl | rfl | rfl | rfl | rfl | rfl <;> exact trivial
set_option maxHeartbeats 4000000 in
theorem st8_wp (H : KF S) (KR : RowMk S Cr) (hname : nsIn S.K mainGlobals "TextRow" = some (some (.ref Cr))) (hn : 4 ≤ n) (at_ : At S (stScope (topStmt 106)) n A env) (F : FrameAt S S.base env (hd6 Dk ml lc x lo hi) s.heap) (hlc : LstAt s.heap lc cs) (hl : cs.length ≤ 100)
    (h0 : 1 ≤ lo) (h1 : lo ≤ hi) (h2 : hi ≤ cs.length + 1)
    (kk : ∀ xa da la xf df lf s', s.heap.get? xa = none → s.heap.get? da = none → s.heap.get? xf = none → s.heap.get? df = none → env.locals ≠ xa → env.locals ≠ da → env.locals ≠ la → env.locals ≠ xf → env.locals ≠ df → env.locals ≠ lf → (∀ b o, b ≠ env.locals → s.heap.get? b = some o → s'.heap.get? b = some o) → s'.gens = s.gens → s'.os = s.os →
      RowIn S s'.heap xa da la Cr lo (partL cs lo hi) → RowIn S s'.heap xf df lf Cr 1 (partL cs lo hi) → FrameAt S S.base env (hd7 Dk ml lc x xa xf lo hi) s'.heap → Q .next s') :
    wpAny (model S.prog S.w) A (exec ((stBody (topStmt 106)).getD 8 (.Pass default)) env) Q NoE s := by
  have hpl : (partL cs lo hi).length ≤ 1000 := by rw [part_len h0 h2]; clear F hlc kk at_ H KR hname; omega
  refine swap2r_at (m := hd6 Dk ml lc x lo hi) (m₁ := fun a b => [("high", it hi), ("low", it lo), ("menu", .r (.ref ml)), ("deck", .r (.ref Dk)), ("signs", .r (.ref lc)), ("own_buffer", .r (.ref x)), ("first", .r (.ref b))]) (m₂ := fun a b => hd7 Dk ml lc x a b lo hi) (h₀ := S.base) at_ ?_ (fun a b => by kaf_suf) (fun a b => by kaf_suf) (by kernel_rfl) (by kernel_rfl)
  refine Tuple_ (spliced_more (Call_ (EvT.glob (m := hd6 Dk ml lc x lo hi) hname (by kernel_rfl) (by kernel_rfl) A S.base env s _ at_ F fun v s₁ e₁ r₁ => ?_) (by with_unfolding_all rfl)) (by with_unfolding_all rfl))
  cases r₁
  have F₁ := F.keeps e₁.keep
  refine callWith_K (K := S.K) at_.ok.k KR.keep (spliced_more (ev_part H h0 h1 h2 hl at_ F₁ (hlc.on fun o z => e₁.keep _ o z) _ fun u s₂ e₂ r₂ => ?_) (by with_unfolding_all rfl)) (by with_unfolding_all rfl) (by with_unfolding_all rfl)
  have F₂ := F₁.keeps e₂.keep
  refine spliced_more (EvT.cel (m := hd6 Dk ml lc x lo hi) (pv := it lo) (by kernel_rfl) (by kaf_pre) (by kernel_rfl) A S.base env s₂ _ at_ F₂ fun w s₃ e₃ r₃ => spliced_none ?_) (by with_unfolding_all rfl)
  have F₃ := F₂.keeps e₃.keep
  obtain ⟨t3, rfl⟩ := rd_int r₃
  have r₂' := Rd.mono (seqKept_of e₃.keep) r₂
  refine ⟨(F₃.on at_.ok).x, wpAny_call (make_row (p := lo) H KR (at_.room.le (Nat.le_trans (by decide) hn)) (F₃.on at_.ok) hpl r₂' (.inl ⟨t3, rfl⟩) fun xa da la s₄ e₄ na nda Ra => ?_)⟩
  have F₄ := F₃.keeps e₄.keep
  have e04 := ((e₁.trans e₂).trans e₃).trans e₄
  refine spliced_more (Call_ (EvT.glob (m := hd6 Dk ml lc x lo hi) hname (by kernel_rfl) (by kernel_rfl) A S.base env s₄ _ at_ F₄ fun v s₅ e₅ r₅ => ?_) (by with_unfolding_all rfl)) (by with_unfolding_all rfl)
  cases r₅
  have F₅ := F₄.keeps e₅.keep
  refine callWith_K (K := S.K) at_.ok.k KR.keep (spliced_more (ev_part H h0 h1 h2 hl at_ F₅ (hlc.on fun o z => (e04.trans e₅).keep _ o z) _ fun u s₆ e₆ r₆ => spliced_none ?_) (by with_unfolding_all rfl)) (by with_unfolding_all rfl) (by with_unfolding_all rfl)
  have F₆ := F₅.keeps e₆.keep
  refine ⟨(F₆.on at_.ok).x, wpAny_call (make_row (p := 1) H KR (at_.room.le (Nat.le_trans (by decide) hn)) (F₆.on at_.ok) hpl r₆ (.inr ⟨rfl, rfl⟩) fun xf df lf s₇ e₇ nf ndf Rf => ?_)⟩
  have F₇ := F₆.keeps e₇.keep
  have e47 := (e₅.trans e₆).trans e₇
  have e07 := e04.trans e47
  refine spliced_none (newSeq (by simp) ⟨xa, xf, ?_, ?_, F₇.keeps fun b o z => Heap.get?_push_of_some _ z, fun s₈ x₈ F₈ => ?_⟩)
  · rw [Heap.size_push]; rfl
  · rw [Heap.size_push]
    exact Heap.get?_push_size _ rfl
  obtain ⟨oL, esL, epL, zL, dL⟩ := F.locals
  have k8 : ∀ b o, b ≠ env.locals → s₇.heap.get? b = some o → s₈.heap.get? b = some o := fun b o n z => x₈.keep b o n (Heap.get?_push_of_some _ z)
  have nn : ∀ a (h : Heap), (∀ b o, s.heap.get? b = some o → h.get? b = some o) → h.get? a = none → s.heap.get? a = none := fun a h k z => by
    cases q : s.heap.get? a with
    | none => rfl
    | some o => rw [k a o q] at z; cases z
  have xa0 := nn xa _ ((e₁.trans e₂).trans e₃).keep na
  have da0 := nn da _ ((e₁.trans e₂).trans e₃).keep nda
  have xf0 := nn xf _ ((e04.trans e₅).trans e₆).keep nf
  have df0 := nn df _ ((e04.trans e₅).trans e₆).keep ndf
  have nl : ∀ a, s.heap.get? a = none → env.locals ≠ a := fun a z q => by rw [← q, zL] at z; cases z
  have ll : ∀ {l : Addr} {xs : List Int} {h : Heap}, (∀ b o, s.heap.get? b = some o → h.get? b = some o) → LstAt h l xs → env.locals ≠ l := fun k ⟨vs, n, z, _⟩ q => by
    rw [← q, k _ _ zL] at z
    cases z
    cases dL
  have la0 := ll e04.keep Ra.lst
  have lf0 := ll e07.keep Rf.lst
  exact kk xa da la xf df lf s₈ xa0 da0 xf0 df0 (nl _ xa0) (nl _ da0) la0 (nl _ xf0) (nl _ df0) lf0 (fun b o n z => k8 b o n (e07.keep b o z)) (x₈.gens.trans e07.gens) (x₈.os.trans e07.os)
    ((Ra.on (fun o z => e47.keep _ o z) (fun o z => e47.keep _ o z) (fun o z => e47.keep _ o z)).on (fun o z => k8 _ o (nl _ xa0).symm z) (fun o z => k8 _ o (nl _ da0).symm z) fun o z => k8 _ o la0.symm z)
    (Rf.on (fun o z => k8 _ o (nl _ xf0).symm z) (fun o z => k8 _ o (nl _ df0).symm z) fun o z => k8 _ o lf0.symm z) F₈
end
structure LawK (S : Sg) (Cb Cg Cm Cr Cl fi : Addr) : Prop where
  H : KF S
  K2 : KF2 S
  LK : LispK S Cl
  KB : BufMk S Cb Cg Cm
  KR : RowMk S Cr
  ins : FnAtD S (topStmt 85) fi #[.bool false]
  nb : nsIn S.K mainGlobals "Buffer" = some (some (.ref Cb))
  ni : nsIn S.K mainGlobals "insert" = some (some (.ref fi))
  nr : nsIn S.K mainGlobals "TextRow" = some (some (.ref Cr))
  bufM : BufMore S Cb
  gapM : GapMore S Cg
  markM : MarkMore S Cm
  buf : BufCls S Cb
  bset : SetCls S Cb ["begv", "zv", "point", "ticks", "codes_ticks"]
  gap : GapCls S Cg
  gset : SetCls S Cg ["gap_start", "gap_end"]
  sys : ∃ o, S.base.get? sysModules = some o
theorem IsCell.there {h : Heap} {c : Addr} {v : Option Value} (hv : h.IsCell c v) : ∃ o, h.get? c = some o := let ⟨o, z, _⟩ := hv; ⟨o, z⟩
theorem DeckAt.there {Dk l0 : Addr} {ds : List Int} {k : Nat} {h : Heap} (d : DeckAt Dk l0 ds k h) : (∃ o, h.get? Dk = some o) ∧ ∃ o, h.get? l0 = some o := by
  obtain ⟨⟨t, n, e⟩, ⟨vs, m, e', _⟩, _⟩ := d
  exact ⟨⟨_, e⟩, ⟨_, e'⟩⟩
theorem ne_there {h : Heap} {a b : Addr} (z : h.get? a = none) (y : ∃ o, h.get? b = some o) : b ≠ a := fun q => by
  obtain ⟨o, y⟩ := y
  rw [q, z] at y
  cases y
theorem law_list : stBody (topStmt 106) = [(stBody (topStmt 106)).getD 0 (.Pass default), (stBody (topStmt 106)).getD 1 (.Pass default), (stBody (topStmt 106)).getD 2 (.Pass default), (stBody (topStmt 106)).getD 3 (.Pass default), (stBody (topStmt 106)).getD 4 (.Pass default), (stBody (topStmt 106)).getD 5 (.Pass default),
  (stBody (topStmt 106)).getD 6 (.Pass default), (stBody (topStmt 106)).getD 7 (.Pass default), (stBody (topStmt 106)).getD 8 (.Pass default), (stBody (topStmt 106)).getD 9 (.Pass default), (stBody (topStmt 106)).getD 10 (.Pass default)] := by kernel_rfl
structure CellsL (env : Env) (h : Heap) (cd cm cl ch : Addr) : Prop where
  l1 : env.cells.lookup ("deck" : Str) = some cd
  l2 : env.cells.lookup ("menu" : Str) = some cm
  l3 : env.cells.lookup ("low" : Str) = some cl
  l4 : env.cells.lookup ("high" : Str) = some ch
  only : ∀ x : Str, x ∉ (["deck", "menu", "low", "high"] : List Str) → env.cells.lookup x = none
  h1 : h.IsCell cd none
  h2 : h.IsCell cm none
  h3 : h.IsCell cl none
  h4 : h.IsCell ch none
  ne : [cd, cm, cl, ch].Nodup
section
variable {S : Sg} {Cb Cg Cm Cr Cl fi cd cm cl ch : Addr} {n : Nat} {A : Around} {env : Env} {s : Shared} {ws : List Int}
set_option maxHeartbeats 4000000 in
theorem law_body (K : LawK S Cb Cg Cm Cr Cl fi) {Q : Flow → Shared → Prop} (hn : 12 ≤ n) (at_ : At S (stScope (topStmt 106)) n A env) (hfr : A.frames = some [env]) (hef : env.frame = some env.locals) (hw : ws.length ≤ 1000)
    (F : FrameAt S S.base env (scrM ws) s.heap) (C : CellsL env s.heap cd cm cl ch) (hb : ∀ c ∈ [cd, cm, cl, ch], S.base.get? c = none)
    (kk : ∀ s', s'.gens = s.gens → s'.os = s.os → (∀ b o, S.base.get? b = some o → s'.heap.get? b = some o) → Q (.ret (.bool true)) s') : wpAny (model S.prog S.w) A (execs (stBody (topStmt 106)) env) Q NoE s := by
  have H := K.H
  have le : ∀ {k : Nat}, k ≤ 12 → k ≤ n := fun h => Nat.le_trans h hn
  have b1 := hb cd (by simp)
  have b2 := hb cm (by simp)
  have b3 := hb cl (by simp)
  have b4 := hb ch (by simp)
  have nd := C.ne
  simp only [List.nodup_cons, List.mem_cons, List.not_mem_nil, or_false, not_or] at nd
  obtain ⟨⟨n12, n13, n14⟩, ⟨n23, n24⟩, n34, _⟩ := nd
  have notC : ∀ (x : Str) (c : Addr), x ∉ (["deck", "menu", "low", "high"] : List Str) → env.cells.lookup x ≠ some c := fun x c h q => by rw [C.only x h] at q; cases q
  have cellNeL : ∀ {h : Heap} {c : Addr} {v : Option Value} {m : Loc}, FrameAt S S.base env m h → h.IsCell c v → c ≠ env.locals := fun F ⟨oc, z, d⟩ q => by
    obtain ⟨o, es, ep, z', d'⟩ := F.locals
    rw [← q, z] at z'; cases z'
    rw [d] at d'; cases d'
  have dl : (absL ws).length ≤ 100 := by simp only [absL, List.length_map, List.length_take]; omega
  rw [law_list]
  refine wpAny_execs_cons (st0_wp H hw at_ F C.l1 C.h1 b1 (notC _ _ (by decide +kernel)) fun Dk l0 s1 k1 g1 o1 bD fD F1 d1 => ?_)
  have c2 := IsCell.keeps C.h2 fun o z => k1 _ o (Ne.symm n12) z
  have c3 := IsCell.keeps C.h3 fun o z => k1 _ o (Ne.symm n13) z
  have c4 := IsCell.keeps C.h4 fun o z => k1 _ o (Ne.symm n14) z
  refine wpAny_execs_cons (st1_wp at_ F1 C.l2 c2 b2 (fun p hp => ?_) fun ml s2 k2 g2 o2 F2 lm => ?_)
  · simp only [List.mem_cons, List.not_mem_nil, or_false] at hp
    rcases hp with rfl | rfl
    · intro q; rw [C.l1] at q; exact n12 (Option.some.inj q)
    · exact notC "script" _ (by decide +kernel)
  have c3' := IsCell.keeps c3 fun o z => k2 _ o (Ne.symm n23) z
  have c4' := IsCell.keeps c4 fun o z => k2 _ o (Ne.symm n24) z
  have d2 := d1.but c2 k2
  have F2' : FrameAt S S.base env (hd2 Dk ml) s2.heap := F2.drop fun p hp => by
    simp only [List.mem_cons, List.not_mem_nil, or_false] at hp ⊢
    rcases hp with rfl | rfl <;> simp
  refine wpAny_execs_cons (st2_wp H (le (by decide)) at_ F2' dl bD (lst_ne_deck d2 lm) lm d2 fun lc s3 fl k3 g3 o3 F3 d3 la => ?_)
  have cNe : ∀ {h : Heap} {c : Addr} {v : Option Value}, DeckAt Dk l0 (absL ws) 0 h → h.IsCell c v → c ≠ Dk := fun d ⟨oc, z, dd⟩ q => d.notCell oc (q ▸ z) _ dd
  have c3s := IsCell.keeps c3' fun o z => k3 _ o (cellNeL F2' c3') (cNe d2 c3') z
  have c4s := IsCell.keeps c4' fun o z => k3 _ o (cellNeL F2' c4') (cNe d2 c4') z
  refine wpAny_execs_cons (st3_wp H K.KB K.nb (le (by decide)) at_ F3 la fun X s4 x1 x2 x3 x4 x5 fr nd k4 g4 o4 F4 B4 hX => ?_)
  have frb : ∀ a ∈ [X.x, X.dx, X.g, X.dg, X.l, X.ma, X.dma, X.rd, X.ls], S.base.get? a = none := fun a ha => by
    cases z : S.base.get? a with
    | none => rfl
    | some o => have := fr a ha; rw [F3.old a o z] at this; cases this
  have inX : ∀ {a : Addr}, a ∈ X.all → a ∈ [X.x, X.dx, X.g, X.dg, X.l, X.ma, X.dma, X.rd, X.ls] ∨ a = X.lc := fun {a} hm => by
    rcases List.mem_append.mp (show a ∈ [X.x, X.dx, X.g, X.dg, X.l, X.ma, X.dma, X.rd, X.ls] ++ [X.lc] from hm) with q | q
    · exact .inl q
    · exact .inr (List.mem_singleton.mp q)
  have O : XOk S X := by
    refine ⟨x1 ▸ K.bufM, x2 ▸ K.gapM, x3 ▸ K.markM, ?_, x1 ▸ K.buf, x1 ▸ K.bset, x2 ▸ K.gap, x2 ▸ K.gset, fun a ha => ?_, nd⟩
    · obtain ⟨o, z⟩ := K.sys
      refine beq_eq_false_iff_ne.mpr fun q => ?_
      have := frb X.rd (by simp)
      rw [q, z] at this
      cases this
    · rcases inX ha with q | q
      · exact frb a q
      · cases z : S.base.get? a with
        | none => rfl
        | some o => rw [q, x4] at z; rw [F2'.old _ o z] at fl; cases fl
  have notX : ∀ {c : Addr}, (∃ o, s3.heap.get? c = some o) → c ≠ X.lc → c ∉ X.all := fun y ne hm => by
    rcases inX hm with q | q
    · exact ne_there (fr _ q) y rfl
    · exact ne q
  have Dx : Dk ∉ X.all := notX d3.there.1 (fun q => ne_there fl d2.there.1 (q.trans x4))
  have l0x : l0 ∉ X.all := notX d3.there.2 (fun q => ne_there fl d2.there.2 (q.trans x4))
  have clx : cl ∉ X.all := notX (IsCell.there c3s) (fun q => ne_there fl (IsCell.there c3') (q.trans x4))
  have chx : ch ∉ X.all := notX (IsCell.there c4s) (fun q => ne_there fl (IsCell.there c4') (q.trans x4))
  have lenv : ∀ {l : Addr} {xs : List Int} {h : Heap} {m : Loc}, FrameAt S S.base env m h → LstAt h l xs → l ≠ env.locals := fun F ⟨vs, nn, z, _⟩ q => by
    obtain ⟨o, es, ep, z', d'⟩ := F.locals
    rw [← q, z] at z'; cases z'; cases d'
  have denv : ∀ {h : Heap} {m : Loc} {k : Nat}, FrameAt S S.base env m h → DeckAt Dk l0 (absL ws) k h → Dk ≠ env.locals := fun F d q => by
    obtain ⟨o, es, ep, z', d'⟩ := F.locals
    obtain ⟨t, nn, e⟩ := d.deck
    rw [← q, e] at z'; cases z'; cases d'
  have d4 := d3.on (fun o z => k4 _ o (denv F3 d3) z) fun o z => k4 _ o (lenv F3 d3.cells) z
  have c3f := IsCell.keeps c3s fun o z => k4 _ o (cellNeL F3 c3s) z
  have c4f := IsCell.keeps c4s fun o z => k4 _ o (cellNeL F3 c4s) z
  obtain ⟨i1, i2, i3, i4, i5, i6, i7, i8, i9, i10⟩ := in_all (X := X)
  have kX : ∀ {s s' : Shared}, ChgB X none s s' → ∀ b o, b ∉ X.all → s.heap.get? b = some o → s'.heap.get? b = some o := fun c b o n z => c.keep b o (fun q => nomatch q) (fun q => n (q ▸ i2)) (fun q => n (q ▸ i4)) (fun q => n (q ▸ i5)) z
  have r0 := drawV_range (absL ws) 0 (many := 17) (by decide)
  have hK16 : drawnN (absL ws) ≤ 16 := by unfold drawnN; omega
  have hcs : X.cs.length = drawnN (absL ws) := by rw [x5]; simp [drawnL]
  have F4' : FrameAt S S.base env (hd4 Dk ml X.lc X.x) s4.heap := by rw [x4]; exact F4
  refine wpAny_execs_cons (st4_wp H K.K2 O K.ni K.ins (le (by decide)) (by omega) at_ F4' B4 hX fun s5 h5 F5 B5 => ?_)
  have d5 := d4.on (fun o z => kX h5 _ o Dx z) fun o z => kX h5 _ o l0x z
  have c3g := IsCell.keeps c3f fun o z => kX h5 _ o clx z
  have c4g := IsCell.keeps c4f fun o z => kX h5 _ o chx z
  have PD := putD_ok (X := X) (by omega)
  obtain ⟨cs, hcse⟩ : ∃ cs, cs = X.cs := ⟨_, rfl⟩
  have B5c : LstAt s5.heap X.lc cs := hcse ▸ B5.codes
  have hlen : cs.length ≤ 16 := by rw [hcse]; omega
  refine wpAny_execs_cons (st5_wp (cs := cs) H (le (by decide)) at_ F5 dl (by omega) bD B5c (by omega) d5 (fun q => Dx (q ▸ i10)) C.l3 c3g b3 (fun p hp => ?_) fun s6 k6 g6 o6 F6 d6 => ?_)
  · simp only [List.mem_cons, List.not_mem_nil, or_false] at hp
    rcases hp with rfl | rfl | rfl | rfl
    · intro q; rw [C.l2] at q; exact n23 (Option.some.inj q)
    · intro q; rw [C.l1] at q; exact n13 (Option.some.inj q)
    · exact notC "signs" _ (by decide +kernel)
    · exact notC "own_buffer" _ (by decide +kernel)
  have r5 := drawV_range (absL ws) (0 + 1 + drawnN (absL ws)) (many := (cs.length : Int) + 1) (by omega)
  obtain ⟨lo, hlo⟩ : ∃ lo : Int, lo = 1 + drawV (absL ws) (0 + 1 + drawnN (absL ws)) ((cs.length : Int) + 1) := ⟨_, rfl⟩
  rw [← hlo] at F6
  have B6 := B5.on fun a ha o z => k6 a o (fun q => clx (q ▸ ha)) (fun q => Dx (q ▸ ha)) z
  have B6c : LstAt s6.heap X.lc cs := hcse ▸ B6.codes
  have c4h := IsCell.keeps c4g fun o z => k6 _ o (Ne.symm n34) (fun q => by obtain ⟨oc, z', dd⟩ := c4g; exact d5.notCell oc (q ▸ z') _ dd) z
  refine wpAny_execs_cons (st6_wp (cs := cs) H (le (by decide)) at_ F6 dl (by omega) bD B6c (by omega) d6 (by omega) C.l4 c4h b4 (fun p hp => ?_) fun s7 k7 g7 o7 F7 d7 => ?_)
  · simp only [List.mem_cons, List.not_mem_nil, or_false] at hp
    rcases hp with rfl | rfl | rfl | rfl | rfl
    · intro q; rw [C.l3] at q; exact n34 (Option.some.inj q)
    · intro q; rw [C.l2] at q; exact n24 (Option.some.inj q)
    · intro q; rw [C.l1] at q; exact n14 (Option.some.inj q)
    · exact notC "signs" _ (by decide +kernel)
    · exact notC "own_buffer" _ (by decide +kernel)
  have r6 := drawV_range (absL ws) (0 + 1 + drawnN (absL ws) + 1) (many := (cs.length : Int) + 2 - lo) (by omega)
  obtain ⟨hi, hhi⟩ : ∃ hi : Int, hi = lo + drawV (absL ws) (0 + 1 + drawnN (absL ws) + 1) ((cs.length : Int) + 2 - lo) := ⟨_, rfl⟩
  rw [← hhi] at F7
  have B7 := B6.on fun a ha o z => k7 a o (fun q => chx (q ▸ ha)) (fun q => Dx (q ▸ ha)) z
  have csz : (X.cs.length : Int) = cs.length := by rw [hcse]
  have pz := PD.size
  refine wpAny_execs_cons (st7_wp (q := if (putD X D0).point < lo then lo else if hi < (putD X D0).point then hi else (putD X D0).point) H O (le (by decide)) at_ F7 B7 hX PD.len (by omega) (by omega) (by omega) (fun h => if_pos h) (fun h => by rw [if_neg (by omega), if_pos h]) (fun h h' => by rw [if_neg (by omega), if_neg (by omega)]) fun s8 h8 F8 B8 => ?_)
  obtain ⟨pq, hpq⟩ : ∃ pq : Int, pq = (if (putD X D0).point < lo then lo else if hi < (putD X D0).point then hi else (putD X D0).point) := ⟨_, rfl⟩
  rw [← hpq] at B8
  have d8 := d7.on (fun o z => kX h8 _ o Dx z) fun o z => kX h8 _ o l0x z
  have B8c : LstAt s8.heap X.lc cs := hcse ▸ B8.codes
  refine wpAny_execs_cons (st8_wp (cs := cs) H K.KR K.nr (le (by decide)) at_ F8 B8c (by omega) (by omega) (by omega) (by omega) fun xa da la' xf df lf s9 fa fda ff fdf e1 e2 e3 e4 e5 e6 k9 g9 o9 Ra Rf F9 => ?_)
  have d9 := d8.on (fun o z => k9 _ o (denv F8 d8) z) fun o z => k9 _ o (lenv F8 d8.cells) z
  have B9 := B8.on fun a ha o z => k9 a o (fun q => hX (q ▸ ha)) z
  have pl : (partL cs lo hi).length = (hi - lo).toNat := part_len (by omega) (by omega)
  have hhl : hi = lo + (partL cs lo hi).length := by rw [pl]; omega
  have F9' : FrameAt S S.base env (lawM Dk ml X.lc X.x xa xf lo (lo + (partL cs lo hi).length)) s9.heap := by
    rw [← hhl]
    exact F9.drop fun p hp => by
      simp only [List.mem_cons, List.not_mem_nil, or_false] at hp ⊢
      rcases hp with rfl | rfl | rfl | rfl | rfl | rfl | rfl | rfl <;> simp
  have T : TurnAt S X { putD X D0 with begv := lo, zv := hi, point := pq } Dk l0 ml xa da la' xf df lf Cr (absL ws) (partL cs lo hi) lo (0 + 1 + drawnN (absL ws) + 1 + 1) env s9.heap :=
    ⟨d9, B9, Ra, Rf, ⟨(ne_there fa d8.there.1).symm, (ne_there fda d8.there.1).symm, (ne_there ff d8.there.1).symm, (ne_there fdf d8.there.1).symm⟩,
      ⟨fun hm => ne_there fa (B8.there _ hm) rfl, fun hm => ne_there fda (B8.there _ hm) rfl, fun hm => ne_there ff (B8.there _ hm) rfl, fun hm => ne_there fdf (B8.there _ hm) rfl⟩, Dx⟩
  have hL : env.locals ∉ [Dk, l0, xa, da, la', xf, df, lf] := by
    simp only [List.mem_cons, List.not_mem_nil, or_false, not_or]
    exact ⟨(denv F8 d8).symm, (lenv F8 d8.cells).symm, e1, e2, e3, e4, e5, e6⟩
  have V : VwD { putD X D0 with begv := lo, zv := hi, point := pq } lo (partL cs lo hi) := by
    refine ⟨rfl, hhl, by omega, by omega, ?_, ?_, fun i hi' => ?_⟩
    · show lo - 1 + ((partL cs lo hi).length : Int) ≤ (putD X D0).gst
      rw [PD.gst, csz]; omega
    · show (putD X D0).gst ≤ ((putD X D0).cells.length : Int)
      rw [PD.gst]; have := PD.le; omega
    · show (putD X D0).cells[(lo - 1 + i).toNat]? = _
      have t := PD.take
      have ht : (putD X D0).cells[(lo - 1 + i).toNat]? = X.cs[(lo - 1 + i).toNat]? := by
        conv => rhs; rw [← t]
        rw [List.getElem?_take, if_pos (by rw [pl] at hi'; omega)]
      rw [ht, ← hcse]
      simp only [partL]
      rw [List.getElem?_take, if_pos (by rw [pl] at hi'; exact hi'), List.getElem?_drop]
      congr 1
      omega
  refine wpAny_execs_cons (law_for H O K.LK hn at_ hfr hef hL hX dl bD (by omega) F9' T V fun p s10 g10 o10 F10 B10 => ?_)
  have F11 : FrameAt S (hideAll s10.heap [env.locals]) env [((Str.ofString "own_buffer"), sB X { { putD X D0 with begv := lo, zv := hi, point := pq } with point := p }), ((Str.ofString "signs"), PV.d (.list (X.cs.map .int)))] s10.heap := F10.lift fun q hq => by
    simp only [List.mem_cons, List.not_mem_nil, or_false] at hq
    rcases hq with rfl | rfl
    · exact ⟨.r (.ref X.x), by kaf_pre, fun v r => by cases (show v = .ref X.x from r); exact ⟨⟨rfl, hid_bwat B10 hX⟩, pat_mono⟩⟩
    · exact ⟨.r (.ref X.lc), by kaf_pre, fun v r => by cases (show v = .ref X.lc from r); exact B10.codes.rd⟩
  refine wpAny_execs_cons (st_last H O (D := { { putD X D0 with begv := lo, zv := hi, point := pq } with point := p }) ⟨PD.gst, PD.take, PD.len, PD.size, PD.le⟩ (by omega) (le (by decide)) (by kaf_pre) (by kaf_pre) A _ env s10 _ at_ F11 fun fl s11 x11 o11 => ?_)
  obtain ⟨v, rfl, rv⟩ := o11
  rw [rd_bool rv]
  refine kk s11 ?_ ?_ fun b o z => x11.keep b o (F10.apart b o z) (F10.old b o z)
  · exact x11.gens.trans (g10.trans (g9.trans (h8.gens.trans (g7.trans (g6.trans (h5.gens.trans (g4.trans (g3.trans (g2.trans g1)))))))))
  · exact x11.os.trans (o10.trans (o9.trans (h8.os.trans (o7.trans (o6.trans (h5.os.trans (o4.trans (o3.trans (o2.trans o1)))))))))
end
section
theorem ints_well {P : Params} {h : Heap} : ∀ {vs : List Value} {ws : List Int}, WellAll P h vs (ofPys (ws.map .int)) → IntsAre vs ws
  | _, [], q => by cases q; exact .nil
  | _, i :: ws, q => by
    have e : ofPys ((i :: ws).map .int) = .int i :: ofPys (ws.map .int) := rfl
    rw [e] at q
    cases q with
    | cons a b =>
      cases a
      exact .cons i _ (ints_well b)
theorem lst_well {P : Params} {h : Heap} {L : Addr} {ws : List Int} (q : Well P h (.ref L) (ofPy (.list (ws.map .int)))) : LstAt h L ws := by
  have e : ofPy (.list (ws.map .int)) = .list (ofPys (ws.map .int)) := rfl
  rw [e] at q
  cases q with
  | list a b => exact ⟨_, 0, a, ints_well b⟩
noncomputable abbrev lawFd (pm cd doc : Value) : FuncData := Calls.docDef "law" (stArgs (topStmt 106)) (stBody (topStmt 106)) (stScope (topStmt 106)) pm cd doc
theorem law_bind (pm cd doc v : Value) : bindArgs (lawFd pm cd doc) ⟨[v], []⟩ = pure [(("script" : Str), v)] := by kernel_rfl
theorem law_cells (pm cd doc : Value) (L a : Addr) : (callEnvC (lawFd pm cd doc) L a).cells = [(("high" : Str), L + 1 + 1 + 1 + 1), ("low", L + 1 + 1 + 1), ("menu", L + 1 + 1), ("deck", L + 1)] := by kernel_rfl
theorem law_local : (stScope (topStmt 106)).names.lookup ("script" : Str) = some .local := by kernel_rfl
theorem law_bindL (pm cd doc v : Value) (L a : Addr) : bindL (callEnvC (lawFd pm cd doc) L a).kindOf [(("script" : Str), v)] (fun _ => none) "script" = some v := by kernel_rfl
theorem law_bindC (pm cd doc v : Value) (L a : Addr) (x : Str) (h : x ≠ "script") : bindC (callEnvC (lawFd pm cd doc) L a).kindOf [(("script" : Str), v)] (fun _ => none) x = none :=
  bindC_out _ _ _ fun u hm => by
    cases List.mem_singleton.mp hm
    exact h rfl
theorem four_nd (n : Nat) : [n + 1, n + 1 + 1, n + 1 + 1 + 1, n + 1 + 1 + 1 + 1].Nodup := by simp
theorem four_le (n c : Nat) (h : c ∈ [n + 1, n + 1 + 1, n + 1 + 1 + 1, n + 1 + 1 + 1 + 1]) : n ≤ c := by
  simp only [List.mem_cons, List.not_mem_nil, or_false] at h
  omega
theorem none_above {h : Heap} {a : Addr} (k : h.objs.size ≤ a) : h.get? a = none := by
  cases e : h.get? a with
  | none => rfl
  | some o => exact absurd (Heap.lt_size e) (Nat.not_lt.mpr k)
set_option maxHeartbeats 4000000 in
theorem law_enter {S : Sg} {Cb Cg Cm Cr Cl fi : Addr} (ok : S.Ok) (K : LawK S Cb Cg Cm Cr Cl fi) {s : Shared} (hb : S.base = s.heap) {fa : Addr} {o : Obj} {pm cd doc : Value} (ho : s.heap.get? fa = some o) (hdd : o.data = .func (lawFd pm cd doc)) (hcd : s.heap.CodeRec cd "law")
    {L : Addr} {ws : List Int} (la : LstAt s.heap L ws) (hw : ws.length ≤ 1000) {A : Around} (room : Room 13 A) (hfr : A.frames = some []) {R : Result → Shared → Prop}
    (kk : ∀ s', s'.gens = s.gens → s'.os = s.os → (∀ b o, s.heap.get? b = some o → s'.heap.get? b = some o) → R (.ok (.ret (.bool true))) s') : codeAny (model S.prog S.w) A (.call (.ref fa) ⟨[.ref L], []⟩) R s := by
  have on : S.On s.heap := ⟨ok, fun b ob e => hb ▸ e, by rw [hb]; exact Nat.le_refl _⟩
  have q : (stScope (topStmt 106)).kind = .function := by kernel_rfl
  refine codeAny_call_cells (fd := lawFd pm cd doc) (body := stBody (topStmt 106)) (binds := [("script", .ref L)]) (by have := room.1; omega) ho hdd on.t.nolimit hcd rfl (law_bind _ _ _ _) rfl (fun x hx => ?_) (fun s₁ x => ?_) (by kernel_rfl) (by kernel_rfl) q
  · cases List.mem_singleton.mp hx
    exact .inl law_local
  have k1 := x.toInCall.keep
  have hL : (callEnvC (lawFd pm cd doc) s.heap.objs.size fa).locals = s.heap.objs.size := rfl
  have F : FrameAt S S.base (callEnvC (lawFd pm cd doc) s.heap.objs.size fa) (scrM ws) s₁.heap := by
    refine ⟨⟨_, ⟨x.toInCall.ns, fun b o e => k1 b o (on.keep b o e), Nat.le_trans on.size (Nat.le_of_eq hL.symm)⟩, fun y pv hm => ?_⟩, fun b o e => k1 b o (on.keep b o e), by rw [hL, hb]; exact size_none _⟩
    cases List.mem_singleton.mp hm
    refine ⟨.ref L, ⟨fun _ => law_bindL _ _ _ _ _ _, fun q' => ?_⟩, Rd.mono (seqKept_of k1) la.rd⟩
    have : (stScope (topStmt 106)).names.lookup ("script" : Str) = some .cell := q'
    rw [law_local] at this
    cases this
  have cs := law_cells pm cd doc s.heap.objs.size fa
  have l1 : (callEnvC (lawFd pm cd doc) s.heap.objs.size fa).cells.lookup ("deck" : Str) = some (s.heap.objs.size + 1) := by rw [cs]; kernel_rfl
  have l2 : (callEnvC (lawFd pm cd doc) s.heap.objs.size fa).cells.lookup ("menu" : Str) = some (s.heap.objs.size + 1 + 1) := by rw [cs]; kernel_rfl
  have l3 : (callEnvC (lawFd pm cd doc) s.heap.objs.size fa).cells.lookup ("low" : Str) = some (s.heap.objs.size + 1 + 1 + 1) := by rw [cs]; kernel_rfl
  have l4 : (callEnvC (lawFd pm cd doc) s.heap.objs.size fa).cells.lookup ("high" : Str) = some (s.heap.objs.size + 1 + 1 + 1 + 1) := by rw [cs]; kernel_rfl
  have cell : ∀ {y : Str} {c : Addr}, (callEnvC (lawFd pm cd doc) s.heap.objs.size fa).cells.lookup y = some c → y ≠ "script" → s₁.heap.IsCell c none := fun {y c} e ne => by
    have := x.cell y c e
    rw [law_bindC _ _ _ _ _ _ _ ne] at this
    exact this
  have C : CellsL (callEnvC (lawFd pm cd doc) s.heap.objs.size fa) s₁.heap (s.heap.objs.size + 1) (s.heap.objs.size + 1 + 1) (s.heap.objs.size + 1 + 1 + 1) (s.heap.objs.size + 1 + 1 + 1 + 1) := by
    refine ⟨l1, l2, l3, l4, fun y hy => ?_, cell l1 (by decide +kernel), cell l2 (by decide +kernel), cell l3 (by decide +kernel), cell l4 (by decide +kernel), ?_⟩
    · rw [cs]
      simp only [List.mem_cons, List.not_mem_nil, or_false, not_or] at hy
      obtain ⟨h1, h2, h3, h4⟩ := hy
      simp only [List.lookup, beq_eq_false_iff_ne.mpr h1, beq_eq_false_iff_ne.mpr h2, beq_eq_false_iff_ne.mpr h3, beq_eq_false_iff_ne.mpr h4]
    · exact four_nd _
  obtain ⟨⟨h', tk, es⟩, _, _, _⟩ := x.toInCall
  refine wpAny_mono (law_body K (n := 12) (Q := fun f s' => R (.ok (.ret (match f with | .ret v => v | _ => .none))) s') (by decide) ⟨room.deeper _, ok, q, rfl, rfl, rfl⟩ (Around.frames_deeper hfr) rfl hw F C (fun c hc => ?_) fun s' g o k => ?_) (fun _ _ x => x) (fun _ _ (x : False) => x.elim)
  · rw [hb]
    exact none_above (four_le _ _ hc)
  · exact kk s' (g.trans (by rw [es])) (o.trans (by rw [es])) (fun b ob e => k b ob (hb ▸ e))
end
section
noncomputable def gAd (K : Frag) (x : Str) : Addr := match nsIn K mainGlobals x with | some (some (.ref f)) => f | _ => 0
noncomputable def mAd (K : Frag) (C : Addr) (x : Str) : Addr := match findIn K (.ref C) x with | some (some (.ref f)) => f | _ => 0
noncomputable def kFd (K : Frag) (f : Addr) : FuncData := match (K.lookup f).map Obj.data with | some (.func d) => d | _ => default
noncomputable def kSeq (K : Frag) (a : Addr) : Array Value := match (K.lookup a).map Obj.data with | some (.seq vs _) => vs | _ => #[]
noncomputable def gTok (K : Frag) (x : Str) : Tok := match nsIn K mainGlobals x with | some (some (.int _ t)) => t | some (some (.str _ t)) => t | _ => 0
noncomputable abbrev kFn (K : Frag) (f : Addr) (st : Stmt) (dV : Value) : FuncData := fnX (kFd K f).name (kFd K f).qualname (stArgs st) (stBody st) (stScope st) [] dV .none (kFd K f).doc (kFd K f).pyModule (kFd K f).annotations (kFd K f).code (kFd K f).closureTuple
noncomputable def kOk (K : Frag) (f : Addr) : Bool := codeIn K (kFd K f).code (kFd K f).qualname && (keepIn K (.ref f) && isFn K (.ref f))
variable {S : Sg}
theorem fnAt_of {st : Stmt} {f : Addr} (h1 : (S.K.lookup f).map Obj.data = some (.func (kFn S.K f st .none))) (h2 : kOk S.K f = true) : FnAt S st f := by
  obtain ⟨o, e1, e2⟩ := Option.map_eq_some_iff.mp h1
  obtain ⟨a, b⟩ := Bool.and_eq_true_iff.mp h2
  obtain ⟨b, c⟩ := Bool.and_eq_true_iff.mp b
  exact ⟨⟨o, _, _, _, _, _, _, _, e1, e2, a⟩, b, c⟩
theorem fnAtD_of {st : Stmt} {f T : Addr} {dv : Array Value} {n : Nat} (h1 : (S.K.lookup f).map Obj.data = some (.func (kFn S.K f st (.ref T)))) (h2 : kOk S.K f = true) (h3 : (S.K.lookup T).map Obj.data = some (.seq dv n)) : FnAtD S st f dv := by
  obtain ⟨o, e1, e2⟩ := Option.map_eq_some_iff.mp h1
  obtain ⟨oT, e3, e4⟩ := Option.map_eq_some_iff.mp h3
  obtain ⟨a, b⟩ := Bool.and_eq_true_iff.mp h2
  obtain ⟨b, c⟩ := Bool.and_eq_true_iff.mp b
  exact ⟨⟨o, _, _, _, _, _, _, _, T, oT, n, e1, e2, e3, e4, a⟩, b, c⟩
theorem gfn_of {x : Str} {st : Stmt} (h0 : nsIn S.K mainGlobals x = some (some (.ref (gAd S.K x)))) (h1 : (S.K.lookup (gAd S.K x)).map Obj.data = some (.func (kFn S.K (gAd S.K x) st .none))) (h2 : kOk S.K (gAd S.K x) = true) : GFn S x st := ⟨_, h0, fnAt_of h1 h2⟩
theorem meth_of {C : Addr} {x : Str} {st : Stmt} (h0 : findIn S.K (.ref C) x = some (some (.ref (mAd S.K C x)))) (h1 : (S.K.lookup (mAd S.K C x)).map Obj.data = some (.func (kFn S.K (mAd S.K C x) st .none))) (h2 : kOk S.K (mAd S.K C x) = true) : MethAt S C x st := ⟨_, h0, fnAt_of h1 h2⟩
theorem gint_of {x : Str} {i : Int} (h : nsIn S.K mainGlobals x = some (some (.int i (gTok S.K x)))) : GInt S x i := ⟨_, h⟩
theorem gstr_of {x y : Str} (h : nsIn S.K mainGlobals x = some (some (.str y (gTok S.K x)))) : GStr S x y := ⟨_, h⟩
noncomputable def intOf : Value → Option Int
  | .int i _ => some i
  | _ => none
theorem rdAll_ints {h : Heap} : ∀ {vs : List Value} {ns : List Int}, vs.map intOf = ns.map some → RdAll h vs (ns.map .int)
  | [], [], _ => .nil
  | [], _ :: _, e => nomatch e
  | _ :: _, [], e => nomatch e
  | v :: vs, n :: ns, e => by
    obtain ⟨e1, e2⟩ := List.cons.inj e
    refine .cons ?_ (rdAll_ints e2)
    cases v <;> first | (cases e1; exact .int _ _) | cases e1
theorem gtup_of {x : Str} {ns : List Int} {n : Nat} (h0 : nsIn S.K mainGlobals x = some (some (.ref (gAd S.K x)))) (h1 : S.K.lookup (gAd S.K x) = some { cls := .type "tuple", dict := none, data := .seq (kSeq S.K (gAd S.K x)) n, slots := #[] })
    (h2 : (kSeq S.K (gAd S.K x)).toList.map intOf = ns.map some) : GTup S x ns := by
  refine ⟨_, h0, fun h i => ?_⟩
  have q := rdAll_ints (h := h) h2
  exact .tuple (i _ _ h1) q.1 q.2
end
noncomputable abbrev mkS (w : World) (mg mb : Str → Option Value) (base : Heap) : Sg := ⟨PW, qV, w, hdK w.params, looseW qV looseV, mg, mb, base⟩
section
variable {w : World} {mg mb : Str → Option Value} {base : Heap}
set_option maxHeartbeats 4000000 in
theorem kf_ok : KF (mkS w mg mb base) where
  b_len := by kernel_rfl
  b_max := by kernel_rfl
  b_min := by kernel_rfl
  b_abs := by kernel_rfl
  b_int := by kernel_rfl
  b_range := by kernel_rfl
  b_list := by kernel_rfl
  c_NEWLINE := gint_of (by kernel_rfl)
  c_SPACE := gint_of (by kernel_rfl)
  c_TAB := gint_of (by kernel_rfl)
  c_FORM_FEED := gint_of (by kernel_rfl)
  c_DELETE := gint_of (by kernel_rfl)
  c_LONGEST := gint_of (by kernel_rfl)
  c_AT_BEGIN := gstr_of (by kernel_rfl)
  c_AT_END := gstr_of (by kernel_rfl)
  c_BLANKS := gtup_of (n := 0) (by kernel_rfl) (by kernel_rfl) (by kernel_rfl)
  c_PARTING := gtup_of (n := 0) (by kernel_rfl) (by kernel_rfl) (by kernel_rfl)
  c_STOPS := gtup_of (n := 0) (by kernel_rfl) (by kernel_rfl) (by kernel_rfl)
  c_CLOSING := gtup_of (n := 0) (by kernel_rfl) (by kernel_rfl) (by kernel_rfl)
  c_SPACES := gtup_of (n := 0) (by kernel_rfl) (by kernel_rfl) (by kernel_rfl)
  f_line_start := gfn_of (by kernel_rfl) (by kernel_rfl) (by kernel_rfl)
  f_line_end := gfn_of (by kernel_rfl) (by kernel_rfl) (by kernel_rfl)
  f_next_start := gfn_of (by kernel_rfl) (by kernel_rfl) (by kernel_rfl)
  f_lines_target := gfn_of (by kernel_rfl) (by kernel_rfl) (by kernel_rfl)
  f_blanks_end := gfn_of (by kernel_rfl) (by kernel_rfl) (by kernel_rfl)
  f_blanks_begin := gfn_of (by kernel_rfl) (by kernel_rfl) (by kernel_rfl)
  f_is_line_end := gfn_of (by kernel_rfl) (by kernel_rfl) (by kernel_rfl)
  f_is_blank_line := gfn_of (by kernel_rfl) (by kernel_rfl) (by kernel_rfl)
  f_parts := gfn_of (by kernel_rfl) (by kernel_rfl) (by kernel_rfl)
  f_begins := gfn_of (by kernel_rfl) (by kernel_rfl) (by kernel_rfl)
  f_past_parting := gfn_of (by kernel_rfl) (by kernel_rfl) (by kernel_rfl)
  f_one_forward := gfn_of (by kernel_rfl) (by kernel_rfl) (by kernel_rfl)
  f_is_behind_empty := gfn_of (by kernel_rfl) (by kernel_rfl) (by kernel_rfl)
  f_first_line := gfn_of (by kernel_rfl) (by kernel_rfl) (by kernel_rfl)
  f_one_backward := gfn_of (by kernel_rfl) (by kernel_rfl) (by kernel_rfl)
  f_paragraphs_target := gfn_of (by kernel_rfl) (by kernel_rfl) (by kernel_rfl)
  f_text_end := gfn_of (by kernel_rfl) (by kernel_rfl) (by kernel_rfl)
  f_text_begin := gfn_of (by kernel_rfl) (by kernel_rfl) (by kernel_rfl)
  f_paragraph_bounds := gfn_of (by kernel_rfl) (by kernel_rfl) (by kernel_rfl)
  f_closed_at := gfn_of (by kernel_rfl) (by kernel_rfl) (by kernel_rfl)
  f_gap_behind := gfn_of (by kernel_rfl) (by kernel_rfl) (by kernel_rfl)
  f_end_match := gfn_of (by kernel_rfl) (by kernel_rfl) (by kernel_rfl)
  f_spaces_begin := gfn_of (by kernel_rfl) (by kernel_rfl) (by kernel_rfl)
  f_one_forward_sentence := gfn_of (by kernel_rfl) (by kernel_rfl) (by kernel_rfl)
  f_one_backward_sentence := gfn_of (by kernel_rfl) (by kernel_rfl) (by kernel_rfl)
  f_sentences_target := gfn_of (by kernel_rfl) (by kernel_rfl) (by kernel_rfl)
  f_clamped := gfn_of (by kernel_rfl) (by kernel_rfl) (by kernel_rfl)
  f_chars_target := gfn_of (by kernel_rfl) (by kernel_rfl) (by kernel_rfl)
  f_tenths_of := gfn_of (by kernel_rfl) (by kernel_rfl) (by kernel_rfl)
  f_begin_target := gfn_of (by kernel_rfl) (by kernel_rfl) (by kernel_rfl)
  f_end_target := gfn_of (by kernel_rfl) (by kernel_rfl) (by kernel_rfl)
  f_line_number_target := gfn_of (by kernel_rfl) (by kernel_rfl) (by kernel_rfl)
  f_width_at := gfn_of (by kernel_rfl) (by kernel_rfl) (by kernel_rfl)
  f_column_at := gfn_of (by kernel_rfl) (by kernel_rfl) (by kernel_rfl)
  f_place_at := gfn_of (by kernel_rfl) (by kernel_rfl) (by kernel_rfl)
  f_indentation_at := gfn_of (by kernel_rfl) (by kernel_rfl) (by kernel_rfl)
  f_horizontal_edit := gfn_of (by kernel_rfl) (by kernel_rfl) (by kernel_rfl)
  f_just_edit := gfn_of (by kernel_rfl) (by kernel_rfl) (by kernel_rfl)
  f_blank_run := gfn_of (by kernel_rfl) (by kernel_rfl) (by kernel_rfl)
  f_behind_blanks := gfn_of (by kernel_rfl) (by kernel_rfl) (by kernel_rfl)
  f_blank_lines_edits := gfn_of (by kernel_rfl) (by kernel_rfl) (by kernel_rfl)
  f_trailing_edits := gfn_of (by kernel_rfl) (by kernel_rfl) (by kernel_rfl)
  f_need_writable := gfn_of (by kernel_rfl) (by kernel_rfl) (by kernel_rfl)
  f_need_room := gfn_of (by kernel_rfl) (by kernel_rfl) (by kernel_rfl)
  f_reached := gfn_of (by kernel_rfl) (by kernel_rfl) (by kernel_rfl)
  f_tell_ahead := gfn_of (by kernel_rfl) (by kernel_rfl) (by kernel_rfl)
  f_tell_behind := gfn_of (by kernel_rfl) (by kernel_rfl) (by kernel_rfl)
  f_text_in := gfn_of (by kernel_rfl) (by kernel_rfl) (by kernel_rfl)
  f_hung_in := gfn_of (by kernel_rfl) (by kernel_rfl) (by kernel_rfl)
  f_put_in := gfn_of (by kernel_rfl) (by kernel_rfl) (by kernel_rfl)
  f_narrow := gfn_of (by kernel_rfl) (by kernel_rfl) (by kernel_rfl)
  f_codes_between := gfn_of (by kernel_rfl) (by kernel_rfl) (by kernel_rfl)
  f_in_order := gfn_of (by kernel_rfl) (by kernel_rfl) (by kernel_rfl)
  f_regions_edit := gfn_of (by kernel_rfl) (by kernel_rfl) (by kernel_rfl)
  f_unit_around := gfn_of (by kernel_rfl) (by kernel_rfl) (by kernel_rfl)
  f_units_regions := gfn_of (by kernel_rfl) (by kernel_rfl) (by kernel_rfl)
  f_by_chars := gfn_of (by kernel_rfl) (by kernel_rfl) (by kernel_rfl)
  f_chars_regions := gfn_of (by kernel_rfl) (by kernel_rfl) (by kernel_rfl)
  f_chars_edit := gfn_of (by kernel_rfl) (by kernel_rfl) (by kernel_rfl)
  f_lines_ahead := gfn_of (by kernel_rfl) (by kernel_rfl) (by kernel_rfl)
  f_lines_edit := gfn_of (by kernel_rfl) (by kernel_rfl) (by kernel_rfl)
  f_law_draw := gfn_of (by kernel_rfl) (by kernel_rfl) (by kernel_rfl)
  f_law_places := gfn_of (by kernel_rfl) (by kernel_rfl) (by kernel_rfl)
  f_law_others := gfn_of (by kernel_rfl) (by kernel_rfl) (by kernel_rfl)
  f_law_chars := gfn_of (by kernel_rfl) (by kernel_rfl) (by kernel_rfl)
  f_line_behind_paragraphs := gfn_of (by kernel_rfl) (by kernel_rfl) (by kernel_rfl)
  f_line_behind_deletion := gfn_of (by kernel_rfl) (by kernel_rfl) (by kernel_rfl)
end
section
noncomputable def dAd (K : Frag) (f : Addr) : Addr := match (kFd K f).defaults with | .ref T => T | _ => 0
noncomputable def tAd (K : Frag) (T : Addr) : Tok := match (kSeq K T).toList with | .int _ t :: _ => t | _ => 0
variable {w : World} {mg mb : Str → Option Value} {base : Heap}
local macro_rules | `(tactic| krn_off) => `(tactic| (repeat (first | exact List.forall_mem_nil _ | (refine List.forall_mem_cons.mpr ⟨by kernel_rfl, ?_⟩))))
theorem kf2_ok : KF2 (mkS w mg mb base) := ⟨by kernel_rfl⟩
theorem ins_ok : FnAtD (mkS w mg mb base) (topStmt 85) 716 #[.bool false] := fnAtD_of (T := dAd (hdK w.params) 716) (n := 0) (by kernel_rfl) (by kernel_rfl) (by kernel_rfl)
theorem rowP : PlainCls (mkS w mg mb base) 762 := ⟨fun n => by kernel_rfl, by kernel_rfl⟩
theorem bufP : PlainCls (mkS w mg mb base) 513 := ⟨fun n => by kernel_rfl, by kernel_rfl⟩
theorem gapP : PlainCls (mkS w mg mb base) 302 := ⟨fun n => by kernel_rfl, by kernel_rfl⟩
theorem markP : PlainCls (mkS w mg mb base) 372 := ⟨fun n => by kernel_rfl, by kernel_rfl⟩
theorem rowC : RowCls (mkS w mg mb base) 762 := ⟨rowP, by kernel_rfl, by kernel_rfl, meth_of (by kernel_rfl) (by kernel_rfl) (by kernel_rfl), meth_of (by kernel_rfl) (by kernel_rfl) (by kernel_rfl), meth_of (by kernel_rfl) (by kernel_rfl) (by kernel_rfl)⟩
theorem bufC : BufCls (mkS w mg mb base) 513 := ⟨bufP, by kernel_rfl, by kernel_rfl, by kernel_rfl, meth_of (by kernel_rfl) (by kernel_rfl) (by kernel_rfl), meth_of (by kernel_rfl) (by kernel_rfl) (by kernel_rfl), meth_of (by kernel_rfl) (by kernel_rfl) (by kernel_rfl)⟩
theorem gapC : GapCls (mkS w mg mb base) 302 := ⟨gapP, by kernel_rfl, by kernel_rfl, by kernel_rfl, meth_of (by kernel_rfl) (by kernel_rfl) (by kernel_rfl)⟩
theorem gapM : GapMore (mkS w mg mb base) 302 := ⟨by krn_off, meth_of (by kernel_rfl) (by kernel_rfl) (by kernel_rfl), meth_of (by kernel_rfl) (by kernel_rfl) (by kernel_rfl), meth_of (by kernel_rfl) (by kernel_rfl) (by kernel_rfl), meth_of (by kernel_rfl) (by kernel_rfl) (by kernel_rfl), meth_of (by kernel_rfl) (by kernel_rfl) (by kernel_rfl)⟩
theorem bufM : BufMore (mkS w mg mb base) 513 := ⟨by krn_off, meth_of (by kernel_rfl) (by kernel_rfl) (by kernel_rfl), meth_of (by kernel_rfl) (by kernel_rfl) (by kernel_rfl), meth_of (by kernel_rfl) (by kernel_rfl) (by kernel_rfl), meth_of (by kernel_rfl) (by kernel_rfl) (by kernel_rfl)⟩
theorem markM : MarkMore (mkS w mg mb base) 372 := ⟨markP, by kernel_rfl, meth_of (by kernel_rfl) (by kernel_rfl) (by kernel_rfl), meth_of (by kernel_rfl) (by kernel_rfl) (by kernel_rfl)⟩
theorem rowS : SetCls (mkS w mg mb base) 762 ["codes", "place"] := ⟨rowP, by kernel_rfl, by kernel_rfl, by krn_off⟩
theorem bufS : SetCls (mkS w mg mb base) 513 ["number", "name", "text", "markers", "point", "begv", "zv", "mark", "is_live", "is_read_only", "ticks", "codes_ticks", "saved_ticks", "listeners", "undo", "props", "overlays", "locals", "syntax", "file"] := ⟨bufP, by kernel_rfl, by kernel_rfl, by krn_off⟩
theorem gapS : SetCls (mkS w mg mb base) 302 ["room", "cells", "gap_start", "gap_end"] := ⟨gapP, by kernel_rfl, by kernel_rfl, by krn_off⟩
theorem markS : SetCls (mkS w mg mb base) 372 ["rows"] := ⟨markP, by kernel_rfl, by kernel_rfl, by krn_off⟩
theorem SetCls.sub {S : Sg} {C : Addr} {ns ms : List Str} (x : SetCls S C ns) (h : ∀ n ∈ ms, n ∈ ns) : SetCls S C ms := ⟨x.toPlainCls, x.set, x.over, fun n hn => x.free n (h n hn)⟩
theorem rowK : RowMk (mkS w mg mb base) 762 := ⟨rowC, rowS, by kernel_rfl, by kernel_rfl, mAd (hdK w.params) 762 "__init__", tAd (hdK w.params) (dAd (hdK w.params) (mAd (hdK w.params) 762 "__init__")), by kernel_rfl,
  fnAtD_of (T := dAd (hdK w.params) (mAd (hdK w.params) 762 "__init__")) (n := 0) (by kernel_rfl) (by kernel_rfl) (by kernel_rfl), by kernel_rfl⟩
theorem gapK : GapMk (mkS w mg mb base) 302 := ⟨gapS, by kernel_rfl, by kernel_rfl, mAd (hdK w.params) 302 "__init__", by kernel_rfl, fnAt_of (by kernel_rfl) (by kernel_rfl), by kernel_rfl⟩
theorem markK : MarkMk (mkS w mg mb base) 372 := ⟨markS, by kernel_rfl, by kernel_rfl, mAd (hdK w.params) 372 "__init__", by kernel_rfl, fnAt_of (by kernel_rfl) (by kernel_rfl), by kernel_rfl⟩
theorem bufK : BufMk (mkS w mg mb base) 513 302 372 := ⟨bufS, by kernel_rfl, by kernel_rfl, ⟨mAd (hdK w.params) 513 "__init__", tAd (hdK w.params) (dAd (hdK w.params) (mAd (hdK w.params) 513 "__init__")), by kernel_rfl,
  fnAtD_of (T := dAd (hdK w.params) (mAd (hdK w.params) 513 "__init__")) (n := 0) (by kernel_rfl) (by kernel_rfl) (by kernel_rfl), by kernel_rfl⟩, by kernel_rfl, by kernel_rfl, gapK, markK⟩
theorem nsAt_of {K : Frag} {h : Heap} {N : Addr} {x : Str} {r : Option Value} (i : K.In h) (e : nsOkIn K N = true) (q : nsIn K N x = some r) : h.nsMap N x = r := by
  have G : h.Ns N (h.nsMap N) := .of_isNs (isNs_of_in i e)
  obtain ⟨o, es, ep, ho, hd, _, hf⟩ := G
  rw [← hf]
  unfold nsIn at q
  split at q
  · rename_i c d es' n' sl q'
    have := i _ _ q'
    rw [ho] at this
    cases this
    cases hd
    split at q
    · rename_i he
      unfold nsFind findBy
      rw [← Array.find?_toList, he]
      exact Option.some.inj q
    · rename_i he
      split at q
      · cases q
      · unfold nsFind findBy
        rw [← Array.find?_toList, he]
        exact Option.some.inj q
  · cases q
theorem lisp_ok (i : (hdK w.params).In base) : LispK (mkS w mg mb base) 649 := by
  refine ⟨by kernel_rfl, by kernel_rfl, ⟨"LispSignal", "LispSignal", 648, [.type "Exception"], [], [], false, none, none, some (.ref 633), none, some (.str "LispSignal" 1048), some (.str "LispSignal" 1056), some (.bool true), base.nsMap 648, mAd (hdK w.params) 649 "__init__",
    i 649 _ (by kernel_rfl), .of_isNs (isNs_of_in i (by kernel_rfl)), ?_, fnAt_of (by kernel_rfl) (by kernel_rfl), ?_, ?_, ?_, ?_, ?_⟩⟩
  · exact nsAt_of i (by kernel_rfl) (by kernel_rfl)
  · exact nsAt_of i (by kernel_rfl) (by kernel_rfl)
  · exact nsAt_of i (by kernel_rfl) (by kernel_rfl)
  · exact nsAt_of i (by kernel_rfl) (by kernel_rfl)
  · exact nsAt_of i (by kernel_rfl) (by kernel_rfl)
  · exact nsAt_of i (by kernel_rfl) (by kernel_rfl)
end
theorem lawK_ok {w : World} {mg mb : Str → Option Value} {base : Heap} (i : (hdK w.params).In base) (sys : (base.get? sysModules).isSome = true) : LawK (mkS w mg mb base) 513 302 372 762 649 716 := by
  refine ⟨kf_ok, kf2_ok, lisp_ok i, bufK, rowK, ins_ok, by kernel_rfl, by kernel_rfl, by kernel_rfl, bufM, gapM, markM, bufC, bufS.sub ?_, gapC, gapS.sub ?_, Option.isSome_iff_exists.mp sys⟩
  · decide +kernel
  · decide +kernel
theorem law_walk : PySem.Challenge.rw_pq0298_01.Holds := by
  refine hd_of ?_
  intro w s₀ s₁ mg mb G Y fa o pm cd doc dV kV ho hdd hcd hD hmg hg args vals as hpre hlay hrd hwl hlo
  wrow_args hpre hlay hrd hwl hlo
  rename_i ws hs hlay0 hL1 hr1 hl2 q4 q3 L vs q0 hL ra w1 r0 hI hr hc1 hc2
  have i : (hdK w.params).In s₁.heap := kIn_of Y
  have ok : (mkS w mg mb s₁.heap).Ok := ⟨i, topRead_of G.T⟩
  have e1 : dV = .none := by
    rcases hD.pos with ⟨_, q⟩ | ⟨q, _⟩
    · exact q
    · exact absurd (show lawRec.params.defaults = [] by kernel_rfl) q
  have e2 : kV = .none := by
    rcases hD.kw with ⟨_, q⟩ | ⟨q, _⟩
    · exact q
    · exact absurd rfl q
  subst e1
  subst e2
  refine enter_call ?_
  refine law_enter (S := mkS w mg mb s₁.heap) ok (lawK_ok i G.X) rfl ho hdd hcd (lst_well w1) (by omega) ⟨by decide, by decide, rfl⟩ rfl fun s' g os k => ?_
  exact ⟨.inl ⟨.bool true, .bool true, [], rfl, fun cls => by kernel_rfl, .bool true, by kernel_rfl, fun _ => ⟨List.nodup_nil, fun a ha => nomatch ha⟩⟩, .of_keep k, os, .of_eq (g.trans hg)⟩
end Mine
theorem PySem.Challenge.cw_pq0298_01_holds : PySem.Challenge.rw_pq0298_01.Holds :=
  Mine.law_walk
