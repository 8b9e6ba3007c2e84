import PyProof.Rows.All
import PyProof.Rows.Many
import PyProof.Rows.Tup
import PyProof.Walks
import PyProof.Cells
import PyProof.Rows.Nodes
import PyProof.Rows.Chain
import PyProof.Rows.TupSub
import PyProof.Rules3
import PyProof.Raises
import PyProof.Rows.TupAssign
import PyProof.WalksMore
import PyProof.Rows.Globals
import PyProof.Rows.Method
import PyProof.Rows.Exc
import PyProof.CompFree
import PyProof.IsiNone
import PyProof.Conv_int_bool
import PyProof.TupleOfSeq
import PyProof.WalkInts
import PyProof.ConsumeWalk
import PyProof.LetGo
import KE.KRevIter
import KE.KRevSl
import PyProof.DictTruth
import PyProof.Rows.TupMore
import PyProof.Rows.SortWalk
import KE.KDictSum
import Wide.All
import OpenK.AllK
import Wide.FinOn
import PySem.Challenge.RW_uf030003_03
set_option Elab.async false
namespace Mine
open PySem

/-- abstract values: data by value; lists and dicts of the call's own by number; fro: a list of the base -/
inductive AV where
  | none
  | bool (b : Bool)
  | int (i : Int)
  | str (x : Str)
  | tup (l : List AV)
  | ref (i : Nat)
  | fro (l : List AV)
  deriving Inhabited

inductive AObj where
  | list (l : List AV)
  | dict (l : List (Int × AV))
  deriving Inhabited

abbrev Hp := List AObj
abbrev Loc := List (Option AV)

/-- a tuple as the model makes it -/
def PTup (h : Heap) (a : Addr) (vs : Array Value) : Prop := ∃ n dd sl, h.get? a = some { cls := .type "tuple", dict := dd, data := .seq vs n, slots := sl }
theorem PTup.isTup {h : Heap} {a : Addr} {vs : Array Value} (x : PTup h a vs) : PyProof.Rows.IsTup h a vs := let ⟨n, _, _, e⟩ := x; ⟨_, e, rfl, n, rfl⟩
theorem PTup.of {h : Heap} {a : Addr} {vs : Array Value} (x : PyProof.Rows.IsTup h a vs) : PTup h a vs := by
  obtain ⟨⟨c, dd, dt, sl⟩, e, c1, n, d1⟩ := x
  simp only at c1 d1
  subst c1; subst d1
  exact ⟨n, dd, sl, e⟩
theorem PTup.new (h : Heap) (vs : Array Value) : PTup (h.push { cls := .type "tuple", data := .seq vs }) h.objs.size vs := ⟨0, _, _, Heap.get?_push_size _ rfl⟩
theorem PTup.push {h : Heap} {a : Addr} {vs : Array Value} (x : PTup h a vs) (o : Obj) : PTup (h.push o) a vs := let ⟨n, dd, sl, e⟩ := x; ⟨n, dd, sl, Heap.get?_push_of_some o e⟩

mutual
def VR (B h : Heap) (ι : List Addr) : AV → Value → Prop
  | .none, v => v = .none
  | .bool b, v => v = .bool b
  | .int i, v => ∃ t, v = .int i t
  | .str x, v => PyData.strOk x = true ∧ ∃ t, v = .str x t
  | .tup l, v => ∃ a vs, v = .ref a ∧ PTup h a (List.toArray vs) ∧ VRs B h ι l vs
  | .ref i, v => ∃ a, v = .ref a ∧ ι[i]? = some a
  | .fro l, v => ∃ a vs, v = .ref a ∧ B.IsList a (List.toArray vs) ∧ VRs B h ι l vs
def VRs (B h : Heap) (ι : List Addr) : List AV → List Value → Prop
  | [], vs => vs = []
  | d :: ds, vs => ∃ v r, vs = v :: r ∧ VR B h ι d v ∧ VRs B h ι ds r
end

/-- entries of a dict keyed by ints -/
def ERs (B h : Heap) (ι : List Addr) : List (Int × AV) → List DictEntry → Prop
  | [], es => es = []
  | (k, d) :: r, es => ∃ t v es', es = ⟨hashInt k, .int k t, v⟩ :: es' ∧ VR B h ι d v ∧ ERs B h ι r es'

def OR (B h : Heap) (ι : List Addr) (a : Addr) : AObj → Prop
  | .list l => ∃ vs, h.PlainList a (List.toArray vs) ∧ VRs B h ι l vs
  | .dict l => (a == sysModules) = false ∧ (l.map (·.1)).Nodup ∧ ∃ es n, h.get? a = some { cls := .type "dict", data := .dict (List.toArray es) n } ∧ ERs B h ι l es

/-- everything but what lies at S is as it was (a frame's notes may turn) -/
def Kept (S : List Addr) (h h' : Heap) : Prop :=
  ∀ a o, h.get? a = some o → a ∉ S → ∃ sl, h'.get? a = some { o with slots := sl } ∧ (o.cls ≠ .type "frame" → sl = o.slots)

structure HR (B : Heap) (ι : List Addr) (H : Hp) (h : Heap) : Prop where
  base : B.StaysIn h
  fresh : ∀ a ∈ ι, B.get? a = Option.none
  nodup : ι.Nodup
  len : ι.length = H.length
  objs : ∀ (i : Nat) (o : AObj), H[i]? = some o → ∃ a, ι[i]? = some a ∧ OR B h ι a o

theorem Kept.refl (S : List Addr) (h : Heap) : Kept S h h := fun _ o e _ => ⟨o.slots, e, fun _ => rfl⟩
theorem Kept.of_keeps {S : List Addr} {h h' : Heap} (k : ∀ b o, b ∉ S → h.get? b = some o → h'.get? b = some o) : Kept S h h' :=
  fun a o e hn => ⟨o.slots, k a o hn e, fun _ => rfl⟩
theorem Kept.trans {S : List Addr} {h₁ h₂ h₃ : Heap} (x : Kept S h₁ h₂) (y : Kept S h₂ h₃) : Kept S h₁ h₃ := fun a o e hn => by
  obtain ⟨sl, e1, q1⟩ := x a o e hn
  obtain ⟨sl', e2, q2⟩ := y a _ e1 hn
  exact ⟨sl', e2, fun c => (q2 c).trans (q1 c)⟩
theorem Kept.mono {S T : List Addr} {h h' : Heap} (x : Kept S h h') (s : ∀ a ∈ S, a ∈ T) : Kept T h h' := fun a o e hn => x a o e fun q => hn (s a q)
theorem Kept.exact {S : List Addr} {h h' : Heap} (x : Kept S h h') {a : Addr} {o : Obj} (e : h.get? a = some o) (hn : a ∉ S) (hc : o.cls ≠ .type "frame") : h'.get? a = some o := by
  obtain ⟨sl, e1, q1⟩ := x a o e hn
  rw [e1, q1 hc]
theorem Kept.data {S : List Addr} {h h' : Heap} (x : Kept S h h') {a : Addr} {o : Obj} (e : h.get? a = some o) (hn : a ∉ S) : ∃ o', h'.get? a = some o' ∧ o'.data = o.data ∧ o'.cls = o.cls := by
  obtain ⟨sl, e1, _⟩ := x a o e hn
  exact ⟨_, e1, rfl, rfl⟩

/-- no tuple lies there -/
def NoTup (S : List Addr) (h : Heap) : Prop := ∀ a ∈ S, ∀ vs, ¬ PyProof.Rows.IsTup h a vs

theorem istup_kept {S : List Addr} {h h' : Heap} (x : Kept S h h') (nt : NoTup S h) {a : Addr} {vs : Array Value} (t : PTup h a vs) : PTup h' a vs := by
  have hn : a ∉ S := fun q => nt a q vs t.isTup
  obtain ⟨n, dd, sl, e⟩ := t
  exact ⟨n, dd, sl, x.exact e hn (by simp)⟩

theorem pre_get {ι ι' : List Addr} (p : ι <+: ι') {i : Nat} {a : Addr} (e : ι[i]? = some a) : ι'[i]? = some a := by
  obtain ⟨t, rfl⟩ := p
  rw [List.getElem?_append_left]
  · exact e
  · exact (List.getElem?_eq_some_iff.mp e).1

mutual
theorem VR.mono {B h h' : Heap} {ι ι' S : List Addr} (x : Kept S h h') (nt : NoTup S h) (p : ι <+: ι') : ∀ (d : AV) (v : Value), VR B h ι d v → VR B h' ι' d v
  | .none, _, q => q
  | .bool _, _, q => q
  | .int _, _, q => q
  | .str _, _, q => q
  | .tup l, v, q => by
    unfold VR at q ⊢
    obtain ⟨a, vs, e, t, r⟩ := q
    exact ⟨a, vs, e, istup_kept x nt t, VRs.mono x nt p l vs r⟩
  | .ref i, v, q => by
    unfold VR at q ⊢
    obtain ⟨a, e, g⟩ := q
    exact ⟨a, e, pre_get p g⟩
  | .fro l, v, q => by
    unfold VR at q ⊢
    obtain ⟨a, vs, e, t, r⟩ := q
    exact ⟨a, vs, e, t, VRs.mono x nt p l vs r⟩
theorem VRs.mono {B h h' : Heap} {ι ι' S : List Addr} (x : Kept S h h') (nt : NoTup S h) (p : ι <+: ι') : ∀ (l : List AV) (vs : List Value), VRs B h ι l vs → VRs B h' ι' l vs
  | [], _, q => q
  | d :: ds, vs, q => by
    unfold VRs at q ⊢
    obtain ⟨v, r, e, a, b⟩ := q
    exact ⟨v, r, e, VR.mono x nt p d v a, VRs.mono x nt p ds r b⟩
end

theorem ERs.mono {B h h' : Heap} {ι ι' S : List Addr} (x : Kept S h h') (nt : NoTup S h) (p : ι <+: ι') : ∀ (l : List (Int × AV)) (es : List DictEntry), ERs B h ι l es → ERs B h' ι' l es
  | [], _, q => q
  | (k, d) :: ds, vs, q => by
    unfold ERs at q ⊢
    obtain ⟨t, v, r, e, a, b⟩ := q
    exact ⟨t, v, r, e, VR.mono x nt p d v a, ERs.mono x nt p ds r b⟩

theorem OR.mono {B h h' : Heap} {ι ι' S : List Addr} (x : Kept S h h') (nt : NoTup S h) (p : ι <+: ι') {a : Addr} {o : AObj} (hn : a ∉ S) (q : OR B h ι a o) : OR B h' ι' a o := by
  cases o with
  | list l =>
    obtain ⟨vs, ⟨n, e⟩, r⟩ := q
    exact ⟨vs, ⟨n, x.exact e hn (by simp)⟩, VRs.mono x nt p l vs r⟩
  | dict l =>
    obtain ⟨hm, nd, es, n, e, r⟩ := q
    exact ⟨hm, nd, es, n, x.exact e hn (by simp), ERs.mono x nt p l es r⟩

theorem HR.noTup {B : Heap} {ι : List Addr} {H : Hp} {h : Heap} (q : HR B ι H h) : NoTup ι h := by
  intro a ha vs t
  obtain ⟨i, hi, rfl⟩ := List.getElem_of_mem ha
  have hl : i < H.length := q.len ▸ hi
  obtain ⟨b, eb, o⟩ := q.objs i H[i] (List.getElem?_eq_getElem hl)
  rw [List.getElem?_eq_getElem hi] at eb
  cases eb
  obtain ⟨o', e, c, _⟩ := t
  cases hx : H[i] with
  | list l => rw [hx] at o; obtain ⟨_, ⟨_, e'⟩, _⟩ := o; rw [e'] at e; cases e; simp at c
  | dict l => rw [hx] at o; obtain ⟨_, _, _, _, e', _⟩ := o; rw [e'] at e; cases e; simp at c

/-- what a piece of the run leaves -/
structure Post (B : Heap) (ι : List Addr) (s : Shared) (ι' : List Addr) (H' : Hp) (s' : Shared) : Prop where
  pre : ι <+: ι'
  hr : HR B ι' H' s'.heap
  kept : Kept ι s.heap s'.heap
  new : ∀ a ∈ ι', a ∈ ι ∨ s.heap.get? a = Option.none
  same : ∃ h t, s' = { s with heap := h, toks := t }

theorem Post.refl {B : Heap} {ι : List Addr} {H : Hp} {s : Shared} (q : HR B ι H s.heap) (t : Nat) : Post B ι s ι H { s with toks := t } :=
  ⟨List.prefix_refl _, q, Kept.refl _ _, fun _ h => .inl h, s.heap, t, rfl⟩
theorem Post.id {B : Heap} {ι : List Addr} {H : Hp} {s : Shared} (q : HR B ι H s.heap) : Post B ι s ι H s := Post.refl q s.toks

theorem Post.trans {B : Heap} {ι ι₁ ι₂ : List Addr} {s s₁ s₂ : Shared} {H₁ H₂ : Hp} (x : Post B ι s ι₁ H₁ s₁) (y : Post B ι₁ s₁ ι₂ H₂ s₂) : Post B ι s ι₂ H₂ s₂ := by
  have out : ∀ a o, s.heap.get? a = some o → a ∉ ι → a ∉ ι₁ := fun a o e hn q => (x.new a q).elim hn fun z => by rw [e] at z; cases z
  refine ⟨x.pre.trans y.pre, y.hr, fun a o e hn => ?_, fun a ha => ?_, ?_⟩
  · obtain ⟨sl, e1, q1⟩ := x.kept a o e hn
    obtain ⟨sl', e2, q2⟩ := y.kept a _ e1 (out a o e hn)
    exact ⟨sl', e2, fun c => (q2 c).trans (q1 c)⟩
  · by_cases hi : a ∈ ι
    · exact .inl hi
    · right
      rcases y.new a ha with q | q
      · exact (x.new a q).resolve_left hi
      · cases e : s.heap.get? a with
        | none => rfl
        | some o =>
          obtain ⟨sl, e1, _⟩ := x.kept a o e hi
          rw [e1] at q; cases q
  · obtain ⟨h, t, rfl⟩ := x.same
    obtain ⟨h', t', rfl⟩ := y.same
    exact ⟨h', t', rfl⟩

theorem Post.vr {B : Heap} {ι ι' : List Addr} {s s' : Shared} {H H' : Hp} (x : Post B ι s ι' H' s') (q : HR B ι H s.heap) {d : AV} {v : Value} (r : VR B s.heap ι d v) : VR B s'.heap ι' d v :=
  VR.mono x.kept q.noTup x.pre d v r
theorem Post.vrs {B : Heap} {ι ι' : List Addr} {s s' : Shared} {H H' : Hp} (x : Post B ι s ι' H' s') (q : HR B ι H s.heap) {d : List AV} {v : List Value} (r : VRs B s.heap ι d v) : VRs B s'.heap ι' d v :=
  VRs.mono x.kept q.noTup x.pre d v r

/-- the frames below -/
def FramesOK (A : Around) (B h : Heap) (ι : List Addr) : Prop :=
  ∃ fl, A.frames = some fl ∧ ∀ env ∈ fl, env.scope.kind ≠ .module ∧ ∃ L o, env.frame = some L ∧ B.get? L = Option.none ∧ h.get? L = some o ∧ (∀ vs, o.data ≠ .fields vs) ∧ L ∉ ι

structure Room (A : Around) (d : Nat) : Prop where
  depth : A.depth + d < recursionLimit
  units : A.units + 8 * d + 200 < cLine
  handled : A.handled = Option.none

structure W (B : Heap) (A : Around) (d : Nat) (ι : List Addr) (H : Hp) (s : Shared) : Prop where
  room : Room A d
  fr : FramesOK A B s.heap ι
  hr : HR B ι H s.heap

theorem FramesOK.step {A : Around} {B : Heap} {ι ι' : List Addr} {s s' : Shared} {H' : Hp} (x : FramesOK A B s.heap ι) (p : Post B ι s ι' H' s') : FramesOK A B s'.heap ι' := by
  obtain ⟨fl, e, q⟩ := x
  refine ⟨fl, e, fun env he => ?_⟩
  obtain ⟨k, L, o, h1, h2, h3, h4, h5⟩ := q env he
  obtain ⟨o', e', d', _⟩ := p.kept.data h3 h5
  exact ⟨k, L, o', h1, h2, e', fun vs => d' ▸ h4 vs, fun z => (p.new L z).elim h5 fun w => by rw [h3] at w; cases w⟩

theorem W.step {B : Heap} {A : Around} {d : Nat} {ι ι' : List Addr} {H H' : Hp} {s s' : Shared} (x : W B A d ι H s) (p : Post B ι s ι' H' s') : W B A d ι' H' s' :=
  ⟨x.room, x.fr.step p, p.hr⟩

/-- a name's place in an environment -/
def Has (env : Env) (h : Heap) (x : Str) (ov : Option Value) : Prop :=
  (env.kindOf x = some .local ∧ ∃ m, h.Ns env.locals m ∧ m x = ov) ∨
  ((env.kindOf x = some .cell ∨ env.kindOf x = some .free) ∧ ∃ c, env.cells.lookup x = some c ∧ h.IsCell c ov)

/-- a block's names: the slots that may be read (by number), and the scope's table -/
structure Ctx where
  vars : List (Option Str)
  names : List (Str × NameKind)
  ro : Nat := 0

structure EnvR (B : Heap) (C : Ctx) (env : Env) (ι : List Addr) (h : Heap) (loc : Loc) : Prop where
  kind : env.scope.kind = .function
  names : env.scope.names = C.names
  glob : env.globals = mainGlobals
  blt : env.builtins = builtinsNs
  ns : ∃ m, h.Ns env.locals m
  offL : env.locals ∉ ι
  newL : B.get? env.locals = Option.none
  offC : ∀ x c, some x ∈ C.vars → env.cells.lookup x = some c → c ∉ ι ∧ c ≠ env.locals ∧ B.get? c = Option.none
  isC : ∀ x c, some x ∈ C.vars → env.cells.lookup x = some c → ∃ ov, h.IsCell c ov
  apart : ∀ x y c, some x ∈ C.vars → some y ∈ C.vars → env.cells.lookup x = some c → env.cells.lookup y = some c → x = y
  len : loc.length = C.vars.length
  vars : ∀ (i : Nat) (x : Str), C.vars[i]? = some (some x) → ∃ ov, Has env h x ov ∧ ∀ d, loc[i]? = some (some d) → ∃ v, ov = some v ∧ VR B h ι d v

theorem Ns.of_data {h h' : Heap} {a : Addr} {m : Str → Option Value} (x : h.Ns a m) (k : ∀ o, h.get? a = some o → ∃ o', h'.get? a = some o' ∧ o'.data = o.data) : h'.Ns a m := by
  obtain ⟨o, es, ep, e, d, r⟩ := x
  obtain ⟨o', e', d'⟩ := k o e
  exact ⟨o', es, ep, e', d'.trans d, r⟩
theorem Cell.of_data {h h' : Heap} {a : Addr} {v : Option Value} (x : h.IsCell a v) (k : ∀ o, h.get? a = some o → ∃ o', h'.get? a = some o' ∧ o'.data = o.data) : h'.IsCell a v := by
  obtain ⟨o, e, d⟩ := x
  obtain ⟨o', e', d'⟩ := k o e
  exact ⟨o', e', d'.trans d⟩

theorem EnvR.step {B : Heap} {C : Ctx} {env : Env} {ι ι' : List Addr} {s s' : Shared} {H H' : Hp} {loc : Loc} (x : EnvR B C env ι s.heap loc) (q : HR B ι H s.heap) (p : Post B ι s ι' H' s') : EnvR B C env ι' s'.heap loc := by
  have kd : ∀ a, a ∉ ι → ∀ o, s.heap.get? a = some o → ∃ o', s'.heap.get? a = some o' ∧ o'.data = o.data := fun a hn o e => by
    obtain ⟨o', e', d', _⟩ := p.kept.data e hn
    exact ⟨o', e', d'⟩
  have off : ∀ a o, s.heap.get? a = some o → a ∉ ι → a ∉ ι' := fun a o e hn z => (p.new a z).elim hn fun w => by rw [e] at w; cases w
  refine ⟨x.kind, x.names, x.glob, x.blt, ?_, ?_, x.newL, fun y c hm hc => ?_, fun y c hm hc => ?_, x.apart, x.len, fun i y hi => ?_⟩
  · obtain ⟨m, n⟩ := x.ns
    exact ⟨m, Ns.of_data n (kd _ x.offL)⟩
  · obtain ⟨m, o, es, ep, e, r⟩ := x.ns
    exact off _ o e x.offL
  · obtain ⟨c1, c2, c3⟩ := x.offC y c hm hc
    obtain ⟨ov, o, e, r⟩ := x.isC y c hm hc
    exact ⟨off _ o e c1, c2, c3⟩
  · obtain ⟨ov, r⟩ := x.isC y c hm hc
    exact ⟨ov, Cell.of_data r (kd _ (x.offC y c hm hc).1)⟩
  · obtain ⟨ov, hs, hv⟩ := x.vars i y hi
    refine ⟨ov, ?_, fun d hd => ?_⟩
    · rcases hs with ⟨k, m, n, e⟩ | ⟨k, c, e, r⟩
      · exact .inl ⟨k, m, Ns.of_data n (kd _ x.offL), e⟩
      · exact .inr ⟨k, c, e, Cell.of_data r (kd _ (x.offC y c (List.mem_of_getElem? hi) e).1)⟩
    · obtain ⟨v, e, r⟩ := hv d hd
      exact ⟨v, e, p.vr q r⟩

end Mine

namespace Mine
open PySem

structure PEnv where
  prog : Program
  w : World
  B : Heap
  mg : Str → Option Value
  mb : Str → Option Value

structure PEnv.OK (P : PEnv) : Prop where
  g : P.B.Ns mainGlobals P.mg
  b : P.B.Ns builtinsNs P.mb
  nolimit : P.B.NoLimit

/-- what a raise leaves (c: the exception's class, as the text names it) -/
def XPost (B : Heap) (ι : List Addr) (s : Shared) (ι' : List Addr) (H' : Hp) (s' : Shared) (e : Value) (c : Str) : Prop := Post B ι s ι' H' s' ∧ e = .str c 0
abbrev XP := Str → Hp → Prop
def Acc (B : Heap) (X : XP) (ι : List Addr) (s : Shared) (E : Value → Shared → Prop) : Prop :=
  ∀ e s' ι' H' c, XPost B ι s ι' H' s' e c → X c H' → E e s'
theorem Acc.step {B : Heap} {X : XP} {ι ι' : List Addr} {s s' : Shared} {H' : Hp} {E : Value → Shared → Prop} (x : Acc B X ι s E) (p : Post B ι s ι' H' s') : Acc B X ι' s' E :=
  fun e s'' ι'' H'' c q hx => x e s'' ι'' H'' c ⟨p.trans q.1, q.2⟩ hx

/-- a tree of a value ends well -/
def Gives (B : Heap) (ι : List Addr) (s : Shared) (Q : AV → Hp → Prop) (v : Value) (s' : Shared) : Prop :=
  ∃ ι' H' av, Post B ι s ι' H' s' ∧ VR B s'.heap ι' av v ∧ Q av H'
theorem Gives.mono {B : Heap} {ι : List Addr} {s : Shared} {Q Q' : AV → Hp → Prop} {v : Value} {s' : Shared} (g : Gives B ι s Q v s') (h : ∀ a H, Q a H → Q' a H) : Gives B ι s Q' v s' := by
  obtain ⟨ι', H', av, p, r, q⟩ := g
  exact ⟨ι', H', av, p, r, h _ _ q⟩
theorem Gives.before {B : Heap} {ι ι₁ : List Addr} {s s₁ : Shared} {H₁ : Hp} {Q : AV → Hp → Prop} {v : Value} {s' : Shared} (p : Post B ι s ι₁ H₁ s₁) (g : Gives B ι₁ s₁ Q v s') : Gives B ι s Q v s' := by
  obtain ⟨ι', H', av, p', r, q⟩ := g
  exact ⟨ι', H', av, p.trans p', r, q⟩
theorem Gives.now {B : Heap} {ι : List Addr} {s : Shared} {H : Hp} {Q : AV → Hp → Prop} {v : Value} {av : AV} (t : Nat) (hr : HR B ι H s.heap) (r : VR B s.heap ι av v) (q : Q av H) : Gives B ι s Q v { s with toks := t } :=
  ⟨ι, H, av, Post.refl hr t, r, q⟩
theorem Gives.same {B : Heap} {ι : List Addr} {s : Shared} {H : Hp} {Q : AV → Hp → Prop} {v : Value} {av : AV} (hr : HR B ι H s.heap) (r : VR B s.heap ι av v) (q : Q av H) : Gives B ι s Q v s :=
  Gives.now s.toks hr r q

def GivesB (B : Heap) (ι : List Addr) (s : Shared) (Q : Bool → Hp → Prop) (b : Bool) (s' : Shared) : Prop := ∃ ι' H', Post B ι s ι' H' s' ∧ Q b H'
def GivesL (B : Heap) (ι : List Addr) (s : Shared) (Q : List AV → Hp → Prop) (vs : List Value) (s' : Shared) : Prop :=
  ∃ ι' H' l, Post B ι s ι' H' s' ∧ VRs B s'.heap ι' l vs ∧ Q l H'

section
variable (P : PEnv) (C : Ctx) (d : Nat)

def EvOK (e : Expr) (loc : Loc) (H : Hp) (Q : AV → Hp → Prop) (X : XP) : Prop :=
  ∀ A E env ι s, W P.B A d ι H s → EnvR P.B C env ι s.heap loc → Acc P.B X ι s E → wpAny (model P.prog P.w) A (eval e env) (Gives P.B ι s Q) E s
def TsOK (e : Expr) (loc : Loc) (H : Hp) (Q : Bool → Hp → Prop) (X : XP) : Prop :=
  ∀ A E env ι s, W P.B A d ι H s → EnvR P.B C env ι s.heap loc → Acc P.B X ι s E → wpAny (model P.prog P.w) A (isTrue e env (eval e env)) (GivesB P.B ι s Q) E s
def EvsOK (es : List Expr) (loc : Loc) (H : Hp) (Q : List AV → Hp → Prop) (X : XP) : Prop :=
  ∀ A E env ι s pos, W P.B A d ι H s → EnvR P.B C env ι s.heap loc → Acc P.B X ι s E → wpAny (model P.prog P.w) A (spliced (backTo pos (starEach es env))) (GivesL P.B ι s Q) E s
/-- an operation upon values at hand -/
def OpOK (t : List Value → Sem Value) (args : List AV) (H : Hp) (Q : AV → Hp → Prop) : Prop :=
  ∀ A E ι s vs, W P.B A d ι H s → VRs P.B s.heap ι args vs → wpAny (model P.prog P.w) A (t vs) (Gives P.B ι s Q) E s
end

variable {P : PEnv} {C : Ctx} {d : Nat} {loc : Loc} {H : Hp} {X : XP}

theorem EvOK.mono {e : Expr} {Q Q' : AV → Hp → Prop} (h : EvOK P C d e loc H Q X) (q : ∀ a H', Q a H' → Q' a H') : EvOK P C d e loc H Q' X :=
  fun A E env ι s w r a => wpAny_mono (h A E env ι s w r a) (fun _ _ g => g.mono q) fun _ _ x => x
theorem EvsOK.mono {es : List Expr} {Q Q' : List AV → Hp → Prop} (h : EvsOK P C d es loc H Q X) (q : ∀ a H', Q a H' → Q' a H') : EvsOK P C d es loc H Q' X :=
  fun A E env ι s pos w r a => wpAny_mono (h A E env ι s pos w r a) (fun _ _ g => by obtain ⟨ι', H', l, p, r, z⟩ := g; exact ⟨ι', H', l, p, r, q _ _ z⟩) fun _ _ x => x
theorem TsOK.mono {e : Expr} {Q Q' : Bool → Hp → Prop} (h : TsOK P C d e loc H Q X) (q : ∀ a H', Q a H' → Q' a H') : TsOK P C d e loc H Q' X :=
  fun A E env ι s w r a => wpAny_mono (h A E env ι s w r a) (fun _ _ g => by obtain ⟨ι', H', p, z⟩ := g; exact ⟨ι', H', p, q _ _ z⟩) fun _ _ x => x

theorem VR.mkInt {B h : Heap} {ι : List Addr} (i : Int) (t : Tok) : VR B h ι (.int i) (.int i t) := ⟨t, rfl⟩
theorem VR.mkBool {B h : Heap} {ι : List Addr} (b : Bool) : VR B h ι (.bool b) (.bool b) := rfl
theorem VR.mkNone {B h : Heap} {ι : List Addr} : VR B h ι .none .none := rfl
theorem VR.mkStr {B h : Heap} {ι : List Addr} (x : Str) (t : Tok) (hx : PyData.strOk x = true) : VR B h ι (.str x) (.str x t) := ⟨hx, t, rfl⟩

theorem ev_int {i : Int} {k : Nat} {pos : Pos} {Q : AV → Hp → Prop} (h : Q (.int i) H) : EvOK P C d (.Constant (.int i) k pos) loc H Q X :=
  fun _ _ _ _ s w _ _ => wpAny_Constant_int (Gives.now _ w.hr (VR.mkInt i s.toks) h)
theorem ev_str {x : Str} {k : Nat} {pos : Pos} {Q : AV → Hp → Prop} (hx : PyData.strOk x = true) (h : Q (.str x) H) : EvOK P C d (.Constant (.str x) k pos) loc H Q X :=
  fun _ _ _ _ s w _ _ => wpAny_Constant_str (Gives.now _ w.hr (VR.mkStr x s.toks hx) h)
theorem ev_bool {b : Bool} {k : Nat} {pos : Pos} {Q : AV → Hp → Prop} (h : Q (.bool b) H) : EvOK P C d (.Constant (.bool b) k pos) loc H Q X :=
  fun _ _ _ _ _ w _ _ => wpAny_Constant_bool (Gives.same w.hr (VR.mkBool b) h)
theorem ev_none {k : Nat} {pos : Pos} {Q : AV → Hp → Prop} (h : Q .none H) : EvOK P C d (.Constant .none k pos) loc H Q X :=
  fun _ _ _ _ _ w _ _ => wpAny_Constant_none (Gives.same w.hr VR.mkNone h)

theorem ev_loc {i : Nat} {x : Str} {pos : Pos} {v : AV} {Q : AV → Hp → Prop} (hx : C.vars[i]? = some (some x)) (hd : (x == ("__debug__" : Str)) = false) (hcd : (x == ("__classdict__" : Str)) = false) (hv : loc[i]? = some (some v)) (h : Q v H) :
    EvOK P C d (.Name x pos) loc H Q X := fun A E env ι s w r a => by
  obtain ⟨ov, hs, q⟩ := r.vars i x hx
  obtain ⟨u, rfl, vr⟩ := q v hv
  refine wpAny_Name ?_ hd
  have fin : Gives P.B ι s Q u s := Gives.same w.hr vr h
  rcases hs with ⟨k, m, n, e⟩ | ⟨k | k, c, e, r'⟩
  · exact wpAny_loadName_local r.kind k n e fin
  · exact wpAny_loadName_cell r.kind k e r' fin
  · exact wpAny_loadName_free r.kind k e r' fin hcd

/-- a constant of the module -/
theorem ev_glob {x : Str} {pos : Pos} {v : AV} {u : Value} {Q : AV → Hp → Prop} (ok : P.OK) (hd : (x == ("__debug__" : Str)) = false) (hg : P.mg x = some u) (hv : ∀ h ι, P.B.StaysIn h → VR P.B h ι v u) (h : Q v H)
    (hk : C.names.lookup x = some .globalImplicit) :
    EvOK P C d (.Name x pos) loc H Q X := fun A E env ι s w r a => by
  refine Calls.Name_function_global r.kind (by unfold Env.kindOf; rw [r.names]; exact hk) ?_ hd
  exact Calls.loadGlobal_global (r.glob ▸ ok.g.keeps fun b o e => w.hr.base b o e) hg (Gives.same w.hr (hv _ _ w.hr.base) h)

theorem ev_bin {l r : Expr} {op : Operator} {pos : Pos} {Q : AV → Hp → Prop}
    (h : EvOK P C d l loc H (fun x H₁ => EvOK P C d r loc H₁ (fun y H₂ => OpOK P d (fun vs => binaryOp op (vs.getD 0 .none) (vs.getD 1 .none)) [x, y] H₂ Q) X) X) :
    EvOK P C d (.BinOp l op r pos) loc H Q X := fun A E env ι s w e a => by
  refine wpAny_BinOp (wpAny_mono (h A E env ι s w e a) (fun u s₁ g => ?_) fun _ _ x => x)
  obtain ⟨ι₁, H₁, x, p₁, r₁, g⟩ := g
  refine wpAny_mono (g A E env ι₁ s₁ (w.step p₁) (e.step w.hr p₁) (a.step p₁)) (fun u' s₂ g => ?_) fun _ _ x => x
  obtain ⟨ι₂, H₂, y, p₂, r₂, g⟩ := g
  exact wpAny_mono (g A E ι₂ s₂ [u, u'] ((w.step p₁).step p₂) ⟨_, _, rfl, p₂.vr p₁.hr r₁, _, _, rfl, r₂, rfl⟩) (fun _ _ g => (g.before p₂).before p₁) fun _ _ x => x

theorem ev_cmp {l r : Expr} {op : CmpOp} {pos : Pos} {Q : AV → Hp → Prop}
    (h : EvOK P C d l loc H (fun x H₁ => EvOK P C d r loc H₁ (fun y H₂ => OpOK P d (fun vs => compareOp op (vs.getD 0 .none) (vs.getD 1 .none)) [x, y] H₂ Q) X) X)
    (hm : behindInMarks op r = false) :
    EvOK P C d (.Compare l [op] [r] pos) loc H Q X := fun A E env ι s w e a => by
  refine wpAny_Compare1 (wpAny_mono (h A E env ι s w e a) (fun u s₁ g => ?_) fun _ _ x => x) hm
  obtain ⟨ι₁, H₁, x, p₁, r₁, g⟩ := g
  refine wpAny_mono (g A E env ι₁ s₁ (w.step p₁) (e.step w.hr p₁) (a.step p₁)) (fun u' s₂ g => ?_) fun _ _ x => x
  obtain ⟨ι₂, H₂, y, p₂, r₂, g⟩ := g
  exact wpAny_mono (g A E ι₂ s₂ [u, u'] ((w.step p₁).step p₂) ⟨_, _, rfl, p₂.vr p₁.hr r₁, _, _, rfl, r₂, rfl⟩) (fun _ _ g => (g.before p₂).before p₁) fun _ _ x => x

/-- a value that is a bool decides a test -/
theorem givesB_of {B : Heap} {A : Around} {E : Value → Shared → Prop} {M : Model} {ι : List Addr} {s s₁ : Shared} {v : Value} {Q : Bool → Hp → Prop} (g : Gives B ι s (fun a H' => ∃ b, a = .bool b ∧ Q b H') v s₁) : wpAny M A (truthy v) (GivesB B ι s Q) E s₁ := by
  obtain ⟨ι₁, H₁, x, p₁, r₁, b, rfl, q⟩ := g
  cases r₁
  exact wpAny_truthy_bool ⟨ι₁, H₁, p₁, q⟩

theorem ts_cmp {l r : Expr} {op : CmpOp} {pos : Pos} {Q : Bool → Hp → Prop}
    (h : EvOK P C d l loc H (fun x H₁ => EvOK P C d r loc H₁ (fun y H₂ => OpOK P d (fun vs => compareOp op (vs.getD 0 .none) (vs.getD 1 .none)) [x, y] H₂ (fun a H' => ∃ b, a = .bool b ∧ Q b H')) X) X)
    (hm : behindInMarks op r = false) :
    TsOK P C d (.Compare l [op] [r] pos) loc H Q X := fun A E env ι s w e a => by
  refine wpAny_isTrue_Compare1 (wpAny_mono (h A E env ι s w e a) (fun u s₁ g => ?_) fun _ _ x => x) hm
  obtain ⟨ι₁, H₁, x, p₁, r₁, g⟩ := g
  refine wpAny_mono (g A E env ι₁ s₁ (w.step p₁) (e.step w.hr p₁) (a.step p₁)) (fun u' s₂ g => ?_) fun _ _ x => x
  obtain ⟨ι₂, H₂, y, p₂, r₂, g⟩ := g
  exact wpAny_mono (g A E ι₂ s₂ [u, u'] ((w.step p₁).step p₂) ⟨_, _, rfl, p₂.vr p₁.hr r₁, _, _, rfl, r₂, rfl⟩) (fun _ _ g => givesB_of ((g.before p₂).before p₁)) fun _ _ x => x

theorem ts_plain {e : Expr} {Q : Bool → Hp → Prop} (h : EvOK P C d e loc H (fun a H' => ∃ b, a = .bool b ∧ Q b H') X)
    (he : ∀ env whole, isTrue e env whole = (do let v ← whole; standAt e.pos; holding [v] (truthy v))) : TsOK P C d e loc H Q X := fun A E env ι s w r a =>
  PyProof.Rows.isTrue_plain (wpAny_mono (h A E env ι s w r a) (fun _ _ g => givesB_of g) fun _ _ x => x) (he env _)

theorem ts_not {x : Expr} {pos : Pos} {Q : Bool → Hp → Prop} (h : TsOK P C d x loc H (fun b H' => Q (!b) H') X) : TsOK P C d (.UnaryOp .Not x pos) loc H Q X := fun A E env ι s w r a =>
  PyProof.Rows.isTrue_not (h A E env ι s w r a)
theorem ev_not {x : Expr} {pos : Pos} {Q : AV → Hp → Prop} (h : EvOK P C d x loc H (fun v H' => ∃ b, v = .bool b ∧ Q (.bool !b) H') X) : EvOK P C d (.UnaryOp .Not x pos) loc H Q X := fun A E env ι s w r a =>
  PyProof.Rows.UnaryOp_ (wpAny_mono (h A E env ι s w r a) (fun v s₁ g => by
    obtain ⟨ι₁, H₁, x, p₁, r₁, b, rfl, q⟩ := g
    cases r₁
    exact PyProof.Rows.not_of (wpAny_truthy_bool ⟨ι₁, H₁, .bool !b, p₁, rfl, q⟩)) fun _ _ x => x)

theorem GivesB.before {B : Heap} {ι ι₁ : List Addr} {s s₁ : Shared} {H₁ : Hp} {Q : Bool → Hp → Prop} {v : Bool} {s' : Shared} (p : Post B ι s ι₁ H₁ s₁) (g : GivesB B ι₁ s₁ Q v s') : GivesB B ι s Q v s' := by
  obtain ⟨ι', H', p', q⟩ := g
  exact ⟨ι', H', p.trans p', q⟩

theorem ts_and_nil {pos : Pos} {Q : Bool → Hp → Prop} (h : Q true H) : TsOK P C d (.BoolOp .And [] pos) loc H Q X := fun _ _ _ ι _ w _ _ => PyProof.Rows.isTrue_and_nil ⟨ι, H, Post.id w.hr, h⟩
theorem ts_or_nil {pos : Pos} {Q : Bool → Hp → Prop} (h : Q false H) : TsOK P C d (.BoolOp .Or [] pos) loc H Q X := fun _ _ _ ι _ w _ _ => PyProof.Rows.isTrue_or_nil ⟨ι, H, Post.id w.hr, h⟩
theorem ts_whole {op : BoolOp} {vs : List Expr} {pos : Pos} {env : Env} (t t' : Sem Value) : isTrue (.BoolOp op vs pos) env t = isTrue (.BoolOp op vs pos) env t' := rfl
theorem ts_and {x : Expr} {rest : List Expr} {pos : Pos} {Q : Bool → Hp → Prop} (h : TsOK P C d x loc H (fun b H' => if b then TsOK P C d (.BoolOp .And rest pos) loc H' Q X else Q false H') X) :
    TsOK P C d (.BoolOp .And (x :: rest) pos) loc H Q X := fun A E env ι s w e a => by
  refine PyProof.Rows.isTrue_and (wpAny_mono (h A E env ι s w e a) (fun b s₁ g => ?_) fun _ _ x => x)
  obtain ⟨ι₁, H₁, p₁, g⟩ := g
  cases b with
  | false => exact ⟨ι₁, H₁, p₁, g⟩
  | true =>
    show wpAny _ _ _ _ _ _
    rw [ts_whole _ (eval (.BoolOp .And rest pos) env)]
    exact wpAny_mono (g A E env ι₁ s₁ (w.step p₁) (e.step w.hr p₁) (a.step p₁)) (fun _ _ g => g.before p₁) fun _ _ x => x
theorem ts_or {x : Expr} {rest : List Expr} {pos : Pos} {Q : Bool → Hp → Prop} (h : TsOK P C d x loc H (fun b H' => if b then Q true H' else TsOK P C d (.BoolOp .Or rest pos) loc H' Q X) X) :
    TsOK P C d (.BoolOp .Or (x :: rest) pos) loc H Q X := fun A E env ι s w e a => by
  refine PyProof.Rows.isTrue_or (wpAny_mono (h A E env ι s w e a) (fun b s₁ g => ?_) fun _ _ x => x)
  obtain ⟨ι₁, H₁, p₁, g⟩ := g
  cases b with
  | true => exact ⟨ι₁, H₁, p₁, g⟩
  | false =>
    show wpAny _ _ _ _ _ _
    rw [ts_whole _ (eval (.BoolOp .Or rest pos) env)]
    exact wpAny_mono (g A E env ι₁ s₁ (w.step p₁) (e.step w.hr p₁) (a.step p₁)) (fun _ _ g => g.before p₁) fun _ _ x => x
theorem ev_bool1 {op : BoolOp} {x : Expr} {pos : Pos} {Q : AV → Hp → Prop} (h : EvOK P C d x loc H Q X) : EvOK P C d (.BoolOp op [x] pos) loc H Q X := fun A E env ι s w e a =>
  PyProof.Rows.BoolOp_one (h A E env ι s w e a)
theorem ev_and {x y : Expr} {rest : List Expr} {pos : Pos} {Q : AV → Hp → Prop} (h : EvOK P C d x loc H (fun v H' => ∃ b, v = .bool b ∧ if b then EvOK P C d (.BoolOp .And (y :: rest) pos) loc H' Q X else Q (.bool false) H') X) :
    EvOK P C d (.BoolOp .And (x :: y :: rest) pos) loc H Q X := fun A E env ι s w e a => by
  refine PyProof.Rows.BoolOp_and (wpAny_mono (h A E env ι s w e a) (fun v s₁ g => ?_) fun _ _ x => x)
  obtain ⟨ι₁, H₁, x, p₁, r₁, b, rfl, g⟩ := g
  cases r₁
  refine wpAny_truthy_bool ?_
  cases b with
  | false => exact ⟨ι₁, H₁, .bool false, p₁, rfl, g⟩
  | true => exact wpAny_mono (g A E env ι₁ s₁ (w.step p₁) (e.step w.hr p₁) (a.step p₁)) (fun _ _ g => g.before p₁) fun _ _ x => x
theorem ev_or {x y : Expr} {rest : List Expr} {pos : Pos} {Q : AV → Hp → Prop} (h : EvOK P C d x loc H (fun v H' => ∃ b, v = .bool b ∧ if b then Q (.bool true) H' else EvOK P C d (.BoolOp .Or (y :: rest) pos) loc H' Q X) X) :
    EvOK P C d (.BoolOp .Or (x :: y :: rest) pos) loc H Q X := fun A E env ι s w e a => by
  refine PyProof.Rows.BoolOp_or (wpAny_mono (h A E env ι s w e a) (fun v s₁ g => ?_) fun _ _ x => x)
  obtain ⟨ι₁, H₁, x, p₁, r₁, b, rfl, g⟩ := g
  cases r₁
  refine wpAny_truthy_bool ?_
  cases b with
  | true => exact ⟨ι₁, H₁, .bool true, p₁, rfl, g⟩
  | false => exact wpAny_mono (g A E env ι₁ s₁ (w.step p₁) (e.step w.hr p₁) (a.step p₁)) (fun _ _ g => g.before p₁) fun _ _ x => x

/-! several expressions -/
theorem evs_nil {Q : List AV → Hp → Prop} (h : Q [] H) : EvsOK P C d [] loc H Q X := fun _ _ _ ι _ _ w _ _ => wpAny_items_nil ⟨ι, H, [], Post.id w.hr, rfl, h⟩
theorem evs_cons {x : Expr} {rest : List Expr} {Q : List AV → Hp → Prop} (h : EvOK P C d x loc H (fun v H' => EvsOK P C d rest loc H' (fun vs H'' => Q (v :: vs) H'') X) X)
    (he : ∀ env, starEach (x :: rest) env = (false, eval x env) :: starEach rest env) :
    EvsOK P C d (x :: rest) loc H Q X := fun A E env ι s pos w e a => by
  refine wpAny_items_cons (wpAny_mono (h A E env ι s w e a) (fun v s₁ g => ?_) fun _ _ x => x) (he env)
  obtain ⟨ι₁, H₁, x, p₁, r₁, g⟩ := g
  refine wpAny_mono (g A E env ι₁ s₁ pos (w.step p₁) (e.step w.hr p₁) (a.step p₁)) (fun vs s₂ g => ?_) fun _ _ x => x
  obtain ⟨ι₂, H₂, l, p₂, r₂, g⟩ := g
  exact ⟨ι₂, H₂, x :: l, p₁.trans p₂, ⟨_, _, rfl, p₂.vr p₁.hr r₁, r₂⟩, g⟩

end Mine

namespace Mine
open PySem

theorem kept_nil_of {h h' : Heap} (k : ∀ a o, h.get? a = some o → h'.get? a = some o) : Kept [] h h' := Kept.of_keeps fun a o _ e => k a o e
theorem noTup_nil {h : Heap} : NoTup [] h := fun _ q => nomatch q

theorem HR.there {B : Heap} {ι : List Addr} {H : Hp} {h : Heap} (q : HR B ι H h) {i : Nat} {a : Addr} (e : ι[i]? = some a) : ∃ o, H[i]? = some o ∧ OR B h ι a o := by
  have hl : i < H.length := q.len ▸ (List.getElem?_eq_some_iff.mp e).1
  refine ⟨H[i], List.getElem?_eq_getElem hl, ?_⟩
  obtain ⟨b, eb, o⟩ := q.objs i H[i] (List.getElem?_eq_getElem hl)
  rw [e] at eb; cases eb; exact o
theorem OR.some {B h : Heap} {ι : List Addr} {a : Addr} {o : AObj} (q : OR B h ι a o) : ∃ x, h.get? a = some x := by
  cases o with
  | list l => obtain ⟨_, ⟨_, e⟩, _⟩ := q; exact ⟨_, e⟩
  | dict l => obtain ⟨_, _, _, _, e, _⟩ := q; exact ⟨_, e⟩
theorem HR.mem {B : Heap} {ι : List Addr} {H : Hp} {h : Heap} (q : HR B ι H h) {a : Addr} (m : a ∈ ι) : ∃ x, h.get? a = some x := by
  obtain ⟨i, hi, rfl⟩ := List.getElem_of_mem m
  obtain ⟨o, _, r⟩ := q.there (List.getElem?_eq_getElem hi)
  exact r.some

theorem HR.keep {B : Heap} {ι : List Addr} {H : Hp} {h h' : Heap} (q : HR B ι H h) (k : ∀ a o, h.get? a = some o → h'.get? a = some o) : HR B ι H h' :=
  ⟨fun a o e => k a o (q.base a o e), q.fresh, q.nodup, q.len, fun i o e => by
    obtain ⟨a, ea, r⟩ := q.objs i o e
    exact ⟨a, ea, r.mono (kept_nil_of k) noTup_nil (List.prefix_refl _) (List.not_mem_nil)⟩⟩

theorem Post.keep {B : Heap} {ι : List Addr} {H : Hp} {s : Shared} {h' : Heap} {t : Nat} (q : HR B ι H s.heap) (k : ∀ a o, s.heap.get? a = some o → h'.get? a = some o) : Post B ι s ι H { s with heap := h', toks := t } :=
  ⟨List.prefix_refl _, q.keep k, Kept.of_keeps fun a o _ e => k a o e, fun _ h => .inl h, h', t, rfl⟩

theorem HR.alloc {B : Heap} {ι : List Addr} {H : Hp} {h h' : Heap} (q : HR B ι H h) (k : ∀ a o, h.get? a = some o → h'.get? a = some o) {a : Addr} (ha : h.get? a = none) {o : AObj} (ho : OR B h' (ι ++ [a]) a o) :
    HR B (ι ++ [a]) (H ++ [o]) h' := by
  refine ⟨fun b x e => k b x (q.base b x e), fun b hb => ?_, ?_, by simp [q.len], fun i x e => ?_⟩
  · rcases List.mem_append.mp hb with m | m
    · exact q.fresh b m
    · have := List.mem_singleton.mp m; subst this
      cases z : B.get? b with
      | none => rfl
      | some x => have := q.base b x z; rw [ha] at this; cases this
  · refine List.nodup_append.mpr ⟨q.nodup, by simp, fun x hx y hy e => ?_⟩
    have := List.mem_singleton.mp hy; subst this; subst e
    obtain ⟨z, hz⟩ := q.mem hx
    rw [ha] at hz; cases hz
  · by_cases hi : i < H.length
    · rw [List.getElem?_append_left hi] at e
      obtain ⟨b, eb, r⟩ := q.objs i x e
      exact ⟨b, pre_get (List.prefix_append _ _) eb, r.mono (kept_nil_of k) noTup_nil (List.prefix_append _ _) (List.not_mem_nil)⟩
    · rw [List.getElem?_append_right (Nat.not_lt.mp hi)] at e
      have h0 : i - H.length = 0 := by
        cases z : i - H.length with
        | zero => rfl
        | succ n => rw [z] at e; simp at e
      rw [h0] at e
      simp only [List.getElem?_cons_zero, Option.some.injEq] at e
      subst e
      refine ⟨a, ?_, ho⟩
      have : i = ι.length := by rw [q.len]; omega
      subst this
      simp

theorem Post.alloc {B : Heap} {ι : List Addr} {H : Hp} {s : Shared} {h' : Heap} {t : Nat} (q : HR B ι H s.heap) (k : ∀ a o, s.heap.get? a = some o → h'.get? a = some o) {a : Addr} (ha : s.heap.get? a = none) {o : AObj} (ho : OR B h' (ι ++ [a]) a o) :
    Post B ι s (ι ++ [a]) (H ++ [o]) { s with heap := h', toks := t } :=
  ⟨List.prefix_append _ _, q.alloc k ha ho, Kept.of_keeps fun a o _ e => k a o e, fun _ hb => (List.mem_append.mp hb).elim .inl fun m => .inr (List.mem_singleton.mp m ▸ ha), h', t, rfl⟩

theorem nodup_inj {l : List Addr} (n : l.Nodup) : ∀ {i j : Nat} (hi : i < l.length) (hj : j < l.length), l[i] = l[j] → i = j := by
  intro i j hi hj e
  have key : ∀ {i j : Nat} (hi : i < l.length) (hj : j < l.length), i < j → l[i] ≠ l[j] := fun hi hj lt => (List.pairwise_iff_getElem.mp n) _ _ hi hj lt
  rcases Nat.lt_trichotomy i j with h | h | h
  · exact absurd e (key hi hj h)
  · exact h
  · exact absurd e.symm (key hj hi h)
theorem HR.upd {B : Heap} {ι : List Addr} {H : Hp} {h h' : Heap} (q : HR B ι H h) {i : Nat} {a : Addr} (ea : ι[i]? = some a) (k : ∀ b x, b ≠ a → h.get? b = some x → h'.get? b = some x) {o : AObj} (ho : OR B h' ι a o) :
    HR B ι (H.set i o) h' := by
  have kp : Kept [a] h h' := Kept.of_keeps fun b x hb e => k b x (fun z => hb (z ▸ List.mem_singleton.mpr rfl)) e
  have ma : a ∈ ι := List.mem_of_getElem? ea
  have nt : NoTup [a] h := fun b hb => by rw [List.mem_singleton.mp hb]; exact q.noTup a ma
  refine ⟨fun b x e => k b x (fun z => ?_) (q.base b x e), q.fresh, q.nodup, by rw [List.length_set]; exact q.len, fun j x e => ?_⟩
  · have := q.fresh a ma; rw [← z, e] at this; cases this
  · rw [List.getElem?_set] at e
    split at e
    · rename_i hij
      subst hij
      split at e
      · simp only [Option.some.injEq] at e; subst e
        exact ⟨a, ea, ho⟩
      · cases e
    · rename_i hij
      obtain ⟨b, eb, r⟩ := q.objs j x e
      refine ⟨b, eb, r.mono kp nt (List.prefix_refl _) fun z => ?_⟩
      have hb := List.mem_singleton.mp z
      subst hb
      obtain ⟨h1, e1⟩ := List.getElem?_eq_some_iff.mp ea
      obtain ⟨h2, e2⟩ := List.getElem?_eq_some_iff.mp eb
      exact hij (nodup_inj q.nodup h1 h2 (e1.trans e2.symm))

theorem Post.upd {B : Heap} {ι : List Addr} {H : Hp} {s : Shared} {h' : Heap} {t : Nat} (q : HR B ι H s.heap) {i : Nat} {a : Addr} (ea : ι[i]? = some a) (k : ∀ b x, b ≠ a → s.heap.get? b = some x → h'.get? b = some x) {o : AObj} (ho : OR B h' ι a o) :
    Post B ι s ι (H.set i o) { s with heap := h', toks := t } :=
  ⟨List.prefix_refl _, q.upd ea k ho, Kept.of_keeps fun b x hb e => k b x (fun z => hb (z ▸ List.mem_of_getElem? ea)) e, fun _ h => .inl h, h', t, rfl⟩

/-- the values of an updated place: what was related stays -/
theorem HR.vrs_upd {B : Heap} {ι : List Addr} {H : Hp} {h h' : Heap} (q : HR B ι H h) {a : Addr} (ma : a ∈ ι) (k : ∀ b x, b ≠ a → h.get? b = some x → h'.get? b = some x) {l : List AV} {vs : List Value} (r : VRs B h ι l vs) : VRs B h' ι l vs :=
  VRs.mono (S := [a]) (Kept.of_keeps fun b x hb e => k b x (fun z => hb (z ▸ List.mem_singleton.mpr rfl)) e) (fun b hb => by rw [List.mem_singleton.mp hb]; exact q.noTup a ma) (List.prefix_refl _) l vs r
theorem HR.vr_upd {B : Heap} {ι : List Addr} {H : Hp} {h h' : Heap} (q : HR B ι H h) {a : Addr} (ma : a ∈ ι) (k : ∀ b x, b ≠ a → h.get? b = some x → h'.get? b = some x) {l : AV} {vs : Value} (r : VR B h ι l vs) : VR B h' ι l vs :=
  VR.mono (S := [a]) (Kept.of_keeps fun b x hb e => k b x (fun z => hb (z ▸ List.mem_singleton.mpr rfl)) e) (fun b hb => by rw [List.mem_singleton.mp hb]; exact q.noTup a ma) (List.prefix_refl _) l vs r

theorem VRs.length {B h : Heap} {ι : List Addr} : ∀ {l : List AV} {vs : List Value}, VRs B h ι l vs → vs.length = l.length
  | [], _, q => by rw [show _ = [] from q]; rfl
  | _ :: l, _, q => by
    obtain ⟨v, r, rfl, _, b⟩ := q
    rw [List.length_cons, List.length_cons, VRs.length b]
theorem VRs.get {B h : Heap} {ι : List Addr} : ∀ {l : List AV} {vs : List Value}, VRs B h ι l vs → ∀ {i : Nat} {x : AV}, l[i]? = some x → ∃ v, vs[i]? = some v ∧ VR B h ι x v
  | [], _, _, _, _, e => by simp at e
  | _ :: l, _, q, i, x, e => by
    obtain ⟨v, r, rfl, a, b⟩ := q
    cases i with
    | zero => simp only [List.getElem?_cons_zero, Option.some.injEq] at e; subst e; exact ⟨v, rfl, a⟩
    | succ i => simp only [List.getElem?_cons_succ] at e ⊢; exact VRs.get b e
theorem VRs.append {B h : Heap} {ι : List Addr} : ∀ {l m : List AV} {vs ws : List Value}, VRs B h ι l vs → VRs B h ι m ws → VRs B h ι (l ++ m) (vs ++ ws)
  | [], _, _, _, q, r => by rw [show _ = [] from q]; exact r
  | _ :: l, _, _, _, q, r => by
    obtain ⟨v, t, rfl, a, b⟩ := q
    exact ⟨v, t ++ _, rfl, a, VRs.append b r⟩
theorem VRs.take {B h : Heap} {ι : List Addr} : ∀ {l : List AV} {vs : List Value} (n : Nat), VRs B h ι l vs → VRs B h ι (l.take n) (vs.take n)
  | [], _, _, q => by rw [show _ = [] from q]; simp [VRs]
  | _ :: l, _, 0, q => by simp [VRs]
  | _ :: l, _, n + 1, q => by
    obtain ⟨v, t, rfl, a, b⟩ := q
    exact ⟨v, t.take n, rfl, a, VRs.take n b⟩
theorem VRs.drop {B h : Heap} {ι : List Addr} : ∀ {l : List AV} {vs : List Value} (n : Nat), VRs B h ι l vs → VRs B h ι (l.drop n) (vs.drop n)
  | [], _, _, q => by rw [show _ = [] from q]; simp [VRs]
  | _ :: l, _, 0, q => q
  | _ :: l, _, n + 1, q => by
    obtain ⟨v, t, rfl, a, b⟩ := q
    exact VRs.drop n b
theorem VRs.reverse {B h : Heap} {ι : List Addr} : ∀ {l : List AV} {vs : List Value}, VRs B h ι l vs → VRs B h ι l.reverse vs.reverse
  | [], _, q => by rw [show _ = [] from q]; simp [VRs]
  | _ :: l, _, q => by
    obtain ⟨v, t, rfl, a, b⟩ := q
    rw [List.reverse_cons, List.reverse_cons]
    exact VRs.append (VRs.reverse b) ⟨v, [], rfl, a, rfl⟩
theorem VRs.set {B h : Heap} {ι : List Addr} : ∀ {l : List AV} {vs : List Value} {n : Nat} {x : AV} {v : Value}, VRs B h ι l vs → VR B h ι x v → VRs B h ι (l.set n x) (vs.set n v)
  | [], _, _, _, _, q, _ => by rw [show _ = [] from q]; simp [VRs]
  | _ :: l, _, 0, _, _, q, r => by
    obtain ⟨v, t, rfl, a, b⟩ := q
    exact ⟨_, t, rfl, r, b⟩
  | _ :: l, _, n + 1, _, _, q, r => by
    obtain ⟨v, t, rfl, a, b⟩ := q
    exact ⟨v, _, rfl, a, VRs.set b r⟩

variable {P : PEnv} {C : Ctx} {d : Nat} {loc : Loc} {H : Hp} {X : XP}

theorem get_size (h : Heap) : h.get? h.objs.size = none := by
  cases e : h.get? h.objs.size with
  | none => rfl
  | some o => exact absurd (Heap.lt_size e) (Nat.lt_irrefl _)

theorem gives_newTuple {ι : List Addr} {s : Shared} {l : List AV} {vs : List Value} {Q : AV → Hp → Prop} (hr : HR P.B ι H s.heap) (r : VRs P.B s.heap ι l vs) (q : Q (.tup l) H) :
    Gives P.B ι s Q (.ref s.heap.objs.size) { s with heap := s.heap.push { cls := .type "tuple", data := .seq vs.toArray } } := by
  have k : ∀ a o, s.heap.get? a = some o → (s.heap.push { cls := .type "tuple", data := .seq vs.toArray }).get? a = some o := fun a o e => Heap.get?_push_of_some _ e
  refine ⟨ι, H, .tup l, Post.keep (t := s.toks) hr k, ?_, q⟩
  unfold VR
  exact ⟨_, vs, rfl, PTup.new _ _, VRs.mono (kept_nil_of k) noTup_nil (List.prefix_refl _) l vs r⟩
theorem gives_newList {ι : List Addr} {s : Shared} {l : List AV} {vs : List Value} {Q : AV → Hp → Prop} (hr : HR P.B ι H s.heap) (r : VRs P.B s.heap ι l vs) (q : Q (.ref H.length) (H ++ [.list l])) :
    Gives P.B ι s Q (.ref s.heap.objs.size) { s with heap := s.heap.push { cls := .type "list", data := .seq vs.toArray } } := by
  have k : ∀ a o, s.heap.get? a = some o → (s.heap.push { cls := .type "list", data := .seq vs.toArray }).get? a = some o := fun a o e => Heap.get?_push_of_some _ e
  refine ⟨ι ++ [s.heap.objs.size], H ++ [.list l], .ref H.length, Post.alloc (o := .list l) (t := s.toks) hr k (get_size _) ⟨vs, ⟨0, Heap.get?_push_size _ rfl⟩, VRs.mono (kept_nil_of k) noTup_nil (List.prefix_append _ _) l vs r⟩, ?_, q⟩
  exact ⟨_, rfl, by rw [← hr.len]; simp⟩

theorem ev_tup {es : List Expr} {k : Nat} {pos : Pos} {Q : AV → Hp → Prop} (h : EvsOK P C d es loc H (fun l H' => l.length ≤ sizeLine ∧ Q (.tup l) H') X) : EvOK P C d (.Tuple es k pos) loc H Q X := fun A E env ι s w e a => by
  refine wpAny_Tuple (wpAny_mono (h A E env ι s pos w e a) (fun vs s₁ g => ?_) fun _ _ x => x)
  obtain ⟨ι₁, H₁, l, p₁, r₁, hl, g⟩ := g
  exact ⟨by rw [r₁.length]; exact hl, (gives_newTuple p₁.hr r₁ g).before p₁⟩
theorem ev_lst {es : List Expr} {pos : Pos} {Q : AV → Hp → Prop} (h : EvsOK P C d es loc H (fun l H' => l.length ≤ sizeLine ∧ Q (.ref H'.length) (H' ++ [.list l])) X) : EvOK P C d (.List es pos) loc H Q X := fun A E env ι s w e a => by
  refine wpAny_List (wpAny_mono (h A E env ι s pos w e a) (fun vs s₁ g => ?_) fun _ _ x => x)
  obtain ⟨ι₁, H₁, l, p₁, r₁, hl, g⟩ := g
  exact ⟨by rw [r₁.length]; exact hl, (gives_newList p₁.hr r₁ g).before p₁⟩

theorem ev_sub {o i : Expr} {pos : Pos} {Q : AV → Hp → Prop}
    (h : EvOK P C d o loc H (fun x H₁ => EvOK P C d i loc H₁ (fun y H₂ => OpOK P d (fun vs => PyProof.Rows.subscriptTail o i (vs.getD 0 .none) (vs.getD 1 .none)) [x, y] H₂ Q) X) X) :
    EvOK P C d (.Subscript o i pos) loc H Q X := fun A E env ι s w e a => by
  refine PyProof.Rows.Subscript_ (wpAny_mono (h A E env ι s w e a) (fun u s₁ g => ?_) fun _ _ x => x)
  obtain ⟨ι₁, H₁, x, p₁, r₁, g⟩ := g
  refine wpAny_mono (g A E env ι₁ s₁ (w.step p₁) (e.step w.hr p₁) (a.step p₁)) (fun u' s₂ g => ?_) fun _ _ x => x
  obtain ⟨ι₂, H₂, y, p₂, r₂, g⟩ := g
  exact wpAny_mono (g A E ι₂ s₂ [u, u'] ((w.step p₁).step p₂) ⟨_, _, rfl, p₂.vr p₁.hr r₁, _, _, rfl, r₂, rfl⟩) (fun _ _ g => (g.before p₂).before p₁) fun _ _ x => x

end Mine

namespace Mine
open PySem

inductive MFlow where
  | next | brk | cont
  | ret (v : AV)

def FR (B h : Heap) (ι : List Addr) : MFlow → Flow → Prop
  | .next, f => f = .next
  | .brk, f => f = .brk
  | .cont, f => f = .cont
  | .ret d, f => ∃ v, f = .ret v ∧ VR B h ι d v

def own (C : Ctx) (env : Env) : List Addr := env.locals :: (C.vars.drop C.ro).filterMap fun o => o.bind fun x => env.cells.lookup x

theorem mem_own {C : Ctx} {env : Env} {a : Addr} (h : a ∈ own C env) : a = env.locals ∨ ∃ x, some x ∈ C.vars ∧ env.cells.lookup x = some a := by
  rcases List.mem_cons.mp h with e | m
  · exact .inl e
  · obtain ⟨o, ho, e⟩ := List.mem_filterMap.mp m
    cases o with
    | none => cases e
    | some x => exact .inr ⟨x, List.mem_of_mem_drop ho, e⟩
theorem own_cell {C : Ctx} {env : Env} {i : Nat} {x : Str} {c : Addr} (hi : C.ro ≤ i) (hx : C.vars[i]? = some (some x)) (hc : env.cells.lookup x = some c) : c ∈ own C env :=
  List.mem_cons_of_mem _ (List.mem_filterMap.mpr ⟨some x, List.mem_of_getElem? (i := i - C.ro) (by rw [List.getElem?_drop, Nat.add_sub_cancel' hi]; exact hx), hc⟩)

/-- as Post, but what lies at S may have turned too -/
structure PostS (B : Heap) (S ι : List Addr) (s : Shared) (ι' : List Addr) (H' : Hp) (s' : Shared) : Prop where
  pre : ι <+: ι'
  hr : HR B ι' H' s'.heap
  kept : Kept (S ++ ι) s.heap s'.heap
  new : ∀ a ∈ ι', a ∈ ι ∨ s.heap.get? a = Option.none
  same : ∃ h t, s' = { s with heap := h, toks := t }

theorem Post.toS {B : Heap} {S ι ι' : List Addr} {s s' : Shared} {H' : Hp} (p : Post B ι s ι' H' s') : PostS B S ι s ι' H' s' :=
  ⟨p.pre, p.hr, p.kept.mono fun _ h => List.mem_append.mpr (.inr h), p.new, p.same⟩

theorem PostS.trans {B : Heap} {S ι ι₁ ι₂ : List Addr} {s s₁ s₂ : Shared} {H₁ H₂ : Hp} (x : PostS B S ι s ι₁ H₁ s₁) (y : PostS B S ι₁ s₁ ι₂ H₂ s₂) (hS : ∀ a ∈ S, a ∉ ι₂) : PostS B S ι s ι₂ H₂ s₂ := by
  have out : ∀ a o, s.heap.get? a = some o → a ∉ S ++ ι → a ∉ S ++ ι₁ := fun a o e hn q => (List.mem_append.mp q).elim (fun m => hn (List.mem_append.mpr (.inl m))) fun m =>
    (x.new a m).elim (fun z => hn (List.mem_append.mpr (.inr z))) fun z => by rw [e] at z; cases z
  refine ⟨x.pre.trans y.pre, y.hr, fun a o e hn => ?_, fun a ha => ?_, ?_⟩
  · obtain ⟨sl, e1, q1⟩ := x.kept a o e hn
    obtain ⟨sl', e2, q2⟩ := y.kept a _ e1 (out a o e hn)
    exact ⟨sl', e2, fun c => (q2 c).trans (q1 c)⟩
  · by_cases hi : a ∈ ι
    · exact .inl hi
    · right
      rcases y.new a ha with q | q
      · exact (x.new a q).resolve_left hi
      · cases e : s.heap.get? a with
        | none => rfl
        | some o =>
          obtain ⟨sl, e1, _⟩ := x.kept a o e fun m => (List.mem_append.mp m).elim (fun z => hS a z ha) hi
          rw [e1] at q; cases q
  · obtain ⟨h, t, rfl⟩ := x.same
    obtain ⟨h', t', rfl⟩ := y.same
    exact ⟨h', t', rfl⟩

theorem EnvR.offOwn {B : Heap} {C : Ctx} {env : Env} {ι : List Addr} {h : Heap} {loc : Loc} (x : EnvR B C env ι h loc) : ∀ a ∈ own C env, a ∉ ι := fun a ha => by
  rcases mem_own ha with rfl | ⟨y, hm, e⟩
  · exact x.offL
  · exact (x.offC y a hm e).1
theorem EnvR.isOwn {B : Heap} {C : Ctx} {env : Env} {ι : List Addr} {h : Heap} {loc : Loc} (x : EnvR B C env ι h loc) : ∀ a ∈ own C env, ∃ o, h.get? a = some o ∧ (∀ vs, o.data ≠ .fields vs) ∧ ∀ vs n, o.data ≠ .seq vs n := fun a ha => by
  rcases mem_own ha with rfl | ⟨y, hm, e⟩
  · obtain ⟨m, o, es, ep, e, d, _⟩ := x.ns
    exact ⟨o, e, fun vs => by rw [d]; simp, fun vs n => by rw [d]; simp⟩
  · obtain ⟨ov, o, e, d⟩ := x.isC y a hm e
    exact ⟨o, e, fun vs => by rw [d]; simp, fun vs n => by rw [d]; simp⟩
theorem EnvR.noTup {B : Heap} {C : Ctx} {env : Env} {ι : List Addr} {h : Heap} {loc : Loc} {H : Hp} (x : EnvR B C env ι h loc) (q : HR B ι H h) : NoTup (own C env ++ ι) h := fun a ha vs t => by
  rcases List.mem_append.mp ha with m | m
  · obtain ⟨o, e, _, d⟩ := x.isOwn a m
    obtain ⟨o', e', _, n, d'⟩ := t
    rw [e] at e'; cases e'
    exact d _ _ d'
  · exact q.noTup a m vs t
theorem W.stepS {B : Heap} {A : Around} {d : Nat} {C : Ctx} {env : Env} {ι ι' : List Addr} {H H' : Hp} {s s' : Shared} {loc' : Loc} (x : W B A d ι H s) (p : PostS B (own C env) ι s ι' H' s') (e : EnvR B C env ι' s'.heap loc') : W B A d ι' H' s' := by
  refine ⟨x.room, ?_, p.hr⟩
  obtain ⟨fl, ef, q⟩ := x.fr
  refine ⟨fl, ef, fun en he => ?_⟩
  obtain ⟨k, L, o, h1, h2, h3, h4, h5⟩ := q en he
  have h6 : L ∉ ι' := fun z => (p.new L z).elim h5 fun w => by rw [h3] at w; cases w
  by_cases hL : L ∈ own C env
  · obtain ⟨o', e', d', _⟩ := e.isOwn L hL
    exact ⟨k, L, o', h1, h2, e', d', h6⟩
  · obtain ⟨o', e', d', _⟩ := p.kept.data h3 fun m => (List.mem_append.mp m).elim hL h5
    exact ⟨k, L, o', h1, h2, e', fun vs => d' ▸ h4 vs, h6⟩

theorem PostS.vr {B : Heap} {C : Ctx} {env : Env} {ι ι' : List Addr} {s s' : Shared} {H H' : Hp} {loc : Loc} (x : PostS B (own C env) ι s ι' H' s') (q : HR B ι H s.heap) (e : EnvR B C env ι s.heap loc) {d : AV} {v : Value} (r : VR B s.heap ι d v) : VR B s'.heap ι' d v :=
  VR.mono x.kept (e.noTup q) x.pre d v r

def AccS (B : Heap) (S : List Addr) (X : XP) (ι : List Addr) (s : Shared) (E : Value → Shared → Prop) : Prop :=
  ∀ e s' ι' H' c, PostS B S ι s ι' H' s' → e = .str c 0 → X c H' → E e s'
theorem AccS.acc {B : Heap} {S : List Addr} {X : XP} {ι : List Addr} {s : Shared} {E : Value → Shared → Prop} (x : AccS B S X ι s E) : Acc B X ι s E :=
  fun e s' ι' H' c q hx => x e s' ι' H' c q.1.toS q.2 hx
def XF : XP := fun _ _ => False
theorem AccS.no {B : Heap} {S : List Addr} {ι : List Addr} {s : Shared} {E : Value → Shared → Prop} : AccS B S XF ι s E := fun _ _ _ _ _ _ _ h => h.elim
theorem Acc.no {B : Heap} {ι : List Addr} {s : Shared} {E : Value → Shared → Prop} : Acc B XF ι s E := fun _ _ _ _ _ _ h => h.elim

def GivesS (B : Heap) (C : Ctx) (env : Env) (ι : List Addr) (s : Shared) (Q : MFlow → Loc → Hp → Prop) (f : Flow) (s' : Shared) : Prop :=
  ∃ ι' H' loc' fl, PostS B (own C env) ι s ι' H' s' ∧ EnvR B C env ι' s'.heap loc' ∧ FR B s'.heap ι' fl f ∧ Q fl loc' H'
theorem GivesS.before {B : Heap} {C : Ctx} {env : Env} {ι ι₁ : List Addr} {s s₁ : Shared} {H₁ : Hp} {Q : MFlow → Loc → Hp → Prop} {f : Flow} {s' : Shared} (p : PostS B (own C env) ι s ι₁ H₁ s₁) (g : GivesS B C env ι₁ s₁ Q f s') : GivesS B C env ι s Q f s' := by
  obtain ⟨ι', H', loc', fl, p', e, r, q⟩ := g
  exact ⟨ι', H', loc', fl, p.trans p' e.offOwn, e, r, q⟩

/-! statements: without raises, so far -/
section
variable (P : PEnv) (C : Ctx) (d : Nat)
def ExOK (st : Stmt) (loc : Loc) (H : Hp) (Q : MFlow → Loc → Hp → Prop) : Prop :=
  ∀ A E env ι s, W P.B A d ι H s → EnvR P.B C env ι s.heap loc → wpAny (model P.prog P.w) A (exec st env) (GivesS P.B C env ι s Q) E s
def ExsOK (sts : List Stmt) (loc : Loc) (H : Hp) (Q : MFlow → Loc → Hp → Prop) : Prop :=
  ∀ A E env ι s, W P.B A d ι H s → EnvR P.B C env ι s.heap loc → wpAny (model P.prog P.w) A (execs sts env) (GivesS P.B C env ι s Q) E s
end

variable {P : PEnv} {C : Ctx} {d : Nat} {loc : Loc} {H : Hp}

theorem exs_nil {Q : MFlow → Loc → Hp → Prop} (h : Q .next loc H) : ExsOK P C d [] loc H Q := fun _ _ _ ι _ w e => wpAny_execs_nil ⟨ι, H, loc, .next, (Post.id w.hr).toS, e, rfl, h⟩
theorem exs_cons {st : Stmt} {rest : List Stmt} {Q : MFlow → Loc → Hp → Prop}
    (h : ExOK P C d st loc H (fun fl loc' H' => match fl with | .next => ExsOK P C d rest loc' H' Q | fl => Q fl loc' H')) : ExsOK P C d (st :: rest) loc H Q := fun A E env ι s w e => by
  refine wpAny_execs_cons (wpAny_mono (h A E env ι s w e) (fun f s₁ g => ?_) fun _ _ x => x)
  obtain ⟨ι₁, H₁, loc₁, fl, p₁, e₁, r₁, g⟩ := g
  cases fl with
  | next =>
    cases r₁
    exact wpAny_mono (g A E env ι₁ s₁ (w.stepS p₁ e₁) e₁) (fun _ _ g => g.before p₁) fun _ _ x => x
  | brk => cases r₁; exact ⟨ι₁, H₁, loc₁, .brk, p₁, e₁, rfl, g⟩
  | cont => cases r₁; exact ⟨ι₁, H₁, loc₁, .cont, p₁, e₁, rfl, g⟩
  | ret v => obtain ⟨u, rfl, r⟩ := r₁; exact ⟨ι₁, H₁, loc₁, .ret v, p₁, e₁, ⟨u, rfl, r⟩, g⟩

theorem ex_ret {x : Expr} {pos : Pos} {Q : MFlow → Loc → Hp → Prop} (h : EvOK P C d x loc H (fun v H' => Q (.ret v) loc H') XF) : ExOK P C d (.Return (some x) pos) loc H Q := fun A E env ι s w e => by
  rw [exec_Return_some]
  refine wpAny_bind (wpAny_standAt (wpAny_bind (wpAny_mono (h A E env ι s w e Acc.no) (fun v s₁ g => ?_) fun _ _ x => x)))
  obtain ⟨ι₁, H₁, x, p₁, r₁, g⟩ := g
  exact wpAny_pure ⟨ι₁, H₁, loc, .ret x, p₁.toS, e.step w.hr p₁, ⟨v, rfl, r₁⟩, g⟩
theorem ex_if {t : Expr} {a b : List Stmt} {pos : Pos} {Q : MFlow → Loc → Hp → Prop} (h : TsOK P C d t loc H (fun c H' => if c then ExsOK P C d a loc H' Q else ExsOK P C d b loc H' Q) XF) : ExOK P C d (.If t a b pos) loc H Q := fun A E env ι s w e => by
  refine wpAny_If (wpAny_mono (h A E env ι s w e Acc.no) (fun c s₁ g => ?_) fun _ _ x => x)
  obtain ⟨ι₁, H₁, p₁, g⟩ := g
  cases c with
  | true => exact wpAny_mono (g A E env ι₁ s₁ (w.step p₁) (e.step w.hr p₁)) (fun _ _ g => g.before p₁.toS) fun _ _ x => x
  | false => exact wpAny_mono (g A E env ι₁ s₁ (w.step p₁) (e.step w.hr p₁)) (fun _ _ g => g.before p₁.toS) fun _ _ x => x

theorem ex_expr {x : Expr} {pos : Pos} {Q : MFlow → Loc → Hp → Prop} (h : EvOK P C d x loc H (fun _ H' => Q .next loc H') XF) (hi : ∀ env, swapsWith x none pos.line env = pure false) : ExOK P C d (.Expr x pos) loc H Q := fun A E env ι s w e => by
  refine wpAny_Expr_any (wpAny_mono (h A E env ι s w e Acc.no) (fun v s₁ g => ?_) fun _ _ x => x) ?_ (hi env)
  · obtain ⟨ι₁, H₁, x, p₁, r₁, g⟩ := g
    exact ⟨ι₁, H₁, loc, .next, p₁.toS, e.step w.hr p₁, rfl, g⟩
  · unfold interactive; rw [e.kind]; rfl

theorem ns_unique {h : Heap} {a : Addr} {m m' : Str → Option Value} (x : h.Ns a m) (y : h.Ns a m') : m = m' := by
  obtain ⟨o, es, ep, e, d, _, r⟩ := x
  obtain ⟨o', es', ep', e', d', _, r'⟩ := y
  rw [e] at e'; cases e'
  rw [d] at d'; cases d'
  funext z; rw [← r, ← r']

theorem setloc {i j : Nat} {v : AV} {loc : Loc} (hi : i < loc.length) : (loc.set i (some v))[j]? = if j = i then some (some v) else loc[j]? := by
  rw [List.getElem?_set]
  by_cases h : i = j
  · subst h; simp [hi]
  · have : ¬ j = i := fun e => h e.symm
    simp [h, this]

theorem store_ok {A : Around} {E : Value → Shared → Prop} {env : Env} {ι : List Addr} {s : Shared} {i : Nat} {x : Str} {u : Value} {v : AV} {Q : Unit → Shared → Prop} (w : HR P.B ι H s.heap) (e : EnvR P.B C env ι s.heap loc)
    (hlo : C.ro ≤ i) (hx : C.vars[i]? = some (some x)) (hu : ∀ j, C.vars[j]? = some (some x) → j = i) (hk : C.names.lookup x = some .local ∨ C.names.lookup x = some .cell) (r : VR P.B s.heap ι v u)
    (h : ∀ s', PostS P.B (own C env) ι s ι H s' → EnvR P.B C env ι s'.heap (loc.set i (some v)) → Q () s') : wpAny (model P.prog P.w) A (storeName env x u) Q E s := by
  have hi : i < loc.length := by rw [e.len]; exact (List.getElem?_eq_some_iff.mp hx).1
  have hko : ∀ y k, C.names.lookup y = k → env.kindOf y = k := fun y k q => by unfold Env.kindOf; rw [e.names]; exact q
  rcases hk with hk | hk
  · obtain ⟨m, n⟩ := e.ns
    refine wpAny_storeName_local (hko _ _ hk) n (fun h' n' sb => ?_) (by rw [e.kind]; rfl)
    have kp : Kept (own C env ++ ι) s.heap h' := Kept.of_keeps fun b o hb eb => sb.extBut b o (fun z => hb (z ▸ List.mem_append.mpr (.inl (List.mem_cons_self ..)))) eb
    have k1 : ∀ b o, b ≠ env.locals → s.heap.get? b = some o → h'.get? b = some o := fun b o hb eb => sb.extBut b o hb eb
    have hr' : HR P.B ι H h' := ⟨fun b o eb => k1 b o (fun z => by have := e.newL; rw [← z, eb] at this; cases this) (w.base b o eb), w.fresh, w.nodup, w.len, fun j o ej => by
      obtain ⟨a, ea, q⟩ := w.objs j o ej
      exact ⟨a, ea, q.mono (S := [env.locals]) (Kept.of_keeps fun b o hb eb => k1 b o (fun z => hb (z ▸ List.mem_singleton.mpr rfl)) eb) (fun b hb => by rw [List.mem_singleton.mp hb]; exact fun vs => e.noTup w _ (List.mem_append.mpr (.inl (List.mem_cons_self ..))) vs) (List.prefix_refl _) (fun z => e.offL ((List.mem_singleton.mp z) ▸ List.mem_of_getElem? ea))⟩⟩
    refine h _ ⟨List.prefix_refl _, hr', kp, fun _ q => .inl q, h', _, rfl⟩ ?_
    refine ⟨e.kind, e.names, e.glob, e.blt, ⟨_, n'⟩, e.offL, e.newL, e.offC, fun y c hm hc => ?_, e.apart, by rw [List.length_set]; exact e.len, fun j y hj => ?_⟩
    · obtain ⟨ov, q⟩ := e.isC y c hm hc
      exact ⟨ov, q.sameBut sb (e.offC y c hm hc).2.1⟩
    · by_cases hji : j = i
      · subst hji
        rw [hx] at hj; cases hj
        refine ⟨some u, .inl ⟨hko _ _ hk, _, n', by simp⟩, fun dd hdd => ⟨u, rfl, ?_⟩⟩
        rw [setloc hi, if_pos rfl] at hdd
        cases hdd
        exact VR.mono kp (e.noTup w) (List.prefix_refl _) _ _ r
      · have hyx : y ≠ x := fun z => hji (hu j (z ▸ hj))
        obtain ⟨ov, hs, hv⟩ := e.vars j y hj
        refine ⟨ov, ?_, fun dd hdd => ?_⟩
        · rcases hs with ⟨k, m', nn, em⟩ | ⟨k, c, ec, rc⟩
          · have := ns_unique n nn; subst this
            exact .inl ⟨k, _, n', by simp [hyx, em]⟩
          · exact .inr ⟨k, c, ec, rc.sameBut sb (e.offC y c (List.mem_of_getElem? hj) ec).2.1⟩
        · rw [setloc hi, if_neg hji] at hdd
          obtain ⟨v', ev', rv'⟩ := hv dd hdd
          exact ⟨v', ev', VR.mono kp (e.noTup w) (List.prefix_refl _) _ _ rv'⟩
  · obtain ⟨ov, hs, hv⟩ := e.vars i x hx
    obtain ⟨c, ec, rc⟩ : ∃ c, env.cells.lookup x = some c ∧ s.heap.IsCell c ov := by
      rcases hs with ⟨k, _⟩ | ⟨_, c, ec, rc⟩
      · rw [hko _ _ hk] at k; cases k
      · exact ⟨c, ec, rc⟩
    obtain ⟨oc1, oc2, oc3⟩ := e.offC x c (List.mem_of_getElem? hx) ec
    refine wpAny_storeName_cell e.kind (hko _ _ hk) ec rc fun h' c' sb => ?_
    have mc : c ∈ own C env := own_cell hlo hx ec
    have kp : Kept (own C env ++ ι) s.heap h' := Kept.of_keeps fun b o hb eb => sb.extBut b o (fun z => hb (z ▸ List.mem_append.mpr (.inl mc))) eb
    have k1 : ∀ b o, b ≠ c → s.heap.get? b = some o → h'.get? b = some o := fun b o hb eb => sb.extBut b o hb eb
    have hr' : HR P.B ι H h' := ⟨fun b o eb => k1 b o (fun z => by rw [← z, eb] at oc3; cases oc3) (w.base b o eb), w.fresh, w.nodup, w.len, fun j o ej => by
      obtain ⟨a, ea, q⟩ := w.objs j o ej
      exact ⟨a, ea, q.mono (S := [c]) (Kept.of_keeps fun b o hb eb => k1 b o (fun z => hb (z ▸ List.mem_singleton.mpr rfl)) eb) (fun b hb => by rw [List.mem_singleton.mp hb]; exact fun vs => e.noTup w _ (List.mem_append.mpr (.inl mc)) vs) (List.prefix_refl _) (fun z => oc1 ((List.mem_singleton.mp z) ▸ List.mem_of_getElem? ea))⟩⟩
    refine h _ ⟨List.prefix_refl _, hr', kp, fun _ q => .inl q, h', _, rfl⟩ ?_
    refine ⟨e.kind, e.names, e.glob, e.blt, ?_, e.offL, e.newL, e.offC, fun y c'' hm hc => ?_, e.apart, by rw [List.length_set]; exact e.len, fun j y hj => ?_⟩
    · obtain ⟨m, n⟩ := e.ns
      exact ⟨m, n.sameBut sb (Ne.symm oc2)⟩
    · by_cases hcc : c'' = c
      · subst hcc; exact ⟨_, c'⟩
      · obtain ⟨ov, q⟩ := e.isC y c'' hm hc
        exact ⟨ov, q.sameBut sb hcc⟩
    · by_cases hji : j = i
      · subst hji
        rw [hx] at hj; cases hj
        refine ⟨some u, .inr ⟨.inl (hko _ _ hk), c, ec, c'⟩, fun dd hdd => ⟨u, rfl, ?_⟩⟩
        rw [setloc hi, if_pos rfl] at hdd
        cases hdd
        exact VR.mono kp (e.noTup w) (List.prefix_refl _) _ _ r
      · have hyx : y ≠ x := fun z => hji (hu j (z ▸ hj))
        obtain ⟨ov', hs', hv'⟩ := e.vars j y hj
        refine ⟨ov', ?_, fun dd hdd => ?_⟩
        · rcases hs' with ⟨k, m', nn, em⟩ | ⟨k, c2, ec2, rc2⟩
          · exact .inl ⟨k, m', nn.sameBut sb (Ne.symm oc2), em⟩
          · exact .inr ⟨k, c2, ec2, rc2.sameBut sb fun z => hyx (e.apart y x c (List.mem_of_getElem? hj) (List.mem_of_getElem? hx) (z ▸ ec2) ec)⟩
        · rw [setloc hi, if_neg hji] at hdd
          obtain ⟨v', ev', rv'⟩ := hv' dd hdd
          exact ⟨v', ev', VR.mono kp (e.noTup w) (List.prefix_refl _) _ _ rv'⟩

/-- a name of the block that may be stored -/
structure Slot (C : Ctx) (i : Nat) (x : Str) : Prop where
  lo : C.ro ≤ i
  at_ : C.vars[i]? = some (some x)
  uniq : ∀ j, C.vars[j]? = some (some x) → j = i
  kind : C.names.lookup x = some .local ∨ C.names.lookup x = some .cell

theorem ex_assign {i : Nat} {x : Str} {v : Expr} {p' pos : Pos} {Q : MFlow → Loc → Hp → Prop} (sl : Slot C i x) (h : EvOK P C d v loc H (fun a H' => Q .next (loc.set i (some a)) H') XF)
    (hs : ∀ env, swapsWith v (some (.Name x p')) pos.line env = pure false) : ExOK P C d (.Assign [.Name x p'] v pos) loc H Q := fun A E env ι s w e => by
  refine wpAny_Assign_Name (wpAny_mono (h A E env ι s w e Acc.no) (fun u s₁ g => ?_) fun _ _ x => x) (hs env)
  obtain ⟨ι₁, H₁, a, p₁, r₁, g⟩ := g
  exact store_ok p₁.hr (e.step w.hr p₁) sl.lo sl.at_ sl.uniq sl.kind r₁ fun s' ps e' => ⟨ι₁, H₁, _, .next, PostS.trans p₁.toS ps e'.offOwn, e', rfl, g⟩

end Mine

namespace Mine
open PySem
set_option linter.unusedVariables false

variable {P : PEnv} {C : Ctx} {d : Nat} {loc : Loc} {H : Hp}

theorem ex_while {t : Expr} {body : List Stmt} {pos : Pos} {Q : MFlow → Loc → Hp → Prop} (J : Nat → Loc → Hp → Prop) (n : Nat) (h0 : J n loc H)
    (turn : ∀ n loc H, J n loc H → TsOK P C d t loc H (fun c H' => if c then ExsOK P C d body loc H' (fun fl l'' H'' => match fl with
      | .next => ∃ m, m < n ∧ J m l'' H''
      | .cont => ∃ m, m < n ∧ J m l'' H''
      | .brk => Q .next l'' H''
      | .ret v => Q (.ret v) l'' H'') else Q .next loc H') XF) : ExOK P C d (.While t body [] pos) loc H Q := fun A E env ι s w e => by
  refine wpAny_While ?_
  refine codeAny_whileLoop (fun n s' => ∃ ι' H' loc', PostS P.B (own C env) ι s ι' H' s' ∧ EnvR P.B C env ι' s'.heap loc' ∧ J n loc' H') (fun n s' hI => ?_) n ⟨ι, H, loc, (Post.id w.hr).toS, e, h0⟩
  obtain ⟨ι', H', loc', p, e', hj⟩ := hI
  have w' := w.stepS p e'
  refine wpAny_mono (turn n loc' H' hj A _ env ι' s' w' e' Acc.no) (fun c s₁ g => ?_) fun _ _ x => x
  obtain ⟨ι₁, H₁, p₁, g⟩ := g
  have e₁ := e'.step w'.hr p₁
  have pp := p.trans (S := own C env) p₁.toS e₁.offOwn
  cases c with
  | false => exact wpAny_execs_nil ⟨ι₁, H₁, loc', .next, pp, e₁, rfl, g⟩
  | true =>
    refine wpAny_mono (g A _ env ι₁ s₁ (w'.step p₁) e₁) (fun f s₂ g => ?_) fun _ _ x => x
    obtain ⟨ι₂, H₂, loc₂, fl, p₂, e₂, r₂, g⟩ := g
    have pp₂ := pp.trans p₂ e₂.offOwn
    cases fl with
    | next => cases r₂; obtain ⟨m, hm, hj'⟩ := g; exact ⟨m, hm, ι₂, H₂, loc₂, pp₂, e₂, hj'⟩
    | cont => cases r₂; obtain ⟨m, hm, hj'⟩ := g; exact ⟨m, hm, ι₂, H₂, loc₂, pp₂, e₂, hj'⟩
    | brk => cases r₂; exact ⟨ι₂, H₂, loc₂, .next, pp₂, e₂, rfl, g⟩
    | ret v => obtain ⟨u, rfl, r⟩ := r₂; exact ⟨ι₂, H₂, loc₂, .ret v, pp₂, e₂, ⟨u, rfl, r⟩, g⟩

/-! targets -/
def TgOK (P : PEnv) (C : Ctx) (tg : Expr) (x : AV) (loc : Loc) (K : Loc → Prop) : Prop :=
  ∀ A E env ι H s v, A.handled = none → HR P.B ι H s.heap → EnvR P.B C env ι s.heap loc → VR P.B s.heap ι x v →
    wpAny (model P.prog P.w) A (assign tg env v) (fun _ s' => ∃ loc', PostS P.B (own C env) ι s ι H s' ∧ EnvR P.B C env ι s'.heap loc' ∧ K loc') E s

theorem tg_name {i : Nat} {x : Str} {pos : Pos} {v : AV} {K : Loc → Prop} (sl : Slot C i x) (h : K (loc.set i (some v))) : TgOK P C (.Name x pos) v loc K := fun A E env ι H s u _ hr e r =>
  wpAny_assign_Name (store_ok hr e sl.lo sl.at_ sl.uniq sl.kind r fun s' ps e' => ⟨_, ps, e', h⟩)

def setAll : List (Nat × AV) → Loc → Loc
  | [], l => l
  | (i, v) :: r, l => setAll r (l.set i (some v))

/-- the names of a tuple of names, with their slots -/
inductive Names (C : Ctx) : List Expr → List Nat → Prop
  | nil : Names C [] []
  | cons {x : Str} {pos : Pos} {i : Nat} {es : List Expr} {is : List Nat} : Slot C i x → Names C es is → Names C (.Name x pos :: es) (i :: is)

theorem Names.each {C : Ctx} {es : List Expr} {is : List Nat} (n : Names C es is) (env : Env) : (assignEach es env).length = es.length ∧ (assignEach es env).findIdx? (·.1) = none := by
  induction n with
  | nil => exact ⟨rfl, rfl⟩
  | cons _ _ ih =>
    refine ⟨?_, ?_⟩
    · show _ + 1 = _; rw [ih.1]; rfl
    · show List.findIdx? _ ((false, _) :: assignEach _ env) = none
      rw [List.findIdx?_cons]; simp [ih.2]
theorem Names.length {C : Ctx} {es : List Expr} {is : List Nat} (n : Names C es is) : es.length = is.length := by
  induction n with
  | nil => rfl
  | cons _ _ ih => simp [ih]

theorem tg_tup_go {A : Around} {E : Value → Shared → Prop} {env : Env} {ι : List Addr} {H : Hp} {s₀ : Shared} : ∀ {es : List Expr} {is : List Nat} (_ : Names C es is) {vs : List AV} {us : List Value} {loc : Loc} {s : Shared} {K : Loc → Prop}, vs.length = is.length →
    PostS P.B (own C env) ι s₀ ι H s → EnvR P.B C env ι s.heap loc → VRs P.B s.heap ι vs us → K (setAll (is.zip vs) loc) →
    wpAny (model P.prog P.w) A (assignInOrder ((assignEach es env).map (·.2)) us) (fun _ s' => ∃ loc', PostS P.B (own C env) ι s₀ ι H s' ∧ EnvR P.B C env ι s'.heap loc' ∧ K loc') E s
  | _, _, .nil, vs, us, loc, s, K, hl, p, e, r, hk => by
    have : vs = [] := List.length_eq_zero_iff.mp hl
    subst this
    exact PyProof.Rows.assignInOrder_nil ⟨loc, p, e, hk⟩
  | _, _, .cons (x := x) (pos := pos) (i := i) sl n, vs, us, loc, s, K, hl, p, e, r, hk => by
    cases vs with
    | nil => simp at hl
    | cons v vs =>
      obtain ⟨u, ur, rfl, r1, r2⟩ := r
      refine PyProof.Rows.assignInOrder_cons (wpAny_assign_Name (store_ok p.hr e sl.lo sl.at_ sl.uniq sl.kind r1 fun s' ps e' => ?_))
      refine tg_tup_go n (by simpa using hl) (p.trans ps e'.offOwn) e' (VRs.mono ps.kept (e.noTup p.hr) (List.prefix_refl _) _ _ r2) hk

theorem tg_tup {es : List Expr} {k : Nat} {is : List Nat} {pos : Pos} {vs : List AV} {K : Loc → Prop} (n : Names C es is) (hl : vs.length = is.length) (h : K (setAll (is.zip vs) loc)) : TgOK P C (.Tuple es k pos) (.tup vs) loc K := fun A E env ι H s u hh hr e r => by
  unfold VR at r
  obtain ⟨t, us, rfl, ht, r⟩ := r
  refine PyProof.Rows.assign_Tuple_tuple hh ht.isTup ?_ (n.each env).2 fun h' he => ?_
  · rw [(n.each env).1, n.length, List.size_toArray, r.length, hl]
  · have k : ∀ a o, s.heap.get? a = some o → h'.get? a = some o := fun a o ea => he a o (Nat.ne_of_lt (Heap.lt_size ea)) ea
    have p : Post P.B ι s ι H { s with heap := h', toks := s.toks } := Post.keep hr k
    exact tg_tup_go n hl (p.toS (S := own C env)) (e.step hr p) (p.vrs hr r) h

/-! iterators -/
structure Itr (P : PEnv) (I : Addr) (wr : List Addr) (items : List AV) (Cnd : Hp → Prop) (It : Nat → List Addr → Heap → Prop) (Mid : Nat → Value → List Addr → Heap → Prop) : Prop where
  mono : ∀ k ι ι' S h h', It k ι h → Kept S h h' → NoTup S h → ι <+: ι' → (∀ a ∈ wr, a ∉ S) → It k ι' h'
  there : ∀ k ι h, It k ι h → ∀ a ∈ wr, ∃ o, h.get? a = some o ∧ ∀ vs n, o.data ≠ .seq vs n
  thereM : ∀ k v ι h, Mid k v ι h → ∀ a ∈ wr, ∃ o, h.get? a = some o ∧ ∀ vs n, o.data ≠ .seq vs n
  next : ∀ A E ι H s k x (Q : Option Value → Shared → Prop), A.handled = none → HR P.B ι H s.heap → Cnd H → It k ι s.heap → items[k]? = some x →
    (∀ v h' tk, VR P.B h' ι x v → Mid k v ι h' → (∀ b o, b ∉ wr → s.heap.get? b = some o → h'.get? b = some o) → Q (some v) { s with heap := h', toks := tk }) → wpAny (model P.prog P.w) A (pyNext (.ref I)) Q E s
  go : ∀ tgt A E ι s k v (Q : Unit → Shared → Prop), Mid k v ι s.heap → (∀ h', It (k + 1) ι h' → (∀ b o, b ∉ wr → s.heap.get? b = some o → h'.get? b = some o) → Q () { s with heap := h' }) →
    wpAny (model P.prog P.w) A (letOwnedTupleGo tgt (.ref I) v) Q E s
  stop : ∀ A E ι H s (Q : Option Value → Shared → Prop), A.handled = none → HR P.B ι H s.heap → Cnd H → It items.length ι s.heap →
    (∀ h' tk, (∀ b o, b ∉ wr → s.heap.get? b = some o → h'.get? b = some o) → Q none { s with heap := h', toks := tk }) → wpAny (model P.prog P.w) A (pyNext (.ref I)) Q E s
  self : ∀ A E ι s k (Q : Value → Shared → Prop), It k ι s.heap → Q (.ref I) s → wpAny (model P.prog P.w) A (pyIter (.ref I)) Q E s

/-- the iterable: its iterator is made -/
def ItOK (P : PEnv) (x : AV) (H : Hp) (items : List AV) (Cnd : Hp → Prop) : Prop :=
  ∀ A E ι s v (Q : Value → Shared → Prop), HR P.B ι H s.heap → VR P.B s.heap ι x v →
    (∀ I wr It Mid h' tk, Itr P I wr items Cnd It Mid → It 0 ι h' → (∀ a ∈ wr, s.heap.get? a = none) → (∀ b o, s.heap.get? b = some o → h'.get? b = some o) → Q (.ref I) { s with heap := h', toks := tk }) →
    wpAny (model P.prog P.w) A (pyIter v) Q E s

/-- nothing is owned by an iterator of such a class -/
theorem go_plain {M : Model} {A : Around} {E : Value → Shared → Prop} {s : Shared} {tgt : Expr} {I : Addr} {v : Value} {o : Obj} {n : String} {Q : Unit → Shared → Prop} (ho : s.heap.get? I = some o) (hc : o.cls = .type n)
    (hn : ["enumerate", "zip", "dict_itemiterator", "dict_reverseitemiterator", "odict_iterator", "itertools.zip_longest", "itertools.pairwise"].contains n = false) (h : Q () s) : wpAny M A (letOwnedTupleGo tgt (.ref I) v) Q E s := by
  have key : wpAny M A (do
    let (.ref r, .ref a) := (Value.ref I, v) | return
    let o ← load r
    match o.cls, o.data with
    | .type n, .fields vs =>
      if ["enumerate", "zip", "dict_itemiterator", "dict_reverseitemiterator", "odict_iterator", "itertools.zip_longest", "itertools.pairwise"].contains n && vs[0]? == some (rawInt a) then
        rule "for.unpacks-the-owned-tuple"
        updateField r 0 .none
    | _, _ => pure () : Sem Unit) Q E s := by
    cases v with
    | ref a =>
      refine wpAny_bind (wpAny_load ho ?_)
      rw [hc]
      cases o.data with
      | fields vs => simp only [hn, Bool.false_and, Bool.false_eq_true, if_false]; exact wpAny_pure h
      | _ => exact wpAny_pure h
    | _ => exact wpAny_pure h
  unfold letOwnedTupleGo
  split
  · exact key
  · exact key
  · exact wpAny_pure h

theorem listiter_mono {S : List Addr} {h h' : Heap} {I l : Addr} {k : Nat} (x : Kept S h h') (q : h.IsListIter I l k) (hn : I ∉ S) : h'.IsListIter I l k := by
  obtain ⟨o, e, c, dt⟩ := q
  exact ⟨o, x.exact e hn (by rw [c]; simp), c, dt⟩

theorem it_list {i : Nat} {l : List AV} (hi : H[i]? = some (.list l)) : ItOK P (.ref i) H l (fun H' => H'[i]? = some (.list l)) := fun A E ι s v Q hr r h => by
  obtain ⟨a, rfl, ea⟩ := r
  obtain ⟨a', ea', vs, pl, rv⟩ := hr.objs i _ hi
  rw [ea] at ea'; cases ea'
  refine wpAny_pyIter_list pl.isList ?_
  have al : a < s.heap.objs.size := Heap.lt_size pl.choose_spec
  refine h s.heap.objs.size [s.heap.objs.size] (fun k ι' h' => ι'[i]? = some a ∧ h'.IsListIter s.heap.objs.size a k) (fun k _ ι' h' => ι'[i]? = some a ∧ h'.IsListIter s.heap.objs.size a (k + 1)) _ s.toks ?_ ⟨ea, _, Heap.get?_push_size _ rfl, rfl, rfl⟩ (fun b hb => by rw [List.mem_singleton.mp hb]; exact get_size _) (fun b o e => Heap.get?_push_of_some _ e)
  refine ⟨?_, ?_, ?_, ?_, ?_, ?_, ?_⟩
  · rintro k ι₁ ι₂ S h₁ h₂ ⟨q1, q2⟩ kp _ pr hw
    exact ⟨pre_get pr q1, listiter_mono kp q2 (hw _ (List.mem_singleton.mpr rfl))⟩
  · rintro k ι₁ h₁ ⟨_, o, e, c, dt⟩ b hb
    rw [List.mem_singleton.mp hb]
    exact ⟨o, e, fun vs n => by rw [dt]; simp⟩
  · rintro k v ι₁ h₁ ⟨_, o, e, c, dt⟩ b hb
    rw [List.mem_singleton.mp hb]
    exact ⟨o, e, fun vs n => by rw [dt]; simp⟩
  · intro A E ι₁ H₁ s₁ k x Q hh hr₁ hc q hx hQ
    obtain ⟨a₂, ea₂, vs₂, pl₂, rv₂⟩ := hr₁.objs i _ hc
    rw [q.1] at ea₂; cases ea₂
    obtain ⟨u, hu, ru⟩ := rv₂.get hx
    refine wpAny_pyNext_list_item q.2 pl₂.isList (x := u) (by simpa using hu) fun h' it' sb => ?_
    have ext : ∀ b o, b ∉ [s.heap.objs.size] → s₁.heap.get? b = some o → h'.get? b = some o := fun b o hb eb => sb.extBut b o (fun z => hb (z ▸ List.mem_singleton.mpr rfl)) eb
    refine hQ u h' s₁.toks (VR.mono (S := [s.heap.objs.size]) (Kept.of_keeps ext) (fun b hb vs t => ?_) (List.prefix_refl _) _ _ ru) ⟨q.1, it'⟩ ext
    rw [List.mem_singleton.mp hb] at t
    obtain ⟨o, e, c, dt⟩ := q.2
    obtain ⟨o', e', c', _⟩ := t
    rw [e] at e'; cases e'; rw [c] at c'; simp at c'
  · rintro tgt A E ι₁ s₁ k v Q ⟨q1, o, e, c, dt⟩ hQ
    exact go_plain e c (by decide) (hQ s₁.heap ⟨q1, o, e, c, dt⟩ fun _ _ _ e => e)
  · intro A E ι₁ H₁ s₁ Q hh hr₁ hc q hQ
    obtain ⟨a₂, ea₂, vs₂, pl₂, rv₂⟩ := hr₁.objs i _ hc
    rw [q.1] at ea₂; cases ea₂
    refine wpAny_pyNext_list_end hh q.2 pl₂.isList (by simp [rv₂.length]) fun h' ext => hQ h' s₁.toks fun b o hb eb => ext b o (fun z => hb (z ▸ List.mem_singleton.mpr rfl)) eb
  · intro A E ι₁ s₁ k Q q hQ
    exact wpAny_pyIter_listiter q.2 hQ

theorem it_fro {l : List AV} : ItOK P (.fro l) H l (fun _ => True) := fun A E ι s v Q hr r h => by
  unfold VR at r
  obtain ⟨a, vs, rfl, bl, rv⟩ := r
  have keepL : ∀ h', P.B.StaysIn h' → h'.IsList a vs.toArray := fun h' q => bl.at fun o e => q a o e
  refine wpAny_pyIter_list (keepL _ hr.base) ?_
  refine h s.heap.objs.size [s.heap.objs.size] (fun k ι' h' => VRs P.B h' ι' l vs ∧ h'.IsListIter s.heap.objs.size a k) (fun k _ ι' h' => VRs P.B h' ι' l vs ∧ h'.IsListIter s.heap.objs.size a (k + 1)) _ s.toks ?_
    ⟨VRs.mono (S := []) (kept_nil_of fun b o e => Heap.get?_push_of_some _ e) noTup_nil (List.prefix_refl _) _ _ rv, _, Heap.get?_push_size _ rfl, rfl, rfl⟩ (fun b hb => by rw [List.mem_singleton.mp hb]; exact get_size _) (fun b o e => Heap.get?_push_of_some _ e)
  have nt : ∀ {h₁ : Heap} {k : Nat}, h₁.IsListIter s.heap.objs.size a k → NoTup [s.heap.objs.size] h₁ := fun q b hb vs t => by
    rw [List.mem_singleton.mp hb] at t
    obtain ⟨o, e, c, dt⟩ := q
    obtain ⟨o', e', c', _⟩ := t
    rw [e] at e'; cases e'; rw [c] at c'; simp at c'
  refine ⟨?_, ?_, ?_, ?_, ?_, ?_, ?_⟩
  · rintro k ι₁ ι₂ S h₁ h₂ ⟨q1, q2⟩ kp nts pr hw
    exact ⟨VRs.mono kp nts pr _ _ q1, listiter_mono kp q2 (hw _ (List.mem_singleton.mpr rfl))⟩
  · rintro k ι₁ h₁ ⟨_, o, e, c, dt⟩ b hb
    rw [List.mem_singleton.mp hb]
    exact ⟨o, e, fun vs n => by rw [dt]; simp⟩
  · rintro k v ι₁ h₁ ⟨_, o, e, c, dt⟩ b hb
    rw [List.mem_singleton.mp hb]
    exact ⟨o, e, fun vs n => by rw [dt]; simp⟩
  · intro A E ι₁ H₁ s₁ k x Q hh hr₁ hc q hx hQ
    obtain ⟨u, hu, ru⟩ := q.1.get hx
    refine wpAny_pyNext_list_item q.2 (keepL _ hr₁.base) (x := u) (by simpa using hu) fun h' it' sb => ?_
    have ext : ∀ b o, b ∉ [s.heap.objs.size] → s₁.heap.get? b = some o → h'.get? b = some o := fun b o hb eb => sb.extBut b o (fun z => hb (z ▸ List.mem_singleton.mpr rfl)) eb
    exact hQ u h' s₁.toks (VR.mono (S := [s.heap.objs.size]) (Kept.of_keeps ext) (nt q.2) (List.prefix_refl _) _ _ ru) ⟨VRs.mono (S := [s.heap.objs.size]) (Kept.of_keeps ext) (nt q.2) (List.prefix_refl _) _ _ q.1, it'⟩ ext
  · rintro tgt A E ι₁ s₁ k v Q ⟨q1, o, e, c, dt⟩ hQ
    exact go_plain e c (by decide) (hQ s₁.heap ⟨q1, o, e, c, dt⟩ fun _ _ _ e => e)
  · intro A E ι₁ H₁ s₁ Q hh hr₁ hc q hQ
    refine wpAny_pyNext_list_end hh q.2 (keepL _ hr₁.base) (by simp [q.1.length]) fun h' ext => hQ h' s₁.toks fun b o hb eb => ext b o (fun z => hb (z ▸ List.mem_singleton.mpr rfl)) eb
  · intro A E ι₁ s₁ k Q q hQ
    exact wpAny_pyIter_listiter q.2 hQ

theorem it_tup {l : List AV} : ItOK P (.tup l) H l (fun _ => True) := fun A E ι s v Q hr r h => by
  unfold VR at r
  obtain ⟨a, vs, rfl, tl, rv⟩ := r
  refine wpAny_pyIter_tuple tl.isTup ?_
  refine h s.heap.objs.size [s.heap.objs.size] (fun k ι' h' => (PTup h' a vs.toArray ∧ VRs P.B h' ι' l vs) ∧ h'.IsTupleIter s.heap.objs.size a k) (fun k _ ι' h' => (PTup h' a vs.toArray ∧ VRs P.B h' ι' l vs) ∧ h'.IsTupleIter s.heap.objs.size a (k + 1)) _ s.toks ?_
    ⟨⟨PTup.push tl _, VRs.mono (S := []) (kept_nil_of fun b o e => Heap.get?_push_of_some _ e) noTup_nil (List.prefix_refl _) _ _ rv⟩, _, Heap.get?_push_size _ rfl, rfl, rfl⟩ (fun b hb => by rw [List.mem_singleton.mp hb]; exact get_size _) (fun b o e => Heap.get?_push_of_some _ e)
  have nt : ∀ {h₁ : Heap} {k : Nat}, h₁.IsTupleIter s.heap.objs.size a k → NoTup [s.heap.objs.size] h₁ := fun q b hb vs t => by
    rw [List.mem_singleton.mp hb] at t
    obtain ⟨o, e, c, dt⟩ := q
    obtain ⟨o', e', c', _⟩ := t
    rw [e] at e'; cases e'; rw [c] at c'; simp at c'
  refine ⟨?_, ?_, ?_, ?_, ?_, ?_, ?_⟩
  · rintro k ι₁ ι₂ S h₁ h₂ ⟨q1, o, e, c, dt⟩ kp nts pr hw
    exact ⟨⟨istup_kept kp nts q1.1, VRs.mono kp nts pr _ _ q1.2⟩, o, kp.exact e (hw _ (List.mem_singleton.mpr rfl)) (by rw [c]; simp), c, dt⟩
  · rintro k ι₁ h₁ ⟨_, o, e, c, dt⟩ b hb
    rw [List.mem_singleton.mp hb]
    exact ⟨o, e, fun vs n => by rw [dt]; simp⟩
  · rintro k v ι₁ h₁ ⟨_, o, e, c, dt⟩ b hb
    rw [List.mem_singleton.mp hb]
    exact ⟨o, e, fun vs n => by rw [dt]; simp⟩
  · intro A E ι₁ H₁ s₁ k x Q hh hr₁ hc q hx hQ
    obtain ⟨u, hu, ru⟩ := q.1.2.get hx
    refine wpAny_pyNext_tuple_item q.2 q.1.1.isTup (x := u) (by simpa using hu) fun h' it' sb => ?_
    have ext : ∀ b o, b ∉ [s.heap.objs.size] → s₁.heap.get? b = some o → h'.get? b = some o := fun b o hb eb => sb.extBut b o (fun z => hb (z ▸ List.mem_singleton.mpr rfl)) eb
    exact hQ u h' s₁.toks (VR.mono (S := [s.heap.objs.size]) (Kept.of_keeps ext) (nt q.2) (List.prefix_refl _) _ _ ru) ⟨⟨istup_kept (S := [s.heap.objs.size]) (Kept.of_keeps ext) (nt q.2) q.1.1, VRs.mono (S := [s.heap.objs.size]) (Kept.of_keeps ext) (nt q.2) (List.prefix_refl _) _ _ q.1.2⟩, it'⟩ ext
  · rintro tgt A E ι₁ s₁ k v Q ⟨q1, o, e, c, dt⟩ hQ
    exact go_plain e c (by decide) (hQ s₁.heap ⟨q1, o, e, c, dt⟩ fun _ _ _ e => e)
  · intro A E ι₁ H₁ s₁ Q hh hr₁ hc q hQ
    refine wpAny_pyNext_tuple_end hh q.2 q.1.1.isTup (by simp [q.1.2.length]) fun h' ext => hQ h' s₁.toks fun b o hb eb => ext b o (fun z => hb (z ▸ List.mem_singleton.mpr rfl)) eb
  · intro A E ι₁ s₁ k Q q hQ
    exact wpAny_pyIter_tupleiter q.2 hQ

/-- what goes through a value: the iterator is made -/
def ItTail (P : PEnv) (A : Around) (ι₁ : List Addr) (items : List AV) (Cnd : Hp → Prop) (v : Value) (s₀ s₁ : Shared) : Prop :=
  ∀ E (Q : Value → Shared → Prop), (∀ I wr It Mid h' tk, Itr P I wr items Cnd It Mid → It 0 ι₁ h' → (∀ a ∈ wr, s₀.heap.get? a = none) → (∀ b o, s₀.heap.get? b = some o → h'.get? b = some o) → Q (.ref I) { s₀ with heap := h', toks := tk }) →
      wpAny (model P.prog P.w) A (pyIter v) Q E s₁
/-- an expression whose value is gone through -/
def ItEv (P : PEnv) (C : Ctx) (d : Nat) (it : Expr) (loc : Loc) (H : Hp) (K : List AV → (Hp → Prop) → Hp → Prop) (X : XP) : Prop :=
  ∀ A E env ι s, W P.B A d ι H s → EnvR P.B C env ι s.heap loc → Acc P.B X ι s E → wpAny (model P.prog P.w) A (eval it env) (fun v s₁ => ∃ ι₁ H₁ items Cnd s₀, Post P.B ι s ι₁ H₁ s₀ ∧
    ItTail P A ι₁ items Cnd v s₀ s₁ ∧ K items Cnd H₁) E s
theorem itEv_of {it : Expr} {K : List AV → (Hp → Prop) → Hp → Prop} {X : XP} (h : EvOK P C d it loc H (fun x H₁ => ∃ items Cnd, ItOK P x H₁ items Cnd ∧ K items Cnd H₁) X) : ItEv P C d it loc H K X := fun A E env ι s w e a =>
  wpAny_mono (h A E env ι s w e a) (fun v s₁ g => by
    obtain ⟨ι₁, H₁, x, p₁, r₁, items, Cnd, io, k⟩ := g
    exact ⟨ι₁, H₁, items, Cnd, s₁, p₁, fun E Q hq => io A E ι₁ s₁ v Q p₁.hr r₁ hq, k⟩) fun _ _ x => x
theorem ItEv.mono {it : Expr} {K K' : List AV → (Hp → Prop) → Hp → Prop} {X : XP} (h : ItEv P C d it loc H K X) (k : ∀ i c H, K i c H → K' i c H) : ItEv P C d it loc H K' X := fun A E env ι s w e a =>
  wpAny_mono (h A E env ι s w e a) (fun v s₁ g => by
    obtain ⟨ι₁, H₁, items, Cnd, s₀, p₁, io, q⟩ := g
    exact ⟨ι₁, H₁, items, Cnd, s₀, p₁, io, k _ _ _ q⟩) fun _ _ x => x

theorem ex_for_gen {tgt it : Expr} {body : List Stmt} {pos : Pos} {Q : MFlow → Loc → Hp → Prop}
    (h : ItEv P C d it loc H (fun items Cnd H₁ => ∃ J : Nat → Loc → Hp → Prop, J 0 loc H₁ ∧ ∀ k loc H, J k loc H → Cnd H ∧
      (∀ y, items[k]? = some y → TgOK P C tgt y loc (fun l' => ExsOK P C d body l' H (fun fl l'' H'' => match fl with
        | .next => J (k + 1) l'' H''
        | .cont => J (k + 1) l'' H''
        | .brk => Q .next l'' H''
        | .ret v => Q (.ret v) l'' H''))) ∧
      (k = items.length → Q .next loc H)) XF)
    (hs : ∀ env x, foldedSetIterable it env x = pure x) : ExOK P C d (.For tgt it body [] pos) loc H Q := fun A E env ι s w e => by
  refine wpAny_For (wpAny_mono (h A E env ι s w e Acc.no) (fun v s₀ g => ?_) fun _ _ x => x) (hs env)
  obtain ⟨ι₁, H₁, items, Cnd, s₁, p₁, io, J, j0, turn⟩ := g
  have w₁ := w.step p₁
  have e₁ := e.step w.hr p₁
  refine io E _ fun I wr It Mid h₂ tk itr it0 wrn k₂ => ?_
  have p₂ : Post P.B ι₁ s₁ ι₁ H₁ { s₁ with heap := h₂, toks := tk } := Post.keep w₁.hr k₂
  have e₂ := e₁.step w₁.hr p₂
  refine codeAny_forLoop_any (fun n s' => ∃ k ι' H' loc', n = items.length + 1 - k ∧ k ≤ items.length ∧ (∀ a ∈ wr, a ∉ own C env ++ ι') ∧ PostS P.B (own C env) ι₁ s₁ ι' H' s' ∧ EnvR P.B C env ι' s'.heap loc' ∧ J k loc' H' ∧ It k ι' s'.heap) (fun n s' hI => ?_) (items.length + 1)
    ⟨0, ι₁, H₁, loc, rfl, Nat.zero_le _, fun a ha m => ?_, p₂.toS, e₂, j0, it0⟩
  rotate_left
  · rcases List.mem_append.mp m with m | m
    · obtain ⟨o, eo, _⟩ := e₁.isOwn a m
      rw [wrn a ha] at eo; cases eo
    · obtain ⟨o, eo⟩ := w₁.hr.mem m
      rw [wrn a ha] at eo; cases eo
  obtain ⟨k, ι', H', loc', rfl, hk, wrO, p, e', hj, hit⟩ := hI
  obtain ⟨hc, htg, hend⟩ := turn k loc' H' hj
  have w' := w₁.stepS p e'
  have ntw : ∀ h', (∀ a ∈ wr, ∃ o, h'.get? a = some o ∧ ∀ vs n, o.data ≠ .seq vs n) → NoTup wr h' := fun h' q a ha vs t => by
    obtain ⟨o, eo, d1⟩ := q a ha
    obtain ⟨o', eo', _, n, d2⟩ := t
    rw [eo] at eo'; cases eo'
    exact d1 _ _ d2
  have offC₁ : ∀ x c, some x ∈ C.vars → env.cells.lookup x = some c → c ∉ wr := fun x c hm hc m => by
    obtain ⟨ov, o, eo, _⟩ := e₁.isC x c hm hc
    rw [wrn c m] at eo; cases eo
  -- a step that turns the iterator's own objects alone
  have stepW : ∀ {ι₂ : List Addr} {H₂ : Hp} {s₂ : Shared} {h' : Heap} {t' : Nat}, HR P.B ι₂ H₂ s₂.heap → (∀ a ∈ wr, a ∉ own C env ++ ι₂) → (∀ a ∈ wr, P.B.get? a = none) → (∀ a ∈ wr, ∃ o, s₂.heap.get? a = some o ∧ ∀ vs n, o.data ≠ .seq vs n) →
      (∀ b o, b ∉ wr → s₂.heap.get? b = some o → h'.get? b = some o) → HR P.B ι₂ H₂ h' ∧ ∀ {l₂ : Loc}, EnvR P.B C env ι₂ s₂.heap l₂ → EnvR P.B C env ι₂ h' l₂ := by
    intro ι₂ H₂ s₂ h' t' hr off nb th ext
    have kp : Kept wr s₂.heap h' := Kept.of_keeps ext
    have nt := ntw _ th
    refine ⟨⟨fun b o eb => ext b o (fun m => by rw [nb b m] at eb; cases eb) (hr.base b o eb), hr.fresh, hr.nodup, hr.len, fun j o ej => ?_⟩, fun {l₂} ee => ?_⟩
    · obtain ⟨a, ea, q⟩ := hr.objs j o ej
      exact ⟨a, ea, q.mono kp nt (List.prefix_refl _) fun m => off a m (List.mem_append.mpr (.inr (List.mem_of_getElem? ea)))⟩
    · have kO : ∀ a ∈ own C env, ∀ o, s₂.heap.get? a = some o → ∃ o', h'.get? a = some o' ∧ o'.data = o.data := fun a ha o eo => ⟨o, ext a o (fun m => off a m (List.mem_append.mpr (.inl ha))) eo, rfl⟩
      have kC : ∀ x c, some x ∈ C.vars → env.cells.lookup x = some c → ∀ o, s₂.heap.get? c = some o → ∃ o', h'.get? c = some o' ∧ o'.data = o.data := fun x c hm hc o eo => ⟨o, ext c o (fun m => offC₁ x c hm hc m) eo, rfl⟩
      refine ⟨ee.kind, ee.names, ee.glob, ee.blt, ?_, ee.offL, ee.newL, ee.offC, fun x c hm hx => ?_, ee.apart, ee.len, fun j x hj => ?_⟩
      · obtain ⟨m, n⟩ := ee.ns
        exact ⟨m, Ns.of_data n (kO _ (List.mem_cons_self ..))⟩
      · obtain ⟨ov, q⟩ := ee.isC x c hm hx
        exact ⟨ov, Cell.of_data q (kC x c hm hx)⟩
      · obtain ⟨ov, hs, hv⟩ := ee.vars j x hj
        refine ⟨ov, ?_, fun dd hd => ?_⟩
        · rcases hs with ⟨k, m, n, em⟩ | ⟨k, c, ec, rc⟩
          · exact .inl ⟨k, m, Ns.of_data n (kO _ (List.mem_cons_self ..)), em⟩
          · exact .inr ⟨k, c, ec, Cell.of_data rc (kC x c (List.mem_of_getElem? hj) ec)⟩
        · obtain ⟨v', ev, rv⟩ := hv dd hd
          exact ⟨v', ev, VR.mono kp nt (List.prefix_refl _) _ _ rv⟩
  have nbW : ∀ a ∈ wr, P.B.get? a = none := fun a ha => by
    cases z : P.B.get? a with
    | none => rfl
    | some o => have := w₁.hr.base a o z; rw [wrn a ha] at this; cases this
  -- from the start to a state whose own objects and iterator have turned
  have reach : ∀ {ι₂ : List Addr} {H₂ : Hp} {s₂ : Shared} {h' : Heap} {t' : Nat}, PostS P.B (own C env) ι₁ s₁ ι₂ H₂ s₂ → HR P.B ι₂ H₂ h' → (∀ b o, b ∉ wr → s₂.heap.get? b = some o → h'.get? b = some o) → (∀ a ∈ own C env, a ∉ ι₂) →
      PostS P.B (own C env) ι₁ s₁ ι₂ H₂ { s₂ with heap := h', toks := t' } := by
    intro ι₂ H₂ s₂ h' t' q hr ext ho
    refine ⟨q.pre, hr, fun a o eo hn => ?_, q.new, ?_⟩
    · obtain ⟨sl, e1, q1⟩ := q.kept a o eo hn
      exact ⟨sl, ext a _ (fun m => by rw [wrn a m] at eo; cases eo) e1, q1⟩
    · obtain ⟨h₃, t₃, rfl⟩ := q.same
      exact ⟨h', t', rfl⟩
  cases hx : items[k]? with
  | none =>
    have hke : k = items.length := by
      have := List.getElem?_eq_none_iff.mp hx
      omega
    refine itr.stop A _ ι' H' s' _ w'.room.handled w'.hr hc (hke ▸ hit) fun h' tk ext => ?_
    obtain ⟨hr₃, ee₃⟩ := stepW (t' := 0) w'.hr wrO nbW (itr.there k ι' _ hit) ext
    have p₃ := reach (t' := tk) p hr₃ ext e'.offOwn
    exact wpAny_execs_nil ⟨ι', H', loc', .next, PostS.trans p₁.toS p₃ (ee₃ e').offOwn, ee₃ e', rfl, hend hke⟩
  | some y =>
    have hkl : k < items.length := (List.getElem?_eq_some_iff.mp hx).1
    refine itr.next A _ ι' H' s' k y _ w'.room.handled w'.hr hc hit hx fun v h₃ tk₃ rv mid ext₃ => ?_
    obtain ⟨hr₃, ee₃⟩ := stepW (t' := 0) w'.hr wrO nbW (itr.there k ι' _ hit) ext₃
    have p₃ := reach (t' := tk₃) p hr₃ ext₃ e'.offOwn
    refine itr.go tgt A _ ι' { s' with heap := h₃, toks := tk₃ } k v _ mid fun h₄ it₄ ext₄ => ?_
    obtain ⟨hr₄, ee₄⟩ := stepW (s₂ := { s' with heap := h₃, toks := tk₃ }) (t' := 0) hr₃ wrO nbW (itr.thereM k v ι' _ mid) ext₄
    have p₄ := reach (t' := tk₃) p₃ hr₄ ext₄ e'.offOwn
    have e₄ := ee₄ (ee₃ e')
    have rv₄ : VR P.B h₄ ι' y v := VR.mono (S := wr) (Kept.of_keeps ext₄) (ntw _ (itr.thereM k v ι' _ mid)) (List.prefix_refl _) _ _ rv
    refine wpAny_mono (htg y hx A _ env ι' H' { s' with heap := h₄, toks := tk₃ } v w'.room.handled hr₄ e₄ rv₄) (fun _ s₅ g => ?_) fun _ _ x => x
    obtain ⟨loc₅, p₅, e₅, g⟩ := g
    have pp₅ := p₄.trans p₅ e₅.offOwn
    have it₅ : It (k + 1) ι' s₅.heap := itr.mono _ _ _ _ _ _ it₄ p₅.kept (e₄.noTup hr₄) (List.prefix_refl _) wrO
    refine wpAny_mono (g A _ env ι' s₅ (w₁.stepS pp₅ e₅) e₅) (fun f s₆ g => ?_) fun _ _ x => x
    obtain ⟨ι₆, H₆, loc₆, fl, p₆, e₆, r₆, g⟩ := g
    have pp₆ := pp₅.trans p₆ e₆.offOwn
    have wr₆ : ∀ a ∈ wr, a ∉ own C env ++ ι₆ := fun a ha m => by
      rcases List.mem_append.mp m with m | m
      · exact wrO a ha (List.mem_append.mpr (.inl m))
      · rcases p₆.new a m with z | z
        · exact wrO a ha (List.mem_append.mpr (.inr z))
        · obtain ⟨o, eo, _⟩ := itr.there _ _ _ it₅ a ha
          rw [z] at eo; cases eo
    have it₆ : It (k + 1) ι₆ s₆.heap := itr.mono _ _ _ _ _ _ it₅ p₆.kept (e₅.noTup p₅.hr) p₆.pre wrO
    cases fl with
    | next => cases r₆; exact ⟨items.length + 1 - (k + 1), by omega, k + 1, ι₆, H₆, loc₆, rfl, hkl, wr₆, pp₆, e₆, g, it₆⟩
    | cont => cases r₆; exact ⟨items.length + 1 - (k + 1), by omega, k + 1, ι₆, H₆, loc₆, rfl, hkl, wr₆, pp₆, e₆, g, it₆⟩
    | brk => cases r₆; exact ⟨ι₆, H₆, loc₆, .next, PostS.trans p₁.toS pp₆ e₆.offOwn, e₆, rfl, g⟩
    | ret v => obtain ⟨u, rfl, r⟩ := r₆; exact ⟨ι₆, H₆, loc₆, .ret v, PostS.trans p₁.toS pp₆ e₆.offOwn, e₆, ⟨u, rfl, r⟩, g⟩

end Mine

namespace Mine
open PySem
set_option linter.unusedVariables false

/-- a call of a def of the text -/
def CallOK (P : PEnv) (d : Nat) (x : Str) (args : List AV) (H : Hp) (Q : AV → Hp → Prop) (X : XP) : Prop :=
  ∀ A ι s vs fa (R : Result → Shared → Prop), P.mg x = some (.ref fa) → W P.B A d ι H s → VRs P.B s.heap ι args vs → (∀ v s', Gives P.B ι s Q v s' → R (.ok (.ret v)) s') → Acc P.B X ι s (fun e s' => R (.error e) s') →
    codeAny (model P.prog P.w) A (.call (.ref fa) ⟨vs, []⟩) R s

theorem CallOK.mono {P : PEnv} {d : Nat} {x : Str} {args : List AV} {H : Hp} {Q Q' : AV → Hp → Prop} {X : XP} (h : CallOK P d x args H Q X) (q : ∀ a H', Q a H' → Q' a H') : CallOK P d x args H Q' X :=
  fun A ι s vs fa R e w r hR hX => h A ι s vs fa R e w r (fun v s' g => hR v s' (g.mono q)) hX
theorem CallOK.x {P : PEnv} {d : Nat} {x : Str} {args : List AV} {H : Hp} {Q : AV → Hp → Prop} {X : XP} (h : CallOK P d x args H Q XF) : CallOK P d x args H Q X :=
  fun A ι s vs fa R e w r hR hX => h A ι s vs fa R e w r hR Acc.no

structure FnAt (P : PEnv) (x : Str) (C : Ctx) (params : List Str) (body : List Stmt) : Prop where
  ex : ∃ fa o fd, P.mg x = some (.ref fa) ∧ P.B.get? fa = some o ∧ o.data = .func fd ∧ fd.body = .stmts body ∧ fd.scope.names = C.names ∧ fd.scope.kind = .function ∧ fd.scope.isCoroutine = false ∧ fd.scope.isGenerator = false ∧
    fd.closure = [] ∧ fd.globals = mainGlobals ∧ fd.builtins = builtinsNs ∧ P.B.CodeRec fd.code fd.qualname ∧ ∀ vals : List Value, vals.length = params.length → bindArgs fd ⟨vals, []⟩ = pure (params.zip vals)

/-- the names of a def's block are in order -/
def Ctx.good (C : Ctx) (params : List Str) : Bool :=
  (C.vars.all fun o => match o with | some x => C.names.lookup x == some .local || C.names.lookup x == some .cell | none => false) && decide (C.vars.Nodup) && decide ((params.map some).isPrefixOf C.vars = true) && decide (C.ro = 0)

theorem bindL_not {k : Str → Option NameKind} {x : Str} : ∀ {b : List (Str × Value)} {m : Str → Option Value}, x ∉ b.map (·.1) → bindL k b m x = m x
  | [], _, _ => rfl
  | (n, v) :: r, m, h => by
    have h1 : x ≠ n := fun e => h (e ▸ List.mem_cons_self ..)
    have h2 : x ∉ r.map (·.1) := fun q => h (List.mem_cons_of_mem _ q)
    unfold bindL
    rw [bindL_not h2]
    split
    · simp [h1]
    · rfl
theorem bindC_not {k : Str → Option NameKind} {x : Str} : ∀ {b : List (Str × Value)} {m : Str → Option Value}, x ∉ b.map (·.1) → bindC k b m x = m x
  | [], _, _ => rfl
  | (n, v) :: r, m, h => by
    have h1 : x ≠ n := fun e => h (e ▸ List.mem_cons_self ..)
    have h2 : x ∉ r.map (·.1) := fun q => h (List.mem_cons_of_mem _ q)
    unfold bindC
    rw [bindC_not h2]
    split
    · rfl
    · simp [h1]
theorem zip_keys : ∀ {ps : List Str} {vs : List Value} {x : Str}, x ∉ ps → x ∉ (ps.zip vs).map (·.1)
  | [], _, _, _ => by simp
  | p :: ps, [], _, _ => by simp
  | p :: ps, v :: vs, x, h => by
    simp only [List.zip_cons_cons, List.map_cons, List.mem_cons, not_or] at h ⊢
    exact ⟨h.1, zip_keys h.2⟩
theorem bindL_at {k : Str → Option NameKind} {x : Str} (hk : k x = some .local) : ∀ {ps : List Str} {vs : List Value} {m : Str → Option Value} {i : Nat} {v : Value}, ps.Nodup → ps[i]? = some x → vs[i]? = some v → bindL k (ps.zip vs) m x = some v
  | [], _, _, _, _, _, h, _ => by simp at h
  | p :: ps, [], _, _, _, _, _, h => by simp at h
  | p :: ps, v :: vs, m, 0, u, nd, h1, h2 => by
    simp only [List.getElem?_cons_zero, Option.some.injEq] at h1 h2
    subst h1; subst h2
    have := List.nodup_cons.mp nd
    show bindL k (ps.zip vs) _ p = some v
    rw [bindL_not (zip_keys this.1), if_pos hk]; simp
  | p :: ps, v :: vs, m, i + 1, u, nd, h1, h2 => by
    simp only [List.getElem?_cons_succ] at h1 h2
    show bindL k (ps.zip vs) _ x = some u
    exact bindL_at hk (List.nodup_cons.mp nd).2 h1 h2
theorem bindC_at {k : Str → Option NameKind} {x : Str} (hk : k x = some .cell) : ∀ {ps : List Str} {vs : List Value} {m : Str → Option Value} {i : Nat} {v : Value}, ps.Nodup → ps[i]? = some x → vs[i]? = some v → bindC k (ps.zip vs) m x = some v
  | [], _, _, _, _, _, h, _ => by simp at h
  | p :: ps, [], _, _, _, _, _, h => by simp at h
  | p :: ps, v :: vs, m, 0, u, nd, h1, h2 => by
    simp only [List.getElem?_cons_zero, Option.some.injEq] at h1 h2
    subst h1; subst h2
    have := List.nodup_cons.mp nd
    show bindC k (ps.zip vs) _ p = some v
    rw [bindC_not (zip_keys this.1), if_neg (by rw [hk]; decide)]; simp
  | p :: ps, v :: vs, m, i + 1, u, nd, h1, h2 => by
    simp only [List.getElem?_cons_succ] at h1 h2
    show bindC k (ps.zip vs) _ x = some u
    exact bindC_at hk (List.nodup_cons.mp nd).2 h1 h2

theorem lookup_of_mem {α : Type} {x : Str} {c : α} : ∀ {l : List (Str × α)}, (x, c) ∈ l → ∃ c', l.lookup x = some c'
  | (n, u) :: r, h => by
    rw [List.lookup_cons]
    cases hx : x == n with
    | true => exact ⟨u, rfl⟩
    | false =>
      rcases List.mem_cons.mp h with e | m
      · rw [(Prod.mk.inj e).1] at hx; simp at hx
      · exact lookup_of_mem m
theorem cellsFrom_mem {x : Str} : ∀ {names : List (Str × NameKind)} {n : Nat} {acc : List (Str × Addr)}, (x, NameKind.cell) ∈ names ∨ (∃ c, (x, c) ∈ acc) → ∃ c, (x, c) ∈ cellsFrom n names acc
  | [], _, _, h => h.elim (fun q => nomatch q) fun q => q
  | (y, k) :: r, n, acc, h => by
    unfold cellsFrom
    split
    · rename_i hk
      refine cellsFrom_mem ?_
      rcases h with h | ⟨c, h⟩
      · rcases List.mem_cons.mp h with e | m
        · exact .inr ⟨n, by rw [(Prod.mk.inj e).1]; exact List.mem_cons_self ..⟩
        · exact .inl m
      · exact .inr ⟨c, List.mem_cons_of_mem _ h⟩
    · rename_i hk
      refine cellsFrom_mem ?_
      rcases h with h | h
      · rcases List.mem_cons.mp h with e | m
        · rw [← (Prod.mk.inj e).2] at hk; exact absurd rfl hk
        · exact .inl m
      · exact .inr h
theorem mem_of_lookupK {x : Str} {k : NameKind} : ∀ {l : List (Str × NameKind)}, l.lookup x = some k → (x, k) ∈ l := fun h => mem_of_lookup h

variable {P : PEnv} {C : Ctx} {d : Nat} {loc : Loc} {H : Hp} {X : XP}

/-- how a def's block begins -/
def start (C : Ctx) (args : List AV) : Loc := args.map some ++ List.replicate (C.vars.length - args.length) none
def endOf (Q : AV → Hp → Prop) : MFlow → Loc → Hp → Prop
  | .ret v, _, H => Q v H
  | .next, _, H => Q .none H
  | _, _, _ => False

theorem callOK_of {x : Str} {params : List Str} {body : List Stmt} {args : List AV} {Q : AV → Hp → Prop} (ok : P.OK) (fn : FnAt P x C params body) (good : C.good params = true) (hl : args.length = params.length)
    (h : ExsOK P C d body (start C args) H (endOf Q)) : CallOK P (d + 1) x args H Q X := fun A ι s vs fa R e w r hR _ => by
  obtain ⟨fa', o, fd, h1, h2, h3, h4, h5, h6, h7, h8, h9, h10, h11, h12, h13⟩ := fn.ex
  rw [e] at h1; cases h1
  simp only [Ctx.good, Bool.and_eq_true, List.all_eq_true, decide_eq_true_eq] at good
  obtain ⟨⟨⟨g1, g2⟩, g3⟩, _⟩ := good
  have hlv : vs.length = params.length := r.length.trans hl
  obtain ⟨rest, hrest⟩ := List.isPrefixOf_iff_prefix.mp g3
  have kinds : ∀ y, some y ∈ C.vars → C.names.lookup y = some .local ∨ C.names.lookup y = some .cell := fun y hy => by
    have := g1 _ hy
    simpa using this
  have pvar : ∀ y ∈ params, some y ∈ C.vars := fun y hy => by rw [← hrest]; exact List.mem_append.mpr (.inl (List.mem_map.mpr ⟨y, hy, rfl⟩))
  have pnd : params.Nodup := by
    have := g2
    rw [← hrest] at this
    have q := (List.nodup_append.mp this).1
    exact (List.pairwise_map.mp q).imp fun hne hxy => hne (congrArg some hxy)
  have kc : ∀ {n : Nat} y, C.names.lookup y = some .cell → ((cellsFrom n fd.scope.names []).lookup y).isSome = true := fun y hy => by
    obtain ⟨c, hc⟩ := cellsFrom_mem (n := _) (acc := []) (.inl (h5 ▸ mem_of_lookupK hy))
    obtain ⟨c', hc'⟩ := lookup_of_mem hc
    rw [hc']; rfl
  refine codeAny_call_cells (fd := fd) (body := body) (binds := params.zip vs) ?_ (w.hr.base _ _ h2) h3 (ok.nolimit.keeps w.hr.base) (h12.keeps w.hr.base) h4 (h13 vs hlv) h9 (fun y hy => ?_) (fun s₁ ic => ?_) h7 h8 h6
  · have := w.room.depth; omega
  · have hy1 : y.1 ∈ params := (List.of_mem_zip (show (y.1, y.2) ∈ params.zip vs from hy)).1
    rw [h5]
    rcases kinds _ (pvar _ hy1) with q | q
    · exact .inl q
    · exact .inr ⟨q, by have := kc (n := s.heap.objs.size + 1) _ q; rw [h5] at this; exact this⟩
  · generalize hen : callEnvC fd s.heap.objs.size fa = env at ic ⊢
    have el : env.locals = s.heap.objs.size := by rw [← hen]; rfl
    have es : env.scope = fd.scope := by rw [← hen]; rfl
    have ec : env.cells = cellsFrom (s.heap.objs.size + 1) fd.scope.names [] := by rw [← hen]; rfl
    have ef : env.frame = some env.locals := by rw [← hen]; rfl
    have ek : ∀ y, env.kindOf y = C.names.lookup y := fun y => by unfold Env.kindOf; rw [es, h5]
    obtain ⟨h₁, t₁, hs₁⟩ := ic.toInCall.same
    have keep := ic.toInCall.keep
    have lo : ∀ a ∈ ι, a < s.heap.objs.size := fun a ha => by obtain ⟨o, eo⟩ := w.hr.mem ha; exact Heap.lt_size eo
    have bLo : ∀ a, s.heap.objs.size ≤ a → P.B.get? a = none := fun a ha => by
      cases z : P.B.get? a with
      | none => rfl
      | some o => exact absurd (Heap.lt_size (w.hr.base a o z)) (Nat.not_lt.mpr ha)
    have p₁ : Post P.B ι s ι H s₁ := by rw [hs₁]; exact Post.keep w.hr (by rw [hs₁] at keep; exact keep)
    have rv₁ : VRs P.B s₁.heap ι args vs := p₁.vrs w.hr r
    have envR : EnvR P.B C env ι s₁.heap (start C args) := by
      refine ⟨by rw [es]; exact h6, by rw [es, h5], by rw [← hen]; exact h10, by rw [← hen]; exact h11, ⟨_, ic.toInCall.ns⟩, fun q => ?_, ?_, fun y c hm hc => ?_, fun y c hm hc => ⟨_, ic.cell y c hc⟩, fun y z c hy hz hc hc' => ?_, ?_, fun i y hi => ?_⟩
      · rw [el] at q; exact absurd (lo _ q) (Nat.lt_irrefl _)
      · rw [el]; exact bLo _ (Nat.le_refl _)
      · have ab := ic.above y c (mem_of_lookup hc)
        rw [el] at ab
        exact ⟨fun q => absurd (lo _ q) (Nat.not_lt.mpr (Nat.le_of_lt ab)), by rw [el]; exact Nat.ne_of_gt ab, bLo _ (Nat.le_of_lt ab)⟩
      · exact name_of_addr ic.apart (mem_of_lookup hc) (mem_of_lookup hc')
      · unfold start
        have : args.length ≤ C.vars.length := by rw [hl, ← hrest]; simp
        simp; omega
      · have mem := List.mem_of_getElem? hi
        have par : ∀ dd, (start C args)[i]? = some (some dd) → params[i]? = some y ∧ args[i]? = some dd := fun dd hd => by
          unfold start at hd
          by_cases hlt : i < args.length
          · rw [List.getElem?_append_left (by simpa using hlt)] at hd
            rw [List.getElem?_map] at hd
            have hp : i < params.length := hl ▸ hlt
            rw [← hrest, List.getElem?_append_left (by simpa using hp), List.getElem?_map] at hi
            cases ha : args[i]? with
            | none => rw [ha] at hd; simp at hd
            | some z =>
              rw [ha] at hd; simp only [Option.map_some, Option.some.injEq] at hd; subst hd
              cases hq : params[i]? with
              | none => rw [hq] at hi; simp at hi
              | some z' => rw [hq] at hi; simp only [Option.map_some, Option.some.injEq] at hi; subst hi; exact ⟨rfl, rfl⟩
          · rw [List.getElem?_append_right (by simpa using Nat.not_lt.mp hlt), List.getElem?_replicate] at hd
            split at hd <;> simp at hd
        rcases kinds y mem with q | q
        · refine ⟨_, .inl ⟨by rw [ek]; exact q, _, ic.toInCall.ns, rfl⟩, fun dd hd => ?_⟩
          obtain ⟨q1, q2⟩ := par dd hd
          obtain ⟨u, hu, ru⟩ := rv₁.get q2
          exact ⟨u, bindL_at (by rw [ek]; exact q) pnd q1 hu, ru⟩
        · obtain ⟨c, hc⟩ := Option.isSome_iff_exists.mp (kc (n := s.heap.objs.size + 1) y q)
          rw [← ec] at hc
          refine ⟨_, .inr ⟨.inl (by rw [ek]; exact q), c, hc, ic.cell y c hc⟩, fun dd hd => ?_⟩
          obtain ⟨q1, q2⟩ := par dd hd
          obtain ⟨u, hu, ru⟩ := rv₁.get q2
          exact ⟨u, bindC_at (by rw [ek]; exact q) pnd q1 hu, ru⟩
    have w₁ : W P.B (A.deeper env) d ι H s₁ := by
      refine ⟨⟨?_, ?_, ?_⟩, ?_, p₁.hr⟩
      · show A.depth + 1 + d < _; have := w.room.depth; omega
      · show A.units + 3 + 8 * d + 200 < _; have := w.room.units; omega
      · exact w.room.handled
      · obtain ⟨fl, efl, q⟩ := w.fr.step p₁
        refine ⟨env :: fl, by show A.frames.map _ = _; rw [efl]; rfl, fun en hen' => ?_⟩
        rcases List.mem_cons.mp hen' with rfl | m
        · obtain ⟨o', eo', d', _⟩ := envR.isOwn en.locals (List.mem_cons_self ..)
          exact ⟨by rw [envR.kind]; decide, en.locals, o', ef, envR.newL, eo', d', envR.offL⟩
        · exact q en m
    refine wpAny_mono (h (A.deeper env) _ env ι s₁ w₁ envR) (fun f s₂ g => ?_) fun _ _ x => x
    obtain ⟨ι₂, H₂, loc₂, fl, p₂, e₂, r₂, g⟩ := g
    have hi : ∀ a ∈ own C env, s.heap.get? a = none := fun a ha => by
      cases z : s.heap.get? a with
      | none => rfl
      | some o =>
        exfalso
        have lt := Heap.lt_size z
        rcases mem_own ha with q | ⟨y, _, q⟩
        · rw [q, el] at lt; exact Nat.lt_irrefl _ lt
        · have ab := ic.above y a (mem_of_lookup q); rw [el] at ab; exact absurd lt (Nat.not_lt.mpr (Nat.le_of_lt ab))
    have pp : Post P.B ι s ι₂ H₂ s₂ := by
      refine ⟨p₂.pre, p₂.hr, fun a o eo hn => ?_, fun a ha => ?_, ?_⟩
      · exact p₂.kept a o (keep a o eo) fun m => (List.mem_append.mp m).elim (fun z => by rw [hi a z] at eo; cases eo) hn
      · rcases p₂.new a ha with z | z
        · exact .inl z
        · right
          cases y : s.heap.get? a with
          | none => rfl
          | some o => rw [keep a o y] at z; cases z
      · obtain ⟨h₂, t₂, hs₂⟩ := p₂.same
        exact ⟨h₂, t₂, by rw [hs₂, hs₁]⟩
    cases fl with
    | next => cases r₂; exact hR .none s₂ ⟨ι₂, H₂, .none, pp, rfl, g⟩
    | brk => exact g.elim
    | cont => exact g.elim
    | ret v => obtain ⟨u, rfl, ru⟩ := r₂; exact hR u s₂ ⟨ι₂, H₂, v, pp, ru, g⟩

end Mine

namespace Mine
open PySem
set_option linter.unusedVariables false
variable {P : PEnv} {C : Ctx} {d : Nat} {loc : Loc} {H : Hp} {X : XP}

/-- arguments are plain -/
def plainArgs (es : List Expr) : Prop := ∀ env pos, (backTo pos (starEach es env)).any (·.1) = false

theorem ev_call {x : Str} {pn pos : Pos} {e0 : Expr} {es : List Expr} {Q : AV → Hp → Prop} (ok : P.OK) (hk : C.names.lookup x = some .globalImplicit) (hd : (x == ("__debug__" : Str)) = false)
    {fa : Addr} {o : Obj} {fd : FuncData} (hg : P.mg x = some (.ref fa)) (ho : P.B.get? fa = some o) (hf : o.data = .func fd)
    (h : EvsOK P C d (e0 :: es) loc H (fun args H' => CallOK P d x args H' Q X) X) (he : ∀ env, starEach (e0 :: es) env = (false, eval e0 env) :: starEach es env) :
    EvOK P C d (.Call (.Name x pn) (e0 :: es) [] pos) loc H Q X := fun A E env ι s w e a => by
  refine PyProof.Rows.Call_ (Calls.Name_function_global e.kind (by unfold Env.kindOf; rw [e.names]; exact hk) (Calls.loadGlobal_global (e.glob ▸ ok.g.keeps fun b o e => w.hr.base b o e) hg ?_) hd)
  refine PyProof.Rows.callWith_def (o := o) (fd := fd) hf (wpAny_mono (h A E env ι s pos w e a) (fun vs s₁ g => ?_) fun _ _ x => x) (he env)
  obtain ⟨ι₁, H₁, l, p₁, r₁, g⟩ := g
  refine ⟨p₁.hr.base _ _ ho, wpAny_call (g A ι₁ s₁ vs fa _ hg (w.step p₁) r₁ (fun v s' gv => gv.before p₁) ?_)⟩
  exact a.step p₁

/-- the built-in function at a name -/
theorem ev_bi {x : Str} {id : String} {pn pos : Pos} {e0 : Expr} {es : List Expr} {Q : AV → Hp → Prop} (ok : P.OK) (hk : C.names.lookup x = some .globalImplicit) (hd : (x == ("__debug__" : Str)) = false)
    (hg : P.mg x = none) (hb : P.mb x = some (.builtin id))
    (h : EvsOK P C d (e0 :: es) loc H (fun args H' => OpOK P d (fun vs => call (.builtin id) vs) args H' Q) X) (he : ∀ env, starEach (e0 :: es) env = (false, eval e0 env) :: starEach es env) (hp : plainArgs es) :
    EvOK P C d (.Call (.Name x pn) (e0 :: es) [] pos) loc H Q X := fun A E env ι s w e a => by
  refine PyProof.Rows.Call_ (Calls.Name_function_global e.kind (by unfold Env.kindOf; rw [e.names]; exact hk) (Calls.loadGlobal_builtin (e.glob ▸ ok.g.keeps fun b o e => w.hr.base b o e) hg (e.blt ▸ ok.b.keeps fun b o e => w.hr.base b o e) hb ?_) hd)
  refine PyProof.Rows.callWith_builtin1 (wpAny_mono (h A E env ι s pos w e a) (fun vs s₁ g => ?_) fun _ _ x => x) (he env) (hp env pos)
  obtain ⟨ι₁, H₁, l, p₁, r₁, g⟩ := g
  exact wpAny_mono (g A E ι₁ s₁ vs (w.step p₁) r₁) (fun v s' gv => gv.before p₁) fun _ _ x => x
theorem ev_ty {x : Str} {T : String} {pn pos : Pos} {e0 : Expr} {es : List Expr} {Q : AV → Hp → Prop} (ok : P.OK) (hk : C.names.lookup x = some .globalImplicit) (hd : (x == ("__debug__" : Str)) = false)
    (hg : P.mg x = none) (hb : P.mb x = some (.type T))
    (h : EvsOK P C d (e0 :: es) loc H (fun args H' => OpOK P d (fun vs => call (.type T) vs) args H' Q) X) (he : ∀ env, starEach (e0 :: es) env = (false, eval e0 env) :: starEach es env) (hp : plainArgs es) :
    EvOK P C d (.Call (.Name x pn) (e0 :: es) [] pos) loc H Q X := fun A E env ι s w e a => by
  refine PyProof.Rows.Call_ (Calls.Name_function_global e.kind (by unfold Env.kindOf; rw [e.names]; exact hk) (Calls.loadGlobal_builtin (e.glob ▸ ok.g.keeps fun b o e => w.hr.base b o e) hg (e.blt ▸ ok.b.keeps fun b o e => w.hr.base b o e) hb ?_) hd)
  refine PyProof.Rows.callWith_type1 (wpAny_mono (h A E env ι s pos w e a) (fun vs s₁ g => ?_) fun _ _ x => x) (he env) (hp env pos)
  obtain ⟨ι₁, H₁, l, p₁, r₁, g⟩ := g
  exact wpAny_mono (g A E ι₁ s₁ vs (w.step p₁) r₁) (fun v s' gv => gv.before p₁) fun _ _ x => x

/-- isinstance(x, T), T a built-in type or a class at a name -/
theorem ev_isi {x y : Str} {id : String} {tv : Value} {pn pt pos : Pos} {e0 : Expr} {Q : AV → Hp → Prop} (ok : P.OK) (hk : C.names.lookup x = some .globalImplicit) (hd : (x == ("__debug__" : Str)) = false)
    (hg : P.mg x = none) (hb : P.mb x = some (.builtin id)) (hk' : C.names.lookup y = some .globalImplicit) (hd' : (y == ("__debug__" : Str)) = false) (hty : P.mg y = some tv ∨ (P.mg y = none ∧ P.mb y = some tv))
    (h : EvOK P C d e0 loc H (fun v H' => OpOK P d (fun vs => call (.builtin id) [vs.getD 0 .none, tv]) [v] H' Q) X) (he : ∀ env, starEach [e0, .Name y pt] env = (false, eval e0 env) :: starEach [.Name y pt] env) :
    EvOK P C d (.Call (.Name x pn) [e0, .Name y pt] [] pos) loc H Q X := fun A E env ι s w e a => by
  refine PyProof.Rows.Call_ (Calls.Name_function_global e.kind (by unfold Env.kindOf; rw [e.names]; exact hk) (Calls.loadGlobal_builtin (e.glob ▸ ok.g.keeps fun b o e => w.hr.base b o e) hg (e.blt ▸ ok.b.keeps fun b o e => w.hr.base b o e) hb ?_) hd)
  refine PyProof.Rows.callWith_builtin1 ?_ (he env) rfl
  refine wpAny_items_cons (wpAny_mono (h A E env ι s w e a) (fun v s₁ g => ?_) fun _ _ x => x) (he env)
  obtain ⟨ι₁, H₁, l, p₁, r₁, g⟩ := g
  have e₁ := e.step w.hr p₁
  refine wpAny_items_cons (Calls.Name_function_global e₁.kind (by unfold Env.kindOf; rw [e₁.names]; exact hk') ?_ hd') rfl
  have fin : wpAny (model P.prog P.w) A (spliced (backTo pos (starEach [] env))) (fun vs s₂ => wpAny (model P.prog P.w) A (call (.builtin id) (v :: tv :: vs)) (Gives P.B ι s Q) E s₂) E s₁ :=
    wpAny_items_nil (wpAny_mono (g A E ι₁ s₁ [v] (w.step p₁) ⟨_, _, rfl, r₁, rfl⟩) (fun _ _ gv => gv.before p₁) fun _ _ x => x)
  rcases hty with q | ⟨q1, q2⟩
  · exact Calls.loadGlobal_global (e₁.glob ▸ ok.g.keeps fun b o e => p₁.hr.base b o e) q fin
  · exact Calls.loadGlobal_builtin (e₁.glob ▸ ok.g.keeps fun b o e => p₁.hr.base b o e) q1 (e₁.blt ▸ ok.b.keeps fun b o e => p₁.hr.base b o e) q2 fin

/-- how a method of a built-in type is found -/
def MethIs (P : PEnv) (x : AV) (H : Hp) (name : Str) (id : String) : Prop :=
  ∀ A E ι s v (pl : Sem Bool) (Q : Value × List Value → Shared → Prop), HR P.B ι H s.heap → VR P.B s.heap ι x v → Q (.builtin id, [v]) s → wpAny (model P.prog P.w) A (getMethod v name pl) Q E s

theorem ev_meth0 {o : Expr} {name : Str} {apos pos : Pos} {pl : Env → Sem Bool} {Q : AV → Hp → Prop}
    (h : EvOK P C d o loc H (fun x H₁ => ∃ id, MethIs P x H₁ name id ∧ OpOK P d (fun vs => call (.builtin id) vs) [x] H₁ Q) X)
    (he : ∀ env, eval (.Call (.Attribute o name apos) [] [] pos) env = (do
      let ov ← eval o env
      standAt apos.atName
      let (f, first) ← holding [ov] (getMethod ov name (pl env))
      callWith pos f first (backTo pos (starEach [] env)) [])) :
    EvOK P C d (.Call (.Attribute o name apos) [] [] pos) loc H Q X := fun A E env ι s w e a => by
  refine PyProof.Rows.MethodCall_ (wpAny_mono (h A E env ι s w e a) (fun v s₁ g => ?_) fun _ _ x => x) (he env)
  obtain ⟨ι₁, H₁, x, p₁, r₁, id, hm, g⟩ := g
  refine hm A E ι₁ s₁ v _ _ p₁.hr r₁ ?_
  refine PyProof.Rows.callWith_method0 (wpAny_mono (g A E ι₁ s₁ [v] (w.step p₁) ⟨_, _, rfl, r₁, rfl⟩) (fun _ _ gv => gv.before p₁) fun _ _ x => x)
theorem ev_meth {o : Expr} {name : Str} {apos pos : Pos} {e0 : Expr} {es : List Expr} {pl : Env → Sem Bool} {Q : AV → Hp → Prop}
    (h : EvOK P C d o loc H (fun x H₁ => ∃ id, MethIs P x H₁ name id ∧ EvsOK P C d (e0 :: es) loc H₁ (fun args H₂ => OpOK P d (fun vs => call (.builtin id) vs) (x :: args) H₂ Q) X) X)
    (he : ∀ env, eval (.Call (.Attribute o name apos) (e0 :: es) [] pos) env = (do
      let ov ← eval o env
      standAt apos.atName
      let (f, first) ← holding [ov] (getMethod ov name (pl env))
      callWith pos f first (backTo pos (starEach (e0 :: es) env)) []))
    (hs : ∀ env, starEach (e0 :: es) env = (false, eval e0 env) :: starEach es env) (hp : plainArgs es) :
    EvOK P C d (.Call (.Attribute o name apos) (e0 :: es) [] pos) loc H Q X := fun A E env ι s w e a => by
  refine PyProof.Rows.MethodCall_ (wpAny_mono (h A E env ι s w e a) (fun v s₁ g => ?_) fun _ _ x => x) (he env)
  obtain ⟨ι₁, H₁, x, p₁, r₁, id, hm, g⟩ := g
  refine hm A E ι₁ s₁ v _ _ p₁.hr r₁ ?_
  refine PyProof.Rows.callWith_method1 (wpAny_mono (g A E env ι₁ s₁ pos (w.step p₁) (e.step w.hr p₁) (a.step p₁)) (fun vs s₂ g => ?_) fun _ _ x => x) (hs env) (hp env pos)
  obtain ⟨ι₂, H₂, l, p₂, r₂, g⟩ := g
  exact wpAny_mono (g A E ι₂ s₂ (v :: vs) ((w.step p₁).step p₂) ⟨_, _, rfl, p₂.vr p₁.hr r₁, r₂⟩) (fun _ _ gv => (gv.before p₂).before p₁) fun _ _ x => x

end Mine

namespace Mine
open PySem
set_option linter.unusedVariables false
variable {P : PEnv} {C : Ctx} {d : Nat} {loc : Loc} {H : Hp} {X : XP}

theorem EnvR.off {B : Heap} {C : Ctx} {env : Env} {ι T : List Addr} {h h' : Heap} {loc : Loc} (ee : EnvR B C env ι h loc) (ext : ∀ b o, b ∉ T → h.get? b = some o → h'.get? b = some o) (nt : NoTup T h) (hL : env.locals ∉ T)
    (hC : ∀ x c, some x ∈ C.vars → env.cells.lookup x = some c → c ∉ T) : EnvR B C env ι h' loc := by
  have kL : ∀ o, h.get? env.locals = some o → ∃ o', h'.get? env.locals = some o' ∧ o'.data = o.data := fun o eo => ⟨o, ext _ o hL eo, rfl⟩
  have kC : ∀ x c, some x ∈ C.vars → env.cells.lookup x = some c → ∀ o, h.get? c = some o → ∃ o', h'.get? c = some o' ∧ o'.data = o.data := fun x c hm hc o eo => ⟨o, ext c o (hC x c hm hc) eo, rfl⟩
  refine ⟨ee.kind, ee.names, ee.glob, ee.blt, ?_, ee.offL, ee.newL, ee.offC, fun x c hm hx => ?_, ee.apart, ee.len, fun j x hj => ?_⟩
  · obtain ⟨m, n⟩ := ee.ns
    exact ⟨m, Ns.of_data n kL⟩
  · obtain ⟨ov, q⟩ := ee.isC x c hm hx
    exact ⟨ov, Cell.of_data q (kC x c hm hx)⟩
  · obtain ⟨ov, hs, hv⟩ := ee.vars j x hj
    refine ⟨ov, ?_, fun dd hd => ?_⟩
    · rcases hs with ⟨k, m, n, em⟩ | ⟨k, c, ec, rc⟩
      · exact .inl ⟨k, m, Ns.of_data n kL, em⟩
      · exact .inr ⟨k, c, ec, Cell.of_data rc (kC x c (List.mem_of_getElem? hj) ec)⟩
    · obtain ⟨v', ev, rv⟩ := hv dd hd
      exact ⟨v', ev, VR.mono (Kept.of_keeps ext) nt (List.prefix_refl _) _ _ rv⟩
theorem HR.off {B : Heap} {ι T : List Addr} {H : Hp} {h h' : Heap} (q : HR B ι H h) (ext : ∀ b o, b ∉ T → h.get? b = some o → h'.get? b = some o) (nt : NoTup T h) (ho : ∀ a ∈ T, a ∉ ι) (hb : ∀ a ∈ T, B.get? a = none) : HR B ι H h' :=
  ⟨fun b o eb => ext b o (fun m => by rw [hb b m] at eb; cases eb) (q.base b o eb), q.fresh, q.nodup, q.len, fun j o ej => by
    obtain ⟨a, ea, r⟩ := q.objs j o ej
    exact ⟨a, ea, r.mono (Kept.of_keeps ext) nt (List.prefix_refl _) fun m => ho a m (List.mem_of_getElem? ea)⟩⟩
/-- from s on, only what is new may have turned -/
theorem Post.off {B : Heap} {ι ι' T : List Addr} {H' : Hp} {s s' : Shared} {h' : Heap} {t : Nat} (p : Post B ι s ι' H' s') (ext : ∀ b o, b ∉ T → s'.heap.get? b = some o → h'.get? b = some o) (nt : NoTup T s'.heap) (ho : ∀ a ∈ T, a ∉ ι')
    (hn : ∀ a ∈ T, s.heap.get? a = none) (hb : ∀ a ∈ T, B.get? a = none) : Post B ι s ι' H' { s' with heap := h', toks := t } := by
  refine ⟨p.pre, p.hr.off ext nt ho hb, fun a o eo hna => ?_, p.new, ?_⟩
  · obtain ⟨sl, e1, q1⟩ := p.kept a o eo hna
    exact ⟨sl, ext a _ (fun m => by rw [hn a m] at eo; cases eo) e1, q1⟩
  · obtain ⟨h₃, t₃, rfl⟩ := p.same
    exact ⟨h', t, rfl⟩

def relab (outer names : List (Str × NameKind)) : List (Str × NameKind) := names.map fun (n, k) => if (k == .free && outer.lookup n == some .cell) then (n, .cell) else (n, k)
/-- the block of a comprehension: the outer slots that it captures, then its own -/
def compCtx (C : Ctx) (scope : Scope) (locals : List Str) : Ctx where
  vars := (C.vars.map fun o => o.bind fun x => if scope.names.lookup x == some .free then some x else none) ++ locals.map some
  names := relab C.names scope.names
  ro := C.vars.length
def CondOK (P : PEnv) (C : Ctx) (d : Nat) (ifs : List Expr) (loc : Loc) (H : Hp) (K : Bool → Hp → Prop) : Prop :=
  match ifs with
  | [] => K true H
  | [c] => TsOK P C d c loc H K XF
  | _ => False

structure CompOK (C : Ctx) (scope : Scope) (locals : List Str) : Prop where
  kind : scope.kind = .function
  nodup : (scope.names.map (·.1)).Nodup
  nocell : ∀ x ∈ scope.names, x.2 ≠ .cell
  free : ∀ x, (x, NameKind.free) ∈ scope.names → some x ∈ C.vars ∧ (C.names.lookup x = some .cell ∨ C.names.lookup x = some .free) ∧ ((relab C.names scope.names).lookup x = some .cell ∨ (relab C.names scope.names).lookup x = some .free)
  locs : ∀ x ∈ locals, scope.names.lookup x = some .local ∧ (relab C.names scope.names).lookup x = some .local
  lnd : locals.Nodup
end Mine

namespace Mine
open PySem
set_option linter.unusedVariables false
variable {P : PEnv} {C : Ctx} {d : Nat} {loc : Loc} {H : Hp} {X : XP}

end Mine

namespace Mine
open PySem
set_option linter.unusedVariables false
variable {P : PEnv} {C : Ctx} {d : Nat} {loc : Loc} {H : Hp} {X : XP}

theorem vrs1 {B h : Heap} {ι : List Addr} {x : AV} {vs : List Value} (r : VRs B h ι [x] vs) : ∃ u, vs = [u] ∧ VR B h ι x u := by
  obtain ⟨u, t, rfl, r1, r2⟩ := r
  exact ⟨u, by rw [show t = [] from r2], r1⟩
theorem vrs2 {B h : Heap} {ι : List Addr} {x y : AV} {vs : List Value} (r : VRs B h ι [x, y] vs) : ∃ u v, vs = [u, v] ∧ VR B h ι x u ∧ VR B h ι y v := by
  obtain ⟨u, t, rfl, r1, r2⟩ := r
  obtain ⟨v, rfl, r3⟩ := vrs1 r2
  exact ⟨u, v, rfl, r1, r3⟩
theorem vrs3 {B h : Heap} {ι : List Addr} {x y z : AV} {vs : List Value} (r : VRs B h ι [x, y, z] vs) : ∃ u v w, vs = [u, v, w] ∧ VR B h ι x u ∧ VR B h ι y v ∧ VR B h ι z w := by
  obtain ⟨u, t, rfl, r1, r2⟩ := r
  obtain ⟨v, w, rfl, r3, r4⟩ := vrs2 r2
  exact ⟨u, v, w, rfl, r1, r3, r4⟩

abbrev BinOK (P : PEnv) (d : Nat) (op : Operator) (x y : AV) (H : Hp) (Q : AV → Hp → Prop) : Prop := OpOK P d (fun vs => binaryOp op (vs.getD 0 .none) (vs.getD 1 .none)) [x, y] H Q
abbrev CmpOK (P : PEnv) (d : Nat) (op : CmpOp) (x y : AV) (H : Hp) (Q : AV → Hp → Prop) : Prop := OpOK P d (fun vs => compareOp op (vs.getD 0 .none) (vs.getD 1 .none)) [x, y] H Q

theorem op2 {t : Value → Value → Sem Value} {x y : AV} {Q : AV → Hp → Prop} (h : ∀ A E ι s u v, W P.B A d ι H s → VR P.B s.heap ι x u → VR P.B s.heap ι y v → wpAny (model P.prog P.w) A (t u v) (Gives P.B ι s Q) E s) :
    OpOK P d (fun vs => t (vs.getD 0 .none) (vs.getD 1 .none)) [x, y] H Q := fun A E ι s vs w r => by
  obtain ⟨u, v, rfl, r1, r2⟩ := vrs2 r
  exact h A E ι s u v w r1 r2

theorem bin_add {a b : Int} {Q : AV → Hp → Prop} (h : Q (.int (a + b)) H) : BinOK P d .Add (.int a) (.int b) H Q := op2 fun A E ι s u v w r1 r2 => by
  obtain ⟨t, rfl⟩ := r1; obtain ⟨t', rfl⟩ := r2
  exact PyProof.Rows.add_int (Gives.now _ w.hr (VR.mkInt _ _) h)
theorem bin_sub {a b : Int} {Q : AV → Hp → Prop} (h : Q (.int (a - b)) H) : BinOK P d .Sub (.int a) (.int b) H Q := op2 fun A E ι s u v w r1 r2 => by
  obtain ⟨t, rfl⟩ := r1; obtain ⟨t', rfl⟩ := r2
  exact PyProof.Rows.sub_int (Gives.now _ w.hr (VR.mkInt _ _) h)
theorem bin_mul {a b : Int} {Q : AV → Hp → Prop} (hm : IntMulOk a b) (h : Q (.int (a * b)) H) : BinOK P d .Mult (.int a) (.int b) H Q := op2 fun A E ι s u v w r1 r2 => by
  obtain ⟨t, rfl⟩ := r1; obtain ⟨t', rfl⟩ := r2
  exact PyProof.Rows.mul_int (Gives.now _ w.hr (VR.mkInt _ _) h) hm
theorem bin_mod {a b : Int} {Q : AV → Hp → Prop} (hb : b ≠ 0) (h : Q (.int (a.fmod b)) H) : BinOK P d .Mod (.int a) (.int b) H Q := op2 fun A E ι s u v w r1 r2 => by
  obtain ⟨t, rfl⟩ := r1; obtain ⟨t', rfl⟩ := r2
  exact PyProof.Rows.mod_int' hb (Gives.now _ w.hr (VR.mkInt _ _) h)
theorem bin_fdiv {a b : Int} {Q : AV → Hp → Prop} (hb : b ≠ 0) (hp : Builtin.divisionGoesByPylong a b = false) (h : Q (.int (a.fdiv b)) H) : BinOK P d .FloorDiv (.int a) (.int b) H Q := op2 fun A E ι s u v w r1 r2 => by
  obtain ⟨t, rfl⟩ := r1; obtain ⟨t', rfl⟩ := r2
  exact PyProof.Rows.floordiv_int hb (Gives.now _ w.hr (VR.mkInt _ _) h) (.inl hp)
theorem bin_pow {a n : Int} {Q : AV → Hp → Prop} (hn : 0 ≤ n) (hn2 : n ≤ 1000000) (ha : a.natAbs < 2 ^ 64) (h : Q (.int (a ^ n.toNat)) H) : BinOK P d .Pow (.int a) (.int n) H Q := op2 fun A E ι s u v w r1 r2 => by
  obtain ⟨t, rfl⟩ := r1; obtain ⟨t', rfl⟩ := r2
  exact PyProof.Rows.pow_int_small hn hn2 ha (Gives.now _ w.hr (VR.mkInt _ _) h)
theorem cmp_lt {a b : Int} {Q : AV → Hp → Prop} (h : Q (.bool (decide (a < b))) H) : CmpOK P d .Lt (.int a) (.int b) H Q := op2 fun A E ι s u v w r1 r2 => by
  obtain ⟨t, rfl⟩ := r1; obtain ⟨t', rfl⟩ := r2
  exact PyProof.Rows.lt_int (Gives.same w.hr (VR.mkBool _) h)
theorem cmp_le {a b : Int} {Q : AV → Hp → Prop} (h : Q (.bool (decide (a ≤ b))) H) : CmpOK P d .LtE (.int a) (.int b) H Q := op2 fun A E ι s u v w r1 r2 => by
  obtain ⟨t, rfl⟩ := r1; obtain ⟨t', rfl⟩ := r2
  exact PyProof.Rows.le_int (Gives.same w.hr (VR.mkBool _) h)
theorem cmp_gt {a b : Int} {Q : AV → Hp → Prop} (h : Q (.bool (decide (b < a))) H) : CmpOK P d .Gt (.int a) (.int b) H Q := op2 fun A E ι s u v w r1 r2 => by
  obtain ⟨t, rfl⟩ := r1; obtain ⟨t', rfl⟩ := r2
  exact PyProof.Rows.gt_int (Gives.same w.hr (VR.mkBool _) h)
theorem cmp_ge {a b : Int} {Q : AV → Hp → Prop} (h : Q (.bool (decide (b ≤ a))) H) : CmpOK P d .GtE (.int a) (.int b) H Q := op2 fun A E ι s u v w r1 r2 => by
  obtain ⟨t, rfl⟩ := r1; obtain ⟨t', rfl⟩ := r2
  exact PyProof.Rows.ge_int (Gives.same w.hr (VR.mkBool _) h)

/-! lists and tuples laid together -/
theorem HR.list {B : Heap} {ι : List Addr} {H : Hp} {h : Heap} (q : HR B ι H h) {i : Nat} {a : Addr} {l : List AV} (e : ι[i]? = some a) (hi : H[i]? = some (.list l)) : ∃ vs, h.PlainList a (List.toArray vs) ∧ VRs B h ι l vs := by
  obtain ⟨a', e', r⟩ := q.objs i _ hi
  rw [e] at e'; cases e'; exact r
/-- a list's items: one of the call's own, or one of the base -/
def seqL (H : Hp) : AV → Option (List AV)
  | .ref i => match H[i]? with | some (.list l) => some l | _ => none
  | .fro l => some l
  | _ => none
theorem seqL_is {ι : List Addr} {h : Heap} {x : AV} {v : Value} {l : List AV} (hr : HR P.B ι H h) (r : VR P.B h ι x v) (e : seqL H x = some l) : ∃ a vs, v = .ref a ∧ h.IsList a (List.toArray vs) ∧ VRs P.B h ι l vs := by
  cases x with
  | ref i =>
    obtain ⟨a, rfl, ea⟩ := r
    simp only [seqL] at e
    split at e
    · rename_i l' hl
      cases e
      obtain ⟨vs, pl, rl⟩ := hr.list ea hl
      exact ⟨a, vs, rfl, pl.isList, rl⟩
    · cases e
  | fro l' =>
    simp only [seqL, Option.some.injEq] at e
    subst e
    unfold VR at r
    obtain ⟨a, vs, rfl, bl, rl⟩ := r
    exact ⟨a, vs, rfl, bl.at fun o eo => hr.base a o eo, rl⟩
  | _ => simp [seqL] at e

theorem bin_addL {i j : Nat} {l m : List AV} {Q : AV → Hp → Prop} (hx : H[i]? = some (.list l)) (hy : H[j]? = some (.list m)) (hz : l.length + m.length ≤ sizeLine) (h : Q (.ref H.length) (H ++ [.list (l ++ m)])) : BinOK P d .Add (.ref i) (.ref j) H Q := op2 fun A E ι s u v w r1 r2 => by
  obtain ⟨a, rfl, ea⟩ := r1
  obtain ⟨b, rfl, eb⟩ := r2
  obtain ⟨vs, ⟨n, pl⟩, rl⟩ := w.hr.list ea hx
  obtain ⟨ws, ⟨n', pm⟩, rm⟩ := w.hr.list eb hy
  refine PySem.P.add_list pl pm ?_ (by simp only [List.size_toArray, rl.length, rm.length]; exact hz)
  have := gives_newList (Q := Q) w.hr (rl.append rm) h
  simpa using this
theorem bin_addT {l m : List AV} {Q : AV → Hp → Prop} (hz : l.length + m.length ≤ sizeLine) (h : Q (.tup (l ++ m)) H) : BinOK P d .Add (.tup l) (.tup m) H Q := op2 fun A E ι s u v w r1 r2 => by
  have r1' := r1
  have r2' := r2
  unfold VR at r1 r2
  obtain ⟨a, vs, rfl, ⟨n, dd, sl, pl⟩, rl⟩ := r1
  obtain ⟨b, ws, rfl, ⟨n', dd', sl', pm⟩, rm⟩ := r2
  have hvl := rl.length
  have hwl := rm.length
  by_cases hv : vs = []
  · have : l = [] := by rw [hv] at hvl; exact List.length_eq_zero_iff.mp hvl.symm
    subst this
    exact concat_meets ⟨_, pl, rfl⟩ ⟨_, pm, rfl⟩ noFill_tuple_add seq_tuple_add PySem.F.slot_tuple_add PySem.F.entry_tuple_add (PySem.F.args_tuple_add_2 _ _)
      (PyProof.Rows.tuple_addW0 a b vs.toArray ws.toArray n n' dd dd' sl sl' (by simp [hv])) ⟨pl, pm, Gives.same w.hr r2' (by simpa using h)⟩
  · by_cases hw : ws = []
    · have : m = [] := by rw [hw] at hwl; exact List.length_eq_zero_iff.mp hwl.symm
      subst this
      exact concat_meets ⟨_, pl, rfl⟩ ⟨_, pm, rfl⟩ noFill_tuple_add seq_tuple_add PySem.F.slot_tuple_add PySem.F.entry_tuple_add (PySem.F.args_tuple_add_2 _ _)
        (PyProof.Rows.tuple_addW1 a b vs.toArray ws.toArray n n' dd dd' sl sl' (by simpa using hv) (by simp [hw])) ⟨pl, pm, Gives.same w.hr r1' (by simpa using h)⟩
    · refine concat_meets ⟨_, pl, rfl⟩ ⟨_, pm, rfl⟩ noFill_tuple_add seq_tuple_add PySem.F.slot_tuple_add PySem.F.entry_tuple_add (PySem.F.args_tuple_add_2 _ _)
        (PyProof.Rows.tuple_addW2 a b vs.toArray ws.toArray n n' dd dd' sl sl' (by simpa using hv) (by simpa using hw) (by simp only [List.size_toArray, hvl, hwl]; exact hz)) ⟨pl, pm, ?_⟩
      have := gives_newTuple (Q := Q) w.hr (rl.append rm) h
      simpa using this

/-! texts -/
theorem bin_addS {x y : Str} {Q : AV → Hp → Prop} (hz : x.length + y.length ≤ sizeLine) (h : Q (.str (x ++ y)) H) : BinOK P d .Add (.str x) (.str y) H Q := op2 fun A E ι s u v w r1 r2 => by
  obtain ⟨k1, t, rfl⟩ := r1; obtain ⟨k2, t', rfl⟩ := r2
  refine PyProof.Rows.add_str (fun t' tk => Gives.now tk w.hr (VR.mkStr _ _ ?_) h) hz
  unfold PyData.strOk at k1 k2 ⊢
  simp only [Str.cps_append, Array.all_append, k1, k2, Bool.and_self]

/-! what a value is, as data -/
mutual
def datR (ρ : Nat → Option PyData) : AV → Option PyData
  | .none => some .none
  | .bool b => some (.bool b)
  | .int i => some (.int i)
  | .str x => some (.str x)
  | .tup l => (datRs ρ l).map .tuple
  | .ref i => ρ i
  | .fro l => (datRs ρ l).map .list
def datRs (ρ : Nat → Option PyData) : List AV → Option (List PyData)
  | [] => some []
  | x :: r => (datR ρ x).bind fun y => (datRs ρ r).map (y :: ·)
end
def rho (H : Hp) : Nat → Nat → Option PyData
  | 0, _ => none
  | n + 1, i => match H[i]? with
    | some (.list l) => (datRs (rho H n) l).map .list
    | _ => none
/-- lists within lists to the depth of four -/
def dat (H : Hp) (x : AV) : Option PyData := datR (rho H 4) x
def dats (H : Hp) (l : List AV) : Option (List PyData) := datRs (rho H 4) l

def RhoOK (P : PEnv) (ι : List Addr) (h : Heap) (ρ : Nat → Option PyData) : Prop := ∀ i d a, ρ i = some d → ι[i]? = some a → (∃ as, Reads h (.ref a) d as) ∧ d.canLay0 = true
mutual
theorem datR_ok {ι : List Addr} {h : Heap} {ρ : Nat → Option PyData} (B : P.B.StaysIn h) (k : RhoOK P ι h ρ) : ∀ (x : AV) (v : Value) (d : PyData), VR P.B h ι x v → datR ρ x = some d → (∃ as, Reads h v d as) ∧ d.canLay0 = true
  | .none, _, _, r, e => by cases r; cases e; exact ⟨⟨_, Reads.none⟩, rfl⟩
  | .bool b, _, _, r, e => by cases r; cases e; exact ⟨⟨_, Reads.bool b⟩, rfl⟩
  | .int i, _, _, r, e => by obtain ⟨t, rfl⟩ := r; cases e; exact ⟨⟨_, Reads.int i t⟩, rfl⟩
  | .str x, _, _, r, e => by obtain ⟨hx, t, rfl⟩ := r; cases e; exact ⟨⟨_, Reads.str x t⟩, hx⟩
  | .tup l, v, d, r, e => by
    unfold VR at r
    obtain ⟨a, vs, rfl, ⟨n, _, _, pt⟩, rl⟩ := r
    simp only [datR, Option.map_eq_some_iff] at e
    obtain ⟨ds, e1, rfl⟩ := e
    obtain ⟨⟨as, q1⟩, q2⟩ := datRs_ok B k l vs ds rl e1
    exact ⟨⟨as, Reads.tuple pt rfl rfl q1⟩, q2⟩
  | .ref i, v, d, r, e => by
    obtain ⟨a, rfl, ea⟩ := r
    exact k i d a e ea
  | .fro l, v, d, r, e => by
    unfold VR at r
    obtain ⟨a, vs, rfl, ⟨o, eo, hc, n, hd⟩, rl⟩ := r
    simp only [datR, Option.map_eq_some_iff] at e
    obtain ⟨ds, e1, rfl⟩ := e
    obtain ⟨⟨as, q1⟩, q2⟩ := datRs_ok B k l vs ds rl e1
    exact ⟨⟨_, Reads.list (B a o eo) hc hd q1⟩, q2⟩
theorem datRs_ok {ι : List Addr} {h : Heap} {ρ : Nat → Option PyData} (B : P.B.StaysIn h) (k : RhoOK P ι h ρ) : ∀ (l : List AV) (vs : List Value) (ds : List PyData), VRs P.B h ι l vs → datRs ρ l = some ds → (∃ as, ReadsAll h vs ds as) ∧ PyData.canLayAll0 ds = true
  | [], _, _, r, e => by rw [show _ = [] from r]; cases e; exact ⟨⟨_, ReadsAll.nil⟩, rfl⟩
  | x :: l, _, ds, r, e => by
    obtain ⟨v, vs, rfl, r1, r2⟩ := r
    simp only [datRs, Option.bind_eq_some_iff, Option.map_eq_some_iff] at e
    obtain ⟨y, e1, ys, e2, rfl⟩ := e
    obtain ⟨⟨as, q1⟩, q2⟩ := datR_ok B k x v y r1 e1
    obtain ⟨⟨bs, q3⟩, q4⟩ := datRs_ok B k l vs ys r2 e2
    exact ⟨⟨_, ReadsAll.cons q1 q3⟩, by simp [PyData.canLayAll0, q2, q4]⟩
end
theorem rho_ok {ι : List Addr} {h : Heap} (hr : HR P.B ι H h) : ∀ n, RhoOK P ι h (rho H n)
  | 0, _, _, _, e, _ => by cases e
  | n + 1, i, d, a, e, ea => by
    unfold rho at e
    split at e
    · rename_i l hl
      simp only [Option.map_eq_some_iff] at e
      obtain ⟨ds, e1, rfl⟩ := e
      obtain ⟨vs, ⟨k, pl⟩, rl⟩ := hr.list ea hl
      obtain ⟨⟨as, q1⟩, q2⟩ := datRs_ok hr.base (rho_ok hr n) l vs ds rl e1
      exact ⟨⟨_, Reads.list pl rfl rfl q1⟩, q2⟩
    · cases e
theorem dat_ok {ι : List Addr} {h : Heap} {x : AV} {v : Value} {dd : PyData} (hr : HR P.B ι H h) (r : VR P.B h ι x v) (e : dat H x = some dd) : (∃ as, Reads h v dd as) ∧ dd.canLay0 = true :=
  datR_ok hr.base (rho_ok hr 4) x v dd r e
theorem dats_ok {ι : List Addr} {h : Heap} {l : List AV} {vs : List Value} {ds : List PyData} (hr : HR P.B ι H h) (r : VRs P.B h ι l vs) (e : dats H l = some ds) : (∃ as, ReadsAll h vs ds as) ∧ PyData.canLayAll0 ds = true :=
  datRs_ok hr.base (rho_ok hr 4) l vs ds r e

theorem cmp_eq {x y : AV} {dx dy : PyData} {Q : AV → Hp → Prop} (hx : dat H x = some dx) (hy : dat H y = some dy) (hd : dx.depth ≤ 100) (h : Q (.bool (PyData.eqv dx dy)) H) : CmpOK P d .Eq x y H Q := op2 fun A E ι s u v w r1 r2 => by
  obtain ⟨⟨as, q1⟩, q2⟩ := dat_ok w.hr r1 hx
  obtain ⟨⟨bs, q3⟩, q4⟩ := dat_ok w.hr r2 hy
  exact SeqAt.compareEq_reads q1 q3 q2 q4 (by have := w.room.units; omega) (Gives.same w.hr (VR.mkBool _) h)
theorem cmp_ne {x y : AV} {dx dy : PyData} {Q : AV → Hp → Prop} (hx : dat H x = some dx) (hy : dat H y = some dy) (hd : dx.depth ≤ 100) (h : Q (.bool !(PyData.eqv dx dy)) H) : CmpOK P d .NotEq x y H Q := op2 fun A E ι s u v w r1 r2 => by
  obtain ⟨⟨as, q1⟩, q2⟩ := dat_ok w.hr r1 hx
  obtain ⟨⟨bs, q3⟩, q4⟩ := dat_ok w.hr r2 hy
  exact SeqAt.compareNe_reads q1 q3 q2 q4 (by have := w.room.units; omega) (Gives.same w.hr (VR.mkBool _) h)

end Mine

namespace Mine
open PySem
set_option linter.unusedVariables false
variable {P : PEnv} {C : Ctx} {d : Nat} {loc : Loc} {H : Hp} {X : XP}

theorem fn1 {f : Value} {x : AV} {Q : AV → Hp → Prop} (h : ∀ A E ι s u, W P.B A d ι H s → VR P.B s.heap ι x u → wpAny (model P.prog P.w) A (call f [u]) (Gives P.B ι s Q) E s) :
    OpOK P d (fun vs => call f vs) [x] H Q := fun A E ι s vs w r => by
  obtain ⟨u, rfl, r1⟩ := vrs1 r
  exact h A E ι s u w r1
theorem fn2 {f : Value} {x y : AV} {Q : AV → Hp → Prop} (h : ∀ A E ι s u v, W P.B A d ι H s → VR P.B s.heap ι x u → VR P.B s.heap ι y v → wpAny (model P.prog P.w) A (call f [u, v]) (Gives P.B ι s Q) E s) :
    OpOK P d (fun vs => call f vs) [x, y] H Q := fun A E ι s vs w r => by
  obtain ⟨u, v, rfl, r1, r2⟩ := vrs2 r
  exact h A E ι s u v w r1 r2
theorem fn3 {f : Value} {x y z : AV} {Q : AV → Hp → Prop} (h : ∀ A E ι s u v t, W P.B A d ι H s → VR P.B s.heap ι x u → VR P.B s.heap ι y v → VR P.B s.heap ι z t → wpAny (model P.prog P.w) A (call f [u, v, t]) (Gives P.B ι s Q) E s) :
    OpOK P d (fun vs => call f vs) [x, y, z] H Q := fun A E ι s vs w r => by
  obtain ⟨u, v, t, rfl, r1, r2, r3⟩ := vrs3 r
  exact h A E ι s u v t w r1 r2 r3

/-! subscripts -/
theorem subscripted_ops (sl : Expr) (o i : Value) : ∃ ops, subscripted sl false o i = operate ops (getItem o i) := by
  unfold subscripted
  split
  · exact ⟨_, rfl⟩
  · rename_i h; cases h
  · exact ⟨_, rfl⟩
abbrev SubOK (P : PEnv) (d : Nat) (eo ei : Expr) (x y : AV) (H : Hp) (Q : AV → Hp → Prop) : Prop := OpOK P d (fun vs => PyProof.Rows.subscriptTail eo ei (vs.getD 0 .none) (vs.getD 1 .none)) [x, y] H Q

/-- the place that an index names -/
def place (k : Int) (n : Nat) : Option Nat := if 0 ≤ k then (if k < n then some k.toNat else none) else if 0 ≤ k + n then some (k + n).toNat else none
theorem seqIndex_place {k : Int} {n j : Nat} (h : place k n = some j) : seqIndex? k n = some j := by
  unfold place at h
  unfold seqIndex?
  split at h
  · split at h
    · cases h
      have : ¬ k < 0 := by omega
      simp [this]; omega
    · cases h
  · split at h
    · cases h
      have : k < 0 := by omega
      simp [this]; omega
    · cases h

theorem sub_tup {eo ei : Expr} {l : List AV} {k : Int} {j : Nat} {x : AV} {Q : AV → Hp → Prop} (hn : l.length < 2 ^ 62) (hj : place k l.length = some j) (hx : l[j]? = some x) (h : Q x H) : SubOK P d eo ei (.tup l) (.int k) H Q := op2 fun A E ι s u v w r1 r2 => by
  unfold VR at r1
  obtain ⟨a, vs, rfl, pt, rl⟩ := r1
  obtain ⟨t, rfl⟩ := r2
  obtain ⟨z, hz, rz⟩ := rl.get hx
  obtain ⟨ops, ho⟩ := subscripted_ops ei (.ref a) (.int k t)
  have hb : -(2 ^ 63) ≤ k ∧ k < 2 ^ 63 := by unfold place at hj; split at hj <;> (try split at hj) <;> (first | cases hj | skip) <;> omega
  exact PyProof.Rows.tail_any pt.isTup.typeIs PyProof.Rows.slot_tuple_getitem.lookup (PyProof.Rows.getItem_tuple pt.isTup hb.1 hb.2 (by rw [List.size_toArray, rl.length]; exact seqIndex_place hj) (by simpa using hz) (Gives.same w.hr rz h)) ho
theorem sub_list {eo ei : Expr} {o : AV} {l : List AV} {k : Int} {x : AV} {Q : AV → Hp → Prop} (ho : seqL H o = some l) (hn : l.length < 2 ^ 62) (h0 : 0 ≤ k) (hx : l[k.toNat]? = some x) (h : Q x H) : SubOK P d eo ei o (.int k) H Q := op2 fun A E ι s u v w r1 r2 => by
  obtain ⟨a, vs, rfl, il, rl⟩ := seqL_is w.hr r1 ho
  obtain ⟨t, rfl⟩ := r2
  obtain ⟨z, hz, rz⟩ := rl.get hx
  obtain ⟨ops, hops⟩ := subscripted_ops ei (.ref a) (.int k t)
  have hlt : k.toNat < l.length := (List.getElem?_eq_some_iff.mp hx).1
  exact PyProof.Rows.tail_any il.typeIs slot_list_getitem.lookup (wpAny_getItem_list il h0 (by omega) (by simpa using hz) (Gives.same w.hr rz h)) hops

/-! dicts keyed by ints -/
theorem ERs.pairs (P : PEnv) {B h : Heap} {ι : List Addr} : ∀ {l : List (Int × AV)} {es : List DictEntry}, ERs B h ι l es → ∃ kvs : List (Int × Value), Pairs (intKind P.prog P.w) es kvs ∧ kvs.map (·.1) = l.map (·.1) ∧ VRs B h ι (l.map (·.2)) (kvs.map (·.2)) ∧ ∀ e ∈ es, ∃ k, (intKind P.prog P.w).is k e.key = true ∧ e.hash = (intKind P.prog P.w).hash k
  | [], es, q => ⟨[], by rw [show es = [] from q]; exact .nil, rfl, rfl, fun e he => by rw [show es = [] from q] at he; cases he⟩
  | (k, x) :: l, es, q => by
    obtain ⟨t, v, es', rfl, rv, r⟩ := q
    obtain ⟨kvs, p1, p2, p3, p4⟩ := ERs.pairs P r
    have hk : (intKind P.prog P.w).is k (.int k t) = true := by simp [intKind, Value.isInt]
    refine ⟨(k, v) :: kvs, .cons hk rfl p1, by simp [p2], ⟨v, _, rfl, rv, p3⟩, fun e he => ?_⟩
    rcases List.mem_cons.mp he with rfl | m
    · exact ⟨k, hk, rfl⟩
    · exact p4 e m
theorem HR.dict {ι : List Addr} {h : Heap} (q : HR P.B ι H h) {i : Nat} {a : Addr} {l : List (Int × AV)} (e : ι[i]? = some a) (hi : H[i]? = some (.dict l)) :
    ∃ kvs : List (Int × Value), h.DictOf (intKind P.prog P.w) a kvs ∧ kvs.map (·.1) = l.map (·.1) ∧ VRs P.B h ι (l.map (·.2)) (kvs.map (·.2)) := by
  obtain ⟨a', e', _, nd, es, n, eo, r⟩ := q.objs i _ hi
  rw [e] at e'; cases e'
  obtain ⟨kvs, p1, p2, p3, p4⟩ := ERs.pairs P r
  exact ⟨kvs, ⟨_, _, n, eo, ⟨rfl, rfl, rfl⟩, rfl, fun e he => p4 e (by simpa using he), by simpa using p1, by rw [p2]; exact nd⟩, p2, p3⟩
def dget (l : List (Int × AV)) (k : Int) : Option AV := (l.find? fun kv => kv.1 = k).map (·.2)
def dset (l : List (Int × AV)) (k : Int) (v : AV) : List (Int × AV) := if l.any (fun kv => kv.1 = k) then l.map (fun kv => if kv.1 = k then (kv.1, v) else kv) else l ++ [(k, v)]

theorem valueAt_dget {B h : Heap} {ι : List Addr} {k : Int} : ∀ {l : List (Int × AV)} {kvs : List (Int × Value)}, kvs.map (·.1) = l.map (·.1) → VRs B h ι (l.map (·.2)) (kvs.map (·.2)) →
    (∀ x, dget l k = some x → ∃ v, valueAt kvs k = some v ∧ VR B h ι x v) ∧ (valueAt kvs k).isSome = (dget l k).isSome
  | [], kvs, hk, hv => by
    have : kvs = [] := by simpa using hk
    subst this
    exact ⟨fun x e => by simp [dget] at e, rfl⟩
  | (k', x') :: l, [], hk, _ => by simp at hk
  | (k', x') :: l, (k2, v2) :: kvs, hk, hv => by
    simp only [List.map_cons, List.cons.injEq] at hk
    obtain ⟨rfl, hk⟩ := hk
    obtain ⟨v', r', e1, rv, rr⟩ := hv
    simp only [List.map_cons, List.cons.injEq] at e1
    obtain ⟨rfl, rfl⟩ := e1
    obtain ⟨i1, i2⟩ := valueAt_dget (k := k) hk rr
    unfold valueAt dget at i1 i2 ⊢
    by_cases hkk : k2 = k
    · subst hkk
      simp only [List.find?_cons, decide_true, Option.map_some, Option.some.injEq, Option.isSome_some, and_true]
      rintro x rfl
      exact ⟨v2, rfl, rv⟩
    · simp only [List.find?_cons, hkk, decide_false]
      exact ⟨i1, i2⟩

theorem low_not_mods {ι : List Addr} {h : Heap} (hr : HR P.B ι H h) {i : Nat} {a : Addr} {l : List (Int × AV)} (ea : ι[i]? = some a) (hi : H[i]? = some (.dict l)) : (a == sysModules) = false := by
  obtain ⟨a', e', hm, _⟩ := hr.objs i _ hi
  rw [ea] at e'; cases e'
  exact hm

theorem cmp_inD {i : Nat} {l : List (Int × AV)} {k : Int} {Q : AV → Hp → Prop} (hi : H[i]? = some (.dict l)) (h : Q (.bool (dget l k).isSome) H) : CmpOK P d .In (.int k) (.ref i) H Q := op2 fun A E ι s u v w r1 r2 => by
  obtain ⟨t, rfl⟩ := r1
  obtain ⟨a, rfl, ea⟩ := r2
  obtain ⟨kvs, hd, hk, hv⟩ := w.hr.dict ea hi
  obtain ⟨_, i2⟩ := valueAt_dget (k := k) hk hv
  exact wpAny_in_of (knd := intKind P.prog P.w) (k := k) (by simp [intKind, Value.isInt]) (low_not_mods w.hr ea hi) hd.mapOf (Gives.now _ w.hr (VR.mkBool _) (by rw [i2]; exact h))
theorem cmp_notInD {i : Nat} {l : List (Int × AV)} {k : Int} {Q : AV → Hp → Prop} (hi : H[i]? = some (.dict l)) (h : Q (.bool !(dget l k).isSome) H) : CmpOK P d .NotIn (.int k) (.ref i) H Q := op2 fun A E ι s u v w r1 r2 => by
  obtain ⟨t, rfl⟩ := r1
  obtain ⟨a, rfl, ea⟩ := r2
  obtain ⟨kvs, hd, hk, hv⟩ := w.hr.dict ea hi
  obtain ⟨_, i2⟩ := valueAt_dget (k := k) hk hv
  exact wpAny_notIn_of (knd := intKind P.prog P.w) (k := k) (by simp [intKind, Value.isInt]) (low_not_mods w.hr ea hi) hd.mapOf (Gives.now _ w.hr (VR.mkBool _) (by rw [i2]; exact h))
theorem sub_dict {eo ei : Expr} {i : Nat} {l : List (Int × AV)} {k : Int} {x : AV} {Q : AV → Hp → Prop} (hi : H[i]? = some (.dict l)) (hx : dget l k = some x) (h : Q x H) : SubOK P d eo ei (.ref i) (.int k) H Q := op2 fun A E ι s u v w r1 r2 => by
  obtain ⟨a, rfl, ea⟩ := r1
  obtain ⟨t, rfl⟩ := r2
  obtain ⟨kvs, hd, hk, hv⟩ := w.hr.dict ea hi
  obtain ⟨i1, _⟩ := valueAt_dget (k := k) hk hv
  obtain ⟨z, hz, rz⟩ := i1 x hx
  obtain ⟨ops, hops⟩ := subscripted_ops ei (.ref a) (.int k t)
  exact PyProof.Rows.tail_any hd.typeIs slot_dict_getitem.lookup (wpAny_getItem_of (knd := intKind P.prog P.w) (k := k) (by simp [intKind, Value.isInt]) hd.mapOf hz (Gives.now _ w.hr rz h)) hops

/-! «in» lists and tuples -/
theorem cmp_in {x y : AV} {l : List AV} {dx : PyData} {ds : List PyData} {Q : AV → Hp → Prop} (hy : seqL H y = some l) (hx : dat H x = some dx) (hl : dats H l = some ds) (hd : dx.depth ≤ 100) (h : Q (.bool (ds.any fun z => PyData.eqv z dx)) H) : CmpOK P d .In x y H Q := op2 fun A E ι s u v w r1 r2 => by
  obtain ⟨⟨as, q1⟩, q2⟩ := dat_ok w.hr r1 hx
  obtain ⟨a, vs, rfl, ⟨o, eo, hc, n, hdt⟩, rl⟩ := seqL_is w.hr r2 hy
  obtain ⟨⟨bs, q3⟩, q4⟩ := dats_ok w.hr rl hl
  exact SeqAt.in_list_reads (Reads.list eo hc hdt q3) q1 q4 q2 (by have := w.room.units; omega) (Gives.same w.hr (VR.mkBool _) h)
theorem cmp_notIn {x y : AV} {l : List AV} {dx : PyData} {ds : List PyData} {Q : AV → Hp → Prop} (hy : seqL H y = some l) (hx : dat H x = some dx) (hl : dats H l = some ds) (hd : dx.depth ≤ 100) (h : Q (.bool !(ds.any fun z => PyData.eqv z dx)) H) : CmpOK P d .NotIn x y H Q := op2 fun A E ι s u v w r1 r2 => by
  obtain ⟨⟨as, q1⟩, q2⟩ := dat_ok w.hr r1 hx
  obtain ⟨a, vs, rfl, ⟨o, eo, hc, n, hdt⟩, rl⟩ := seqL_is w.hr r2 hy
  obtain ⟨⟨bs, q3⟩, q4⟩ := dats_ok w.hr rl hl
  exact SeqAt.notIn_list_reads (Reads.list eo hc hdt q3) q1 q4 q2 (by have := w.room.units; omega) (Gives.same w.hr (VR.mkBool _) h)
theorem cmp_inT {x : AV} {l : List AV} {dx : PyData} {ds : List PyData} {Q : AV → Hp → Prop} (hx : dat H x = some dx) (hl : dats H l = some ds) (hd : dx.depth ≤ 100) (h : Q (.bool (ds.any fun z => PyData.eqv z dx)) H) : CmpOK P d .In x (.tup l) H Q := op2 fun A E ι s u v w r1 r2 => by
  obtain ⟨⟨as, q1⟩, q2⟩ := dat_ok w.hr r1 hx
  unfold VR at r2
  obtain ⟨a, vs, rfl, ⟨n, _, _, eo⟩, rl⟩ := r2
  obtain ⟨⟨bs, q3⟩, q4⟩ := dats_ok w.hr rl hl
  exact SeqAt.in_tuple_reads (Reads.tuple eo rfl rfl q3) q1 q4 q2 (by have := w.room.units; omega) (Gives.same w.hr (VR.mkBool _) h)
theorem cmp_notInT {x : AV} {l : List AV} {dx : PyData} {ds : List PyData} {Q : AV → Hp → Prop} (hx : dat H x = some dx) (hl : dats H l = some ds) (hd : dx.depth ≤ 100) (h : Q (.bool !(ds.any fun z => PyData.eqv z dx)) H) : CmpOK P d .NotIn x (.tup l) H Q := op2 fun A E ι s u v w r1 r2 => by
  obtain ⟨⟨as, q1⟩, q2⟩ := dat_ok w.hr r1 hx
  unfold VR at r2
  obtain ⟨a, vs, rfl, ⟨n, _, _, eo⟩, rl⟩ := r2
  obtain ⟨⟨bs, q3⟩, q4⟩ := dats_ok w.hr rl hl
  exact SeqAt.notIn_tuple_reads (Reads.tuple eo rfl rfl q3) q1 q4 q2 (by have := w.room.units; omega) (Gives.same w.hr (VR.mkBool _) h)

/-! «is» against None, True, False -/
def isSame (x y : AV) : Option Bool := match x, y with
  | .none, .none => some true
  | .bool a, .bool b => some (a == b)
  | .none, .bool _ => some false
  | _, .none => some false
  | .int _, .bool _ => some false
  | _, _ => Option.none
theorem cmp_is {x y : AV} {b : Bool} {Q : AV → Hp → Prop} (hb : isSame x y = some b) (h : Q (.bool b) H) : CmpOK P d .Is x y H Q := op2 fun A E ι s u v w r1 r2 => by
  have fin : ∀ c, c = b → wpAny (model P.prog P.w) A (compareOp .Is u v) (Gives P.B ι s Q) E s := fun c hc => by
    subst hc
    cases y with
    | none =>
      cases r2
      cases x with
      | none => cases r1; cases hb; exact is_none (Gives.same w.hr (VR.mkBool _) h)
      | bool a => cases r1; cases hb; exact is_none (Gives.same w.hr (VR.mkBool _) h)
      | int i => obtain ⟨t, rfl⟩ := r1; cases hb; exact is_none (Gives.same w.hr (VR.mkBool _) h)
      | str i => obtain ⟨_, t, rfl⟩ := r1; cases hb; exact is_none (Gives.same w.hr (VR.mkBool _) h)
      | tup l => unfold VR at r1; obtain ⟨a, vs, rfl, _⟩ := r1; cases hb; exact is_none (Gives.same w.hr (VR.mkBool _) h)
      | ref i => obtain ⟨a, rfl, _⟩ := r1; cases hb; exact is_none (Gives.same w.hr (VR.mkBool _) h)
      | fro l => unfold VR at r1; obtain ⟨a, vs, rfl, _⟩ := r1; cases hb; exact is_none (Gives.same w.hr (VR.mkBool _) h)
    | bool e =>
      cases r2
      cases x with
      | none => cases r1; cases hb; exact wpAny_is_plain (by rfl) (Gives.same w.hr (VR.mkBool _) h)
      | bool a =>
        cases r1; cases hb
        refine wpAny_is_plain (by rfl) ?_
        have : (Value.bool a == Value.bool e) = (a == e) := by cases a <;> cases e <;> rfl
        rw [this]
        exact Gives.same w.hr (VR.mkBool _) h
      | int i => obtain ⟨t, rfl⟩ := r1; cases hb; exact wpAny_is_plain (by rfl) (Gives.same w.hr (VR.mkBool _) h)
      | _ => simp [isSame] at hb
    | _ => cases x <;> simp [isSame] at hb
  exact fin b rfl
theorem cmp_isNot {x y : AV} {b : Bool} {Q : AV → Hp → Prop} (hb : isSame x y = some b) (h : Q (.bool !b) H) : CmpOK P d .IsNot x y H Q := op2 fun A E ι s u v w r1 r2 => by
  cases y with
  | none =>
    cases r2
    cases x with
    | none => cases r1; cases hb; exact isNot_none (Gives.same w.hr (VR.mkBool _) h)
    | bool a => cases r1; cases hb; exact isNot_none (Gives.same w.hr (VR.mkBool _) h)
    | int i => obtain ⟨t, rfl⟩ := r1; cases hb; exact isNot_none (Gives.same w.hr (VR.mkBool _) h)
    | str i => obtain ⟨_, t, rfl⟩ := r1; cases hb; exact isNot_none (Gives.same w.hr (VR.mkBool _) h)
    | tup l => unfold VR at r1; obtain ⟨a, vs, rfl, _⟩ := r1; cases hb; exact isNot_none (Gives.same w.hr (VR.mkBool _) h)
    | ref i => obtain ⟨a, rfl, _⟩ := r1; cases hb; exact isNot_none (Gives.same w.hr (VR.mkBool _) h)
    | fro l => unfold VR at r1; obtain ⟨a, vs, rfl, _⟩ := r1; cases hb; exact isNot_none (Gives.same w.hr (VR.mkBool _) h)
  | bool e =>
    cases r2
    cases x with
    | none => cases r1; cases hb; exact wpAny_isNot_plain (by rfl) (Gives.same w.hr (VR.mkBool _) h)
    | bool a =>
      cases r1; cases hb
      refine wpAny_isNot_plain (by rfl) ?_
      have : (Value.bool a == Value.bool e) = (a == e) := by cases a <;> cases e <;> rfl
      rw [this]
      exact Gives.same w.hr (VR.mkBool _) h
    | int i => obtain ⟨t, rfl⟩ := r1; cases hb; exact wpAny_isNot_plain (by rfl) (Gives.same w.hr (VR.mkBool _) h)
    | _ => simp [isSame] at hb
  | _ => cases x <;> simp [isSame] at hb

/-! len -/
theorem fn_lenL {x : AV} {l : List AV} {Q : AV → Hp → Prop} (hx : seqL H x = some l) (hn : l.length < 2 ^ 62) (h : Q (.int l.length) H) : OpOK P d (fun vs => call (.builtin "len") vs) [x] H Q := fn1 fun A E ι s u w r => by
  obtain ⟨a, vs, rfl, il, rl⟩ := seqL_is w.hr r hx
  have e : ((List.toArray vs).size : Int) = l.length := by rw [List.size_toArray, rl.length]
  refine Calls.call_len_list il (by omega) (Gives.now _ w.hr (av := .int l.length) ?_ h)
  rw [e]; exact VR.mkInt _ _
theorem fn_lenT {l : List AV} {Q : AV → Hp → Prop} (hn : l.length < 2 ^ 62) (h : Q (.int l.length) H) : OpOK P d (fun vs => call (.builtin "len") vs) [.tup l] H Q := fn1 fun A E ι s u w r => by
  unfold VR at r
  obtain ⟨a, vs, rfl, pt, rl⟩ := r
  have e : ((List.toArray vs).size : Int) = l.length := by rw [List.size_toArray, rl.length]
  refine PyProof.Rows.len_tuple pt.isTup (by omega) (Gives.now _ w.hr (av := .int l.length) ?_ h)
  rw [e]; exact VR.mkInt _ _

/-! methods of lists -/
theorem gives_upd {ι : List Addr} {s : Shared} {i : Nat} {a : Addr} {h' : Heap} {l : List AV} {vs : List Value} {v : Value} {x : AV} {Q : AV → Hp → Prop} (hr : HR P.B ι H s.heap) (ea : ι[i]? = some a) (sb : ∀ b o, b ≠ a → s.heap.get? b = some o → h'.get? b = some o)
    (pl : h'.PlainList a (List.toArray vs)) (rl : VRs P.B s.heap ι l vs) (rx : VR P.B s.heap ι x v) (q : Q x (H.set i (.list l))) (t : Nat) : Gives P.B ι s Q v { s with heap := h', toks := t } := by
  have ma : a ∈ ι := List.mem_of_getElem? ea
  exact ⟨ι, _, x, Post.upd (t := t) hr ea sb (o := .list l) ⟨vs, pl, hr.vrs_upd ma sb rl⟩, hr.vr_upd ma sb rx, q⟩
theorem upd_plain {h : Heap} {a : Addr} {its : Array Value} {n : Nat} (e : h.get? a = some { cls := .type "list", dict := none, data := .seq its n, slots := #[] }) (f : Array Value → Array Value) :
    (h.update a (Obj.mapSeq f)).PlainList a (f its) ∧ ∀ b o, b ≠ a → h.get? b = some o → (h.update a (Obj.mapSeq f)).get? b = some o := by
  refine ⟨⟨if (f its).size == its.size then n else n + 1, ?_⟩, fun b o hb eb => (Heap.get?_update_other h _ (Ne.symm hb)).trans eb⟩
  exact Heap.get?_update_self _ e rfl

theorem fn_append {i : Nat} {l : List AV} {x : AV} {Q : AV → Hp → Prop} (hi : H[i]? = some (.list l)) (hn : l.length ≤ sizeLine) (h : Q .none (H.set i (.list (l ++ [x])))) : OpOK P d (fun vs => call (.builtin "list.append") vs) [.ref i, x] H Q := fn2 fun A E ι s u v w r1 r2 => by
  obtain ⟨a, rfl, ea⟩ := r1
  obtain ⟨vs, ⟨n, pl⟩, rl⟩ := w.hr.list ea hi
  refine wpAny_list_append_plain ⟨n, pl⟩ (fun h' pl' sb => ?_) (by rw [List.size_toArray, rl.length]; exact hn)
  exact gives_upd (vs := vs ++ [v]) w.hr ea (fun b o hb eb => sb.extBut b o hb eb) (by simpa using pl') (rl.append (m := [x]) ⟨v, [], rfl, r2, rfl⟩) VR.mkNone h s.toks
theorem fn_pop {i : Nat} {l : List AV} {x : AV} {Q : AV → Hp → Prop} (hi : H[i]? = some (.list (l ++ [x]))) (hn : l.length + 1 ≤ sizeLine) (h : Q x (H.set i (.list l))) : OpOK P d (fun vs => call (.builtin "list.pop") vs) [.ref i] H Q := fn1 fun A E ι s u w r1 => by
  obtain ⟨a, rfl, ea⟩ := r1
  obtain ⟨vs, ⟨n, pl⟩, rl⟩ := w.hr.list ea hi
  have hlen : vs.length = l.length + 1 := by rw [rl.length]; simp
  obtain ⟨z, hz, rz⟩ := rl.get (i := l.length) (x := x) (by simp)
  refine call_meets PySem.F.slot_list_pop ⟨_, pl, rfl⟩ PySem.F.entry_list_pop (PySem.F.args_list_pop_1 _) (MeetsSeq.list_pop_last a vs.toArray n z (by simpa [hlen] using hz) (by rw [List.size_toArray, hlen]; exact hn)) ⟨pl, ?_⟩
  obtain ⟨p1, p2⟩ := upd_plain pl (fun xs => xs.eraseIdxIfInBounds (vs.toArray.size - 1))
  have e : vs.toArray.eraseIdxIfInBounds (vs.toArray.size - 1) = (vs.take l.length).toArray := by
    simp only [List.size_toArray, List.eraseIdxIfInBounds_toArray, hlen, Nat.add_sub_cancel]
    congr 1
    rw [List.eraseIdx_eq_take_drop_succ, List.drop_eq_nil_of_le (by omega)]; simp
  rw [e] at p1
  have rt := rl.take l.length
  rw [List.take_left] at rt
  exact gives_upd (vs := vs.take l.length) w.hr ea p2 p1 rt rz h s.toks

end Mine

namespace Mine
open PySem
set_option linter.unusedVariables false

/-! the small language -/
inductive BOp where | add | sub | mul | fdiv | mod | pow
inductive COp where | eq | ne | lt | le | gt | ge | is | isNot | isin | notIn
inductive Ty where | int | bool | str | tuple | list
abbrev Fun := Str → List AV → Hp → (AV → Hp → Prop) → Prop
abbrev PQ := AV → Hp → Prop

def NoPy (a b : Int) : Prop := Builtin.divisionGoesByPylong a b = false

def wpBin (op : BOp) (x y : AV) (H : Hp) (Q : PQ) : Prop :=
  match op with
  | .add => match x, y with
    | .int a, .int b => Q (.int (a + b)) H
    | .ref i, .ref j => ∃ l m, H[i]? = some (.list l) ∧ H[j]? = some (.list m) ∧ l.length + m.length ≤ sizeLine ∧ Q (.ref H.length) (H ++ [.list (l ++ m)])
    | .tup l, .tup m => l.length + m.length ≤ sizeLine ∧ Q (.tup (l ++ m)) H
    | .str a, .str b => a.length + b.length ≤ sizeLine ∧ Q (.str (a ++ b)) H
    | _, _ => False
  | .sub => match x, y with
    | .int a, .int b => Q (.int (a - b)) H
    | _, _ => False
  | .mul => match x, y with
    | .int a, .int b => IntMulOk a b ∧ Q (.int (a * b)) H
    | _, _ => False
  | .fdiv => match x, y with
    | .int a, .int b => b ≠ 0 ∧ NoPy a b ∧ Q (.int (a.fdiv b)) H
    | _, _ => False
  | .mod => match x, y with
    | .int a, .int b => b ≠ 0 ∧ Q (.int (a.fmod b)) H
    | _, _ => False
  | .pow => match x, y with
    | .int a, .int n => 0 ≤ n ∧ n ≤ 1000000 ∧ a.natAbs < 2 ^ 64 ∧ Q (.int (a ^ n.toNat)) H
    | _, _ => False

def wpIn (x y : AV) (H : Hp) (K : Bool → Prop) : Prop :=
  match y with
  | .ref i => match H[i]? with
    | some (.list l) => ∃ dx ds, dat H x = some dx ∧ dats H l = some ds ∧ dx.depth ≤ 100 ∧ K (ds.any fun z => PyData.eqv z dx)
    | some (.dict l) => ∃ k, x = .int k ∧ K (dget l k).isSome
    | none => False
  | .tup l => ∃ dx ds, dat H x = some dx ∧ dats H l = some ds ∧ dx.depth ≤ 100 ∧ K (ds.any fun z => PyData.eqv z dx)
  | _ => False
def wpEq (x y : AV) (H : Hp) (K : Bool → Prop) : Prop :=
  match x, y with
  | .int a, .int b => K (a == b)
  | .str a, .str b => K (a == b)
  | .bool a, .bool b => K (a == b)
  | x, y => ∃ dx dy, dat H x = some dx ∧ dat H y = some dy ∧ dx.depth ≤ 100 ∧ K (PyData.eqv dx dy)
def wpCmp (op : COp) (x y : AV) (H : Hp) (Q : PQ) : Prop :=
  match op with
  | .eq => wpEq x y H fun b => Q (.bool b) H
  | .ne => wpEq x y H fun b => Q (.bool !b) H
  | .lt => match x, y with
    | .int a, .int b => Q (.bool (decide (a < b))) H
    | _, _ => False
  | .le => match x, y with
    | .int a, .int b => Q (.bool (decide (a ≤ b))) H
    | _, _ => False
  | .gt => match x, y with
    | .int a, .int b => Q (.bool (decide (b < a))) H
    | _, _ => False
  | .ge => match x, y with
    | .int a, .int b => Q (.bool (decide (b ≤ a))) H
    | _, _ => False
  | .is => ∃ b, isSame x y = some b ∧ Q (.bool b) H
  | .isNot => ∃ b, isSame x y = some b ∧ Q (.bool !b) H
  | .isin => wpIn x y H fun b => Q (.bool b) H
  | .notIn => wpIn x y H fun b => Q (.bool !b) H
section
variable {P : PEnv} {d : Nat} {H : Hp}
def BOp.op : BOp → Operator | .add => .Add | .sub => .Sub | .mul => .Mult | .fdiv => .FloorDiv | .mod => .Mod | .pow => .Pow
def COp.op : COp → CmpOp | .eq => .Eq | .ne => .NotEq | .lt => .Lt | .le => .LtE | .gt => .Gt | .ge => .GtE | .is => .Is | .isNot => .IsNot | .isin => .In | .notIn => .NotIn

theorem wpBin_ok {op : BOp} {x y : AV} {Q : PQ} (h : wpBin op x y H Q) : BinOK P d op.op x y H Q := by
  cases op <;> simp only [wpBin] at h <;> split at h <;> (try exact h.elim)
  · exact bin_add h
  · obtain ⟨l, m, h1, h2, h3, h4⟩ := h; exact bin_addL h1 h2 h3 h4
  · exact bin_addT h.1 h.2
  · exact bin_addS h.1 h.2
  · exact bin_sub h
  · exact bin_mul h.1 h.2
  · exact bin_fdiv h.1 h.2.1 h.2.2
  · exact bin_mod h.1 h.2
  · exact bin_pow h.1 h.2.1 h.2.2.1 h.2.2.2

structure PEnv.OK2 (P : PEnv) : Prop extends P.OK where
  low : ∃ b o, P.B.get? b = some o ∧ sysModules < b

theorem wpIn_ok (ok : P.OK2) {x y : AV} {Q : PQ} (h : wpIn x y H fun b => Q (.bool b) H) : CmpOK P d .In x y H Q := by
  unfold wpIn at h
  split at h
  · rename_i i
    split at h
    · rename_i l hl
      obtain ⟨dx, ds, h1, h2, h3, h4⟩ := h
      exact cmp_in (by simp [seqL, hl]) h1 h2 h3 h4
    · rename_i l hl
      obtain ⟨k, rfl, h⟩ := h
      exact cmp_inD hl h
    · exact h.elim
  · obtain ⟨dx, ds, h1, h2, h3, h4⟩ := h
    exact cmp_inT h1 h2 h3 h4
  · exact h.elim
theorem wpNotIn_ok (ok : P.OK2) {x y : AV} {Q : PQ} (h : wpIn x y H fun b => Q (.bool !b) H) : CmpOK P d .NotIn x y H Q := by
  unfold wpIn at h
  split at h
  · rename_i i
    split at h
    · rename_i l hl
      obtain ⟨dx, ds, h1, h2, h3, h4⟩ := h
      exact cmp_notIn (by simp [seqL, hl]) h1 h2 h3 h4
    · rename_i l hl
      obtain ⟨k, rfl, h⟩ := h
      exact cmp_notInD hl h
    · exact h.elim
  · obtain ⟨dx, ds, h1, h2, h3, h4⟩ := h
    exact cmp_notInT h1 h2 h3 h4
  · exact h.elim
theorem wpEq_ok {x y : AV} {Q : PQ} (h : wpEq x y H fun b => Q (.bool b) H) : CmpOK P d .Eq x y H Q := by
  unfold wpEq at h
  split at h
  · exact cmp_eq (dx := .int _) (dy := .int _) rfl rfl (by simp [PyData.depth]) (by simpa [PyData.eqv] using h)
  · exact cmp_eq (dx := .str _) (dy := .str _) rfl rfl (by simp [PyData.depth]) (by simpa [PyData.eqv] using h)
  · exact cmp_eq (dx := .bool _) (dy := .bool _) rfl rfl (by simp [PyData.depth]) (by simpa [PyData.eqv] using h)
  · obtain ⟨dx, dy, h1, h2, h3, h4⟩ := h
    exact cmp_eq h1 h2 h3 h4
theorem wpNe_ok {x y : AV} {Q : PQ} (h : wpEq x y H fun b => Q (.bool !b) H) : CmpOK P d .NotEq x y H Q := by
  unfold wpEq at h
  split at h
  · exact cmp_ne (dx := .int _) (dy := .int _) rfl rfl (by simp [PyData.depth]) (by simpa [PyData.eqv] using h)
  · exact cmp_ne (dx := .str _) (dy := .str _) rfl rfl (by simp [PyData.depth]) (by simpa [PyData.eqv] using h)
  · exact cmp_ne (dx := .bool _) (dy := .bool _) rfl rfl (by simp [PyData.depth]) (by simpa [PyData.eqv] using h)
  · obtain ⟨dx, dy, h1, h2, h3, h4⟩ := h
    exact cmp_ne h1 h2 h3 h4
theorem wpCmp_ok (ok : P.OK2) {op : COp} {x y : AV} {Q : PQ} (h : wpCmp op x y H Q) : CmpOK P d op.op x y H Q := by
  cases op
  · exact wpEq_ok h
  · exact wpNe_ok h
  · simp only [wpCmp] at h; split at h; exact cmp_lt h; exact h.elim
  · simp only [wpCmp] at h; split at h; exact cmp_le h; exact h.elim
  · simp only [wpCmp] at h; split at h; exact cmp_gt h; exact h.elim
  · simp only [wpCmp] at h; split at h; exact cmp_ge h; exact h.elim
  · obtain ⟨b, h1, h2⟩ := h; exact cmp_is h1 h2
  · obtain ⟨b, h1, h2⟩ := h; exact cmp_isNot h1 h2
  · exact wpIn_ok ok h
  · exact wpNotIn_ok ok h
end

end Mine

namespace Mine
open PySem
set_option linter.unusedVariables false
set_option maxRecDepth 100000
variable {P : PEnv} {C : Ctx} {d : Nat} {loc : Loc} {H : Hp} {X : XP}

def Ty.nm : Ty → String | .int => "int" | .bool => "bool" | .str => "str" | .tuple => "tuple" | .list => "list"
/-- isinstance -/
def isi (H : Hp) (x : AV) (t : Ty) : Bool :=
  match x, t with
  | .bool _, .bool => true
  | .bool _, .int => true
  | .int _, .int => true
  | .str _, .str => true
  | .tup _, .tuple => true
  | .fro _, .list => true
  | .ref i, .list => match H[i]? with | some (.list _) => true | _ => false
  | _, _ => false

theorem isi_ok {x : AV} {t : Ty} {Q : AV → Hp → Prop} (h : Q (.bool (isi H x t)) H) : OpOK P d (fun vs => call (.builtin "isinstance") [vs.getD 0 .none, .type t.nm]) [x] H Q := fun A E ι s us w rs => by
  obtain ⟨u, rfl, r⟩ := vrs1 rs
  show wpAny (model P.prog P.w) A (call (.builtin "isinstance") [u, .type t.nm]) (Gives P.B ι s Q) E s
  have b0 : ∀ b, Q (.bool b) H → Gives P.B ι s Q (.bool b) s := fun b q => Gives.same w.hr (VR.mkBool b) q
  have b1 : ∀ b, Q (.bool b) H → Gives P.B ι s Q (.bool b) { s with toks := s.toks + 1 } := fun b q => Gives.now _ w.hr (VR.mkBool b) q
  cases x with
  | none =>
    cases r
    cases t
    · exact IsiPair.NoneType_int (b1 _ h)
    · exact IsiPair.NoneType_bool (b1 _ h)
    · exact IsiPair.NoneType_str (b1 _ h)
    · exact IsiPair.NoneType_tuple (b1 _ h)
    · exact IsiPair.NoneType_list (b1 _ h)
  | bool b =>
    cases r
    cases t
    · exact IsiPair.bool_int (b0 _ h)
    · exact IsiPair.bool_bool (b0 _ h)
    · exact IsiPair.bool_str (b1 _ h)
    · exact IsiPair.bool_tuple (b1 _ h)
    · exact IsiPair.bool_list (b1 _ h)
  | int i =>
    obtain ⟨tk, rfl⟩ := r
    cases t
    · exact IsiPair.int_int (b0 _ h)
    · exact IsiPair.int_bool (b1 _ h)
    · exact IsiPair.int_str (b1 _ h)
    · exact IsiPair.int_tuple (b1 _ h)
    · exact IsiPair.int_list (b1 _ h)
  | str y =>
    obtain ⟨_, tk, rfl⟩ := r
    cases t
    · exact IsiPair.str_int (b1 _ h)
    · exact IsiPair.str_bool (b1 _ h)
    · exact IsiPair.str_str (b0 _ h)
    · exact IsiPair.str_tuple (b1 _ h)
    · exact IsiPair.str_list (b1 _ h)
  | tup l =>
    unfold VR at r
    obtain ⟨a, vs, rfl, ⟨n, _, _, e⟩, rl⟩ := r
    cases t
    · exact IsiPair.tuple_int e rfl (b1 _ h)
    · exact IsiPair.tuple_bool e rfl (b1 _ h)
    · exact IsiPair.tuple_str e rfl (b1 _ h)
    · exact IsiPair.tuple_tuple e rfl (b0 _ h)
    · exact IsiPair.tuple_list e rfl (b1 _ h)
  | fro l =>
    unfold VR at r
    obtain ⟨a, vs, rfl, ⟨o, e, hc, _⟩, rl⟩ := r
    have e := w.hr.base _ _ e
    cases t
    · exact IsiPair.list_int e hc (b1 _ h)
    · exact IsiPair.list_bool e hc (b1 _ h)
    · exact IsiPair.list_str e hc (b1 _ h)
    · exact IsiPair.list_tuple e hc (b1 _ h)
    · exact IsiPair.list_list e hc (b0 _ h)
  | ref i =>
    unfold VR at r
    obtain ⟨a, rfl, ea⟩ := r
    obtain ⟨o, eo, oo⟩ := w.hr.there ea
    cases o with
    | list l =>
      obtain ⟨vs, ⟨n, e⟩, _⟩ := oo
      cases t
      · exact IsiPair.list_int e rfl (b1 _ h)
      · exact IsiPair.list_bool e rfl (b1 _ h)
      · exact IsiPair.list_str e rfl (b1 _ h)
      · exact IsiPair.list_tuple e rfl (b1 _ h)
      · exact IsiPair.list_list e rfl (b0 _ (by simpa [isi, eo] using h))
    | dict l =>
      obtain ⟨_, _, vs, n, e, _⟩ := oo
      cases t
      · exact IsiPair.dict_int e rfl (b1 _ h)
      · exact IsiPair.dict_bool e rfl (b1 _ h)
      · exact IsiPair.dict_str e rfl (b1 _ h)
      · exact IsiPair.dict_tuple e rfl (b1 _ h)
      · exact IsiPair.dict_list e rfl (b1 _ (by simpa [isi, eo] using h))

theorem fn_intB {b : Bool} {Q : AV → Hp → Prop} (h : Q (.int (if b then 1 else 0)) H) : OpOK P d (fun vs => call (.type "int") vs) [.bool b] H Q := fn1 fun A E ι s u w r => by
  cases r
  exact call_int_bool (Gives.now _ w.hr (VR.mkInt _ _) h)

theorem fn_max {a b : Int} {Q : AV → Hp → Prop} (h : Q (.int (if b > a then b else a)) H) : OpOK P d (fun vs => call (.builtin "max") vs) [.int a, .int b] H Q := fn2 fun A E ι s u v w r1 r2 => by
  obtain ⟨t, rfl⟩ := r1; obtain ⟨t', rfl⟩ := r2
  refine max_two_ints w.room.handled fun h' tk hk => ⟨ι, H, _, Post.keep w.hr hk, ?_, h⟩
  split
  · exact VR.mkInt _ _
  · exact VR.mkInt _ _
theorem fn_min {a b : Int} {Q : AV → Hp → Prop} (h : Q (.int (if b < a then b else a)) H) : OpOK P d (fun vs => call (.builtin "min") vs) [.int a, .int b] H Q := fn2 fun A E ι s u v w r1 r2 => by
  obtain ⟨t, rfl⟩ := r1; obtain ⟨t', rfl⟩ := r2
  refine min_two_ints w.room.handled fun h' tk hk => ⟨ι, H, _, Post.keep w.hr hk, ?_, h⟩
  split
  · exact VR.mkInt _ _
  · exact VR.mkInt _ _

/-! copies -/
theorem VRs.cons {B h : Heap} {ι : List Addr} {x : AV} {v : Value} {l : List AV} {vs : List Value} (a : VR B h ι x v) (b : VRs B h ι l vs) : VRs B h ι (x :: l) (v :: vs) := by unfold VRs; exact ⟨v, vs, rfl, a, b⟩
theorem VRs.kept {B h h' : Heap} {ι ι' : List Addr} (k : ∀ b o, h.get? b = some o → h'.get? b = some o) (p : ι <+: ι') {l : List AV} {vs : List Value} (r : VRs B h ι l vs) : VRs B h' ι' l vs :=
  VRs.mono (kept_nil_of k) noTup_nil p l vs r
theorem fn_listOf {x : AV} {l : List AV} {Q : AV → Hp → Prop} (hx : seqL H x = some l ∨ x = .tup l) (hn : l.length ≤ sizeLine) (h : Q (.ref H.length) (H ++ [.list l])) : OpOK P d (fun vs => call (.type "list") vs) [x] H Q := fn1 fun A E ι s u w r => by
  have fin : ∀ a vs T o n, T = "list" ∨ T = "tuple" → VRs P.B s.heap ι l vs → s.heap.get? a = some o → o.cls = .type T → o.data = .seq vs.toArray n →
      wpAny (model P.prog P.w) A (call (.type "list") [.ref a]) (Gives P.B ι s Q) E s := fun a vs T o n hT rl ho hc hd => by
    refine call_list_seq a hT ho hc hd (fun h' c' hk hnew => ?_) (by rw [List.size_toArray, rl.length]; exact hn)
    refine ⟨_, _, .ref H.length, Post.alloc (t := s.toks) w.hr hk (get_size _) (o := .list l) ⟨vs, ⟨c', hnew⟩, rl.kept hk (List.prefix_append _ _)⟩, ?_, h⟩
    unfold VR
    exact ⟨_, rfl, by rw [← w.hr.len]; simp⟩
  rcases hx with hx | rfl
  · obtain ⟨a, vs, rfl, il, rl⟩ := seqL_is w.hr r hx
    obtain ⟨o, ho, hc, n, hd⟩ := il
    exact fin a vs _ o n (.inl rfl) rl ho hc hd
  · unfold VR at r
    obtain ⟨a, vs, rfl, ⟨n, _, _, e⟩, rl⟩ := r
    exact fin a vs _ _ n (.inr rfl) rl e rfl rfl
theorem fn_tupleOf {x : AV} {l : List AV} {Q : AV → Hp → Prop} (hx : seqL H x = some l) (hn : l.length ≤ sizeLine) (h : Q (.tup l) H) : OpOK P d (fun vs => call (.type "tuple") vs) [x] H Q := fn1 fun A E ι s u w r => by
  obtain ⟨a, vs, rfl, il, rl⟩ := seqL_is w.hr r hx
  refine call_tuple_list il (fun h' hk => ?_) (by rw [List.size_toArray, rl.length]; exact hn)
  have hk' : ∀ b o, s.heap.get? b = some o → (h'.push { cls := .type "tuple", data := .seq vs.toArray }).get? b = some o := fun b o e => Heap.get?_push_of_some _ (hk b o e)
  refine ⟨ι, H, .tup l, Post.keep (t := s.toks) w.hr hk', ?_, h⟩
  unfold VR
  exact ⟨_, vs, rfl, PTup.new _ _, rl.kept hk' (List.prefix_refl _)⟩

/-! all, any -/
theorem VRs.bools {B h : Heap} {ι : List Addr} : ∀ {bs : List Bool} {vs : List Value}, VRs B h ι (bs.map .bool) vs → vs = bs.map .bool
  | [], _, r => r
  | b :: bs, vs, r => by
    obtain ⟨v, t, rfl, hv, ht⟩ := r
    rw [VRs.bools ht, show v = .bool b from hv]; rfl
theorem fn_all {x : AV} {bs : List Bool} {Q : AV → Hp → Prop} (hx : seqL H x = some (bs.map .bool)) (h : Q (.bool (bs.all fun b => b)) H) : OpOK P d (fun vs => call (.builtin "all") vs) [x] H Q := fn1 fun A E ι s u w r => by
  obtain ⟨a, vs, rfl, il, rl⟩ := seqL_is w.hr r hx
  have := rl.bools; subst this
  refine call_all_walk (wpAny_pyIter_list il ⟨_, _, _, _, _, _, fun i => (bs[i]?).getD false, rfl, Walks.list (A := A.in1) w.room.handled s.heap.objs.size a ?_ (bs.map Value.bool).toArray, ⟨?_, ?_⟩, ?_, fun h' tk hk => ?_⟩)
  · rintro rfl; obtain ⟨o, e, _⟩ := il; rw [get_size] at e; cases e
  · exact ⟨_, Heap.get?_push_size _ rfl, rfl, rfl⟩
  · exact il.push _
  · intro i v Q' E' s' hv hq
    simp only [List.getElem?_toArray, List.getElem?_map] at hv
    cases hb : bs[i]? with
    | none => rw [hb] at hv; simp at hv
    | some b =>
      rw [hb] at hv; simp at hv; subst hv
      simp only [hb, Option.getD_some] at hq
      exact wpAny_truthy_bool hq
  · have hk' : ∀ b o, s.heap.get? b = some o → h'.get? b = some o := fun b o e => hk b o (fun m => by
      simp only [List.mem_singleton] at m; subst m; rw [get_size] at e; cases e) (Heap.get?_push_of_some _ e)
    have e : (List.range (bs.map Value.bool).toArray.size).all (fun i => (bs[i]?).getD false) = bs.all fun b => b := by
      rw [Bool.eq_iff_iff]
      simp only [List.all_eq_true, List.mem_range, List.size_toArray, List.length_map]
      constructor
      · intro q b hb
        obtain ⟨i, hi, rfl⟩ := List.getElem_of_mem hb
        simpa [hi] using q i hi
      · intro q i hi
        simpa [hi] using q _ (List.getElem_mem hi)
    rw [e]
    exact ⟨ι, H, _, Post.keep w.hr hk', VR.mkBool _, h⟩
theorem fn_any {x : AV} {bs : List Bool} {Q : AV → Hp → Prop} (hx : seqL H x = some (bs.map .bool)) (h : Q (.bool (bs.any fun b => b)) H) : OpOK P d (fun vs => call (.builtin "any") vs) [x] H Q := fn1 fun A E ι s u w r => by
  obtain ⟨a, vs, rfl, il, rl⟩ := seqL_is w.hr r hx
  have := rl.bools; subst this
  refine call_any_walk (wpAny_pyIter_list il ⟨_, _, _, _, _, _, fun i => (bs[i]?).getD false, rfl, Walks.list (A := A.in1) w.room.handled s.heap.objs.size a ?_ (bs.map Value.bool).toArray, ⟨?_, ?_⟩, ?_, fun h' tk hk => ?_⟩)
  · rintro rfl; obtain ⟨o, e, _⟩ := il; rw [get_size] at e; cases e
  · exact ⟨_, Heap.get?_push_size _ rfl, rfl, rfl⟩
  · exact il.push _
  · intro i v Q' E' s' hv hq
    simp only [List.getElem?_toArray, List.getElem?_map] at hv
    cases hb : bs[i]? with
    | none => rw [hb] at hv; simp at hv
    | some b =>
      rw [hb] at hv; simp at hv; subst hv
      simp only [hb, Option.getD_some] at hq
      exact wpAny_truthy_bool hq
  · have hk' : ∀ b o, s.heap.get? b = some o → h'.get? b = some o := fun b o e => hk b o (fun m => by
      simp only [List.mem_singleton] at m; subst m; rw [get_size] at e; cases e) (Heap.get?_push_of_some _ e)
    have e : (List.range (bs.map Value.bool).toArray.size).any (fun i => (bs[i]?).getD false) = bs.any fun b => b := by
      rw [Bool.eq_iff_iff]
      simp only [List.any_eq_true, List.mem_range, List.size_toArray, List.length_map]
      constructor
      · rintro ⟨i, hi, q⟩
        exact ⟨bs[i], List.getElem_mem hi, by simpa [hi] using q⟩
      · rintro ⟨b, hb, q⟩
        obtain ⟨i, hi, rfl⟩ := List.getElem_of_mem hb
        exact ⟨i, hi, by simpa [hi] using q⟩
    rw [e]
    exact ⟨ι, H, _, Post.keep w.hr hk', VR.mkBool _, h⟩

/-! more methods of lists -/
theorem listFits {k : Int} (h0 : 0 ≤ k) (h1 : k < 2 ^ 62) : Builtin.List.listFitsIndex k = true := fitsIndex_of h0 (by omega)
theorem fn_popAt {i : Nat} {l : List AV} {k : Int} {x : AV} {Q : AV → Hp → Prop} (hi : H[i]? = some (.list l)) (hn : l.length ≤ sizeLine) (h0 : 0 ≤ k) (h1 : k < 2 ^ 62) (hx : l[k.toNat]? = some x) (h : Q x (H.set i (.list (l.eraseIdx k.toNat)))) :
    OpOK P d (fun vs => call (.builtin "list.pop") vs) [.ref i, .int k] H Q := fn2 fun A E ι s u v w r1 r2 => by
  obtain ⟨a, rfl, ea⟩ := r1
  obtain ⟨t, rfl⟩ := r2
  obtain ⟨vs, ⟨n, pl⟩, rl⟩ := w.hr.list ea hi
  obtain ⟨z, hz, rz⟩ := rl.get hx
  have hlt : k.toNat < l.length := (List.getElem?_eq_some_iff.mp hx).1
  refine call_meets PySem.F.slot_list_pop ⟨_, pl, rfl⟩ PySem.F.entry_list_pop (PySem.F.args_list_pop_2 _ _) (MeetsSeq.list_pop_at a vs.toArray n k t k.toNat z (listFits h0 h1) ?_ (by simpa using hz) (by rw [List.size_toArray, rl.length]; exact hn)) ⟨pl, ?_⟩
  · refine seqIndex_place ?_
    unfold place
    rw [if_pos h0, if_pos (by rw [List.size_toArray, rl.length]; omega)]
  · obtain ⟨p1, p2⟩ := upd_plain pl (fun xs => xs.eraseIdxIfInBounds k.toNat)
    have e : vs.toArray.eraseIdxIfInBounds k.toNat = (vs.eraseIdx k.toNat).toArray := by simp
    rw [e] at p1
    have rt : VRs P.B s.heap ι (l.eraseIdx k.toNat) (vs.eraseIdx k.toNat) := by
      rw [List.eraseIdx_eq_take_drop_succ, List.eraseIdx_eq_take_drop_succ]
      exact (rl.take _).append (rl.drop _)
    exact gives_upd w.hr ea p2 p1 rt rz h s.toks
theorem fn_insert {i : Nat} {l : List AV} {k : Int} {x : AV} {Q : AV → Hp → Prop} (hi : H[i]? = some (.list l)) (hn : l.length ≤ sizeLine) (h0 : 0 ≤ k) (h1 : k ≤ l.length) (h : Q .none (H.set i (.list (l.take k.toNat ++ x :: l.drop k.toNat)))) :
    OpOK P d (fun vs => call (.builtin "list.insert") vs) [.ref i, .int k, x] H Q := fn3 fun A E ι s u v y w r1 r2 r3 => by
  obtain ⟨a, rfl, ea⟩ := r1
  obtain ⟨t, rfl⟩ := r2
  obtain ⟨vs, ⟨n, pl⟩, rl⟩ := w.hr.list ea hi
  have hsl : (sizeLine : Int) < 2 ^ 62 := by unfold sizeLine; omega
  refine call_meets PySem.F.slot_list_insert ⟨_, pl, rfl⟩ PySem.F.entry_list_insert (PySem.F.args_list_insert_3 _ _ _) (AutoListH.list_insert_list_int_val_1 a vs.toArray n k t y (by rw [listFits h0 (by omega)]; decide) (by rw [List.size_toArray, rl.length]; exact hn)) ⟨pl, ?_⟩
  obtain ⟨p1, p2⟩ := upd_plain pl (fun xs => have k' := if k < 0 then (k + ((xs.size : Nat) : Int)).toNat else min k.toNat xs.size; (xs.extract 0 k').push y ++ xs.extract k')
  have hk : (if k < 0 then (k + ((vs.toArray.size : Nat) : Int)).toNat else min k.toNat vs.toArray.size) = k.toNat := by
    rw [if_neg (by omega), List.size_toArray, rl.length]; omega
  have e : (have k' := if k < 0 then (k + ((vs.toArray.size : Nat) : Int)).toNat else min k.toNat vs.toArray.size; (vs.toArray.extract 0 k').push y ++ vs.toArray.extract k') = (vs.take k.toNat ++ y :: vs.drop k.toNat).toArray := by
    simp only [hk]
    apply Array.toList_inj.mp
    simp [List.take_of_length_le]
  rw [e] at p1
  exact gives_upd w.hr ea p2 p1 ((rl.take _).append (VRs.cons r3 (rl.drop _))) VR.mkNone h s.toks
theorem fn_extend {i j : Nat} {l m : List AV} {Q : AV → Hp → Prop} (hi : H[i]? = some (.list l)) (hj : H[j]? = some (.list m)) (hn : l.length + m.length ≤ 1000000) (h : Q .none (H.set i (.list (l ++ m)))) :
    OpOK P d (fun vs => call (.builtin "list.extend") vs) [.ref i, .ref j] H Q := fn2 fun A E ι s u v w r1 r2 => by
  obtain ⟨a, rfl, ea⟩ := r1
  obtain ⟨vs, ⟨n, pl⟩, rl⟩ := w.hr.list ea hi
  have hsl : 1000000 ≤ sizeLine := by unfold sizeLine; omega
  have hl := rl.length
  obtain ⟨b, rfl, eb⟩ := r2
  obtain ⟨ws, ⟨n', pm⟩, rm⟩ := w.hr.list eb hj
  have hm := rm.length
  refine call_meets PySem.F.slot_list_extend ⟨_, pl, rfl⟩ PySem.F.entry_list_extend (PySem.F.args_list_extend_2 _ _) (AutoSeq1.list_extend_list_list_0 a vs.toArray n b ws.toArray n' ?_ (by rw [List.size_toArray]; omega) (by simp only [List.size_toArray]; omega)) ⟨pl, pm, ?_⟩
  · simp only [Bool.and_eq_true, not_and]; intro _; simp only [Builtin.List.listTooLong, List.size_toArray, hl, hm, decide_eq_true_eq]; omega
  · obtain ⟨p1, p2⟩ := upd_plain pl (fun xs => xs ++ ws.toArray)
    exact gives_upd (vs := vs ++ ws) w.hr ea p2 (by simpa using p1) (rl.append rm) VR.mkNone h s.toks
theorem fn_clear {i : Nat} {l : List AV} {Q : AV → Hp → Prop} (hi : H[i]? = some (.list l)) (hn : l.length ≤ sizeLine) (h : Q .none (H.set i (.list []))) :
    OpOK P d (fun vs => call (.builtin "list.clear") vs) [.ref i] H Q := fn1 fun A E ι s u w r1 => by
  obtain ⟨a, rfl, ea⟩ := r1
  obtain ⟨vs, ⟨n, pl⟩, rl⟩ := w.hr.list ea hi
  refine call_meets PySem.F.slot_list_clear ⟨_, pl, rfl⟩ PySem.F.entry_list_clear (PySem.F.args_list_clear_1 _) (AutoSeq1.list_clear_list_0 a vs.toArray n (by rw [List.size_toArray, rl.length]; exact hn)) ⟨pl, ?_⟩
  obtain ⟨p1, p2⟩ := upd_plain pl (fun _ => #[])
  exact gives_upd (vs := []) (l := []) w.hr ea p2 p1 rfl VR.mkNone h s.toks

end Mine

namespace Mine
open PySem
set_option linter.unusedVariables false
set_option maxRecDepth 100000
variable {P : PEnv} {C : Ctx} {d : Nat} {loc : Loc} {H : Hp} {X : XP}

/-! a call whose value is gone through -/
def ItCall (P : PEnv) (d : Nat) (t : List Value → Sem Value) (args : List AV) (H : Hp) (K : List AV → (Hp → Prop) → Hp → Prop) : Prop :=
  ∀ A E ι s vs, W P.B A d ι H s → VRs P.B s.heap ι args vs → wpAny (model P.prog P.w) A (t vs) (fun v s₁ => ∃ ι₁ H₁ items Cnd s₀, Post P.B ι s ι₁ H₁ s₀ ∧ ItTail P A ι₁ items Cnd v s₀ s₁ ∧ K items Cnd H₁) E s

theorem itEv_ty {x : Str} {T : String} {pn pos : Pos} {e0 : Expr} {es : List Expr} {K : List AV → (Hp → Prop) → Hp → Prop} (ok : P.OK) (hk : C.names.lookup x = some .globalImplicit) (hd : (x == ("__debug__" : Str)) = false)
    (hg : P.mg x = none) (hb : P.mb x = some (.type T))
    (h : EvsOK P C d (e0 :: es) loc H (fun args H' => ItCall P d (fun vs => call (.type T) vs) args H' K) X) (he : ∀ env, starEach (e0 :: es) env = (false, eval e0 env) :: starEach es env) (hp : plainArgs es) :
    ItEv P C d (.Call (.Name x pn) (e0 :: es) [] pos) loc H K X := fun A E env ι s w e a => by
  refine PyProof.Rows.Call_ (Calls.Name_function_global e.kind (by unfold Env.kindOf; rw [e.names]; exact hk) (Calls.loadGlobal_builtin (e.glob ▸ ok.g.keeps fun b o e => w.hr.base b o e) hg (e.blt ▸ ok.b.keeps fun b o e => w.hr.base b o e) hb ?_) hd)
  refine PyProof.Rows.callWith_type1 (wpAny_mono (h A E env ι s pos w e a) (fun vs s₁ g => ?_) fun _ _ x => x) (he env) (hp env pos)
  obtain ⟨ι₁, H₁, l, p₁, r₁, g⟩ := g
  refine wpAny_mono (g A E ι₁ s₁ vs (w.step p₁) r₁) (fun v s' gv => ?_) fun _ _ x => x
  obtain ⟨ι₂, H₂, items, Cnd, s₀, p₂, tl, k⟩ := gv
  exact ⟨ι₂, H₂, items, Cnd, s₀, p₁.trans p₂, tl, k⟩

/-! range -/
theorem tail_range {A : Around} {ι : List Addr} {s : Shared} {a b : Int} {t u v : Tok} {r : Addr} (hr : HR P.B ι H s.heap) (hs : IsRange s.heap r a b 1 t u v) (ha : -(2 ^ 62) ≤ a) (ha' : a < 2 ^ 62) (hb : -(2 ^ 62) ≤ b) (hb' : b < 2 ^ 62) :
    ItTail P A ι ((List.range (b - a).toNat).map fun (k : Nat) => AV.int (a + k)) (fun _ => True) (.ref r) s s := fun E Q h => by
  refine wpAny_pyIter_range hs (small_one ha ha' hb hb') ?_
  have rs : Builtin.Range.rangeSize a b 1 = ((b - a).toNat : Int) := by rw [rangeSize_one]; split <;> omega
  rw [rs]
  have nt : ∀ {h₁ : Heap} {x y : Int}, IsRangeIter h₁ s.heap.objs.size x y 1 → NoTup [s.heap.objs.size] h₁ := fun q b hb vs t => by
    rw [List.mem_singleton.mp hb] at t
    obtain ⟨o', e', c', _⟩ := t
    rw [q] at e'; cases e'; simp at c'
  refine h s.heap.objs.size [s.heap.objs.size] (fun k ι' h' => IsRangeIter h' s.heap.objs.size (a + k) (((b - a).toNat : Int) - k) 1) (fun k _ ι' h' => IsRangeIter h' s.heap.objs.size (a + k + 1) (((b - a).toNat : Int) - k - 1) 1) _ s.toks ?_ ?_ (fun b hb => by rw [List.mem_singleton.mp hb]; exact get_size _) (fun b o e => Heap.get?_push_of_some _ e)
  · refine ⟨?_, ?_, ?_, ?_, ?_, ?_, ?_⟩
    · intro k ι₁ ι₂ S h₁ h₂ q kp _ pr hw
      exact kp.exact q (hw _ (List.mem_singleton.mpr rfl)) (by simp)
    · intro k ι₁ h₁ q b hb
      rw [List.mem_singleton.mp hb]
      exact ⟨_, q, fun vs n => by simp⟩
    · intro k v ι₁ h₁ q b hb
      rw [List.mem_singleton.mp hb]
      exact ⟨_, q, fun vs n => by simp⟩
    · intro A E ι₁ H₁ s₁ k x Q hh hr₁ hc q hx hQ
      have hk : k < (b - a).toNat := by
        have := (List.getElem?_eq_some_iff.mp hx).1
        simpa using this
      refine wpAny_pyNext_range_item q (by omega) fun h' it' sb => ?_
      refine hQ _ h' (s₁.toks + 1) ?_ it' fun b o hb eb => sb.extBut b o (fun z => hb (z ▸ List.mem_singleton.mpr rfl)) eb
      have : x = .int (a + k) := by
        rw [List.getElem?_map, List.getElem?_range hk] at hx
        simpa using hx.symm
      rw [this]; exact VR.mkInt _ _
    · intro tgt A E ι₁ s₁ k v Q q hQ
      refine go_plain q rfl (by decide) (hQ s₁.heap ?_ fun _ _ _ e => e)
      have e1 : a + ((k + 1 : Nat) : Int) = a + k + 1 := by omega
      have e2 : ((b - a).toNat : Int) - ((k + 1 : Nat) : Int) = ((b - a).toNat : Int) - k - 1 := by omega
      rw [e1, e2]; exact q
    · intro A E ι₁ H₁ s₁ Q hh hr₁ hc q hQ
      refine wpAny_pyNext_range_end hh q (by simp) fun h' ext => hQ h' s₁.toks fun b o hb eb => ext b o (fun z => hb (z ▸ List.mem_singleton.mpr rfl)) eb
    · intro A E ι₁ s₁ k Q q hQ
      exact wpAny_pyIter_rangeiter q hQ
  · show IsRangeIter _ _ (a + ((0 : Nat) : Int)) (((b - a).toNat : Int) - ((0 : Nat) : Int)) 1
    have e1 : a + ((0 : Nat) : Int) = a := by omega
    have e2 : ((b - a).toNat : Int) - ((0 : Nat) : Int) = ((b - a).toNat : Int) := by omega
    rw [e1, e2]
    exact Heap.get?_push_size _ rfl

theorem it_range1 {n : Int} {K : List AV → (Hp → Prop) → Hp → Prop} (h0 : -(2 ^ 62) ≤ n) (h1 : n < 2 ^ 62) (h : K ((List.range n.toNat).map fun (k : Nat) => AV.int k) (fun _ => True) H) : ItCall P d (fun vs => call (.type "range") vs) [.int n] H K := fun A E ι s vs w rs => by
  obtain ⟨u, rfl, r⟩ := vrs1 rs
  clear rs
  obtain ⟨t, rfl⟩ := r
  refine call_range_1 ?_
  have p : Post P.B ι s ι H { s with heap := s.heap.push { cls := .type "range", data := .fields #[.int 0 s.toks, .int n t, .int 1 (s.toks + 1)] }, toks := s.toks + 1 + 1 } := Post.keep w.hr fun b o e => Heap.get?_push_of_some _ e
  refine ⟨ι, H, _, _, _, p, tail_range (a := 0) (b := n) p.hr (IsRange.new ..) (by omega) (by omega) h0 h1, ?_⟩
  simpa using h
theorem it_range2 {a b : Int} {K : List AV → (Hp → Prop) → Hp → Prop} (ha : -(2 ^ 62) ≤ a) (ha' : a < 2 ^ 62) (hb : -(2 ^ 62) ≤ b) (hb' : b < 2 ^ 62) (h : K ((List.range (b - a).toNat).map fun (k : Nat) => AV.int (a + k)) (fun _ => True) H) : ItCall P d (fun vs => call (.type "range") vs) [.int a, .int b] H K := fun A E ι s vs w rs => by
  obtain ⟨u, v, rfl, r1, r2⟩ := vrs2 rs
  clear rs
  obtain ⟨t, rfl⟩ := r1
  obtain ⟨t', rfl⟩ := r2
  refine call_range_2 ?_
  have p : Post P.B ι s ι H { s with heap := s.heap.push { cls := .type "range", data := .fields #[.int a t, .int b t', .int 1 s.toks] }, toks := s.toks + 1 } := Post.keep w.hr fun b o e => Heap.get?_push_of_some _ e
  exact ⟨ι, H, _, _, _, p, tail_range (a := a) (b := b) p.hr (IsRange.new ..) ha ha' hb hb', h⟩

/-! reversed -/
theorem it_rev {i : Nat} {l : List AV} {K : List AV → (Hp → Prop) → Hp → Prop} (hi : H[i]? = some (.list l)) (h : K l.reverse (fun H' => H'[i]? = some (.list l)) H) : ItCall P d (fun vs => call (.type "reversed") vs) [.ref i] H K := fun A E ι s vs w rs => by
  obtain ⟨u, rfl, r⟩ := vrs1 rs
  clear rs
  obtain ⟨a, rfl, ea⟩ := r
  obtain ⟨ws, pl, rl⟩ := w.hr.list ea hi
  have hlen := rl.length
  refine call_reversed_list pl.isList ?_
  have it0 : (s.heap.push (revObj a (((List.toArray ws).size : Int) - 1))).IsRevIter s.heap.objs.size a ((l.length : Int) - 1) := ⟨_, Heap.get?_push_size _ rfl, rfl, by rw [List.size_toArray, hlen]; rfl⟩
  refine ⟨ι, H, l.reverse, _, s, Post.id w.hr, fun E' Q hq => ?_, h⟩
  refine wpAny_pyIter_revIter it0 ?_
  refine hq s.heap.objs.size [s.heap.objs.size] (fun k ι' h' => k ≤ l.length ∧ ι'[i]? = some a ∧ h'.IsRevIter s.heap.objs.size a ((l.length : Int) - 1 - k)) (fun k _ ι' h' => k + 1 ≤ l.length ∧ ι'[i]? = some a ∧ h'.IsRevIter s.heap.objs.size a ((l.length : Int) - 1 - (k + 1 : Nat))) _ s.toks ?_
    ⟨Nat.zero_le _, ea, by simpa using it0⟩ (fun b hb => by rw [List.mem_singleton.mp hb]; exact get_size _) (fun b o e => Heap.get?_push_of_some _ e)
  refine ⟨?_, ?_, ?_, ?_, ?_, ?_, ?_⟩
  · rintro k ι₁ ι₂ S h₁ h₂ ⟨q0, q1, o, e, c, dt⟩ kp _ pr hw
    exact ⟨q0, pre_get pr q1, o, kp.exact e (hw _ (List.mem_singleton.mpr rfl)) (by rw [c]; simp), c, dt⟩
  · rintro k ι₁ h₁ ⟨_, _, o, e, c, dt⟩ b hb
    rw [List.mem_singleton.mp hb]
    exact ⟨o, e, fun vs n => by rw [dt]; simp⟩
  · rintro k v ι₁ h₁ ⟨_, _, o, e, c, dt⟩ b hb
    rw [List.mem_singleton.mp hb]
    exact ⟨o, e, fun vs n => by rw [dt]; simp⟩
  · rintro A E ι₁ H₁ s₁ k x Q hh hr₁ hc ⟨q0, q1, q2⟩ hx hQ
    obtain ⟨a₂, ea₂, vs₂, pl₂, rv₂⟩ := hr₁.objs i _ hc
    rw [q1] at ea₂; cases ea₂
    have hk : k < l.length := by
      have := (List.getElem?_eq_some_iff.mp hx).1
      simpa using this
    rw [List.getElem?_reverse hk] at hx
    obtain ⟨u, hu, ru⟩ := rv₂.get hx
    have e1 : (l.length : Int) - 1 - k = ((l.length - 1 - k : Nat) : Int) := by omega
    rw [e1] at q2
    refine wpAny_pyNext_rev_item q2 pl₂.isList (x := u) (by simpa using hu) fun h' it' sb => ?_
    have ext : ∀ b o, b ∉ [s.heap.objs.size] → s₁.heap.get? b = some o → h'.get? b = some o := fun b o hb eb => sb.extBut b o (fun z => hb (z ▸ List.mem_singleton.mpr rfl)) eb
    refine hQ u h' s₁.toks (VR.mono (S := [s.heap.objs.size]) (Kept.of_keeps ext) (fun b hb vs t => ?_) (List.prefix_refl _) _ _ ru) ⟨hk, q1, ?_⟩ ext
    · rw [List.mem_singleton.mp hb] at t
      obtain ⟨o, e, c, dt⟩ := q2
      obtain ⟨o', e', c', _⟩ := t
      rw [e] at e'; cases e'; rw [c] at c'; simp at c'
    · have e2 : (l.length : Int) - 1 - (k + 1 : Nat) = ((l.length - 1 - k : Nat) : Int) - 1 := by omega
      rw [e2]; exact it'
  · rintro tgt A E ι₁ s₁ k v Q ⟨q0, q1, o, e, c, dt⟩ hQ
    exact go_plain e c (by decide) (hQ s₁.heap ⟨q0, q1, o, e, c, dt⟩ fun _ _ _ e => e)
  · rintro A E ι₁ H₁ s₁ Q hh hr₁ hc ⟨q0, q1, q2⟩ hQ
    have e1 : (l.length : Int) - 1 - (l.reverse.length : Nat) = -1 := by rw [List.length_reverse]; omega
    rw [e1] at q2
    exact wpAny_pyNext_rev_end hh q2 fun h' ext => hQ h' s₁.toks fun b o hb eb => ext b o (fun z => hb (z ▸ List.mem_singleton.mpr rfl)) eb
  · rintro A E ι₁ s₁ k Q ⟨q0, q1, q2⟩ hQ
    exact wpAny_pyIter_revIter q2 hQ

/-! slices of lists -/
def lclip (n : Nat) : Option Int → Nat → Nat
  | some k, _ => min k.toNat n
  | none, dflt => dflt
def lslice {α : Type} (l : List α) (lo hi : Option Int) : List α := (l.drop (lclip l.length lo 0)).take (lclip l.length hi l.length - lclip l.length lo 0)
def partOK : Option Int → Prop | some k => 0 ≤ k | none => True
theorem VRs.slice {B h : Heap} {ι : List Addr} {l : List AV} {vs : List Value} {lo hi : Option Int} (r : VRs B h ι l vs) : VRs B h ι (lslice l lo hi) (lslice vs lo hi) := by
  unfold lslice
  rw [r.length]
  exact (r.drop _).take _
theorem clip_eq {n : Nat} {o : Option Int} {dflt : Nat} (h : partOK o) : o.elim dflt (clipAt n) = lclip n o dflt := by
  cases o with
  | none => rfl
  | some k =>
    obtain ⟨j, rfl⟩ := Int.eq_ofNat_of_zero_le h
    show clipAt n (j : Int) = min _ _
    rw [clipAt_nat]; simp

/-- the three parts of a slice, none but ints and nothing -/
def evPart (P : PEnv) (C : Ctx) (d : Nat) (o : Option Expr) (loc : Loc) (H : Hp) (Q : Option Int → Hp → Prop) (X : XP) : Prop :=
  match o with
  | none => Q none H
  | some e => EvOK P C d e loc H (fun v H' => ∃ k, v = .int k ∧ Q (some k) H') X
theorem evPart_ok {o : Option Expr} {Q : Option Int → Hp → Prop} (h : evPart P C d o loc H Q X) : ∀ A E env ι s, W P.B A d ι H s → EnvR P.B C env ι s.heap loc → Acc P.B X ι s E →
    wpAny (model P.prog P.w) A (evalPart o env) (fun v s₁ => ∃ ι₁ H₁ k, Post P.B ι s ι₁ H₁ s₁ ∧ IsPart v k ∧ Q k H₁) E s := fun A E env ι s w e a => by
  cases o with
  | none => exact wpAny_pure ⟨ι, H, none, Post.id w.hr, .none, h⟩
  | some x =>
    refine wpAny_mono (h A E env ι s w e a) (fun v s₁ g => ?_) fun _ _ x => x
    obtain ⟨ι₁, H₁, av, p₁, r₁, k, rfl, q⟩ := g
    obtain ⟨t, rfl⟩ := r₁
    exact ⟨ι₁, H₁, some k, p₁, .int k t, q⟩

/-- a slice of what any expression gives -/
theorem sub_slice {prog : Program} {w : World} {A : Around} {E : Value → Shared → Prop} {env : Env} {s : Shared} {value : Expr} {lower upper : Option Expr} {p pos : Pos} {T id : String} {Q : Value → Shared → Prop}
    (hl : typeLookup (.type T) "__getitem__" = pure (some (.builtin id)))
    (h : wpAny (model prog w) A (eval value env) (fun o s₁ => wpAny (model prog w) A (eval (.Slice lower upper none p) env) (fun i s₂ => s₂.TypeIs o T ∧ wpAny (model prog w) A (getItem o i) Q E s₂) E s₁) E s) :
    wpAny (model prog w) A (eval (.Subscript value (.Slice lower upper none p) pos) env) Q E s := by
  rw [eval_Subscript]
  refine wpAny_bind (wpAny_mono h (fun o s₁ h₁ => wpAny_bind (wpAny_holding (wpAny_mono h₁ (fun i s₂ h₂ => wpAny_bind (wpAny_standAt ?_)) fun _ _ x => x))) fun _ _ x => x)
  have fin : wpAny (model prog w) A (operate [i, o] (getItem o i)) (fun r s₃ => wpAny (model prog w) A (letTemporaryGo value o r >>= fun _ => pure r) Q E s₃) E s₂ :=
    wpAny_operating (wpAny_mono h₂.2 (fun r s₃ h₃ => wpAny_bind (wpAny_letTemporaryGo (wpAny_pure h₃))) fun _ _ x => x)
  first
    | (refine wpAny_bind ?_
       rw [getitemInPython_of_ne h₂.1.not_modules]
       refine wpAny_bind (wpAny_specialOf h₂.1 hl ?_)
       first
         | exact wpAny_pure (wpAny_bind fin)
         | exact wpAny_bind (wpAny_pure (wpAny_bind fin)))
    | (refine wpAny_bind (wpAny_specialOf h₂.1 hl ?_)
       exact wpAny_bind fin)
theorem ev_slice {o : Expr} {lo hi : Option Expr} {p pos : Pos} {Q : AV → Hp → Prop}
    (h : EvOK P C d o loc H (fun x H₁ => evPart P C d lo loc H₁ (fun a H₂ => evPart P C d hi loc H₂ (fun b H₃ => ∃ l, seqL H₃ x = some l ∧ l.length ≤ sizeLine ∧ partOK a ∧ partOK b ∧ Q (.ref H₃.length) (H₃ ++ [.list (lslice l a b)])) X) X) X) :
    EvOK P C d (.Subscript o (.Slice lo hi none p) pos) loc H Q X := fun A E env ι s w e a => by
  refine sub_slice (T := "list") slot_list_getitem.lookup (wpAny_mono (h A E env ι s w e a) (fun u s₁ g => ?_) fun _ _ x => x)
  obtain ⟨ι₁, H₁, x, p₁, r₁, g⟩ := g
  refine wpAny_Slice (wpAny_mono (evPart_ok g A E env ι₁ s₁ (w.step p₁) (e.step w.hr p₁) (a.step p₁)) (fun v s₂ g => ?_) fun _ _ x => x)
  obtain ⟨ι₂, H₂, ka, p₂, ip, g⟩ := g
  have p₁₂ := p₁.trans p₂
  refine wpAny_mono (evPart_ok g A E env ι₂ s₂ (w.step p₁₂) (e.step w.hr p₁₂) (a.step p₁₂)) (fun v' s₃ g => ?_) fun _ _ x => x
  obtain ⟨ι₃, H₃, kb, p₃, ip', l, hl, hsz, oa, ob, q⟩ := g
  refine wpAny_pure ?_
  have p₁₃ := p₁₂.trans p₃
  have rx := p₃.vr p₂.hr (p₂.vr p₁.hr r₁)
  obtain ⟨ax, vs, rfl, il, rl⟩ := seqL_is p₃.hr rx hl
  have hk : ∀ b o, s₃.heap.get? b = some o → (s₃.heap.push { cls := .type "slice", data := .fields #[v, v', .none] }).get? b = some o := fun b o e => Heap.get?_push_of_some _ e
  have p₄ : Post P.B ι₃ s₃ ι₃ H₃ { s₃ with heap := s₃.heap.push { cls := .type "slice", data := .fields #[v, v', .none] } } := Post.keep (t := s₃.toks) p₃.hr hk
  refine ⟨(il.push _).typeIs, wpAny_getItem_list_slice (il.push _) (Heap.IsSliceOf.new ..) ip ip' .none (by simp) ?_ (by rw [List.size_toArray, rl.length]; exact hsz)⟩
  have e1 : slicePick vs.toArray ka kb none = (lslice vs ka kb).toArray := by
    rw [slicePick_plain, List.size_toArray, clip_eq oa, clip_eq ob]; rfl
  rw [e1]
  have := gives_newList (P := P) (Q := Q) p₄.hr (VRs.slice (lo := ka) (hi := kb) (rl.kept hk (List.prefix_refl _))) q
  exact (this.before p₄).before p₁₃

theorem sub_listNeg {eo ei : Expr} {o : AV} {l : List AV} {k : Int} {x : AV} {Q : AV → Hp → Prop} (ho : seqL H o = some l) (hn : l.length < 2 ^ 62) (h0 : k < 0) (h1 : 0 ≤ k + l.length) (hx : l[(k + l.length).toNat]? = some x) (h : Q x H) : SubOK P d eo ei o (.int k) H Q := op2 fun A E ι s u v w r1 r2 => by
  obtain ⟨a, vs, rfl, il, rl⟩ := seqL_is w.hr r1 ho
  obtain ⟨t, rfl⟩ := r2
  obtain ⟨z, hz, rz⟩ := rl.get hx
  obtain ⟨ops, hops⟩ := subscripted_ops ei (.ref a) (.int k t)
  have e : (List.toArray vs).size = l.length := by rw [List.size_toArray, rl.length]
  exact PyProof.Rows.tail_any il.typeIs slot_list_getitem.lookup (wpAny_getItem_list_neg il h0 (by rw [e]; omega) (by omega) (by rw [e]; simpa using hz) (Gives.same w.hr rz h)) hops

/-! stores -/
abbrev SetOK (P : PEnv) (d : Nat) (o k x : AV) (H : Hp) (Q : Hp → Prop) : Prop :=
  ∀ A E ι s uo uk ux, W P.B A d ι H s → VR P.B s.heap ι o uo → VR P.B s.heap ι k uk → VR P.B s.heap ι x ux → wpAny (model P.prog P.w) A (setItem uo uk ux) (fun _ s' => ∃ ι' H', Post P.B ι s ι' H' s' ∧ Q H') E s
end Mine

namespace Mine
open PySem
set_option linter.unusedVariables false
set_option maxRecDepth 100000
variable {P : PEnv} {C : Ctx} {d : Nat} {loc : Loc} {H : Hp} {X : XP}

/-! methods of lists -/
theorem getMethod_list {M : Model} {A : Around} {E : Value → Shared → Prop} {s : Shared} {l : Addr} {o : Obj} {nm : Str} {id : String} {pl : Sem Bool} {Q : Value × List Value → Shared → Prop} (ho : s.heap.get? l = some o) (hc : o.cls = .type "list") (hd : o.dict = none)
    (hl : typeLookup (.type "list") nm = pure (some (.builtin id))) (ht : typeOf (.builtin id) = pure (.type "method_descriptor"))
    (h : Q (.builtin id, [.ref l]) s) : wpAny M A (getMethod (.ref l) nm pl) Q E s := by
  have hT : s.TypeIs (.ref l) "list" := ⟨o, ho, hc⟩
  unfold getMethod
  refine wpAny_bind (wpAny_specialOf hT list_getattribute ?_)
  show wpAny M A (if (Manifest.canonical "list.__getattribute__" != "object.__getattribute__") = true then _ else _) Q E s
  rw [canon_list_getattribute, if_neg Bool.false_ne_true]
  refine wpAny_bind (wpAny_specialOf hT list_getattr_none ?_)
  refine wpAny_bind (wpAny_specialOf hT hl ?_)
  refine wpAny_bind (wpAny_of_eq ht ?_)
  refine wpAny_bind (wpAny_load ho ?_)
  rw [hd]
  exact wpAny_bind (wpAny_rule (wpAny_pure h))
theorem meth_list {i : Nat} {l : List AV} {nm : Str} {id : String} (hi : H[i]? = some (.list l)) (hl : typeLookup (.type "list") nm = pure (some (.builtin id))) (ht : typeOf (.builtin id) = pure (.type "method_descriptor")) : MethIs P (.ref i) H nm id := fun A E ι s v pl Q hr r h => by
  obtain ⟨a, rfl, ea⟩ := r
  obtain ⟨vs, ⟨n, e⟩, _⟩ := hr.list ea hi
  exact getMethod_list e rfl rfl hl ht h

theorem fn_lenD {i : Nat} {l : List (Int × AV)} {Q : AV → Hp → Prop} (ok : P.OK2) (hi : H[i]? = some (.dict l)) (hn : l.length < 2 ^ 62) (h : Q (.int l.length) H) : OpOK P d (fun vs => call (.builtin "len") vs) [.ref i] H Q := fn1 fun A E ι s u w r => by
  obtain ⟨a, rfl, ea⟩ := r
  obtain ⟨kvs, hd, hk, hv⟩ := w.hr.dict ea hi
  have hlen : kvs.length = l.length := by have := congrArg List.length hk; simpa using this
  refine call_len_dict (low_not_mods w.hr ea hi) hd (by omega) (Gives.now _ w.hr (av := .int l.length) ?_ h)
  rw [hlen]; exact VR.mkInt _ _

/-! chains -/
theorem ev_cmp2 {l m r : Expr} {o1 o2 : CmpOp} {pos : Pos} {Q : AV → Hp → Prop}
    (h : EvOK P C d l loc H (fun x H₁ => EvOK P C d m loc H₁ (fun y H₂ => CmpOK P d o1 x y H₂ (fun c H₃ => ∃ b, c = .bool b ∧ if b then EvOK P C d r loc H₃ (fun z H₄ => CmpOK P d o2 y z H₄ Q) X else Q (.bool false) H₃)) X) X)
    (hm : lastMarks [o1, o2] [m, r] = false) :
    EvOK P C d (.Compare l [o1, o2] [m, r] pos) loc H Q X := fun A E env ι s w e a => by
  refine PyProof.Rows.Compare_chain (wpAny_mono (h A E env ι s w e a) (fun u s₁ g => ?_) fun _ _ x => x) hm
  obtain ⟨ι₁, H₁, x, p₁, r₁, g⟩ := g
  refine PyProof.Rows.chain_link (wpAny_mono (g A E env ι₁ s₁ (w.step p₁) (e.step w.hr p₁) (a.step p₁)) (fun u' s₂ g => ?_) fun _ _ x => x)
  obtain ⟨ι₂, H₂, y, p₂, r₂, g⟩ := g
  refine wpAny_mono (g A E ι₂ s₂ [u, u'] ((w.step p₁).step p₂) ⟨_, _, rfl, p₂.vr p₁.hr r₁, _, _, rfl, r₂, rfl⟩) (fun c s₃ g => ?_) fun _ _ x => x
  obtain ⟨ι₃, H₃, cv, p₃, r₃, b, rfl, g⟩ := g
  have p₁₃ := (p₁.trans p₂).trans p₃
  cases r₃
  refine wpAny_truthy_bool ?_
  cases b with
  | false => exact ⟨ι₃, H₃, .bool false, p₁₃, VR.mkBool _, g⟩
  | true =>
    refine PyProof.Rows.chain_last (wpAny_mono (g A E env ι₃ s₃ (w.step p₁₃) (e.step w.hr p₁₃) (a.step p₁₃)) (fun u'' s₄ g => ?_) fun _ _ x => x)
    obtain ⟨ι₄, H₄, z, p₄, r₄, g⟩ := g
    exact wpAny_mono (g A E ι₄ s₄ [u', u''] (w.step (p₁₃.trans p₄)) ⟨_, _, rfl, p₄.vr p₃.hr (p₃.vr p₂.hr r₂), _, _, rfl, r₄, rfl⟩) (fun _ _ g => (g.before p₄).before p₁₃) fun _ _ x => x
theorem ts_cmp2 {l m r : Expr} {o1 o2 : CmpOp} {pos : Pos} {Q : Bool → Hp → Prop}
    (h : EvOK P C d l loc H (fun x H₁ => EvOK P C d m loc H₁ (fun y H₂ => CmpOK P d o1 x y H₂ (fun c H₃ => ∃ b, c = .bool b ∧ if b then EvOK P C d r loc H₃ (fun z H₄ => CmpOK P d o2 y z H₄ (fun v H' => ∃ b, v = .bool b ∧ Q b H')) X else Q false H₃)) X) X)
    (hm : lastMarks [o1, o2] [m, r] = false) :
    TsOK P C d (.Compare l [o1, o2] [m, r] pos) loc H Q X := fun A E env ι s w e a => by
  refine PyProof.Rows.isTrue_chain (wpAny_mono (h A E env ι s w e a) (fun u s₁ g => ?_) fun _ _ x => x) hm
  obtain ⟨ι₁, H₁, x, p₁, r₁, g⟩ := g
  refine PyProof.Rows.test_link (wpAny_mono (g A E env ι₁ s₁ (w.step p₁) (e.step w.hr p₁) (a.step p₁)) (fun u' s₂ g => ?_) fun _ _ x => x)
  obtain ⟨ι₂, H₂, y, p₂, r₂, g⟩ := g
  refine wpAny_mono (g A E ι₂ s₂ [u, u'] ((w.step p₁).step p₂) ⟨_, _, rfl, p₂.vr p₁.hr r₁, _, _, rfl, r₂, rfl⟩) (fun c s₃ g => ?_) fun _ _ x => x
  obtain ⟨ι₃, H₃, cv, p₃, r₃, b, rfl, g⟩ := g
  have p₁₃ := (p₁.trans p₂).trans p₃
  cases r₃
  refine wpAny_truthy_bool ?_
  cases b with
  | false => exact ⟨ι₃, H₃, p₁₃, g⟩
  | true =>
    refine PyProof.Rows.test_last (wpAny_mono (g A E env ι₃ s₃ (w.step p₁₃) (e.step w.hr p₁₃) (a.step p₁₃)) (fun u'' s₄ g => ?_) fun _ _ x => x)
    obtain ⟨ι₄, H₄, z, p₄, r₄, g⟩ := g
    exact wpAny_mono (g A E ι₄ s₄ [u', u''] (w.step (p₁₃.trans p₄)) ⟨_, _, rfl, p₄.vr p₃.hr (p₃.vr p₂.hr r₂), _, _, rfl, r₄, rfl⟩) (fun _ _ g => givesB_of ((g.before p₄).before p₁₃)) fun _ _ x => x

/-! a tuple taken apart -/
theorem ex_assignT {elts : List Expr} {k : Nat} {tpos : Pos} {v : Expr} {pos : Pos} {is : List Nat} {Q : MFlow → Loc → Hp → Prop} (n : Names C elts is)
    (h : EvOK P C d v loc H (fun x H' => ∃ ws, x = .tup ws ∧ ws.length = is.length ∧ Q .next (setAll (is.zip ws) loc) H') XF)
    (hs : ∀ env, swapsWithSole [.Tuple elts k tpos] v pos.line env = pure false) (hw : ∀ env, swappedStores [.Tuple elts k tpos] v env = pure none) : ExOK P C d (.Assign [.Tuple elts k tpos] v pos) loc H Q := fun A E env ι s w e => by
  refine PyProof.Rows.Assign_Tuple (wpAny_mono (h A E env ι s w e Acc.no) (fun u s₁ g => ?_) fun _ _ x => x) (hs env) (hw env)
  obtain ⟨ι₁, H₁, x, p₁, r₁, ws, rfl, hl, q⟩ := g
  refine wpAny_mono (tg_tup (P := P) (k := k) (pos := tpos) (K := fun l => Q .next l H₁) n hl q A E env ι₁ H₁ s₁ u w.room.handled p₁.hr (e.step w.hr p₁) r₁) (fun _ s₂ g => ?_) fun _ _ x => x
  obtain ⟨loc', ps, e', q⟩ := g
  exact ⟨ι₁, H₁, loc', .next, PostS.trans p₁.toS ps e'.offOwn, e', rfl, q⟩

/-! what nobody holds any more is let go -/
mutual
def clean : AV → Bool
  | .ref _ => false
  | .tup l => cleans l
  | .fro l => cleans l
  | _ => true
def cleans : List AV → Bool
  | [] => true
  | x :: l => clean x && cleans l
end
mutual
theorem VR.clean {B h : Heap} {ι ι' : List Addr} : ∀ {x : AV} {v : Value}, clean x = true → VR B h ι x v → VR B h ι' x v
  | .none, _, _, r => r
  | .bool _, _, _, r => r
  | .int _, _, _, r => r
  | .str _, _, _, r => r
  | .ref _, _, c, _ => by simp [Mine.clean] at c
  | .tup l, v, c, r => by
    unfold VR at r ⊢
    obtain ⟨a, vs, e, t, q⟩ := r
    exact ⟨a, vs, e, t, VRs.clean (by simpa [Mine.clean] using c) q⟩
  | .fro l, v, c, r => by
    unfold VR at r ⊢
    obtain ⟨a, vs, e, t, q⟩ := r
    exact ⟨a, vs, e, t, VRs.clean (by simpa [Mine.clean] using c) q⟩
theorem VRs.clean {B h : Heap} {ι ι' : List Addr} : ∀ {l : List AV} {vs : List Value}, cleans l = true → VRs B h ι l vs → VRs B h ι' l vs
  | [], _, _, r => r
  | x :: l, vs, c, r => by
    unfold VRs at r ⊢
    obtain ⟨v, t, e, a, b⟩ := r
    simp only [cleans, Bool.and_eq_true] at c
    exact ⟨v, t, e, VR.clean c.1 a, VRs.clean c.2 b⟩
end
mutual
theorem VR.shrink {B h h' : Heap} {ι ι' : List Addr} (p : ι <+: ι') : ∀ {x : AV} {v v' : Value}, VR B h ι x v → VR B h' ι' x v' → VR B h' ι x v'
  | .none, _, _, _, r => r
  | .bool _, _, _, _, r => r
  | .int _, _, _, _, r => r
  | .str _, _, _, _, r => r
  | .ref i, _, _, r, r' => by
    unfold VR at r r' ⊢
    obtain ⟨a, e, g⟩ := r
    obtain ⟨a', e', g'⟩ := r'
    have ha : a = a' := by have := pre_get p g; rw [g'] at this; exact (Option.some.inj this).symm
    subst ha
    exact ⟨a, e', g⟩
  | .tup l, _, _, r, r' => by
    unfold VR at r r' ⊢
    obtain ⟨a, vs, e, t, q⟩ := r
    obtain ⟨a', vs', e', t', q'⟩ := r'
    exact ⟨a', vs', e', t', VRs.shrink p q q'⟩
  | .fro l, _, _, r, r' => by
    unfold VR at r r' ⊢
    obtain ⟨a, vs, e, t, q⟩ := r
    obtain ⟨a', vs', e', t', q'⟩ := r'
    exact ⟨a', vs', e', t', VRs.shrink p q q'⟩
theorem VRs.shrink {B h h' : Heap} {ι ι' : List Addr} (p : ι <+: ι') : ∀ {l : List AV} {vs vs' : List Value}, VRs B h ι l vs → VRs B h' ι' l vs' → VRs B h' ι l vs'
  | [], _, _, _, r => r
  | x :: l, _, _, r, r' => by
    unfold VRs at r r' ⊢
    obtain ⟨v, t, e, a, b⟩ := r
    obtain ⟨v', t', e', a', b'⟩ := r'
    exact ⟨v', t', e', VR.shrink p a a', VRs.shrink p b b'⟩
end
theorem ERs.shrink {B h h' : Heap} {ι ι' : List Addr} (p : ι <+: ι') : ∀ {l : List (Int × AV)} {es es' : List DictEntry}, ERs B h ι l es → ERs B h' ι' l es' → ERs B h' ι l es'
  | [], _, _, _, r => r
  | (k, x) :: l, _, _, r, r' => by
    unfold ERs at r r' ⊢
    obtain ⟨t, v, es, e, a, b⟩ := r
    obtain ⟨t', v', es', e', a', b'⟩ := r'
    exact ⟨t', v', es', e', VR.shrink p a a', ERs.shrink p b b'⟩
theorem OR.shrink {B h h' : Heap} {ι ι' : List Addr} (p : ι <+: ι') {a a' : Addr} : ∀ {o : AObj}, OR B h ι a o → OR B h' ι' a' o → OR B h' ι a' o
  | .list l, r, r' => by
    obtain ⟨vs, _, q⟩ := r
    obtain ⟨vs', pl, q'⟩ := r'
    exact ⟨vs', pl, VRs.shrink p q q'⟩
  | .dict l, r, r' => by
    obtain ⟨_, _, es, n, _, q⟩ := r
    obtain ⟨hm, nd, es', n', e, q'⟩ := r'
    exact ⟨hm, nd, es', n', e, ERs.shrink p q q'⟩
theorem Post.shrink {B : Heap} {ι ι' : List Addr} {s s' : Shared} {H H' : Hp} (hr : HR B ι H s.heap) (p : Post B ι s ι' H' s') (pre : H <+: H') : Post B ι s ι H s' := by
  refine ⟨List.prefix_refl _, ⟨p.hr.base, hr.fresh, hr.nodup, hr.len, fun i o e => ?_⟩, p.kept, fun a m => .inl m, p.same⟩
  obtain ⟨a, ea, r⟩ := hr.objs i o e
  obtain ⟨t, rfl⟩ := pre
  have e' : (H ++ t)[i]? = some o := by
    rw [List.getElem?_append_left (List.getElem?_eq_some_iff.mp e).1]; exact e
  obtain ⟨a', ea', r'⟩ := p.hr.objs i o e'
  have ha : a = a' := by have := pre_get p.pre ea; rw [ea'] at this; exact (Option.some.inj this).symm
  subst ha
  exact ⟨a, ea, OR.shrink p.pre r r'⟩
end Mine

namespace Mine
open PySem PyProof.Rows
set_option linter.unusedVariables false
variable {P : PEnv} {C : Ctx} {d : Nat} {loc : Loc} {H : Hp} {X : XP}

/-! slices of tuples -/
theorem adjust_nn (lo hi : Option Int) (n : Nat) (h1 : partOK lo) (h2 : partOK hi) : Builtin.Slice.sliceAdjust lo hi 1 (n : Int) = (((lclip n lo 0 : Nat) : Int), ((lclip n hi n : Nat) : Int)) := by
  have k1 : ¬ ((1 : Int) < 0) := by omega
  unfold Builtin.Slice.sliceAdjust
  simp only [k1, if_false]
  cases lo with
  | none =>
    cases hi with
    | none => rfl
    | some b =>
      have : ¬ b < 0 := by simp only [partOK] at h2; omega
      simp only [this, if_false, lclip]; congr 1; simp only [partOK] at h2; omega
  | some a =>
    have ha : ¬ a < 0 := by simp only [partOK] at h1; omega
    cases hi with
    | none => simp only [ha, if_false, lclip]; congr 1; simp only [partOK] at h1; omega
    | some b =>
      have : ¬ b < 0 := by simp only [partOK] at h2; omega
      simp only [ha, this, if_false, lclip]; congr 1 <;> (simp only [partOK] at h1 h2; omega)
theorem places_nn (a b : Nat) : Builtin.Slice.slicePlaces (a : Int) (b : Int) 1 = b - a := by
  unfold Builtin.Slice.slicePlaces
  have h1 : (1 : Int) > 0 := by omega
  simp only [h1, if_true, Int.ediv_one]
  split <;> omega
section
variable {prog : Program} {w : World} {A : Around} {E : Value → Shared → Prop} {s : Shared}
theorem slicePart_of {v : Value} {k : Option Int} {Q : Option Int → Shared → Prop} (p : IsPart v k) (h : Q k s) : wpAny (model prog w) A (Builtin.Slice.slicePartIndex v) Q E s := by
  cases p with
  | none => exact slicePart_none h
  | int => exact slicePart_int h
theorem sliceApplied_nn {sl : Addr} {vl vu : Value} {lo hi : Option Int} {n : Nat} {Q : Int × Int × Nat → Shared → Prop} (hs : s.heap.IsSliceOf sl vl vu .none) (pl : IsPart vl lo) (pu : IsPart vu hi) (h1 : partOK lo) (h2 : partOK hi)
    (h : Q (((lclip n lo 0 : Nat) : Int), 1, lclip n hi n - lclip n lo 0) s) :
    wpAny (model prog w) A (Builtin.Slice.sliceApplied (.ref sl) (pure (n : Int))) Q E s := by
  obtain ⟨os, hos, hcs, hds⟩ := id hs
  unfold Builtin.Slice.sliceApplied Builtin.Slice.sliceFields
  refine wpAny_bind (wpAny_bind (wpAny_field hos hds (x := vl) rfl (wpAny_bind (wpAny_field hos hds (x := vu) rfl (wpAny_bind (wpAny_field hos hds (x := .none) rfl (wpAny_pure ?_)))))))
  refine wpAny_bind (slicePart_none ?_)
  show wpAny _ _ (if ((1 : Int) == 0) = true then _ else _) _ _ s
  rw [if_neg (by decide)]
  refine wpAny_bind (slicePart_of pl (wpAny_bind (slicePart_of pu (wpAny_bind (wpAny_pure ?_)))))
  show wpAny _ _ (match Builtin.Slice.sliceAdjust lo hi 1 (n : Int) with | (lo, hi) => pure (lo, (1 : Int), Builtin.Slice.slicePlaces lo hi 1)) _ _ s
  rw [adjust_nn lo hi n h1 h2]
  show wpAny _ _ (pure (((lclip n lo 0 : Nat) : Int), (1 : Int), Builtin.Slice.slicePlaces ((lclip n lo 0 : Nat) : Int) ((lclip n hi n : Nat) : Int) 1)) _ _ s
  rw [places_nn]
  exact wpAny_pure h
theorem pick_nn (xs : Array Value) (a m : Nat) : ((List.range m).filterMap fun (k : Nat) => xs[((a : Int) + (k : Int) * 1).toNat]?).toArray = ((xs.toList.drop a).take m).toArray := by
  have e : (fun (k : Nat) => xs[((a : Int) + (k : Int) * 1).toNat]?) = fun k => xs[a + k]? := by
    funext k
    have : ((a : Int) + (k : Int) * 1).toNat = a + k := by omega
    rw [this]
  rw [e]
  have := pick_run xs a m
  rw [List.filterMap_map] at this
  have e2 : ((fun x => xs[x]?) ∘ fun x => a + x) = fun k => xs[a + k]? := rfl
  rw [e2] at this
  rw [this]
theorem getItem_tuple_nn {t sl : Addr} {vs : List Value} {o : Obj} {n : Nat} {vl vu : Value} {lo hi : Option Int} {Q : Value → Shared → Prop} (ho : s.heap.get? t = some o) (hc : o.cls = .type "tuple") (hd : o.data = .seq vs.toArray n) (hs : s.heap.IsSliceOf sl vl vu .none) (pl : IsPart vl lo) (pu : IsPart vu hi) (h1 : partOK lo) (h2 : partOK hi)
    (hw : lslice vs lo hi = vs → Q (.ref t) s)
    (h : Q (.ref s.heap.objs.size) { s with heap := s.heap.push { cls := .type "tuple", data := .seq (lslice vs lo hi).toArray } })
    (hsz : vs.length ≤ sizeLine) : wpAny (model prog w) A (getItem (.ref t) (.ref sl)) Q E s := by
  have ht : s.TypeIs (.ref t) "tuple" := ⟨o, ho, hc⟩
  have hdrop : sizeOk (.seq (lslice vs lo hi).toArray) := by
    show (lslice vs lo hi).toArray.size ≤ sizeLine
    unfold lslice
    rw [List.size_toArray, List.length_take, List.length_drop]
    omega
  obtain ⟨os, hos, hcs, hds⟩ := id hs
  have hTs : s.TypeIs (.ref sl) "slice" := ⟨os, hos, hcs⟩
  unfold getItem
  try with_reducible refine wpAny_holding ?_
  first | refine wpAny_bind (wpAny_pure ?_) | skip
  refine wpAny_bind (wpAny_sequenceKey ht (by decide) ?_)
  refine wpAny_bind (wpAny_callSpecial?_slot (name := Str.ofString "__getitem__") ht slot_tuple_getitem
    (wpAny_call_entry slot_tuple_getitem ht entry_tuple_getitem ?_ (args_tuple_getitem _ _)))
  show wpAny _ _ (Builtin.Tuple.tupleItemsOf (.ref t) >>= _) _ _ s
  refine wpAny_bind (tupleItemsOf_ ⟨o, ho, hc, n, hd⟩ ?_)
  refine wpAny_bind (wpAny_typeOf hTs ?_)
  rw [if_pos (by decide)]
  have hn : ((vs.toArray.size : Nat) : Int) = (vs.length : Int) := by rw [List.size_toArray]
  refine wpAny_bind (sliceApplied_nn (n := vs.toArray.size) hs pl pu h1 h2 ?_)
  rw [List.size_toArray]
  show wpAny _ _ (if (((lclip vs.length lo 0 : Nat) : Int) == 0 && (1 : Int) == 1 && (lclip vs.length hi vs.length - lclip vs.length lo 0) == vs.length) = true then _ else _) _ _ s
  by_cases hcw : (((lclip vs.length lo 0 : Nat) : Int) == 0 && (1 : Int) == 1 && (lclip vs.length hi vs.length - lclip vs.length lo 0) == vs.length) = true
  · rw [if_pos hcw]
    refine wpAny_bind (m := Builtin.Tuple.tupleIsExact _) (wpAny_bind (wpAny_typeOf ht (wpAny_pure ?_)))
    rw [if_pos (by decide)]
    refine wpAny_bind (wpAny_rule ?_)
    refine wpAny_pure ⟨_, rfl, wpAny_pure (hw ?_)⟩
    simp only [Bool.and_eq_true, beq_iff_eq] at hcw
    obtain ⟨⟨e1, _⟩, e2⟩ := hcw
    unfold lslice
    rw [e2, show lclip vs.length lo 0 = 0 by omega]; simp
  · rw [if_neg hcw, pick_nn]
    exact wpAny_bind (m := Builtin.Tuple.tupleExact _) (wpAny_newObj_type (wpAny_pure ⟨_, rfl, wpAny_pure h⟩) hdrop)
end
theorem ev_sliceT {o : Expr} {lo hi : Option Expr} {p pos : Pos} {Q : AV → Hp → Prop}
    (h : EvOK P C d o loc H (fun x H₁ => evPart P C d lo loc H₁ (fun a H₂ => evPart P C d hi loc H₂ (fun b H₃ => ∃ l, x = .tup l ∧ l.length ≤ sizeLine ∧ partOK a ∧ partOK b ∧ Q (.tup (lslice l a b)) H₃) X) X) X) :
    EvOK P C d (.Subscript o (.Slice lo hi none p) pos) loc H Q X := fun A E env ι s w e a => by
  refine sub_slice (T := "tuple") slot_tuple_getitem.lookup (wpAny_mono (h A E env ι s w e a) (fun u s₁ g => ?_) fun _ _ x => x)
  obtain ⟨ι₁, H₁, x, p₁, r₁, g⟩ := g
  refine wpAny_Slice (wpAny_mono (evPart_ok g A E env ι₁ s₁ (w.step p₁) (e.step w.hr p₁) (a.step p₁)) (fun v s₂ g => ?_) fun _ _ x => x)
  obtain ⟨ι₂, H₂, ka, p₂, ip, g⟩ := g
  have p₁₂ := p₁.trans p₂
  refine wpAny_mono (evPart_ok g A E env ι₂ s₂ (w.step p₁₂) (e.step w.hr p₁₂) (a.step p₁₂)) (fun v' s₃ g => ?_) fun _ _ x => x
  obtain ⟨ι₃, H₃, kb, p₃, ip', l, rfl, hsz, oa, ob, q⟩ := g
  refine wpAny_pure ?_
  have p₁₃ := p₁₂.trans p₃
  have rx := p₃.vr p₂.hr (p₂.vr p₁.hr r₁)
  have hk : ∀ b o, s₃.heap.get? b = some o → (s₃.heap.push { cls := .type "slice", data := .fields #[v, v', .none] }).get? b = some o := fun b o e => Heap.get?_push_of_some _ e
  have p₄ : Post P.B ι₃ s₃ ι₃ H₃ { s₃ with heap := s₃.heap.push { cls := .type "slice", data := .fields #[v, v', .none] } } := Post.keep (t := s₃.toks) p₃.hr hk
  have rx' := rx
  unfold VR at rx
  obtain ⟨ta, vs, rfl, ⟨n, dc, sl, e⟩, rl⟩ := rx
  have e' := hk _ _ e
  refine ⟨⟨_, e', rfl⟩, getItem_tuple_nn e' rfl rfl (Heap.IsSliceOf.new ..) ip ip' oa ob (fun hw => ?_) ?_ (by rw [rl.length]; exact hsz)⟩
  · have hw' : lslice l ka kb = l := by
      have hlen : vs.length = l.length := rl.length
      unfold lslice at hw ⊢
      have e1 := congrArg List.length hw
      simp only [List.length_take, List.length_drop] at e1
      rw [hlen] at e1
      have e0 : lclip l.length ka 0 = 0 ∨ l.length = 0 := by omega
      rcases e0 with e0 | e0
      · rw [e0]; simp only [List.drop_zero]
        exact List.take_of_length_le (by omega)
      · have := List.length_eq_zero_iff.mp e0
        subst this; simp
    rw [hw'] at q
    exact ((Gives.now _ p₄.hr (p₄.vr p₃.hr rx') q).before p₄).before p₁₃
  · have := gives_newTuple (P := P) (Q := Q) p₄.hr (VRs.slice (lo := ka) (hi := kb) (rl.kept hk (List.prefix_refl _))) q
    exact (this.before p₄).before p₁₃
end Mine

namespace Mine
open PySem PyProof.Rows PySem.W
set_option linter.unusedVariables false
variable {P : PEnv} {C : Ctx} {d : Nat} {loc : Loc} {H : Hp} {X : XP}

/-! sorted -/
theorem VRs.toInts {B h : Heap} {ι : List Addr} : ∀ {ns : List Int} {vs : List Value}, VRs B h ι (ns.map .int) vs → IntsAre vs ns
  | [], _, r => by cases (show _ = [] from r); exact .nil
  | n :: ns, _, r => by
    obtain ⟨v, r', rfl, hv, ht⟩ := r
    obtain ⟨t, rfl⟩ := hv
    exact .cons n t (VRs.toInts ht)
theorem VRs.ofInts {B h : Heap} {ι : List Addr} : ∀ {vs : List Value} {ns : List Int}, IntsAre vs ns → VRs B h ι (ns.map .int) vs
  | _, _, .nil => rfl
  | _, _, .cons n t r => ⟨_, _, rfl, VR.mkInt _ _, VRs.ofInts r⟩
theorem fn_sortedL {x : AV} {ns : List Int} {Q : AV → Hp → Prop} (hx : seqL H x = some (ns.map .int)) (h64 : ns.length < 64)
    (q : ∀ ms : List Int, ms.Perm ns → ms.Pairwise (· ≤ ·) → Q (.ref H.length) (H ++ [.list (ms.map .int)])) : OpOK P d (fun vs => call (.builtin "sorted") vs) [x] H Q := fn1 fun A E ι s u w r => by
  obtain ⟨a, vs, rfl, il, rl⟩ := seqL_is w.hr r hx
  refine sorted_ints il rl.toInts (by rw [rl.length, List.length_map]; exact h64) fun out ms h1 h2 h3 => ?_
  have hk : ∀ b o, s.heap.get? b = some o → (sortedAll s.heap vs out).get? b = some o := fun b o e => sortedAll_old e
  obtain ⟨e, he⟩ := sortedAll_at s.heap vs out
  have hn : s.heap.get? (s.heap.objs.size + 1) = none := by
    cases e : s.heap.get? (s.heap.objs.size + 1) with
    | none => rfl
    | some o => have h1 : s.heap.objs.size + 1 < s.heap.objs.size := Heap.lt_size e; omega
  refine ⟨_, _, .ref H.length, Post.alloc (t := s.toks) w.hr hk hn (o := .list (ms.map .int)) ⟨out.toList, ⟨e, by simpa using he⟩, VRs.ofInts h1⟩, ?_, q ms h2 h3⟩
  unfold VR
  exact ⟨_, rfl, by rw [← w.hr.len]; simp⟩
theorem fn_sortedD {i : Nat} {l : List (Int × AV)} {Q : AV → Hp → Prop} (hi : H[i]? = some (.dict l)) (h64 : l.length < 64)
    (q : ∀ ms : List Int, ms.Perm (l.map (·.1)) → ms.Pairwise (· ≤ ·) → Q (.ref H.length) (H ++ [.list (ms.map .int)])) : OpOK P d (fun vs => call (.builtin "sorted") vs) [.ref i] H Q := fn1 fun A E ι s u w r => by
  unfold VR at r
  obtain ⟨a, rfl, ha⟩ := r
  obtain ⟨kvs, hD, hk1, hv1⟩ := w.hr.dict ha hi
  have lo : (a == sysModules) = false := by
    obtain ⟨a', e', h1, _⟩ := w.hr.objs i _ hi
    rw [ha] at e'; cases e'; exact h1
  obtain ⟨ep, hat⟩ := hD.dictAt
  have hlen : kvs.length = l.length := by have := congrArg List.length hk1; simpa using this
  refine Calls.call_function_entry kind_sorted plain_sorted entry_sorted (args_sorted1 _) ?_
  unfold Builtin.«sorted»
  refine wpAny_bind (m := checkCount "sorted" 1 1 _) (wpAny_pure ?_)
  refine wpAny_bind (kdu_collect (A := A.in1) (kdl_dict (knd := intKind P.prog P.w) (kvs := kvs) (ep := ep) lo) w.room.handled hat (by unfold sizeLine; omega) fun h' tk acc hk hacc => ?_)
  have hl : acc.toList.length = l.length := by rw [Array.length_toList]; exact hacc.1.trans hlen
  have hI : IntsAre acc.toList (l.map (·.1)) := by
    rw [← hk1]
    have key : ∀ (as : List Value) (ks : List (Int × Value)), as.length = ks.length → (∀ (j : Nat) (v : Value), as[j]? = some v → ∃ k x, ks[j]? = some (k, x) ∧ (intKind P.prog P.w).is k v = true) → IntsAre as (ks.map (·.1)) := by
      intro as
      induction as with
      | nil => intro ks h1 _; have : ks = [] := List.length_eq_zero_iff.mp h1.symm; subst this; exact .nil
      | cons v as ih =>
        intro ks h1 h2
        cases ks with
        | nil => simp at h1
        | cons p ks =>
          obtain ⟨k, x, e, hk⟩ := h2 0 v rfl
          simp only [List.getElem?_cons_zero, Option.some.injEq] at e
          obtain ⟨t, rfl⟩ := Value.isInt_shape hk
          subst e
          exact .cons k t (ih ks (by simpa using h1) fun j v hv => h2 (j + 1) v (by simpa using hv))
    exact key _ _ (by rw [hl, hlen]) fun j v e => hacc.2 j v (by rw [← Array.getElem?_toList]; exact e)
  refine wpAny_bind (wpAny_newList ?_ (by rw [hl]; unfold sizeLine; omega))
  have hoL : (h'.push { cls := .type "list", data := .seq acc.toList.toArray }).get? h'.objs.size = some (seqObj "list" acc.toList.toArray 0) := Heap.get?_push_size _ rfl
  refine wpAny_bind (wpAny_holding (wpAny_call_entry slot_list_sort ⟨_, hoL, rfl⟩ entry_list_sort (list_sort_tree hoL hI (by rw [hl]; exact h64) fun out ms h1 h2 h3 => ⟨_, rfl, ?_⟩) (args_list_sort _)))
  refine wpAny_pure ⟨_, rfl, ?_⟩
  have hlt : ∀ b o, s.heap.get? b = some o → b < h'.objs.size := fun b o e => Heap.lt_size (hk b o e)
  have hk2 : ∀ b o, s.heap.get? b = some o → (sortedHeap (h'.push { cls := .type "list", data := .seq acc.toList.toArray }) h'.objs.size acc.toList out).get? b = some o := fun b o e => by
    rw [sortedHeap_old (Nat.ne_of_lt (hlt b o e)) (by rw [Heap.size_push]; exact Nat.lt_succ_of_lt (hlt b o e))]
    exact Heap.get?_push_of_some _ (hk b o e)
  obtain ⟨e, he⟩ := sortedHeap_at (out := out) hoL
  have hn : s.heap.get? h'.objs.size = none := by
    cases e : s.heap.get? h'.objs.size with
    | none => rfl
    | some o => exact absurd (hlt _ _ e) (Nat.lt_irrefl _)
  refine ⟨_, _, .ref H.length, Post.alloc (t := tk) w.hr hk2 hn (o := .list (ms.map .int)) ⟨out.toList, ⟨e, by simpa using he⟩, VRs.ofInts h1⟩, ?_, q ms h2 h3⟩
  unfold VR
  exact ⟨_, rfl, by rw [← w.hr.len]; simp⟩
end Mine

namespace Mine
open PySem
set_option linter.unusedVariables false

/-! the small language: each form is its own weakest condition -/
inductive Bi where | len | all | any | sorted | list | tuple | int | min | max
inductive Mt where | append | pop | insert | extend | clear
inductive IK where | plain | range | revd | enum
abbrev KI := List AV → (Hp → Prop) → Hp → Prop
abbrev PF := MFlow → Loc → Hp → Prop
abbrev PL := List AV → Hp → Prop

def asB (v : AV) (K : Bool → Prop) : Prop := match v with | .bool b => K b | _ => False
def asI (v : AV) (K : Int → Prop) : Prop := match v with | .int b => K b | _ => False
def asT (v : AV) (n : Nat) (K : List AV → Prop) : Prop := match v with | .tup l => l.length = n ∧ K l | _ => False
def as1 (vs : List AV) (K : AV → Prop) : Prop := match vs with | [x] => K x | _ => False
def withL (o : Option (List AV)) (K : List AV → Prop) : Prop := match o with | some l => K l | none => False
theorem asB.ex {v : AV} {K : Bool → Prop} (h : asB v K) : ∃ b, v = .bool b ∧ K b := by
  cases v <;> first | exact h.elim | exact ⟨_, rfl, h⟩
theorem asI.ex {v : AV} {K : Int → Prop} (h : asI v K) : ∃ b, v = .int b ∧ K b := by
  cases v <;> first | exact h.elim | exact ⟨_, rfl, h⟩
theorem asT.ex {v : AV} {n : Nat} {K : List AV → Prop} (h : asT v n K) : ∃ l, v = .tup l ∧ l.length = n ∧ K l := by
  cases v <;> first | exact h.elim | exact ⟨_, rfl, h⟩
theorem as1.ex {vs : List AV} {K : AV → Prop} (h : as1 vs K) : ∃ x, vs = [x] ∧ K x := by
  match vs, h with
  | [x], h => exact ⟨x, rfl, h⟩
theorem withL.ex {o : Option (List AV)} {K : List AV → Prop} (h : withL o K) : ∃ l, o = some l ∧ K l := by
  match o, h with
  | some l, h => exact ⟨l, rfl, h⟩

/-- a list, or a list of the base, or a tuple -/
def anyL (H : Hp) : AV → Option (List AV)
  | .tup l => some l
  | x => seqL H x
def tupL : AV → Option (List AV) | .tup l => some l | _ => none

def wpLen (x : AV) (H : Hp) (Q : PQ) : Prop :=
  match x with
  | .tup l => l.length < 2 ^ 62 ∧ Q (.int l.length) H
  | .fro l => l.length < 2 ^ 62 ∧ Q (.int l.length) H
  | .ref i => match H[i]? with
    | some (.list l) => l.length < 2 ^ 62 ∧ Q (.int l.length) H
    | some (.dict l) => l.length < 2 ^ 62 ∧ Q (.int l.length) H
    | none => False
  | _ => False
def wpSrt (x : AV) (H : Hp) (Q : PQ) : Prop := ∃ ns : List Int, (seqL H x = some (ns.map .int) ∨ ∃ i l, x = .ref i ∧ H[i]? = some (.dict l) ∧ ns = l.map (·.1)) ∧ ns.length < 64 ∧ ∀ ms : List Int, ms.Perm ns → ms.Pairwise (· ≤ ·) → Q (.ref H.length) (H ++ [.list (ms.map .int)])
def wpMm (vs : List AV) (K : Int → Int → Prop) : Prop := match vs with | [.int a, .int b] => K a b | _ => False
def wpBi (f : Bi) (vs : List AV) (H : Hp) (Q : PQ) : Prop :=
  match f with
  | .len => as1 vs fun x => wpLen x H Q
  | .all => as1 vs fun x => ∃ bs : List Bool, seqL H x = some (bs.map .bool) ∧ Q (.bool (bs.all fun b => b)) H
  | .any => as1 vs fun x => ∃ bs : List Bool, seqL H x = some (bs.map .bool) ∧ Q (.bool (bs.any fun b => b)) H
  | .list => as1 vs fun x => withL (anyL H x) fun l => l.length ≤ sizeLine ∧ Q (.ref H.length) (H ++ [.list l])
  | .tuple => as1 vs fun x => withL (seqL H x) fun l => l.length ≤ sizeLine ∧ Q (.tup l) H
  | .int => as1 vs fun x => asB x fun b => Q (.int (if b then 1 else 0)) H
  | .min => wpMm vs fun a b => Q (.int (if b < a then b else a)) H
  | .max => wpMm vs fun a b => Q (.int (if b > a then b else a)) H
  | .sorted => as1 vs fun x => wpSrt x H Q

def isL (H : Hp) (x : AV) : Prop := ∃ i l, x = .ref i ∧ H[i]? = some (.list l)
def lstAt (H : Hp) (i : Nat) : Option (List AV) := match H[i]? with | some (.list l) => some l | _ => none
theorem lstAt_some {H : Hp} {i : Nat} {l : List AV} (h : lstAt H i = some l) : H[i]? = some (.list l) := by
  unfold lstAt at h; split at h
  · cases h; assumption
  · cases h
theorem lstAt_of {H : Hp} {i : Nat} {l : List AV} (h : H[i]? = some (.list l)) : lstAt H i = some l := by
  unfold lstAt; rw [h]
/-- a list at its number -/
def onL (o : AV) (H : Hp) (K : Nat → List AV → Prop) : Prop := match o with | .ref i => withL (lstAt H i) (K i) | _ => False
theorem onL.ex {o : AV} {H : Hp} {K : Nat → List AV → Prop} (h : onL o H K) : ∃ i l, o = .ref i ∧ H[i]? = some (.list l) ∧ K i l := by
  cases o with
  | ref i => obtain ⟨l, h1, h2⟩ := withL.ex h; exact ⟨i, l, rfl, lstAt_some h1, h2⟩
  | _ => exact h.elim
theorem onL_ref {i : Nat} {l : List AV} {H : Hp} {K : Nat → List AV → Prop} (h : H[i]? = some (.list l)) : onL (.ref i) H K = K i l := by
  show withL (lstAt H i) _ = _
  rw [lstAt_of h]; rfl
def wpIns (vs : List AV) (K : Int → AV → Prop) : Prop := match vs with | [.int k, x] => K k x | _ => False
def wpPop (vs : List AV) (K0 : Prop) (K1 : Int → Prop) : Prop := match vs with | [] => K0 | [.int k] => K1 k | _ => False
def wpMt (m : Mt) (o : AV) (vs : List AV) (H : Hp) (Q : PQ) : Prop := onL o H fun i l =>
  match m with
  | .append => as1 vs fun x => l.length ≤ sizeLine ∧ Q .none (H.set i (.list (l ++ [x])))
  | .pop => wpPop vs (l.length ≤ sizeLine ∧ ∃ l' x, l = l' ++ [x] ∧ Q x (H.set i (.list l'))) fun k => l.length ≤ sizeLine ∧ 0 ≤ k ∧ k < 2 ^ 62 ∧ ∃ x, l[k.toNat]? = some x ∧ Q x (H.set i (.list (l.eraseIdx k.toNat)))
  | .insert => wpIns vs fun k x => l.length ≤ sizeLine ∧ 0 ≤ k ∧ k ≤ l.length ∧ Q .none (H.set i (.list (l.take k.toNat ++ x :: l.drop k.toNat)))
  | .extend => as1 vs fun y => onL y H fun _ m => l.length + m.length ≤ 1000000 ∧ Q .none (H.set i (.list (l ++ m)))
  | .clear => vs = [] ∧ l.length ≤ sizeLine ∧ Q .none (H.set i (.list []))

def wpPlain (x : AV) (H : Hp) (K : KI) : Prop :=
  match x with
  | .ref i => withL (lstAt H i) fun l => K l (fun H' => H'[i]? = some (.list l)) H
  | .fro l => K l (fun _ => True) H
  | .tup l => K l (fun _ => True) H
  | _ => False
def wpRange (vs : List AV) (H : Hp) (K : KI) : Prop :=
  match vs with
  | [.int n] => -(2 ^ 62) ≤ n ∧ n < 2 ^ 62 ∧ K ((List.range n.toNat).map fun (k : Nat) => AV.int k) (fun _ => True) H
  | [.int a, .int b] => -(2 ^ 62) ≤ a ∧ a < 2 ^ 62 ∧ -(2 ^ 62) ≤ b ∧ b < 2 ^ 62 ∧ K ((List.range (b - a).toNat).map fun (k : Nat) => AV.int (a + k)) (fun _ => True) H
  | _ => False
def wpIt (k : IK) (vs : List AV) (H : Hp) (K : KI) : Prop :=
  match k with
  | .plain => as1 vs fun x => wpPlain x H K
  | .range => wpRange vs H K
  | .revd => as1 vs fun x => onL x H fun i l => K l.reverse (fun H' => H'[i]? = some (.list l)) H
  | .enum => False

def unpack (t : Bool) (n : Nat) (y : AV) : Option (List AV) :=
  match t with
  | true => match y with | .tup l => if l.length = n then some l else none | _ => none
  | false => if n = 1 then some [y] else none

def wpSet (o k x : AV) (H : Hp) (K : Hp → Prop) : Prop :=
  match o with
  | .ref i => asI k fun k => match H[i]? with
    | some (.list l) => l.length < 2 ^ 62 ∧ 0 ≤ k ∧ k < l.length ∧ K (H.set i (.list (l.set k.toNat x)))
    | some (.dict l) => l.length ≤ sizeLine ∧ K (H.set i (.dict (dset l k x)))
    | none => False
  | _ => False

def idxL (l : List AV) (k : Int) (H : Hp) (Q : PQ) : Prop := l.length < 2 ^ 62 ∧ ∃ j z, place k l.length = some j ∧ l[j]? = some z ∧ Q z H
/-- an index, from behind as well -/
def wpIdx (x y : AV) (H : Hp) (Q : PQ) : Prop :=
  match x with
  | .ref i => asI y fun k => match H[i]? with
    | some (.list l) => idxL l k H Q
    | some (.dict l) => ∃ z, dget l k = some z ∧ Q z H
    | none => False
  | .tup l => asI y fun k => idxL l k H Q
  | .fro l => asI y fun k => idxL l k H Q
  | _ => False
def partOf : List AV → Option (Option Int)
  | [] => some none
  | [.int k] => some (some k)
  | _ => none
def withP (vs : List AV) (K : Option Int → Prop) : Prop := match vs with | [] => K none | [.int k] => 0 ≤ k ∧ K (some k) | _ => False
theorem withP.ex {vs : List AV} {K : Option Int → Prop} (h : withP vs K) : ∃ k, partOf vs = some k ∧ partOK k ∧ K k := by
  match vs, h with
  | [], h => exact ⟨_, rfl, by simp [partOK], h⟩
  | [.int k], h => exact ⟨_, rfl, by simpa [partOK] using h.1, h.2⟩

def ME : Type := Fun → Loc → Hp → PQ → Prop
def wpE (Φ : Fun) (m : ME) (loc : Loc) (H : Hp) (Q : PQ) : Prop := m Φ loc H Q
def wpEs (Φ : Fun) : List ME → Loc → Hp → PL → Prop
  | [], _, H, Q => Q [] H
  | e :: es, loc, H, Q => wpE Φ e loc H fun v H' => wpEs Φ es loc H' fun vs H'' => Q (v :: vs) H''
def wpCs (Φ : Fun) : List ME → Loc → Hp → (Bool → Hp → Prop) → Prop
  | [], _, H, K => K true H
  | e :: es, loc, H, K => wpE Φ e loc H fun v H' => asB v fun b => if b then wpCs Φ es loc H' K else K false H'

def kBin2 (op : BOp) (x : AV) (Q : PQ) : PQ := fun y H => wpBin op x y H Q
def kBin1 (Φ : Fun) (op : BOp) (b : ME) (loc : Loc) (Q : PQ) : PQ := fun x H => wpE Φ b loc H (kBin2 op x Q)
def kCmp2 (op : COp) (x : AV) (Q : PQ) : PQ := fun y H => wpCmp op x y H Q
def kCmp1 (Φ : Fun) (op : COp) (b : ME) (loc : Loc) (Q : PQ) : PQ := fun x H => wpE Φ b loc H (kCmp2 op x Q)
def kC4 (Φ : Fun) (o2 : COp) (c : ME) (loc : Loc) (y : AV) (Q : PQ) (H : Hp) : Bool → Prop := fun t => if t then wpE Φ c loc H (kCmp2 o2 y Q) else Q (.bool false) H
def kC3 (Φ : Fun) (o2 : COp) (c : ME) (loc : Loc) (y : AV) (Q : PQ) : PQ := fun v H => asB v (kC4 Φ o2 c loc y Q H)
def kC2 (Φ : Fun) (o1 o2 : COp) (c : ME) (loc : Loc) (x : AV) (Q : PQ) : PQ := fun y H => wpCmp o1 x y H (kC3 Φ o2 c loc y Q)
def kC1 (Φ : Fun) (o1 o2 : COp) (b c : ME) (loc : Loc) (Q : PQ) : PQ := fun x H => wpE Φ b loc H (kC2 Φ o1 o2 c loc x Q)
def kNotB (Q : PQ) (H : Hp) : Bool → Prop := fun b => Q (.bool !b) H
def kNot (Q : PQ) : PQ := fun v H => asB v (kNotB Q H)
def kNegI (Q : PQ) (H : Hp) : Int → Prop := fun b => Q (.int (-b)) H
def kNeg (Q : PQ) : PQ := fun v H => asI v (kNegI Q H)
def kAndB (Φ : Fun) (b : ME) (loc : Loc) (Q : PQ) (H : Hp) : Bool → Prop := fun t => if t then wpE Φ b loc H Q else Q (.bool false) H
def kAnd (Φ : Fun) (b : ME) (loc : Loc) (Q : PQ) : PQ := fun v H => asB v (kAndB Φ b loc Q H)
def kOrB (Φ : Fun) (b : ME) (loc : Loc) (Q : PQ) (H : Hp) : Bool → Prop := fun t => if t then Q (.bool true) H else wpE Φ b loc H Q
def kOr (Φ : Fun) (b : ME) (loc : Loc) (Q : PQ) : PQ := fun v H => asB v (kOrB Φ b loc Q H)
def kCall (Φ : Fun) (f : Str) (Q : PQ) : PL := fun vs H => Φ f vs H Q
def kBi (f : Bi) (Q : PQ) : PL := fun vs H => wpBi f vs H Q
def kIsi (t : Ty) (Q : PQ) : PQ := fun v H => Q (.bool (isi H v t)) H
def kIdx2 (x : AV) (Q : PQ) : PQ := fun y H => wpIdx x y H Q
def kIdx1 (Φ : Fun) (b : ME) (loc : Loc) (Q : PQ) : PQ := fun x H => wpE Φ b loc H (kIdx2 x Q)
def kS6 (ka kb : Option Int) (Q : PQ) (H : Hp) : List AV → Prop := fun l => l.length ≤ sizeLine ∧ Q (.ref H.length) (H ++ [.list (lslice l ka kb)])
def kS5 (x : AV) (ka : Option Int) (Q : PQ) (H : Hp) : Option Int → Prop := fun kb => withL (seqL H x) (kS6 ka kb Q H)
def kS4 (x : AV) (ka : Option Int) (Q : PQ) : PL := fun vs H => withP vs (kS5 x ka Q H)
def kS3 (Φ : Fun) (hi : List ME) (loc : Loc) (x : AV) (Q : PQ) (H : Hp) : Option Int → Prop := fun ka => wpEs Φ hi loc H (kS4 x ka Q)
def kS2 (Φ : Fun) (hi : List ME) (loc : Loc) (x : AV) (Q : PQ) : PL := fun us H => withP us (kS3 Φ hi loc x Q H)
def kS1 (Φ : Fun) (lo hi : List ME) (loc : Loc) (Q : PQ) : PQ := fun x H => wpEs Φ lo loc H (kS2 Φ hi loc x Q)
def kT6 (ka kb : Option Int) (Q : PQ) (H : Hp) : List AV → Prop := fun l => l.length ≤ sizeLine ∧ Q (.tup (lslice l ka kb)) H
def kT5 (x : AV) (ka : Option Int) (Q : PQ) (H : Hp) : Option Int → Prop := fun kb => withL (tupL x) (kT6 ka kb Q H)
def kT4 (x : AV) (ka : Option Int) (Q : PQ) : PL := fun vs H => withP vs (kT5 x ka Q H)
def kT3 (Φ : Fun) (hi : List ME) (loc : Loc) (x : AV) (Q : PQ) (H : Hp) : Option Int → Prop := fun ka => wpEs Φ hi loc H (kT4 x ka Q)
def kT2 (Φ : Fun) (hi : List ME) (loc : Loc) (x : AV) (Q : PQ) : PL := fun us H => withP us (kT3 Φ hi loc x Q H)
def kT1 (Φ : Fun) (lo hi : List ME) (loc : Loc) (Q : PQ) : PQ := fun x H => wpEs Φ lo loc H (kT2 Φ hi loc x Q)
def kRevL (Q : PQ) (H : Hp) : List AV → Prop := fun l => l.length ≤ sizeLine ∧ Q (.ref H.length) (H ++ [.list l.reverse])
def kRev (Q : PQ) : PQ := fun x H => withL (seqL H x) (kRevL Q H)
def kTup (Q : PQ) : PL := fun vs H => vs.length ≤ sizeLine ∧ Q (.tup vs) H
def kLst (Q : PQ) : PL := fun vs H => vs.length ≤ sizeLine ∧ Q (.ref H.length) (H ++ [.list vs])
def kM2 (m : Mt) (x : AV) (Q : PQ) : PL := fun vs H => wpMt m x vs H Q
def kM1 (Φ : Fun) (m : Mt) (as : List ME) (loc : Loc) (Q : PQ) : PQ := fun x H => isL H x ∧ wpEs Φ as loc H (kM2 m x Q)
def kE2 (v : AV) (Q : PL) : PL := fun vs H => Q (v :: vs) H
def kE1 (Φ : Fun) (es : List ME) (loc : Loc) (Q : PL) : PQ := fun v H => wpEs Φ es loc H (kE2 v Q)
def kIt (k : IK) (K : KI) : PL := fun vs H => wpIt k vs H K
def atL (o : Option (Option AV)) (Q : PQ) (H : Hp) : Prop := match o with | some (some v) => Q v H | _ => False
theorem atL.ex {o : Option (Option AV)} {Q : PQ} {H : Hp} (h : atL o Q H) : ∃ v, o = some (some v) ∧ Q v H := by
  match o, h with
  | some (some v), h => exact ⟨v, rfl, h⟩
def compI (Φ : Fun) (t : Bool) (n : Nat) (elt : ME) (cond : List ME) (loc : Loc) (Q : PQ) : KI := fun items Cnd H₁ => items.length ≤ sizeLine ∧ ∃ J : Nat → List AV → Hp → Prop, J 0 [] H₁ ∧ ∀ i l H', J i l H' → Cnd H' ∧
      (∀ y, items[i]? = some y → ∃ ws, unpack t n y = some ws ∧ wpCs Φ cond (loc ++ ws.map some) H' fun b H'' => if b then wpE Φ elt (loc ++ ws.map some) H'' fun v H3 => J (i + 1) (l ++ [v]) H3 else J (i + 1) l H'') ∧
      (i = items.length → Q (.ref H'.length) (H' ++ [.list l]))

namespace ME
def cst (v : AV) : ME := fun _ _ H Q => Q v H
def loc (i : Nat) : ME := fun _ loc H Q => atL loc[i]? Q H
def bin (op : BOp) (a b : ME) : ME := fun Φ loc H Q => wpE Φ a loc H (kBin1 Φ op b loc Q)
def cmp (op : COp) (a b : ME) : ME := fun Φ loc H Q => wpE Φ a loc H (kCmp1 Φ op b loc Q)
def cmp2 (o1 o2 : COp) (a b c : ME) : ME := fun Φ loc H Q => wpE Φ a loc H (kC1 Φ o1 o2 b c loc Q)
def not (a : ME) : ME := fun Φ loc H Q => wpE Φ a loc H (kNot Q)
def neg (a : ME) : ME := fun Φ loc H Q => wpE Φ a loc H (kNeg Q)
def and2 (a b : ME) : ME := fun Φ loc H Q => wpE Φ a loc H (kAnd Φ b loc Q)
def or2 (a b : ME) : ME := fun Φ loc H Q => wpE Φ a loc H (kOr Φ b loc Q)
def call (f : Str) (as : List ME) : ME := fun Φ loc H Q => wpEs Φ as loc H (kCall Φ f Q)
def bi (f : Bi) (as : List ME) : ME := fun Φ loc H Q => wpEs Φ as loc H (kBi f Q)
def isi (a : ME) (t : Ty) : ME := fun Φ loc H Q => wpE Φ a loc H (kIsi t Q)
def idx (a b : ME) : ME := fun Φ loc H Q => wpE Φ a loc H (kIdx1 Φ b loc Q)
def slc (a : ME) (lo hi : List ME) : ME := fun Φ loc H Q => wpE Φ a loc H (kS1 Φ lo hi loc Q)
def slcT (a : ME) (lo hi : List ME) : ME := fun Φ loc H Q => wpE Φ a loc H (kT1 Φ lo hi loc Q)
def rev (a : ME) : ME := fun Φ loc H Q => wpE Φ a loc H (kRev Q)
def tup (es : List ME) : ME := fun Φ loc H Q => wpEs Φ es loc H (kTup Q)
def lst (es : List ME) : ME := fun Φ loc H Q => wpEs Φ es loc H (kLst Q)
def dic0 : ME := fun Φ loc H Q => Q (.ref H.length) (H ++ [.dict []])
def comp (t : Bool) (n : Nat) (elt : ME) (k : IK) (its cond : List ME) : ME := fun Φ loc H Q => wpEs Φ its loc H (kIt k (compI Φ t n elt cond loc Q))
def meth (m : Mt) (o : ME) (as : List ME) : ME := fun Φ loc H Q => wpE Φ o loc H (kM1 Φ m as loc Q)
end ME

def MS : Type := Fun → Loc → Hp → PF → Prop
def wpS (Φ : Fun) (m : MS) (loc : Loc) (H : Hp) (Q : PF) : Prop := m Φ loc H Q
def seqF (Q : PF) (K : Loc → Hp → Prop) : PF := fun fl loc H => match fl with | .next => K loc H | .cont => Q .cont loc H | .brk => Q .brk loc H | .ret v => Q (.ret v) loc H
def wpSs (Φ : Fun) : List MS → Loc → Hp → PF → Prop
  | [], loc, H, Q => Q .next loc H
  | s :: ss, loc, H, Q => wpS Φ s loc H (seqF Q fun loc' H' => wpSs Φ ss loc' H' Q)
def thenS (Φ : Fun) (ss : List MS) (Q : PF) : PF := seqF Q fun loc' H' => wpSs Φ ss loc' H' Q
def kAsg (i : Nat) (loc : Loc) (Q : PF) : PQ := fun v H => Q .next (loc.set i (some v)) H
def kAsgTL (is : List Nat) (loc : Loc) (Q : PF) (H : Hp) : List AV → Prop := fun ws => Q .next (setAll (is.zip ws) loc) H
def kAsgT (is : List Nat) (loc : Loc) (Q : PF) : PQ := fun v H => asT v is.length (kAsgTL is loc Q H)
def kSto4 (loc : Loc) (Q : PF) : Hp → Prop := fun H => Q .next loc H
def kSto3 (x y : AV) (loc : Loc) (Q : PF) : PQ := fun z H => wpSet y z x H (kSto4 loc Q)
def kSto2 (Φ : Fun) (k : ME) (x : AV) (loc : Loc) (Q : PF) : PQ := fun y H => wpE Φ k loc H (kSto3 x y loc Q)
def kSto1 (Φ : Fun) (o k : ME) (loc : Loc) (Q : PF) : PQ := fun x H => wpE Φ o loc H (kSto2 Φ k x loc Q)
def kIteB (Φ : Fun) (a b : List MS) (loc : Loc) (Q : PF) (H : Hp) : Bool → Prop := fun c => if c then wpSs Φ a loc H Q else wpSs Φ b loc H Q
def kIte (Φ : Fun) (a b : List MS) (loc : Loc) (Q : PF) : PQ := fun v H => asB v (kIteB Φ a b loc Q H)
def kRet (loc : Loc) (Q : PF) : PQ := fun v H => Q (.ret v) loc H
def kExp (loc : Loc) (Q : PF) : PQ := fun _ H => Q .next loc H
def whlK (J : Nat → Loc → Hp → Prop) (n : Nat) (Q : PF) : PF := fun fl l H => match fl with
  | .next => ∃ m, m < n ∧ J m l H
  | .cont => ∃ m, m < n ∧ J m l H
  | .brk => Q .next l H
  | .ret v => Q (.ret v) l H
def kWhlB (Φ : Fun) (b : List MS) (J : Nat → Loc → Hp → Prop) (n : Nat) (loc : Loc) (Q : PF) (H : Hp) : Bool → Prop := fun c => if c then wpSs Φ b loc H (whlK J n Q) else Q .next loc H
def kWhl (Φ : Fun) (b : List MS) (J : Nat → Loc → Hp → Prop) (n : Nat) (loc : Loc) (Q : PF) : PQ := fun v H => asB v (kWhlB Φ b J n loc Q H)
def forK (J : Nat → Loc → Hp → Prop) (i : Nat) (Q : PF) : PF := fun fl l H => match fl with
  | .next => J (i + 1) l H
  | .cont => J (i + 1) l H
  | .brk => Q .next l H
  | .ret v => Q (.ret v) l H
def forI (Φ : Fun) (t : Bool) (is : List Nat) (b : List MS) (loc : Loc) (Q : PF) : KI := fun items Cnd H₁ => ∃ J : Nat → Loc → Hp → Prop, J 0 loc H₁ ∧ ∀ i loc H, J i loc H → Cnd H ∧
      (∀ y, items[i]? = some y → ∃ ws, unpack t is.length y = some ws ∧ wpSs Φ b (setAll (is.zip ws) loc) H (forK J i Q)) ∧
      (i = items.length → Q .next loc H)
namespace MS
def asg (i : Nat) (e : ME) : MS := fun Φ loc H Q => wpE Φ e loc H (kAsg i loc Q)
def asgT (is : List Nat) (e : ME) : MS := fun Φ loc H Q => wpE Φ e loc H (kAsgT is loc Q)
def sto (o k e : ME) : MS := fun Φ loc H Q => wpE Φ e loc H (kSto1 Φ o k loc Q)
def ite (t : ME) (a b : List MS) : MS := fun Φ loc H Q => wpE Φ t loc H (kIte Φ a b loc Q)
def whl (t : ME) (b : List MS) : MS := fun Φ loc H Q => ∃ (J : Nat → Loc → Hp → Prop) (n : Nat), J n loc H ∧ ∀ n loc H, J n loc H → wpE Φ t loc H (kWhl Φ b J n loc Q)
def forr (t : Bool) (is : List Nat) (k : IK) (its : List ME) (b : List MS) : MS := fun Φ loc H Q => wpEs Φ its loc H (kIt k (forI Φ t is b loc Q))
def ret (e : ME) : MS := fun Φ loc H Q => wpE Φ e loc H (kRet loc Q)
def ret0 : MS := fun _ loc H Q => Q (.ret .none) loc H
def expr (e : ME) : MS := fun Φ loc H Q => wpE Φ e loc H (kExp loc Q)
end MS

/-- a def of the text -/
structure MF where
  params : Nat
  vars : Nat
  body : List MS
def wpF (Φ : Fun) (f : MF) (args : List AV) (H : Hp) (Q : PQ) : Prop :=
  args.length = f.params ∧ wpSs Φ f.body (args.map some ++ List.replicate (f.vars - f.params) none) H (endOf Q)

end Mine

namespace Mine
open PySem
set_option linter.unusedVariables false

def slotB (C : Ctx) (i : Nat) (x : Str) : Bool :=
  decide (C.ro ≤ i) && (C.vars[i]? == some (some x)) && (C.vars.zipIdx.all fun p => p.1 != some x || p.2 == i) && (C.names.lookup x == some .local || C.names.lookup x == some .cell)
theorem Slot.of {C : Ctx} {i : Nat} {x : Str} (h : slotB C i x = true) : Slot C i x := by
  simp only [slotB, Bool.and_eq_true, decide_eq_true_eq, beq_iff_eq, List.all_eq_true, Bool.or_eq_true, bne_iff_ne, ne_eq] at h
  obtain ⟨⟨⟨h1, h2⟩, h3⟩, h4⟩ := h
  refine ⟨h1, h2, fun j hj => ?_, h4⟩
  have := h3 (some x, j) (by rw [List.mk_mem_zipIdx_iff_getElem?]; exact hj)
  simpa using this
/-! the text and its small form -/
structure GT where
  fns : List Str
  csts : List (Str × AV)

def Bi.nm : Bi → Str | .len => "len" | .all => "all" | .any => "any" | .sorted => "sorted" | .list => "list" | .tuple => "tuple" | .int => "int" | .min => "min" | .max => "max"
def Bi.val : Bi → Value | .len => .builtin "len" | .all => .builtin "all" | .any => .builtin "any" | .sorted => .builtin "sorted" | .list => .type "list" | .tuple => .type "tuple" | .int => .type "int" | .min => .builtin "min" | .max => .builtin "max"
def Ty.ps : Ty → Str | .int => "int" | .bool => "bool" | .str => "str" | .tuple => "tuple" | .list => "list"
def Mt.nm : Mt → Str | .append => "append" | .pop => "pop" | .insert => "insert" | .extend => "extend" | .clear => "clear"
def Mt.id : Mt → String | .append => "list.append" | .pop => "list.pop" | .insert => "list.insert" | .extend => "list.extend" | .clear => "list.clear"
/-- the kinds of going through that are calls of a type -/
inductive ITy where | range | revd | enum
def ITy.ik : ITy → IK | .range => .range | .revd => .revd | .enum => .enum
def ITy.str : ITy → Str | .range => "range" | .revd => "reversed" | .enum => "enumerate"
def ITy.nm : ITy → String | .range => "range" | .revd => "reversed" | .enum => "enumerate"

structure GOK (P : PEnv) (G : GT) : Prop extends P.OK2 where
  fns : ∀ x, G.fns.contains x = true → ∃ fa o fd, P.mg x = some (.ref fa) ∧ P.B.get? fa = some o ∧ o.data = .func fd
  csts : ∀ x v, G.csts.lookup x = some v → ∃ u, P.mg x = some u ∧ ∀ h ι, P.B.StaysIn h → VR P.B h ι v u
  blt : ∀ b : Bi, P.mg b.nm = none ∧ P.mb b.nm = some b.val
  ty : ∀ t : Ty, P.mg t.ps = none ∧ P.mb t.ps = some (.type t.nm)
  isi : P.mg "isinstance" = none ∧ P.mb "isinstance" = some (.builtin "isinstance")
  its : ∀ t : ITy, P.mg t.str = none ∧ P.mb t.str = some (.type t.nm)

structure GN (C : Ctx) (x : Str) : Prop where
  look : C.names.lookup x = some .globalImplicit
  dbg : (x == ("__debug__" : Str)) = false

structure MethForm (o : Expr) (name : Str) (apos pos : Pos) (es : List Expr) : Prop where
  he : ∀ env, eval (.Call (.Attribute o name apos) es [] pos) env = (do
      let ov ← eval o env
      standAt apos.atName
      let (f, first) ← holding [ov] (getMethod ov name (do return (← importBound o env).getD true))
      callWith pos f first (backTo pos (starEach es env)) [])

/-- what calls may be taken to do -/
def FunOK (P : PEnv) (d : Nat) (Φ : Fun) : Prop := ∀ f args H Q, Φ f args H Q → CallOK P d f args H Q XF
def SndP (P : PEnv) (C : Ctx) (d : Nat) (e : Expr) (loc : Loc) (H : Hp) (Q : PQ) : Prop :=
  EvOK P C d e loc H Q XF ∧ ∀ K : Bool → Hp → Prop, (∀ v H', Q v H' → asB v fun b => K b H') → TsOK P C d e loc H K XF
theorem SndP.plain {P : PEnv} {C : Ctx} {d : Nat} {e : Expr} {loc : Loc} {H : Hp} {Q : PQ} (ev : EvOK P C d e loc H Q XF) (ht : ∀ env whole, isTrue e env whole = (do let v ← whole; standAt e.pos; holding [v] (truthy v))) : SndP P C d e loc H Q :=
  ⟨ev, fun K hk => ts_plain (ev.mono fun v H' q => (hk v H' q).ex) ht⟩

/-- the text's expression does what its small form says -/
structure CE (G : GT) (C : Ctx) (m : ME) (e : Expr) : Prop where
  star : ∀ rest env, starEach (e :: rest) env = (false, eval e env) :: starEach rest env
  marks : ∀ op, behindInMarks op e = false
  folded : ∀ env x, foldedSetIterable e env x = pure x
  snd : ∀ {P d Φ}, GOK P G → FunOK P d Φ → ∀ {loc H Q}, wpE Φ m loc H Q → SndP P C d e loc H Q
structure CEs (G : GT) (C : Ctx) (ms : List ME) (es : List Expr) : Prop where
  plain : plainArgs es
  snd : ∀ {P d Φ}, GOK P G → FunOK P d Φ → ∀ {loc H} {Q : PL}, wpEs Φ ms loc H Q → EvsOK P C d es loc H Q XF
structure CO (G : GT) (C : Ctx) (ms : List ME) (o : Option Expr) : Prop where
  snd : ∀ {P d Φ}, GOK P G → FunOK P d Φ → ∀ {loc H} {Q : PL} {K : Option Int → Hp → Prop}, wpEs Φ ms loc H Q → (∀ vs H', Q vs H' → ∃ k, partOf vs = some k ∧ K k H') → evPart P C d o loc H K XF
structure CI (G : GT) (C : Ctx) (k : IK) (ms : List ME) (e : Expr) : Prop where
  folded : ∀ env x, foldedSetIterable e env x = pure x
  snd : ∀ {P d Φ}, GOK P G → FunOK P d Φ → ∀ {loc H} {K : KI}, wpEs Φ ms loc H (kIt k K) → ItEv P C d e loc H K XF
structure CC (G : GT) (C : Ctx) (ms : List ME) (es : List Expr) : Prop where
  snd : ∀ {P d Φ}, GOK P G → FunOK P d Φ → ∀ {loc H} {K K' : Bool → Hp → Prop}, (∀ b H, K b H → K' b H) → wpCs Φ ms loc H K → CondOK P C d es loc H K'
structure CS (G : GT) (C : Ctx) (m : MS) (st : Stmt) : Prop where
  snd : ∀ {P d Φ}, GOK P G → FunOK P d Φ → ∀ {loc H} {Q : PF}, wpS Φ m loc H Q → ExOK P C d st loc H Q
structure CSs (G : GT) (C : Ctx) (ms : List MS) (sts : List Stmt) : Prop where
  snd : ∀ {P d Φ}, GOK P G → FunOK P d Φ → ∀ {loc H} {Q : PF}, wpSs Φ ms loc H Q → ExsOK P C d sts loc H Q
end Mine

namespace Mine
open PySem
set_option linter.unusedVariables false
variable {P : PEnv} {C : Ctx} {d : Nat} {loc : Loc} {H : Hp} {X : XP}

theorem EvOK.len {e : Expr} {Q : PQ} (h : loc.length = C.vars.length → EvOK P C d e loc H Q X) : EvOK P C d e loc H Q X := fun A E env ι s w r a => h r.len A E env ι s w r a
theorem ExOK.len {e : Stmt} {Q : PF} (h : loc.length = C.vars.length → ExOK P C d e loc H Q) : ExOK P C d e loc H Q := fun A E env ι s w r => h r.len A E env ι s w r

theorem idxL_ok {eo ei : Expr} {o : AV} {l : List AV} {k : Int} {Q : PQ} (ho : seqL H o = some l) (hh : idxL l k H Q) : SubOK P d eo ei o (.int k) H Q := by
  obtain ⟨h1, j, z, hp, hz, q⟩ := hh
  unfold place at hp
  split at hp
  · split at hp
    · cases hp
      exact sub_list ho h1 (by assumption) hz q
    · cases hp
  · split at hp
    · cases hp
      exact sub_listNeg ho h1 (by omega) (by assumption) hz q
    · cases hp
theorem wpIdx_ok {eo ei : Expr} {x y : AV} {Q : PQ} (h : wpIdx x y H Q) : SubOK P d eo ei x y H Q := by
  cases x with
  | ref i =>
    obtain ⟨k, rfl, g⟩ := asI.ex h
    split at g
    · rename_i hl; exact idxL_ok (by simp [seqL, hl]) g
    · rename_i hl; obtain ⟨z, h1, h2⟩ := g; exact sub_dict hl h1 h2
    · exact g.elim
  | tup l =>
    obtain ⟨k, rfl, h1, j, z, hp, hz, q⟩ := asI.ex h
    exact sub_tup h1 hp hz q
  | fro l =>
    obtain ⟨k, rfl, h⟩ := asI.ex h
    exact idxL_ok rfl h
  | _ => exact h.elim

theorem OpOK.mono {t : List Value → Sem Value} {args : List AV} {Q Q' : PQ} (h : OpOK P d t args H Q) (q : ∀ a H', Q a H' → Q' a H') : OpOK P d t args H Q' :=
  fun A E ι s vs w r => wpAny_mono (h A E ι s vs w r) (fun _ _ g => g.mono q) fun _ _ x => x
def Bi.call (f : Bi) (vs : List Value) : Sem Value := PySem.call f.val vs
theorem wpLen_ok (ok : P.OK2) {x : AV} {Q : PQ} (h : wpLen x H Q) : OpOK P d (fun us => Bi.len.call us) [x] H Q := by
  cases x with
  | ref i =>
    simp only [wpLen] at h
    split at h
    · rename_i hl; exact fn_lenL (by simp [seqL, hl]) h.1 h.2
    · rename_i hl; exact fn_lenD ok hl h.1 h.2
    · exact h.elim
  | tup l => exact fn_lenT h.1 h.2
  | fro l => exact fn_lenL rfl h.1 h.2
  | _ => exact h.elim
theorem wpMm.ex {vs : List AV} {K : Int → Int → Prop} (h : wpMm vs K) : ∃ a b, vs = [.int a, .int b] ∧ K a b := by
  match vs, h with
  | [.int a, .int b], h => exact ⟨a, b, rfl, h⟩
theorem wpBi_ok (ok : P.OK2) {f : Bi} {vs : List AV} {Q : PQ} (h : wpBi f vs H Q) : OpOK P d (fun us => f.call us) vs H Q := by
  cases f with
  | len => obtain ⟨x, rfl, h⟩ := as1.ex h; exact wpLen_ok ok h
  | all => obtain ⟨x, rfl, bs, h1, h2⟩ := as1.ex h; exact fn_all h1 h2
  | any => obtain ⟨x, rfl, bs, h1, h2⟩ := as1.ex h; exact fn_any h1 h2
  | list =>
    obtain ⟨x, rfl, h⟩ := as1.ex h
    obtain ⟨l, h1, h2, h3⟩ := withL.ex h
    refine fn_listOf ?_ h2 h3
    unfold anyL at h1
    split at h1
    · cases h1; exact .inr rfl
    · exact .inl h1
  | tuple =>
    obtain ⟨x, rfl, h⟩ := as1.ex h
    obtain ⟨l, h1, h2, h3⟩ := withL.ex h
    exact fn_tupleOf h1 h2 h3
  | int =>
    obtain ⟨x, rfl, h⟩ := as1.ex h
    obtain ⟨b, rfl, h⟩ := asB.ex h
    exact fn_intB h
  | min => obtain ⟨a, b, rfl, h⟩ := wpMm.ex h; exact fn_min h
  | max => obtain ⟨a, b, rfl, h⟩ := wpMm.ex h; exact fn_max h
  | sorted =>
    obtain ⟨x, rfl, ns, h1, h2, h3⟩ := as1.ex h
    rcases h1 with h1 | ⟨i, l, rfl, h1, rfl⟩
    · exact fn_sortedL h1 h2 h3
    · exact fn_sortedD h1 (by simpa using h2) h3

theorem wpMt_ok {m : Mt} {x : AV} {vs : List AV} {Q : PQ} (h : wpMt m x vs H Q) : OpOK P d (fun us => PySem.call (.builtin m.id) us) (x :: vs) H Q := by
  obtain ⟨i, l, rfl, hl, h⟩ := onL.ex h
  cases m with
  | append => obtain ⟨x, rfl, h⟩ := as1.ex h; exact fn_append hl h.1 h.2
  | pop =>
    match vs, h with
    | [], h =>
      obtain ⟨h1, l', x, rfl, q⟩ := h
      exact fn_pop hl (by simpa using h1) q
    | [.int k], h =>
      obtain ⟨h1, h2, h3, x, h4, q⟩ := h
      exact fn_popAt hl h1 h2 h3 h4 q
  | insert =>
    match vs, h with
    | [.int k, x], h =>
      obtain ⟨h1, h2, h3, q⟩ := h
      exact fn_insert hl h1 h2 h3 q
  | extend =>
    obtain ⟨y, rfl, h⟩ := as1.ex h
    obtain ⟨j, m, rfl, h1, h2, q⟩ := onL.ex h
    exact fn_extend hl h1 h2 q
  | clear => obtain ⟨rfl, h1, q⟩ := h; exact fn_clear hl h1 q
theorem meth_mt {i : Nat} {l : List AV} (m : Mt) (hi : H[i]? = some (.list l)) : MethIs P (.ref i) H m.nm m.id := by
  cases m
  · exact meth_list hi PySem.F.slot_list_append.lookup PySem.F.type_list_append
  · exact meth_list hi PySem.F.slot_list_pop.lookup PySem.F.type_list_pop
  · exact meth_list hi PySem.F.slot_list_insert.lookup PySem.F.type_list_insert
  · exact meth_list hi PySem.F.slot_list_extend.lookup PySem.F.type_list_extend
  · exact meth_list hi PySem.F.slot_list_clear.lookup PySem.F.type_list_clear

end Mine

namespace Mine
open PySem
set_option linter.unusedVariables false
set_option maxHeartbeats 4000000
set_option linter.unusedSectionVars false
variable {P : PEnv} {d : Nat} {G : GT} {Φ : Fun} {C : Ctx}

theorem ts_and1 {e : Expr} {pos : Pos} {loc : Loc} {H : Hp} {K : Bool → Hp → Prop} (h : TsOK P C d e loc H K XF) : TsOK P C d (.BoolOp .And [e] pos) loc H K XF :=
  ts_and (h.mono fun b H' k => by cases b with | false => exact k | true => exact ts_and_nil k)
theorem ts_or1 {e : Expr} {pos : Pos} {loc : Loc} {H : Hp} {K : Bool → Hp → Prop} (h : TsOK P C d e loc H K XF) : TsOK P C d (.BoolOp .Or [e] pos) loc H K XF :=
  ts_or (h.mono fun b H' k => by cases b with | true => exact k | false => exact ts_or_nil k)

theorem it_plain {x : AV} {H : Hp} {K : KI} (h : wpPlain x H K) : ∃ items Cnd, ItOK P x H items Cnd ∧ K items Cnd H := by
  cases x with
  | ref i => obtain ⟨l, h1, h2⟩ := withL.ex h; exact ⟨_, _, it_list (lstAt_some h1), h2⟩
  | fro l => exact ⟨_, _, it_fro, h⟩
  | tup l => exact ⟨_, _, it_tup, h⟩
  | _ => exact h.elim
theorem it_ty {t : ITy} {vs : List AV} {H : Hp} {K : KI} (h : wpIt t.ik vs H K) : ItCall P d (fun us => PySem.call (.type t.nm) us) vs H K := by
  cases t with
  | range =>
    match vs, h with
    | [.int n], h => exact it_range1 h.1 h.2.1 h.2.2
    | [.int a, .int b], h => exact it_range2 h.1 h.2.1 h.2.2.1 h.2.2.2.1 h.2.2.2.2
  | revd =>
    obtain ⟨x, rfl, h⟩ := as1.ex h
    obtain ⟨i, l, rfl, h1, h2⟩ := onL.ex h
    exact it_rev h1 h2
  | enum => exact h.elim

theorem CEs.nil : CEs G C [] [] := ⟨fun _ _ => rfl, fun ok hΦ _ _ _ w => evs_nil w⟩
theorem CEs.cons {a : ME} {as : List ME} {x : Expr} {xs : List Expr} (hx : CE G C a x) (hs : CEs G C as xs) : CEs G C (a :: as) (x :: xs) :=
  ⟨fun env pos => by rw [hx.star]; have := hs.plain env pos; simpa [backTo] using this,
   fun ok hΦ _ _ _ w => evs_cons ((hx.snd ok hΦ (Q := fun v H' => wpEs _ as _ H' fun vs H'' => _) w).1.mono fun v H' w => hs.snd ok hΦ w) fun env => hx.star _ env⟩
theorem CO.none : CO G C [] none := ⟨fun ok hΦ _ _ _ _ w hk => by
  obtain ⟨k, h1, h2⟩ := hk [] _ w
  cases h1
  exact h2⟩
theorem CO.some {a : ME} {x : Expr} (hx : CE G C a x) : CO G C [a] (some x) := ⟨fun ok hΦ _ _ _ _ w hk => by
  refine (hx.snd ok hΦ w).1.mono fun v H' q => ?_
  obtain ⟨k, h1, h2⟩ := hk _ _ q
  cases v with
  | int i => cases h1; exact ⟨i, rfl, h2⟩
  | _ => cases h1⟩
theorem CI.plain {a : ME} {x : Expr} (hx : CE G C a x) : CI G C .plain [a] x :=
  ⟨hx.folded, fun ok hΦ _ _ _ w => itEv_of ((hx.snd ok hΦ w).1.mono fun x H₁ w => it_plain w)⟩
theorem CI.ty {a : ME} {as : List ME} {x : Expr} {xs : List Expr} {pn pos : Pos} {t : ITy} (gn : GN C t.str) (hx : CE G C a x) (hs : CEs G C as xs) : CI G C t.ik (a :: as) (.Call (.Name t.str pn) (x :: xs) [] pos) :=
  ⟨fun _ _ => rfl, fun ok hΦ _ _ _ w => itEv_ty ok.toOK gn.look gn.dbg (ok.its t).1 (ok.its t).2 (((CEs.cons hx hs).snd ok hΦ w).mono fun vs H'' w => it_ty w) (fun env => hx.star _ env) hs.plain⟩
namespace CE
theorem int {i : Int} {k : Nat} {pos : Pos} : CE G C (.cst (.int i)) (.Constant (.int i) k pos) := ⟨fun _ _ => rfl, fun _ => rfl, fun _ _ => rfl, fun ok hΦ _ _ _ w => .plain (ev_int w) fun _ _ => rfl⟩
theorem str {x : Str} {k : Nat} {pos : Pos} (hx : PyData.strOk x = true) : CE G C (.cst (.str x)) (.Constant (.str x) k pos) := ⟨fun _ _ => rfl, fun _ => rfl, fun _ _ => rfl, fun ok hΦ _ _ _ w => .plain (ev_str hx w) fun _ _ => rfl⟩
theorem bool {x : Bool} {k : Nat} {pos : Pos} : CE G C (.cst (.bool x)) (.Constant (.bool x) k pos) := ⟨fun _ _ => rfl, fun _ => rfl, fun _ _ => rfl, fun ok hΦ _ _ _ w => .plain (ev_bool w) fun _ _ => rfl⟩
theorem none {k : Nat} {pos : Pos} : CE G C (.cst .none) (.Constant .none k pos) := ⟨fun _ _ => rfl, fun _ => rfl, fun _ _ => rfl, fun ok hΦ _ _ _ w => .plain (ev_none w) fun _ _ => rfl⟩
theorem glob {x : Str} {v : AV} {pos : Pos} (hg : G.csts.lookup x = some v) (gn : GN C x) : CE G C (.cst v) (.Name x pos) := ⟨fun _ _ => rfl, fun _ => rfl, fun _ _ => rfl, fun ok hΦ _ _ _ w => by
  obtain ⟨u, h1, h2⟩ := ok.csts _ _ hg
  exact .plain (ev_glob ok.toOK gn.dbg h1 h2 w gn.look) fun _ _ => rfl⟩
theorem loc {i : Nat} {x : Str} {pos : Pos} (h1 : C.vars[i]? = some (some x)) (h2 : (x == ("__debug__" : Str)) = false) (h3 : (x == ("__classdict__" : Str)) = false) : CE G C (.loc i) (.Name x pos) := ⟨fun _ _ => rfl, fun _ => rfl, fun _ _ => rfl, fun ok hΦ _ _ _ w => by
  obtain ⟨v, hv, q⟩ := atL.ex w
  exact .plain (ev_loc h1 h2 h3 hv q) fun _ _ => rfl⟩
section
variable {a b c : ME} {x y z : Expr} {pos : Pos}
theorem bin {op : BOp} (ha : CE G C a x) (hb : CE G C b y) : CE G C (.bin op a b) (.BinOp x op.op y pos) := ⟨fun _ _ => rfl, fun _ => rfl, fun _ _ => rfl, fun ok hΦ _ _ _ w =>
  .plain (ev_bin ((ha.snd ok hΦ w).1.mono fun x H₁ w => (hb.snd ok hΦ w).1.mono fun y H₂ w => wpBin_ok w)) fun _ _ => rfl⟩
theorem cmp {op : COp} (ha : CE G C a x) (hb : CE G C b y) : CE G C (.cmp op a b) (.Compare x [op.op] [y] pos) := ⟨fun _ _ => rfl, fun _ => rfl, fun _ _ => rfl, fun ok hΦ _ _ _ w =>
  ⟨ev_cmp ((ha.snd ok hΦ w).1.mono fun x H₁ w => (hb.snd ok hΦ w).1.mono fun y H₂ w => wpCmp_ok ok.toOK2 w) (hb.marks _),
   fun K hk => ts_cmp ((ha.snd ok hΦ w).1.mono fun x H₁ w => (hb.snd ok hΦ w).1.mono fun y H₂ w => OpOK.mono (wpCmp_ok ok.toOK2 w) fun v H' q => (hk v H' q).ex) (hb.marks _)⟩⟩
theorem cmp2 {o1 o2 : COp} (ha : CE G C a x) (hb : CE G C b y) (hc : CE G C c z) : CE G C (.cmp2 o1 o2 a b c) (.Compare x [o1.op, o2.op] [y, z] pos) := ⟨fun _ _ => rfl, fun _ => rfl, fun _ _ => rfl, fun ok hΦ _ _ _ w => by
  refine ⟨?_, fun K hk => ?_⟩
  · refine ev_cmp2 ((ha.snd ok hΦ w).1.mono fun x H₁ w => (hb.snd ok hΦ w).1.mono fun y H₂ w => OpOK.mono (wpCmp_ok ok.toOK2 w) fun v H' q => ?_) (hc.marks _)
    obtain ⟨t, rfl, q⟩ := asB.ex q
    refine ⟨t, rfl, ?_⟩
    cases t with
    | false => exact q
    | true => exact (hc.snd ok hΦ q).1.mono fun z H₄ w => wpCmp_ok ok.toOK2 w
  · refine ts_cmp2 ((ha.snd ok hΦ w).1.mono fun x H₁ w => (hb.snd ok hΦ w).1.mono fun y H₂ w => OpOK.mono (wpCmp_ok ok.toOK2 w) fun v H' q => ?_) (hc.marks _)
    obtain ⟨t, rfl, q⟩ := asB.ex q
    refine ⟨t, rfl, ?_⟩
    cases t with
    | false => exact hk _ _ q
    | true => exact (hc.snd ok hΦ q).1.mono fun z H₄ w => OpOK.mono (wpCmp_ok ok.toOK2 w) fun v H' q => (hk v H' q).ex⟩
theorem not (ha : CE G C a x) : CE G C (.not a) (.UnaryOp .Not x pos) := ⟨fun _ _ => rfl, fun _ => rfl, fun _ _ => rfl, fun ok hΦ _ _ _ w =>
  ⟨ev_not ((ha.snd ok hΦ w).1.mono fun v H' q => asB.ex q), fun K hk => ts_not ((ha.snd ok hΦ w).2 _ fun v H' q => by
    obtain ⟨b, rfl, q⟩ := asB.ex q
    exact hk _ _ q)⟩⟩
theorem and2 (ha : CE G C a x) (hb : CE G C b y) : CE G C (.and2 a b) (.BoolOp .And [x, y] pos) := ⟨fun _ _ => rfl, fun _ => rfl, fun _ _ => rfl, fun ok hΦ _ _ _ w => by
  refine ⟨ev_and ((ha.snd ok hΦ w).1.mono fun v H' w => ?_), fun K hk => ts_and ((ha.snd ok hΦ w).2 _ fun v H' w => ?_)⟩
  · obtain ⟨t, rfl, w⟩ := asB.ex w
    refine ⟨t, rfl, ?_⟩
    cases t with
    | false => exact w
    | true => exact ev_bool1 (hb.snd ok hΦ w).1
  · obtain ⟨t, rfl, w⟩ := asB.ex w
    show (if t then _ else _)
    cases t with
    | false => exact hk _ _ w
    | true => exact ts_and1 ((hb.snd ok hΦ w).2 K hk)⟩
theorem or2 (ha : CE G C a x) (hb : CE G C b y) : CE G C (.or2 a b) (.BoolOp .Or [x, y] pos) := ⟨fun _ _ => rfl, fun _ => rfl, fun _ _ => rfl, fun ok hΦ _ _ _ w => by
  refine ⟨ev_or ((ha.snd ok hΦ w).1.mono fun v H' w => ?_), fun K hk => ts_or ((ha.snd ok hΦ w).2 _ fun v H' w => ?_)⟩
  · obtain ⟨t, rfl, w⟩ := asB.ex w
    refine ⟨t, rfl, ?_⟩
    cases t with
    | true => exact w
    | false => exact ev_bool1 (hb.snd ok hΦ w).1
  · obtain ⟨t, rfl, w⟩ := asB.ex w
    show (if t then _ else _)
    cases t with
    | true => exact hk _ _ w
    | false => exact ts_or1 ((hb.snd ok hΦ w).2 K hk)⟩
theorem and3 {r : List Expr} (ha : CE G C a x) (hb : CE G C b (.BoolOp .And (y :: z :: r) pos)) : CE G C (.and2 a b) (.BoolOp .And (x :: y :: z :: r) pos) := ⟨fun _ _ => rfl, fun _ => rfl, fun _ _ => rfl, fun ok hΦ _ _ _ w => by
  refine ⟨ev_and ((ha.snd ok hΦ w).1.mono fun v H' w => ?_), fun K hk => ts_and ((ha.snd ok hΦ w).2 _ fun v H' w => ?_)⟩
  · obtain ⟨t, rfl, w⟩ := asB.ex w
    refine ⟨t, rfl, ?_⟩
    cases t with
    | false => exact w
    | true => exact (hb.snd ok hΦ w).1
  · obtain ⟨t, rfl, w⟩ := asB.ex w
    show (if t then _ else _)
    cases t with
    | false => exact hk _ _ w
    | true => exact (hb.snd ok hΦ w).2 K hk⟩
theorem or3 {r : List Expr} (ha : CE G C a x) (hb : CE G C b (.BoolOp .Or (y :: z :: r) pos)) : CE G C (.or2 a b) (.BoolOp .Or (x :: y :: z :: r) pos) := ⟨fun _ _ => rfl, fun _ => rfl, fun _ _ => rfl, fun ok hΦ _ _ _ w => by
  refine ⟨ev_or ((ha.snd ok hΦ w).1.mono fun v H' w => ?_), fun K hk => ts_or ((ha.snd ok hΦ w).2 _ fun v H' w => ?_)⟩
  · obtain ⟨t, rfl, w⟩ := asB.ex w
    refine ⟨t, rfl, ?_⟩
    cases t with
    | true => exact w
    | false => exact (hb.snd ok hΦ w).1
  · obtain ⟨t, rfl, w⟩ := asB.ex w
    show (if t then _ else _)
    cases t with
    | true => exact hk _ _ w
    | false => exact (hb.snd ok hΦ w).2 K hk⟩
theorem call {f : Str} {as : List ME} {xs : List Expr} {pn : Pos} (hf : G.fns.contains f = true) (gn : GN C f) (hx : CE G C a x) (hs : CEs G C as xs) : CE G C (.call f (a :: as)) (.Call (.Name f pn) (x :: xs) [] pos) := ⟨fun _ _ => rfl, fun _ => rfl, fun _ _ => rfl, fun ok hΦ _ _ _ w => by
  obtain ⟨fa, o, fd, h1, h2, h3⟩ := ok.fns _ hf
  exact .plain (ev_call ok.toOK gn.look gn.dbg h1 h2 h3 (((CEs.cons hx hs).snd ok hΦ w).mono fun vs H' w => hΦ _ _ _ _ w) fun env => hx.star _ env) fun _ _ => rfl⟩
theorem bi {as : List ME} {xs : List Expr} {pn : Pos} {f : Bi} (gn : GN C f.nm) (hx : CE G C a x) (hs : CEs G C as xs) : CE G C (.bi f (a :: as)) (.Call (.Name f.nm pn) (x :: xs) [] pos) := ⟨fun _ _ => rfl, fun _ => rfl, fun _ _ => rfl, fun {P d Φ} ok hΦ _ _ _ w => by
  obtain ⟨h1, h2⟩ := ok.blt f
  have hev := ((CEs.cons hx hs).snd ok hΦ w).mono fun vs H' w => wpBi_ok (P := P) (d := d) ok.toOK2 w
  refine .plain ?_ fun _ _ => rfl
  cases f
  · exact ev_bi ok.toOK gn.look gn.dbg h1 h2 hev (fun env => hx.star _ env) hs.plain
  · exact ev_bi ok.toOK gn.look gn.dbg h1 h2 hev (fun env => hx.star _ env) hs.plain
  · exact ev_bi ok.toOK gn.look gn.dbg h1 h2 hev (fun env => hx.star _ env) hs.plain
  · exact ev_bi ok.toOK gn.look gn.dbg h1 h2 hev (fun env => hx.star _ env) hs.plain
  · exact ev_ty ok.toOK gn.look gn.dbg h1 h2 hev (fun env => hx.star _ env) hs.plain
  · exact ev_ty ok.toOK gn.look gn.dbg h1 h2 hev (fun env => hx.star _ env) hs.plain
  · exact ev_ty ok.toOK gn.look gn.dbg h1 h2 hev (fun env => hx.star _ env) hs.plain
  · exact ev_bi ok.toOK gn.look gn.dbg h1 h2 hev (fun env => hx.star _ env) hs.plain
  · exact ev_bi ok.toOK gn.look gn.dbg h1 h2 hev (fun env => hx.star _ env) hs.plain⟩
theorem isi {pn pt : Pos} {t : Ty} (gn : GN C "isinstance") (gt : GN C t.ps) (hx : CE G C a x) : CE G C (.isi a t) (.Call (.Name "isinstance" pn) [x, .Name t.ps pt] [] pos) := ⟨fun _ _ => rfl, fun _ => rfl, fun _ _ => rfl, fun ok hΦ _ _ _ w =>
  .plain (ev_isi ok.toOK gn.look gn.dbg ok.isi.1 ok.isi.2 gt.look gt.dbg (.inr (ok.ty t)) ((hx.snd ok hΦ w).1.mono fun v H' w => isi_ok w) fun env => hx.star _ env) fun _ _ => rfl⟩
theorem idx (ha : CE G C a x) (hb : CE G C b y) : CE G C (.idx a b) (.Subscript x y pos) := ⟨fun _ _ => rfl, fun _ => rfl, fun _ _ => rfl, fun ok hΦ _ _ _ w =>
  .plain (ev_sub ((ha.snd ok hΦ w).1.mono fun x H₁ w => (hb.snd ok hΦ w).1.mono fun y H₂ w => wpIdx_ok w)) fun _ _ => rfl⟩
theorem slc {p : Pos} {lo hi : List ME} {l h : Option Expr} (ha : CE G C a x) (hl : CO G C lo l) (hh : CO G C hi h) : CE G C (.slc a lo hi) (.Subscript x (.Slice l h .none p) pos) := ⟨fun _ _ => rfl, fun _ => rfl, fun _ _ => rfl, fun ok hΦ _ _ _ w => by
  refine .plain (ev_slice ((ha.snd ok hΦ w).1.mono fun x H₁ w => ?_)) fun _ _ => rfl
  refine hl.snd ok hΦ w fun us H₂ w => ?_
  obtain ⟨ka, h1, h2, w⟩ := withP.ex w
  refine ⟨ka, h1, hh.snd ok hΦ w fun vs H₃ w => ?_⟩
  obtain ⟨kb, h3, h4, w⟩ := withP.ex w
  obtain ⟨l, h5, h6, q⟩ := withL.ex w
  exact ⟨kb, h3, l, h5, h6, h2, h4, q⟩⟩
theorem slcT {p : Pos} {lo hi : List ME} {l h : Option Expr} (ha : CE G C a x) (hl : CO G C lo l) (hh : CO G C hi h) : CE G C (.slcT a lo hi) (.Subscript x (.Slice l h .none p) pos) := ⟨fun _ _ => rfl, fun _ => rfl, fun _ _ => rfl, fun ok hΦ _ _ _ w => by
  refine .plain (ev_sliceT ((ha.snd ok hΦ w).1.mono fun x H₁ w => ?_)) fun _ _ => rfl
  refine hl.snd ok hΦ w fun us H₂ w => ?_
  obtain ⟨ka, h1, h2, w⟩ := withP.ex w
  refine ⟨ka, h1, hh.snd ok hΦ w fun vs H₃ w => ?_⟩
  obtain ⟨kb, h3, h4, w⟩ := withP.ex w
  obtain ⟨l, h5, h6, q⟩ := withL.ex w
  cases x with
  | tup m => cases h5; exact ⟨kb, h3, _, rfl, h6, h2, h4, q⟩
  | _ => cases h5⟩
theorem tup {as : List ME} {xs : List Expr} {k : Nat} (hs : CEs G C as xs) : CE G C (.tup as) (.Tuple xs k pos) := ⟨fun _ _ => rfl, fun _ => rfl, fun _ _ => rfl, fun ok hΦ _ _ _ w => .plain (ev_tup (hs.snd ok hΦ w)) fun _ _ => rfl⟩
theorem lst {as : List ME} {xs : List Expr} (hs : CEs G C as xs) : CE G C (.lst as) (.List xs pos) := ⟨fun _ _ => rfl, fun _ => rfl, fun _ _ => rfl, fun ok hΦ _ _ _ w => .plain (ev_lst (hs.snd ok hΦ w)) fun _ _ => rfl⟩
theorem meth {m : Mt} {apos : Pos} {as : List ME} {xs : List Expr} (ho : CE G C a x) (hx : CE G C b y) (hs : CEs G C as xs) (hf : MethForm x m.nm apos pos (y :: xs)) : CE G C (.meth m a (b :: as)) (.Call (.Attribute x m.nm apos) (y :: xs) [] pos) := ⟨fun _ _ => rfl, fun _ => rfl, fun _ _ => rfl, fun ok hΦ _ _ _ w => by
  refine .plain (ev_meth (pl := fun env => do return (← importBound _ env).getD true) ((ho.snd ok hΦ w).1.mono fun x H₁ w => ?_) hf.he (fun env => hx.star _ env) hs.plain) fun _ _ => rfl
  obtain ⟨⟨i, l, rfl, hl⟩, w⟩ := w
  exact ⟨m.id, meth_mt m hl, ((CEs.cons hx hs).snd ok hΦ w).mono fun vs H₂ w => wpMt_ok w⟩⟩
end
end CE

/-- the target of a comprehension or a for -/
def TgtOK (C : Ctx) (t : Bool) (n : Nat) (scope : Scope) (locals : List Str) (xt : Expr) : Prop :=
  locals.length = n ∧ ∀ {P : PEnv} {y : AV} {ws : List AV} {loc cv : Loc} {K : Loc → Prop}, unpack t n y = some ws → loc.length = C.vars.length → cv.length = locals.length → K (loc ++ ws.map some) → ws.length = locals.length ∧ TgOK P (compCtx C scope locals) xt y (loc ++ cv) K
theorem unpack_false {n : Nat} {y : AV} {ws : List AV} (h : unpack false n y = some ws) : n = 1 ∧ ws = [y] := by
  unfold unpack at h
  simp only at h
  split at h
  · cases h; exact ⟨by assumption, rfl⟩
  · cases h
/-- a comprehension's text -/
structure CL (G : GT) (C : Ctx) (t : Bool) (n : Nat) (elt : ME) (k : IK) (its cond : List ME) (xe xt xi : Expr) (ifs : List Expr) (scope : Scope) (locals : List Str) : Prop where
  cg : CompOK C scope locals
  hi : CI G C k its xi
  he : CE G (compCtx C scope locals) elt xe
  hc : CC G (compCtx C scope locals) cond ifs
  tg : TgtOK C t n scope locals xt
end Mine

namespace Mine
open PySem
set_option linter.unusedVariables false
set_option maxHeartbeats 4000000
set_option linter.unusedSectionVars false
variable {P : PEnv} {d : Nat} {G : GT} {Φ : Fun} {C : Ctx}

theorem ExOK.mono {st : Stmt} {loc : Loc} {H : Hp} {Q Q' : PF} (h : ExOK P C d st loc H Q) (q : ∀ f l H, Q f l H → Q' f l H) : ExOK P C d st loc H Q' :=
  fun A E env ι s w e => wpAny_mono (h A E env ι s w e) (fun f s' g => by
    obtain ⟨ι', H', loc', fl, p, e', r, z⟩ := g
    exact ⟨ι', H', loc', fl, p, e', r, q _ _ _ z⟩) fun _ _ x => x

namespace CS
section
variable {a b c : ME} {x y z : Expr} {pos p : Pos} {n : Str} {i : Nat}
theorem asg (sl : Slot C i n) (ha : CE G C a x) (hs : ∀ env, swapsWith x (some (.Name n p)) pos.line env = pure false) : CS G C (.asg i a) (.Assign [.Name n p] x pos) := ⟨fun ok hΦ _ _ _ w => ex_assign sl (ha.snd ok hΦ w).1 hs⟩
theorem asgT {is : List Nat} {ts : List Expr} {k : Nat} {tp : Pos} (nm : Names C ts is) (ha : CE G C a x) (hs : ∀ env, swapsWithSole [.Tuple ts k tp] x pos.line env = pure false) (hw : ∀ env, swappedStores [.Tuple ts k tp] x env = pure none) : CS G C (.asgT is a) (.Assign [.Tuple ts k tp] x pos) :=
  ⟨fun ok hΦ _ _ _ w => ex_assignT nm ((ha.snd ok hΦ w).1.mono fun v H' q => asT.ex q) hs hw⟩
theorem ite {ma mb : List MS} {xa xb : List Stmt} (ht : CE G C a x) (ha : CSs G C ma xa) (hb : CSs G C mb xb) : CS G C (.ite a ma mb) (.If x xa xb pos) := ⟨fun ok hΦ _ _ _ w =>
  ex_if ((ht.snd ok hΦ w).2 _ fun v H' q => by
    obtain ⟨c, rfl, q⟩ := asB.ex q
    show (if c then _ else _)
    cases c with
    | false => exact hb.snd ok hΦ q
    | true => exact ha.snd ok hΦ q)⟩
theorem for1 {k : IK} {its : List ME} {mb : List MS} {xb : List Stmt} (sl : Slot C i n) (hi : CI G C k its x) (hb : CSs G C mb xb) : CS G C (.forr false [i] k its mb) (.For (.Name n p) x xb [] pos) := ⟨fun ok hΦ _ _ _ w => by
  refine ex_for_gen ((hi.snd ok hΦ w).mono fun items Cnd H₁ q => ?_) hi.folded
  obtain ⟨J, j0, turn⟩ := q
  refine ⟨J, j0, fun i loc H hj => ?_⟩
  obtain ⟨h1, h2, h3⟩ := turn i loc H hj
  refine ⟨h1, fun y hy => ?_, h3⟩
  obtain ⟨ws, hu, hw⟩ := h2 y hy
  obtain ⟨_, rfl⟩ := unpack_false hu
  exact tg_name sl (hb.snd ok hΦ hw)⟩
theorem ret (ha : CE G C a x) : CS G C (.ret a) (.Return (some x) pos) := ⟨fun ok hΦ _ _ _ w => ex_ret (ha.snd ok hΦ w).1⟩
theorem expr (ha : CE G C a x) (hs : ∀ env, swapsWith x none pos.line env = pure false) : CS G C (.expr a) (.Expr x pos) := ⟨fun ok hΦ _ _ _ w => ex_expr (ha.snd ok hΦ w).1 hs⟩
end
end CS
theorem CSs.nil : CSs G C [] [] := ⟨fun ok hΦ _ _ _ w => exs_nil w⟩
theorem CSs.cons {m : MS} {ms : List MS} {x : Stmt} {xs : List Stmt} (hx : CS G C m x) (hs : CSs G C ms xs) : CSs G C (m :: ms) (x :: xs) := ⟨fun ok hΦ _ _ _ w =>
  exs_cons ((hx.snd ok hΦ w).mono fun fl l H' q => by
    cases fl with
    | next => exact hs.snd ok hΦ q
    | _ => exact q)⟩

/-- a def whose small form meets Q answers so -/
theorem soundF (ok : GOK P G) (hΦ : FunOK P d Φ) {x : Str} {params : List Str} {body : List Stmt} {f : MF} {args : List AV} {H : Hp} {Q : PQ} (fn : FnAt P x C params body) (good : C.good params = true) (cs : CSs G C f.body body) (hp : params.length = f.params) (hv : C.vars.length = f.vars)
    (w : wpF Φ f args H Q) : CallOK P (d + 1) x args H Q XF := by
  obtain ⟨hl, w⟩ := w
  refine callOK_of ok.toOK fn good (by rw [hl, hp]) (cs.snd ok hΦ ?_)
  unfold start
  rw [hv, hl]; exact w
end Mine

namespace Mine
open PySem
set_option linter.unusedVariables false
variable {Φ : Fun} {loc : Loc} {H : Hp} {Q : PQ}

/-! the small language by steps -/
theorem sp_b {K : Bool → Prop} {b : Bool} (h1 : b = true → K true) (h2 : b = false → K false) : K b := by
  cases b with
  | true => exact h1 rfl
  | false => exact h2 rfl
theorem sp_d {K : Bool → Prop} {p : Prop} {i : Decidable p} (h1 : p → K true) (h2 : ¬ p → K false) : K (@decide p i) :=
  sp_b (fun h => h1 (of_decide_eq_true h)) fun h => h2 (of_decide_eq_false h)
theorem sp_n {K : Bool → Prop} {p : Prop} {i : Decidable p} (h1 : ¬ p → K true) (h2 : p → K false) : K (!(@decide p i)) :=
  sp_b (fun h => h1 (by simpa using h)) fun h => h2 (by simpa using h)

theorem e_cst {v : AV} : wpE Φ (.cst v) loc H Q = Q v H := rfl
theorem e_loc0 {v : AV} : wpE Φ (.loc 0) (some v :: loc) H Q = Q v H := rfl
theorem e_locS {i : Nat} {o : Option AV} : wpE Φ (.loc (i + 1)) (o :: loc) H Q = wpE Φ (.loc i) loc H Q := rfl
theorem e_bin {op : BOp} {a b : ME} : wpE Φ (.bin op a b) loc H Q = wpE Φ a loc H (kBin1 Φ op b loc Q) := rfl
theorem k_bin1 {op : BOp} {b : ME} {x : AV} : kBin1 Φ op b loc Q x H = wpE Φ b loc H (kBin2 op x Q) := rfl
theorem k_bin2 {op : BOp} {x y : AV} : kBin2 op x Q y H = wpBin op x y H Q := rfl
theorem e_cmp {op : COp} {a b : ME} : wpE Φ (.cmp op a b) loc H Q = wpE Φ a loc H (kCmp1 Φ op b loc Q) := rfl
theorem k_cmp1 {op : COp} {b : ME} {x : AV} : kCmp1 Φ op b loc Q x H = wpE Φ b loc H (kCmp2 op x Q) := rfl
theorem k_cmp2 {op : COp} {x y : AV} : kCmp2 op x Q y H = wpCmp op x y H Q := rfl
theorem e_cmp2 {o1 o2 : COp} {a b c : ME} : wpE Φ (.cmp2 o1 o2 a b c) loc H Q = wpE Φ a loc H (kC1 Φ o1 o2 b c loc Q) := rfl
theorem k_c1 {o1 o2 : COp} {b c : ME} {x : AV} : kC1 Φ o1 o2 b c loc Q x H = wpE Φ b loc H (kC2 Φ o1 o2 c loc x Q) := rfl
theorem k_c2 {o1 o2 : COp} {c : ME} {x y : AV} : kC2 Φ o1 o2 c loc x Q y H = wpCmp o1 x y H (kC3 Φ o2 c loc y Q) := rfl
theorem k_c3 {o2 : COp} {c : ME} {y : AV} {b : Bool} : kC3 Φ o2 c loc y Q (.bool b) H = kC4 Φ o2 c loc y Q H b := rfl
theorem k_c4t {o2 : COp} {c : ME} {y : AV} : kC4 Φ o2 c loc y Q H true = wpE Φ c loc H (kCmp2 o2 y Q) := rfl
theorem k_c4f {o2 : COp} {c : ME} {y : AV} : kC4 Φ o2 c loc y Q H false = Q (.bool false) H := rfl
theorem e_not {a : ME} : wpE Φ (.not a) loc H Q = wpE Φ a loc H (kNot Q) := rfl
theorem k_not {b : Bool} : kNot Q (.bool b) H = Q (.bool !b) H := rfl
theorem e_and2 {a b : ME} : wpE Φ (.and2 a b) loc H Q = wpE Φ a loc H (kAnd Φ b loc Q) := rfl
theorem k_and {b : ME} {t : Bool} : kAnd Φ b loc Q (.bool t) H = kAndB Φ b loc Q H t := rfl
theorem k_andt {b : ME} : kAndB Φ b loc Q H true = wpE Φ b loc H Q := rfl
theorem k_andf {b : ME} : kAndB Φ b loc Q H false = Q (.bool false) H := rfl
theorem e_or2 {a b : ME} : wpE Φ (.or2 a b) loc H Q = wpE Φ a loc H (kOr Φ b loc Q) := rfl
theorem k_or {b : ME} {t : Bool} : kOr Φ b loc Q (.bool t) H = kOrB Φ b loc Q H t := rfl
theorem k_ort {b : ME} : kOrB Φ b loc Q H true = Q (.bool true) H := rfl
theorem k_orf {b : ME} : kOrB Φ b loc Q H false = wpE Φ b loc H Q := rfl
theorem e_call {f : Str} {as : List ME} : wpE Φ (.call f as) loc H Q = wpEs Φ as loc H (kCall Φ f Q) := rfl
theorem k_call {f : Str} {vs : List AV} : kCall Φ f Q vs H = Φ f vs H Q := rfl
theorem e_bi {f : Bi} {as : List ME} : wpE Φ (.bi f as) loc H Q = wpEs Φ as loc H (kBi f Q) := rfl
theorem k_bi {f : Bi} {vs : List AV} : kBi f Q vs H = wpBi f vs H Q := rfl
theorem e_isi {a : ME} {t : Ty} : wpE Φ (.isi a t) loc H Q = wpE Φ a loc H (kIsi t Q) := rfl
theorem k_isi {v : AV} {t : Ty} : kIsi t Q v H = Q (.bool (isi H v t)) H := rfl
theorem e_idx {a b : ME} : wpE Φ (.idx a b) loc H Q = wpE Φ a loc H (kIdx1 Φ b loc Q) := rfl
theorem k_idx1 {b : ME} {x : AV} : kIdx1 Φ b loc Q x H = wpE Φ b loc H (kIdx2 x Q) := rfl
theorem k_idx2 {x y : AV} : kIdx2 x Q y H = wpIdx x y H Q := rfl
theorem e_slc {a : ME} {lo hi : List ME} : wpE Φ (.slc a lo hi) loc H Q = wpE Φ a loc H (kS1 Φ lo hi loc Q) := rfl
theorem k_s1 {lo hi : List ME} {x : AV} : kS1 Φ lo hi loc Q x H = wpEs Φ lo loc H (kS2 Φ hi loc x Q) := rfl
theorem k_s2n {hi : List ME} {x : AV} : kS2 Φ hi loc x Q [] H = wpEs Φ hi loc H (kS4 x none Q) := rfl
theorem k_s2o {hi : List ME} {x : AV} {k : Int} : kS2 Φ hi loc x Q [.int k] H = (0 ≤ k ∧ wpEs Φ hi loc H (kS4 x (some k) Q)) := rfl
theorem k_s4n {x : AV} {ka : Option Int} : kS4 x ka Q [] H = withL (seqL H x) (kS6 ka none Q H) := rfl
theorem k_s4o {x : AV} {ka : Option Int} {k : Int} : kS4 x ka Q [.int k] H = (0 ≤ k ∧ withL (seqL H x) (kS6 ka (some k) Q H)) := rfl
theorem k_s6 {ka kb : Option Int} {l : List AV} : kS6 ka kb Q H l = (l.length ≤ sizeLine ∧ Q (.ref H.length) (H ++ [.list (lslice l ka kb)])) := rfl
theorem e_slcT {a : ME} {lo hi : List ME} : wpE Φ (.slcT a lo hi) loc H Q = wpE Φ a loc H (kT1 Φ lo hi loc Q) := rfl
theorem k_t1 {lo hi : List ME} {x : AV} : kT1 Φ lo hi loc Q x H = wpEs Φ lo loc H (kT2 Φ hi loc x Q) := rfl
theorem k_t2n {hi : List ME} {x : AV} : kT2 Φ hi loc x Q [] H = wpEs Φ hi loc H (kT4 x none Q) := rfl
theorem k_t4o {l : List AV} {ka : Option Int} {k : Int} : kT4 (.tup l) ka Q [.int k] H = (0 ≤ k ∧ l.length ≤ sizeLine ∧ Q (.tup (lslice l ka (some k))) H) := rfl
theorem e_tup {es : List ME} : wpE Φ (.tup es) loc H Q = wpEs Φ es loc H (kTup Q) := rfl
theorem k_tup {vs : List AV} : kTup Q vs H = (vs.length ≤ sizeLine ∧ Q (.tup vs) H) := rfl
theorem e_lst {es : List ME} : wpE Φ (.lst es) loc H Q = wpEs Φ es loc H (kLst Q) := rfl
theorem k_lst {vs : List AV} : kLst Q vs H = (vs.length ≤ sizeLine ∧ Q (.ref H.length) (H ++ [.list vs])) := rfl
theorem e_meth {m : Mt} {o : ME} {as : List ME} : wpE Φ (.meth m o as) loc H Q = wpE Φ o loc H (kM1 Φ m as loc Q) := rfl
theorem k_m1 {m : Mt} {as : List ME} {x : AV} : kM1 Φ m as loc Q x H = (isL H x ∧ wpEs Φ as loc H (kM2 m x Q)) := rfl
theorem k_m2 {m : Mt} {x : AV} {vs : List AV} : kM2 m x Q vs H = wpMt m x vs H Q := rfl
theorem es_nil {Q : List AV → Hp → Prop} : wpEs Φ [] loc H Q = Q [] H := rfl
theorem es_cons {e : ME} {es : List ME} {Q : List AV → Hp → Prop} : wpEs Φ (e :: es) loc H Q = wpE Φ e loc H (kE1 Φ es loc Q) := rfl
theorem k_e1 {es : List ME} {Q : List AV → Hp → Prop} {v : AV} : kE1 Φ es loc Q v H = wpEs Φ es loc H (kE2 v Q) := rfl
theorem k_e2 {Q : List AV → Hp → Prop} {v : AV} {vs : List AV} : kE2 v Q vs H = Q (v :: vs) H := rfl
theorem k_it {k : IK} {K : KI} {vs : List AV} : kIt k K vs H = wpIt k vs H K := rfl

/-! operators upon values at hand -/
theorem b_add {a b : Int} : wpBin .add (.int a) (.int b) H Q = Q (.int (a + b)) H := rfl
theorem b_sub {a b : Int} : wpBin .sub (.int a) (.int b) H Q = Q (.int (a - b)) H := rfl
theorem b_mul {a b : Int} : wpBin .mul (.int a) (.int b) H Q = (IntMulOk a b ∧ Q (.int (a * b)) H) := rfl
theorem b_mod {a b : Int} : wpBin .mod (.int a) (.int b) H Q = (b ≠ 0 ∧ Q (.int (a.fmod b)) H) := rfl
theorem b_fdiv {a b : Int} : wpBin .fdiv (.int a) (.int b) H Q = (b ≠ 0 ∧ NoPy a b ∧ Q (.int (a.fdiv b)) H) := rfl
theorem b_pow {a b : Int} : wpBin .pow (.int a) (.int b) H Q = (0 ≤ b ∧ b ≤ 1000000 ∧ a.natAbs < 2 ^ 64 ∧ Q (.int (a ^ b.toNat)) H) := rfl
theorem b_addT {l m : List AV} : wpBin .add (.tup l) (.tup m) H Q = (l.length + m.length ≤ sizeLine ∧ Q (.tup (l ++ m)) H) := rfl
theorem b_addL {i j : Nat} {l m : List AV} (h1 : H[i]? = some (.list l)) (h2 : H[j]? = some (.list m)) : wpBin .add (.ref i) (.ref j) H Q = (l.length + m.length ≤ sizeLine ∧ Q (.ref H.length) (H ++ [.list (l ++ m)])) := by
  simp [wpBin, h1, h2]
theorem c_lt {a b : Int} : wpCmp .lt (.int a) (.int b) H Q = Q (.bool (decide (a < b))) H := rfl
theorem c_le {a b : Int} : wpCmp .le (.int a) (.int b) H Q = Q (.bool (decide (a ≤ b))) H := rfl
theorem c_gt {a b : Int} : wpCmp .gt (.int a) (.int b) H Q = Q (.bool (decide (b < a))) H := rfl
theorem c_eqI {a b : Int} : wpCmp .eq (.int a) (.int b) H Q = Q (.bool (decide (a = b))) H := by
  show Q (.bool (a == b)) H = _
  rw [show (a == b) = decide (a = b) from rfl]
theorem c_neI {a b : Int} : wpCmp .ne (.int a) (.int b) H Q = Q (.bool (!decide (a = b))) H := by
  show Q (.bool !(a == b)) H = _
  rw [show (a == b) = decide (a = b) from rfl]
theorem c_eqS {a b : Str} : wpCmp .eq (.str a) (.str b) H Q = Q (.bool (a == b)) H := rfl
theorem c_neS {a b : Str} : wpCmp .ne (.str a) (.str b) H Q = Q (.bool (!(a == b))) H := rfl
theorem c_neB {a b : Bool} : wpCmp .ne (.bool a) (.bool b) H Q = Q (.bool (!(a == b))) H := rfl
theorem i_list {i : Nat} {l : List AV} {k : Int} (h : H[i]? = some (.list l)) : wpIdx (.ref i) (.int k) H Q = idxL l k H Q := by simp [wpIdx, asI, h]
theorem i_tup {l : List AV} {k : Int} : wpIdx (.tup l) (.int k) H Q = (l.length < 2 ^ 62 ∧ ∃ j z, place k l.length = some j ∧ l[j]? = some z ∧ Q z H) := rfl
theorem i_tup0 {v : AV} {l : List AV} : wpIdx (.tup (v :: l)) (.int 0) H Q = ((v :: l).length < 2 ^ 62 ∧ Q v H) := by
  rw [i_tup]; simp [place]
theorem i_tup1 {v u : AV} {l : List AV} : wpIdx (.tup (u :: v :: l)) (.int 1) H Q = ((u :: v :: l).length < 2 ^ 62 ∧ Q v H) := by
  rw [i_tup]
  have : place 1 (u :: v :: l).length = some 1 := by unfold place; simp; omega
  rw [this]; simp
theorem i_tup2 {v u t : AV} {l : List AV} : wpIdx (.tup (t :: u :: v :: l)) (.int 2) H Q = ((t :: u :: v :: l).length < 2 ^ 62 ∧ Q v H) := by
  rw [i_tup]
  have : place 2 (t :: u :: v :: l).length = some 2 := by unfold place; simp; omega
  rw [this]; simp
theorem idx_at {x : AV} {l : List AV} {k : Int} {z : AV} (hx : anyL H x = some l) (hn : l.length < 2 ^ 62) (h0 : 0 ≤ k) (hz : l[k.toNat]? = some z) (q : Q z H) : wpIdx x (.int k) H Q := by
  have hlt : k.toNat < l.length := (List.getElem?_eq_some_iff.mp hz).1
  have hp : place k l.length = some k.toNat := by unfold place; rw [if_pos h0, if_pos (by omega)]
  cases x with
  | tup m => cases hx; exact ⟨hn, _, _, hp, hz, q⟩
  | fro m => cases hx; exact ⟨hn, _, _, hp, hz, q⟩
  | ref i =>
    simp only [anyL, seqL] at hx
    split at hx
    · rename_i h; cases hx; rw [i_list h]; exact ⟨hn, _, _, hp, hz, q⟩
    · cases hx
  | _ => simp [anyL, seqL] at hx
theorem l_tup {l : List AV} : wpBi .len [.tup l] H Q = (l.length < 2 ^ 62 ∧ Q (.int l.length) H) := rfl
theorem l_fro {l : List AV} : wpBi .len [.fro l] H Q = (l.length < 2 ^ 62 ∧ Q (.int l.length) H) := rfl
theorem l_list {i : Nat} {l : List AV} (h : H[i]? = some (.list l)) : wpBi .len [.ref i] H Q = (l.length < 2 ^ 62 ∧ Q (.int l.length) H) := by simp [wpBi, as1, wpLen, h]
theorem t_list {i : Nat} {l : List AV} (h : H[i]? = some (.list l)) : wpBi .tuple [.ref i] H Q = (l.length ≤ sizeLine ∧ Q (.tup l) H) := by simp [wpBi, as1, withL, seqL, h]
theorem g_list {i : Nat} {l : List AV} (h : H[i]? = some (.list l)) : wpBi .list [.ref i] H Q = (l.length ≤ sizeLine ∧ Q (.ref H.length) (H ++ [.list l])) := by simp [wpBi, as1, withL, anyL, seqL, h]
theorem g_tup {l : List AV} : wpBi .list [.tup l] H Q = (l.length ≤ sizeLine ∧ Q (.ref H.length) (H ++ [.list l])) := rfl
theorem n_bool {b : Bool} : wpBi .int [.bool b] H Q = Q (.int (if b then 1 else 0)) H := rfl
theorem m_append {i : Nat} {l : List AV} {x : AV} (h : H[i]? = some (.list l)) : wpMt .append (.ref i) [x] H Q = (l.length ≤ sizeLine ∧ Q .none (H.set i (.list (l ++ [x])))) := onL_ref h
theorem isL_ref {i : Nat} {l : List AV} (h : H[i]? = some (.list l)) : isL H (.ref i) := ⟨i, l, rfl, h⟩

/-! statements -/
section
variable {Q : PF}
theorem ss_nil : wpSs Φ [] loc H Q = Q .next loc H := rfl
theorem thenS_next {ss : List MS} : thenS Φ ss Q .next loc H = wpSs Φ ss loc H Q := rfl
theorem thenS_ret {ss : List MS} {v : AV} : thenS Φ ss Q (.ret v) loc H = Q (.ret v) loc H := rfl
theorem ss_cons {s : MS} {ss : List MS} : wpSs Φ (s :: ss) loc H Q = wpS Φ s loc H (thenS Φ ss Q) := rfl
theorem s_asg {i : Nat} {e : ME} : wpS Φ (.asg i e) loc H Q = wpE Φ e loc H (kAsg i loc Q) := rfl
theorem k_asg {i : Nat} {v : AV} : kAsg i loc Q v H = Q .next (loc.set i (some v)) H := rfl
theorem s_asgT {is : List Nat} {e : ME} : wpS Φ (.asgT is e) loc H Q = wpE Φ e loc H (kAsgT is loc Q) := rfl
theorem k_asgT {is : List Nat} {l : List AV} : kAsgT is loc Q (.tup l) H = (l.length = is.length ∧ Q .next (setAll (is.zip l) loc) H) := rfl
theorem s_ite {t : ME} {a b : List MS} : wpS Φ (.ite t a b) loc H Q = wpE Φ t loc H (kIte Φ a b loc Q) := rfl
theorem k_ite {a b : List MS} {c : Bool} : kIte Φ a b loc Q (.bool c) H = kIteB Φ a b loc Q H c := rfl
theorem k_itet {a b : List MS} : kIteB Φ a b loc Q H true = wpSs Φ a loc H Q := rfl
theorem k_itef {a b : List MS} : kIteB Φ a b loc Q H false = wpSs Φ b loc H Q := rfl
theorem s_ret {e : ME} : wpS Φ (.ret e) loc H Q = wpE Φ e loc H (kRet loc Q) := rfl
theorem k_ret {v : AV} : kRet loc Q v H = Q (.ret v) loc H := rfl
theorem s_expr {e : ME} : wpS Φ (.expr e) loc H Q = wpE Φ e loc H (kExp loc Q) := rfl
theorem k_exp {v : AV} : kExp loc Q v H = Q .next loc H := rfl
theorem end_ret {R : PQ} {v : AV} : endOf R (.ret v) loc H = R v H := rfl
theorem for_next {J : Nat → Loc → Hp → Prop} {n : Nat} (h : J (n + 1) loc H) : forK J n Q .next loc H := h
theorem forK_ret {J : Nat → Loc → Hp → Prop} {n : Nat} {v : AV} : forK J n Q (.ret v) loc H = Q (.ret v) loc H := rfl
theorem s_for {t : Bool} {is : List Nat} {k : IK} {its : List ME} {b : List MS} : wpS Φ (.forr t is k its b) loc H Q = wpEs Φ its loc H (kIt k (forI Φ t is b loc Q)) := rfl
theorem for_intro {t : Bool} {is : List Nat} {b : List MS} {items : List AV} {Cnd : Hp → Prop} (J : Nat → Loc → Hp → Prop) (h0 : J 0 loc H) (turn : ∀ i loc H, J i loc H → Cnd H ∧
      (∀ y, items[i]? = some y → ∃ ws, unpack t is.length y = some ws ∧ wpSs Φ b (setAll (is.zip ws) loc) H (forK J i Q)) ∧
      (i = items.length → Q .next loc H)) : forI Φ t is b loc Q items Cnd H := ⟨J, h0, turn⟩
end
/-! going through -/
theorem r_one {n : Int} {K : KI} : wpIt .range [.int n] H K = (-(2 ^ 62) ≤ n ∧ n < 2 ^ 62 ∧ K ((List.range n.toNat).map fun (k : Nat) => AV.int k) (fun _ => True) H) := rfl
theorem r_tup {l : List AV} {K : KI} : wpIt .plain [.tup l] H K = K l (fun _ => True) H := rfl
end Mine

namespace Mine
open PySem PySem.W PyProof.Rows
set_option linter.unusedVariables false
set_option maxRecDepth 100000

/-! the ground of a claim -/
def freeB (p : Program) (loose : List Str) (x : Str) : Bool :=
  !(startupNames.contains x) && !((looseW p loose).contains x) && !(((recsOf p).map (·.name)).contains x) && !(((litsOf p).map (·.1)).contains x) && !(((clssOf p (looseW p loose)).map (·.name)).contains x)

section
variable {p : Program} {loose : List Str} {R : WRecords} {XP : (Str → Option Value) → Heap → Prop} {w : World} {s₀ : Shared} {mg mb : Str → Option Value} {h : Heap} {prog : Program}

theorem free_of (G : Ground p loose R XP w s₀ mg mb h) {x : Str} (hx : freeB p loose x = true) : mg x = none := by
  simp only [freeB, Bool.and_eq_true, Bool.not_eq_true', List.contains_eq_mem, decide_eq_false_iff_not] at hx
  obtain ⟨⟨⟨⟨h1, h2⟩, h3⟩, h4⟩, h5⟩ := hx
  exact G.T.free x h1 h2 h3 h4 h5

theorem ok2_of (G : Ground p loose R XP w s₀ mg mb h) : (PEnv.mk prog w h mg mb).OK2 where
  g := G.T.g
  b := G.T.b
  nolimit := G.T.nolimit
  low := by
    obtain ⟨_, ⟨o, _, _, ho, _⟩, _⟩ := G.T.nodigits
    exact ⟨_, o, ho, by decide⟩

def bnames : List Str := ["len", "all", "any", "sorted", "list", "tuple", "int", "min", "max", "bool", "str", "isinstance", "range", "reversed", "enumerate"]

theorem boot_bi (b : Bi) : bootBuiltins b.nm = some b.val := by cases b <;> decide +kernel
theorem boot_ty (b : Ty) : bootBuiltins b.ps = some (.type b.nm) := by cases b <;> decide +kernel
theorem boot_its (b : ITy) : bootBuiltins b.str = some (.type b.nm) := by cases b <;> decide +kernel
theorem boot_isi : bootBuiltins "isinstance" = some (.builtin "isinstance") := by decide +kernel
theorem nm_bi (b : Bi) : b.nm ∈ bnames ∧ b.nm ≠ "__name__" := by cases b <;> decide +kernel
theorem nm_ty (b : Ty) : b.ps ∈ bnames ∧ b.ps ≠ "__name__" := by cases b <;> decide +kernel
theorem nm_its (b : ITy) : b.str ∈ bnames ∧ b.str ≠ "__name__" := by cases b <;> decide +kernel
theorem nm_isi : ("isinstance" : Str) ∈ bnames ∧ ("isinstance" : Str) ≠ "__name__" := by decide +kernel

theorem gok_of {Γ : GT} (G : Ground p loose R XP w s₀ mg mb h) (hb : bnames.all (fun x => freeB p loose x) = true) (hf : Γ.fns.all (fun x => ((recsOf p).map (·.name)).contains x) = true)
    (hc : ∀ x v, Γ.csts.lookup x = some v → ∃ u, mg x = some u ∧ ∀ h' ι, h.StaysIn h' → VR h h' ι v u) : GOK (PEnv.mk prog w h mg mb) Γ := by
  have fr : ∀ x, x ∈ bnames ∧ x ≠ "__name__" → mg x = none ∧ mb x = bootBuiltins x := fun x hx => ⟨free_of G (List.all_eq_true.mp hb x hx.1), G.T.builtins x hx.2⟩
  refine { toOK2 := ok2_of G, fns := fun x hx => ?_, csts := hc, blt := fun b => ?_, ty := fun b => ?_, isi := ?_, its := fun b => ?_ }
  · have := List.all_eq_true.mp hf x (by simpa using hx)
    simp only [List.contains_eq_mem, decide_eq_true_eq, List.mem_map] at this
    obtain ⟨d, hd, rfl⟩ := this
    obtain ⟨a, o, pm, code, doc, h1, h2, h3, _⟩ := G.T.fn d hd
    exact ⟨a, o, _, h1, h2, h3⟩
  · obtain ⟨h1, h2⟩ := fr _ (nm_bi b); exact ⟨h1, h2.trans (boot_bi b)⟩
  · obtain ⟨h1, h2⟩ := fr _ (nm_ty b); exact ⟨h1, h2.trans (boot_ty b)⟩
  · obtain ⟨h1, h2⟩ := fr _ nm_isi; exact ⟨h1, h2.trans boot_isi⟩
  · obtain ⟨h1, h2⟩ := fr _ (nm_its b); exact ⟨h1, h2.trans (boot_its b)⟩

/-- a def of the text and its small form -/
structure FnOK (p : Program) (Γ : GT) (x : Str) (vars params : List Str) (f : MF) : Prop where
  ex : ∃ d, d ∈ recsOf p ∧ d.name = x ∧ d.scope.kind = .function ∧ d.scope.isCoroutine = false ∧ d.scope.isGenerator = false ∧ (Ctx.mk (vars.map some) d.scope.names 0).good params = true ∧
    CSs Γ ⟨vars.map some, d.scope.names, 0⟩ f.body d.body ∧ params.length = f.params ∧ vars.length = f.vars ∧
    ∀ pm cd doc vals, vals.length = params.length → bindArgs (Calls.docDef d.name d.params d.body d.scope pm cd doc) ⟨vals, []⟩ = pure (params.zip vals)

theorem FnOK.call {Γ : GT} {x : Str} {vars params : List Str} {f : MF} {n : Nat} {Φ : Fun} {args : List AV} {H : Hp} {Q : PQ} (fn : FnOK p Γ x vars params f) (G : Ground p loose R XP w s₀ mg mb h) (ok : GOK (PEnv.mk prog w h mg mb) Γ)
    (hΦ : ∀ f args H Q, Φ f args H Q → CallOK (PEnv.mk prog w h mg mb) n f args H Q XF) (wp : wpF Φ f args H Q) : CallOK (PEnv.mk prog w h mg mb) (n + 1) x args H Q XF := by
  obtain ⟨d, hd, rfl, k1, k2, k3, good, cs, hp, hv, hb⟩ := fn.ex
  obtain ⟨a, o, pm, code, doc, h1, h2, h3, h4⟩ := G.T.fn d hd
  refine soundF ok hΦ (C := ⟨vars.map some, d.scope.names, 0⟩) (params := params) ⟨⟨a, o, _, h1, h2, h3, rfl, rfl, k1, k2, k3, rfl, rfl, rfl, h4, fun vals hl => hb pm code doc vals hl⟩⟩ good cs hp (by rw [List.length_map]; exact hv) wp

/-- the end: the law's call answers True -/
theorem finish {c : ClaimW} {cl : Str → Option Addr} {mean : ExcName → Option Value} {wargs : List WData} {s₁ : Shared} {fa l : Addr} {vs : List Value} {ns : List Int} {n : Nat} (hmg : mg "law" = some (.ref fa)) (hg : s₁.gens = #[]) (hn : n < 200)
    (hL : s₁.heap.IsList l vs.toArray) (hI : IntsAre vs ns) (hr : ∀ cls, c.raises wargs cls = false) (hp : c.post wargs (.bool true) wargs = true)
    (hc : CallOK (PEnv.mk prog w s₁.heap mg mb) n "law" [.fro (ns.map .int)] [] (fun v _ => v = .bool true) XF) :
    codeAny (model prog w) callerA (.call (.ref fa) ⟨[.ref l], []⟩) (GoodWG c cl mean wargs s₁) s₁ := by
  have rs : ∀ {vs : List Value} {ns : List Int}, IntsAre vs ns → VRs s₁.heap s₁.heap [] (ns.map .int) vs := fun {vs ns} q => by
    induction q with
    | nil => rfl
    | cons _ _ _ ih => exact VRs.cons (VR.mkInt _ _) ih
  refine hc callerA [] s₁ [.ref l] fa _ hmg ⟨⟨?_, ?_, rfl⟩, ⟨[], rfl, (fun e he => nomatch he)⟩, (⟨fun b o e => e, (fun a ha => nomatch ha), List.nodup_nil, rfl, (fun i o e => by simp at e)⟩ : HR s₁.heap [] [] s₁.heap)⟩ ⟨_, [], rfl, ?_, rfl⟩ (fun v s' g => ?_) Acc.no
  · show 1 + claimMargin + n < recursionLimit
    unfold claimMargin recursionLimit; omega
  · show 4 + 8 * n + 200 < cLine
    unfold cLine; omega
  · unfold VR; exact ⟨l, vs, rfl, hL, rs hI⟩
  · obtain ⟨ι', H', av, p, r, rfl⟩ := g
    cases r
    obtain ⟨h', t', rfl⟩ := p.same
    refine GoodW.toG ⟨.inl ⟨_, .bool true, [], rfl, hr, .bool true, hp, fun _ => ⟨List.nodup_nil, fun a ha => nomatch ha⟩⟩, fun b o e => p.hr.base b o e, rfl, hg⟩

end
theorem post_true (l : OpenLaw) (args : List WData) : l.row.claim.post args (.bool true) args = true :=
  postW_of (r := l.row.toRowW) (X := true) rfl (w_eq_bool (k := true) (l := true) (w_res rfl) w_lit) rfl
end Mine

namespace Mine
open PySem
set_option linter.unusedVariables false

/-! small helps -/
theorem place_nn {k : Int} {n : Nat} (h0 : 0 ≤ k) (h1 : k < n) : place k n = some k.toNat := by
  unfold place; rw [if_pos h0, if_pos h1]
theorem log2_lt {n k : Nat} (h : n < 2 ^ k) (hk : 0 < k) : n.log2 < k := by
  by_cases h0 : n = 0
  · subst h0; simpa using hk
  · exact (Nat.log2_lt h0).mpr h
theorem intBits_le {a : Int} {k : Nat} (h : a.natAbs < 2 ^ k) : Builtin.Int.intBits a ≤ k := by
  unfold Builtin.Int.intBits
  split
  · exact Nat.zero_le _
  · rename_i h0
    have hk : 0 < k := by
      rcases Nat.eq_zero_or_pos k with rfl | hk
      · simp at h; simp [h] at h0
      · exact hk
    exact log2_lt h hk
theorem mulOk_left {a b : Int} (h : a.natAbs < 2 ^ 64) : IntMulOk a b := IntMulOk.of_left (intBits_le h)
theorem mulOk_right {a b : Int} (h : b.natAbs < 2 ^ 64) : IntMulOk a b := IntMulOk.of_right (intBits_le h)
theorem noPy {a b : Int} (h : b.natAbs < 2 ^ 9000) : NoPy a b := by
  unfold NoPy Builtin.divisionGoesByPylong
  simp only [gt_iff_lt, Bool.and_eq_false_imp, decide_eq_true_eq]
  intro h1
  exfalso
  split at h1
  · omega
  · have := log2_lt h (by omega)
    omega
theorem noPyS {a b : Int} (h : b.natAbs < 2 ^ 64) : NoPy a b := noPy (Nat.lt_of_lt_of_le h (Nat.pow_le_pow_right (by decide) (by decide)))
theorem fmod_nn {a b : Int} (h : 0 ≤ b) : a.fmod b = a % b := Int.fmod_eq_emod_of_nonneg a h
theorem fdiv_nn {a b : Int} (h : 0 ≤ b) : a.fdiv b = a / b := Int.fdiv_eq_ediv_of_nonneg a h
end Mine

namespace Mine
open PySem
local macro_rules | `(tactic| walk_at "wp") => `(tactic| try simp -implicitDefEqProofs only [↓ss_nil, ↓ss_cons, ↓thenS_next, ↓thenS_ret, ↓s_asg, ↓s_asgT, ↓s_ite, ↓s_ret, ↓s_expr, ↓s_for, ↓forK_ret, ↓end_ret, ↓k_bin1, ↓k_bin2, ↓k_cmp1, ↓k_cmp2, ↓k_c1, ↓k_c2, ↓k_c3, ↓k_c4t, ↓k_c4f, ↓k_not, ↓k_and, ↓k_andt, ↓k_andf, ↓k_or, ↓k_ort, ↓k_orf, ↓k_call, ↓k_bi, ↓k_isi, ↓k_idx1, ↓k_idx2, ↓k_s1, ↓k_s2n, ↓k_s2o, ↓k_s4n, ↓k_s4o, ↓k_s6, ↓k_t1, ↓k_t2n, ↓k_t4o, ↓k_tup, ↓k_lst, ↓k_m1, ↓k_m2, ↓k_e1, ↓k_e2, ↓k_it, ↓k_asg, ↓k_asgT, ↓k_ite, ↓k_itet, ↓k_itef, ↓k_ret, ↓k_exp, ↓e_cst, ↓e_loc0, ↓e_locS, ↓e_bin, ↓e_cmp, ↓e_cmp2, ↓e_not, ↓e_and2, ↓e_or2, ↓e_call, ↓e_bi, ↓e_isi, ↓e_idx, ↓e_slc, ↓e_slcT, ↓e_tup, ↓e_lst, ↓e_meth, ↓es_nil, ↓es_cons, ↓b_add, ↓b_sub, ↓b_mul, ↓b_mod, ↓b_fdiv, ↓b_pow, ↓b_addT, ↓c_lt, ↓c_le, ↓c_gt, ↓c_eqI, ↓c_neI, ↓c_eqS, ↓c_neS, ↓c_neB, ↓i_tup0, ↓i_tup1, ↓i_tup2, ↓l_tup, ↓l_fro, ↓g_tup, ↓n_bool, ↓r_one, ↓r_tup, List.set_cons_zero, List.set_cons_succ, List.map_cons, List.map_nil, List.cons_append, List.nil_append, List.replicate_succ, List.replicate_zero, setAll, List.zip_cons_cons, List.zip_nil_left, List.zip_nil_right, Bool.not_true, Bool.not_false])
local macro_rules | `(tactic| walk_at "sd") => `(tactic| first | decide | exact noPyS (by decide) | omega | (simp [sizeLine]; done))
local macro_rules | `(tactic| walk_at "go") => `(tactic| ((walk_at "wp"); repeat (with_reducible refine And.intro ?sd ?_; (case sd => walk_at "sd"))))
local macro_rules | `(tactic| walk_at "am") => `(tactic| simp only [fmod_nn, fdiv_nn, Int.reduceLE])
local macro_rules | `(tactic| walk_at "fn") => `(tactic| (refine ⟨rfl, ?_⟩; simp only [List.map_cons, List.map_nil, List.cons_append, List.nil_append, Nat.reduceSub, Nat.sub_self, List.replicate_succ, List.replicate_zero, List.replicate]))
section
open PySem
set_option linter.unusedVariables false
set_option linter.unusedSimpArgs false
set_option maxHeartbeats 1000000
abbrev CK (P : PEnv) (n : Nat) : Fun := fun f a H Q => CallOK P n f a H Q XF
/-- _law_cell_at: 0:_law_script 1:_law_k -/
def m_law_cell_at : MF := ⟨2, 2,
  [.ite (.cmp .lt (.loc 1) (.bi .len [.loc 0])) [.ret (.idx (.loc 0) (.loc 1))] [],
  .ret (.cst (.int 0))]⟩

/-- _law_whole: 0:_law_found -/
def m_law_whole : MF := ⟨1, 1,
  [.ret (.and2 (.isi (.loc 0) .int) (.not (.isi (.loc 0) .bool)))]⟩

/-- _law_mixed: 0:_law_script 1:_law_start 2:_law_many 3:_law_found 4:_law_more 5:_law_k -/
def m_law_mixed : MF := ⟨3, 6,
  [.asg 3 (.lst []),
  .asg 4 (.cst (.int 7)),
  .forr false [5] .range [.loc 2] [.asg 4 (.bin .mod (.bin .add (.bin .add (.bin .add (.bin .mul (.loc 4) (.cst (.int 48271))) (.call "_law_cell_at" [.loc 0, .bin .add (.loc 1) (.loc 5)])) (.bin .mul (.cst (.int 31)) (.loc 5))) (.cst (.int 1))) (.cst (.int 2147483647))),
    .expr (.meth .append (.loc 3) [.loc 4])],
  .ret (.loc 3)]⟩

def SCell (Φ : Fun) : Prop := ∀ (l : List Int) (k : Int) (H : Hp) (Q : PQ), 0 ≤ k → l.length ≤ 63 → Q (.int ((l[k.toNat]?).getD 0)) H → Φ "_law_cell_at" [.fro (l.map .int), .int k] H Q
theorem cell_at {Φ : Fun} {l : List Int} {k : Int} {H : Hp} {Q : PQ} (hk : 0 ≤ k) (hl : l.length ≤ 63) (h : Q (.int ((l[k.toNat]?).getD 0)) H) : wpF Φ m_law_cell_at [.fro (l.map .int), .int k] H Q := by
  walk_at "fn"
  simp only [m_law_cell_at]
  walk_at "wp"
  refine ⟨by simp; omega, ?_⟩
  refine sp_d (fun hlt => ?_) (fun hlt => ?_)
  · walk_at "wp"
    simp at hlt
    refine idx_at rfl (by simp; omega) hk (z := .int (l[k.toNat]'(by omega))) (by simp) ?_
    have e : l[k.toNat]? = some (l[k.toNat]'(by omega)) := List.getElem?_eq_getElem (by omega)
    rw [e] at h; exact h
  · walk_at "wp"
    simp at hlt
    have e : l[k.toNat]? = none := List.getElem?_eq_none (by omega)
    rw [e] at h; exact h

theorem whole {Φ : Fun} {i : Int} {H : Hp} {Q : PQ} (h : Q (.bool true) H) : wpF Φ m_law_whole [.int i] H Q := by
  walk_at "fn"
  simp only [m_law_whole]
  walk_at "wp"
  simp only [isi]
  walk_at "wp"
  exact h

/-! powers -/
/-! the cells -/
structure Cells (cs : List Int) (n : Nat) : Prop where
  len : cs.length = n
  bd : ∀ c ∈ cs, 0 ≤ c ∧ c < 2147483647
def SMixed (Φ : Fun) : Prop := ∀ (l : List Int) (n : Nat) (H : Hp) (Q : PQ), l.length ≤ 63 → n ≤ 1000 → (∀ cs, Cells cs n → Q (.ref H.length) (H ++ [.list (cs.map .int)])) → Φ "_law_mixed" [.fro (l.map .int), .int 0, .int n] H Q
theorem mixed {Φ : Fun} (c : SCell Φ) {l : List Int} {n : Nat} {H : Hp} {Q : PQ} (hl : l.length ≤ 63) (hn : n ≤ 1000) (h : ∀ cs, Cells cs n → Q (.ref H.length) (H ++ [.list (cs.map .int)])) : wpF Φ m_law_mixed [.fro (l.map .int), .int 0, .int n] H Q := by
  walk_at "fn"
  simp only [m_law_mixed]
  walk_at "wp"
  refine ⟨by decide, by omega, by omega, ?_⟩
  refine for_intro (fun i loc H' => ∃ (cs : List Int) (more : Int) (o : Option AV), Cells cs i ∧ 0 ≤ more ∧ more < 2147483647 ∧ H' = H ++ [.list (cs.map .int)] ∧ loc = [some (.fro (l.map .int)), some (.int 0), some (.int n), some (.ref H.length), some (.int more), o]) ⟨[], 7, none, ⟨rfl, fun c hc => by simp at hc⟩, by omega, by omega, rfl, rfl⟩ ?_
  rintro i loc H' ⟨cs, more, o, hc, h0, h1, rfl, rfl⟩
  refine ⟨trivial, fun y hy => ?_, fun hi => ?_⟩
  · have hlt : i < n := by
      have := (List.getElem?_eq_some_iff.mp hy).1
      simpa using this
    rw [List.getElem?_map, List.getElem?_range (by simpa using hlt)] at hy
    simp only [Option.map_some, Option.some.injEq] at hy
    subst hy
    refine ⟨[.int i], rfl, ?_⟩
    walk_at "wp"
    refine ⟨mulOk_left (Nat.lt_of_le_of_lt (show more.natAbs ≤ 2147483647 by omega) (by decide)), ?_⟩
    refine c l _ _ _ (by omega) hl ?_
    walk_at "wp"
    simp only [fmod_nn (show (0 : Int) ≤ 2147483647 by omega)]
    refine ⟨mulOk_left (by decide), by decide, ?_⟩
    generalize hx : (more * 48271 + (l[((0 : Int) + i).toNat]?).getD 0 + 31 * i + 1) % 2147483647 = x
    have x0 : 0 ≤ x := by rw [← hx]; exact Int.emod_nonneg _ (by decide)
    have x1 : x < 2147483647 := by rw [← hx]; exact Int.emod_lt_of_pos _ (by decide)
    have hg : (H ++ [AObj.list (cs.map AV.int)])[H.length]? = some (.list (cs.map AV.int)) := by simp
    refine ⟨isL_ref hg, ?_⟩
    rw [m_append hg]
    refine ⟨by rw [List.length_map, hc.len]; unfold sizeLine; omega, ?_⟩
    walk_at "wp"
    refine for_next ⟨cs ++ [x], x, some (.int i), ⟨by simp [hc.len], fun c' hc' => ?_⟩, x0, x1, ?_, rfl⟩
    · rcases List.mem_append.mp hc' with m | m
      · exact hc.bd c' m
      · simp at m; rw [m]; exact ⟨x0, x1⟩
    · rw [List.set_append_right _ _ (Nat.le_refl _)]; simp
  · walk_at "wp"
    have : i = n := by simpa using hi
    subst this
    exact h cs hc
end
section
open PySem PySem.W PyProof.Rows
set_option linter.unusedVariables false
set_option Elab.async false
set_option maxRecDepth 100000
set_option maxHeartbeats 8000000
open_top hd for PySem.Challenge.rw_uf030003_03
def c_BOUND : AV := .int 1000000000000000000000000000000
def c_WORDS : AV := .tup [.str "first", .str "prime", .str "split", .str "power", .str "root"]
def c_MOST_TIMES : AV := .int 100
def gt : GT := ⟨["is_whole", "are_powers", "are_facts", "is_row", "_law_cell_at", "_law_mixed", "_law_rising", "_law_within", "_law_row_right", "_law_good", "_law_odd", "_law_powers", "_law_powers_spoilt", "_law_facts", "_law_thing", "law"], [("BOUND", c_BOUND), ("WORDS", c_WORDS), ("MOST_TIMES", c_MOST_TIMES)]⟩
/-- is_whole: 0:thing 1:least 2:most -/
def m_is_whole : MF := ⟨3, 3,
  [.ret (.and2 (.isi (.loc 0) .int) (.and2 (.not (.isi (.loc 0) .bool)) (.cmp2 .le .le (.loc 1) (.loc 0) (.loc 2))))]⟩

/-- are_powers: 0:thing 1:ahead 2:pair -/
def m_are_powers : MF := ⟨1, 3,
  [.ite (.or2 (.not (.isi (.loc 0) .tuple)) (.cmp .eq (.bi .len [.loc 0]) (.cst (.int 0)))) [.ret (.cst (.bool false))] [],
  .asg 1 (.cst (.int 1)),
  .forr false [2] .plain [.loc 0] [.ite (.or2 (.not (.isi (.loc 2) .tuple)) (.cmp .ne (.bi .len [.loc 2]) (.cst (.int 2)))) [.ret (.cst (.bool false))] [],
    .ite (.or2 (.not (.call "is_whole" [.idx (.loc 2) (.cst (.int 0)), .bin .add (.loc 1) (.cst (.int 1)), .cst c_BOUND])) (.not (.call "is_whole" [.idx (.loc 2) (.cst (.int 1)), .cst (.int 1), .cst c_MOST_TIMES]))) [.ret (.cst (.bool false))] [],
    .asg 1 (.idx (.loc 2) (.cst (.int 0)))],
  .ret (.cst (.bool true))]⟩

/-- are_facts: 0:word 1:facts -/
def m_are_facts : MF := ⟨2, 2,
  [.ite (.cmp .eq (.loc 0) (.cst (.str "first"))) [.ret (.cmp .eq (.bi .len [.loc 1]) (.cst (.int 0)))] [],
  .ite (.cmp .eq (.loc 0) (.cst (.str "prime"))) [.ret (.and2 (.cmp .eq (.bi .len [.loc 1]) (.cst (.int 2))) (.and2 (.call "is_whole" [.idx (.loc 1) (.cst (.int 0)), .cst (.int 1), .cst c_BOUND]) (.call "are_powers" [.idx (.loc 1) (.cst (.int 1))])))] [],
  .ite (.cmp .eq (.loc 0) (.cst (.str "split"))) [.ret (.and2 (.cmp .eq (.bi .len [.loc 1]) (.cst (.int 2))) (.and2 (.call "is_whole" [.idx (.loc 1) (.cst (.int 0)), .cst (.int 2), .cst c_BOUND]) (.call "is_whole" [.idx (.loc 1) (.cst (.int 1)), .cst (.int 2), .cst c_BOUND])))] [],
  .ret (.and2 (.cmp .eq (.bi .len [.loc 1]) (.cst (.int 1))) (.call "is_whole" [.idx (.loc 1) (.cst (.int 0)), .cst (.int 1), .cst c_BOUND]))]⟩

/-- is_row: 0:thing -/
def m_is_row : MF := ⟨1, 1,
  [.ite (.or2 (.not (.isi (.loc 0) .tuple)) (.or2 (.cmp .ne (.bi .len [.loc 0]) (.cst (.int 3))) (.not (.call "is_whole" [.idx (.loc 0) (.cst (.int 0)), .cst (.int 2), .cst c_BOUND])))) [.ret (.cst (.bool false))] [],
  .ite (.or2 (.not (.isi (.idx (.loc 0) (.cst (.int 1))) .str)) (.or2 (.cmp .notIn (.idx (.loc 0) (.cst (.int 1))) (.cst c_WORDS)) (.not (.isi (.idx (.loc 0) (.cst (.int 2))) .tuple)))) [.ret (.cst (.bool false))] [],
  .ret (.call "are_facts" [.idx (.loc 0) (.cst (.int 1)), .idx (.loc 0) (.cst (.int 2))])]⟩

/-- _law_rising: 0:_law_powers_here 1:_law_last 2:_law_pair -/
def m_law_rising : MF := ⟨1, 3,
  [.asg 1 (.cst (.int 1)),
  .forr false [2] .plain [.loc 0] [.ite (.or2 (.not (.isi (.loc 2) .tuple)) (.or2 (.cmp .ne (.bi .len [.loc 2]) (.cst (.int 2))) (.not (.call "_law_within" [.idx (.loc 2) (.cst (.int 0)), .bin .add (.loc 1) (.cst (.int 1)), .bin .pow (.cst (.int 10)) (.cst (.int 30))])))) [.ret (.cst (.bool false))] [],
    .ite (.not (.call "_law_within" [.idx (.loc 2) (.cst (.int 1)), .cst (.int 1), .cst (.int 100)])) [.ret (.cst (.bool false))] [],
    .asg 1 (.idx (.loc 2) (.cst (.int 0)))],
  .ret (.cst (.bool true))]⟩

/-- _law_within: 0:_law_thing_here 1:_law_low 2:_law_high -/
def m_law_within : MF := ⟨3, 3,
  [.ret (.and2 (.isi (.loc 0) .int) (.and2 (.not (.isi (.loc 0) .bool)) (.cmp2 .le .le (.loc 1) (.loc 0) (.loc 2))))]⟩

/-- _law_row_right: 0:_law_row 1:_law_facts_here -/
def m_law_row_right : MF := ⟨1, 2,
  [.ite (.or2 (.not (.isi (.loc 0) .tuple)) (.or2 (.cmp .ne (.bi .len [.loc 0]) (.cst (.int 3))) (.not (.call "_law_within" [.idx (.loc 0) (.cst (.int 0)), .cst (.int 2), .bin .pow (.cst (.int 10)) (.cst (.int 30))])))) [.ret (.cst (.bool false))] [],
  .ite (.or2 (.not (.isi (.idx (.loc 0) (.cst (.int 1))) .str)) (.not (.isi (.idx (.loc 0) (.cst (.int 2))) .tuple))) [.ret (.cst (.bool false))] [],
  .asg 1 (.idx (.loc 0) (.cst (.int 2))),
  .ite (.cmp .eq (.idx (.loc 0) (.cst (.int 1))) (.cst (.str "first"))) [.ret (.cmp .eq (.loc 1) (.tup []))] [],
  .ite (.cmp .eq (.idx (.loc 0) (.cst (.int 1))) (.cst (.str "split"))) [.ret (.and2 (.cmp .eq (.bi .len [.loc 1]) (.cst (.int 2))) (.and2 (.call "_law_within" [.idx (.loc 1) (.cst (.int 0)), .cst (.int 2), .bin .pow (.cst (.int 10)) (.cst (.int 30))]) (.call "_law_within" [.idx (.loc 1) (.cst (.int 1)), .cst (.int 2), .bin .pow (.cst (.int 10)) (.cst (.int 30))])))] [],
  .ite (.or2 (.cmp .eq (.idx (.loc 0) (.cst (.int 1))) (.cst (.str "power"))) (.cmp .eq (.idx (.loc 0) (.cst (.int 1))) (.cst (.str "root")))) [.ret (.and2 (.cmp .eq (.bi .len [.loc 1]) (.cst (.int 1))) (.call "_law_within" [.idx (.loc 1) (.cst (.int 0)), .cst (.int 1), .bin .pow (.cst (.int 10)) (.cst (.int 30))]))] [],
  .ite (.or2 (.cmp .ne (.idx (.loc 0) (.cst (.int 1))) (.cst (.str "prime"))) (.or2 (.cmp .ne (.bi .len [.loc 1]) (.cst (.int 2))) (.not (.call "_law_within" [.idx (.loc 1) (.cst (.int 0)), .cst (.int 1), .bin .pow (.cst (.int 10)) (.cst (.int 30))])))) [.ret (.cst (.bool false))] [],
  .ret (.and2 (.isi (.idx (.loc 1) (.cst (.int 1))) .tuple) (.and2 (.cmp .gt (.bi .len [.idx (.loc 1) (.cst (.int 1))]) (.cst (.int 0))) (.call "_law_rising" [.idx (.loc 1) (.cst (.int 1))])))]⟩

/-- _law_good: 0:_law_cell 1:_law_low -/
def m_law_good : MF := ⟨2, 2,
  [.ite (.cmp .eq (.bin .mod (.loc 0) (.cst (.int 4))) (.cst (.int 0))) [.ret (.idx (.lst [.loc 1, .bin .add (.loc 1) (.cst (.int 1)), .bin .pow (.cst (.int 10)) (.cst (.int 30)), .bin .sub (.bin .pow (.cst (.int 10)) (.cst (.int 30))) (.cst (.int 1))]) (.bin .mod (.bin .fdiv (.loc 0) (.cst (.int 4))) (.cst (.int 4))))] [],
  .ret (.bin .add (.loc 1) (.bin .mod (.bin .mul (.bin .fdiv (.loc 0) (.cst (.int 4))) (.loc 0)) (.idx (.lst [.cst (.int 1000), .bin .pow (.cst (.int 10)) (.cst (.int 20))]) (.bin .mod (.bin .fdiv (.loc 0) (.cst (.int 4))) (.cst (.int 2))))))]⟩

/-- _law_odd: 0:_law_cell 1:_law_low -/
def m_law_odd : MF := ⟨2, 2,
  [.ret (.idx (.lst [.bin .sub (.loc 1) (.cst (.int 1)), .bin .sub (.loc 1) (.cst (.int 1)), .bin .add (.bin .pow (.cst (.int 10)) (.cst (.int 30))) (.cst (.int 1)), .cst (.bool true), .cst (.str "2"), .cst .none, .tup [.bin .add (.loc 1) (.cst (.int 1))], .lst [.cst (.int 3)], .bin .sub (.cst (.int 0)) (.cst (.int 5)), .cst (.int 0)]) (.bin .mod (.loc 0) (.cst (.int 10))))]⟩

/-- _law_powers: 0:_law_cells 1:_law_powers_here 2:_law_last 3:_law_k -/
def m_law_powers : MF := ⟨1, 4,
  [.asg 1 (.lst []),
  .asg 2 (.cst (.int 1)),
  .forr false [3] .range [.bin .add (.cst (.int 1)) (.bin .mod (.idx (.loc 0) (.cst (.int 0))) (.cst (.int 4)))] [.asg 2 (.bin .add (.bin .add (.loc 2) (.cst (.int 1))) (.bin .mod (.idx (.loc 0) (.bin .add (.cst (.int 1)) (.loc 3))) (.idx (.lst [.cst (.int 3), .cst (.int 1000003)]) (.bin .mod (.bin .fdiv (.idx (.loc 0) (.bin .add (.cst (.int 1)) (.loc 3))) (.cst (.int 9))) (.cst (.int 2)))))),
    .expr (.meth .append (.loc 1) [.tup [.loc 2, .idx (.lst [.bin .add (.cst (.int 1)) (.bin .mod (.bin .fdiv (.idx (.loc 0) (.bin .add (.cst (.int 1)) (.loc 3))) (.cst (.int 5))) (.cst (.int 100))), .cst (.int 1), .cst (.int 100)]) (.bin .mod (.bin .fdiv (.idx (.loc 0) (.bin .add (.cst (.int 1)) (.loc 3))) (.cst (.int 500))) (.cst (.int 3)))]])],
  .ret (.loc 1)]⟩

/-- _law_powers_spoilt: 0:_law_powers_here 1:_law_cell 2:_law_at 3:_law_q 4:_law_times 5:_law_way 6:_law_some -/
def m_law_powers_spoilt : MF := ⟨2, 7,
  [.asg 2 (.bin .mod (.loc 1) (.bi .len [.loc 0])),
  .asgT [3, 4] (.idx (.loc 0) (.loc 2)),
  .asg 5 (.bin .mod (.bin .fdiv (.loc 1) (.cst (.int 4))) (.cst (.int 14))),
  .asg 6 (.lst [.tup [.loc 3, .cst (.int 0)], .tup [.loc 3, .cst (.int 101)], .lst [.loc 3, .loc 4], .tup [.loc 3, .loc 4, .cst (.int 1)], .tup [.cst (.bool true), .loc 4], .tup [.loc 3, .cst (.bool true)], .tup [.cst (.int 1), .loc 4], .loc 3, .tup [.loc 3]]),
  .ite (.cmp .lt (.loc 5) (.cst (.int 9))) [.ret (.bi .tuple [.bin .add (.bin .add (.slc (.loc 0) [] [.loc 2]) (.lst [.idx (.loc 6) (.loc 5)])) (.slc (.loc 0) [.bin .add (.loc 2) (.cst (.int 1))] [])])] [],
  .ite (.cmp .eq (.loc 5) (.cst (.int 9))) [.ret (.bi .tuple [.bin .add (.bin .add (.slc (.loc 0) [] [.loc 2]) (.lst [.idx (.loc 0) (.loc 2)])) (.slc (.loc 0) [.loc 2] [])])] [],
  .ite (.and2 (.cmp .eq (.loc 5) (.cst (.int 10))) (.cmp .gt (.loc 2) (.cst (.int 0)))) [.ret (.bi .tuple [.bin .add (.bin .add (.slc (.loc 0) [] [.bin .sub (.loc 2) (.cst (.int 1))]) (.lst [.idx (.loc 0) (.loc 2), .idx (.loc 0) (.bin .sub (.loc 2) (.cst (.int 1)))])) (.slc (.loc 0) [.bin .add (.loc 2) (.cst (.int 1))] [])])] [],
  .ite (.cmp .eq (.loc 5) (.cst (.int 11))) [.ret (.bi .tuple [.bin .add (.loc 0) (.lst [.tup [.bin .add (.bin .pow (.cst (.int 10)) (.cst (.int 30))) (.bin .mod (.bin .fdiv (.loc 1) (.cst (.int 64))) (.cst (.int 2))), .cst (.int 1)]])])] [],
  .ite (.cmp .eq (.loc 5) (.cst (.int 12))) [.ret (.tup [])] [],
  .ret (.idx (.lst [.bi .list [.loc 0], .cst .none, .idx (.loc 0) (.cst (.int 0))]) (.bin .mod (.bin .fdiv (.loc 1) (.cst (.int 64))) (.cst (.int 3))))]⟩

/-- _law_facts: 0:_law_word 1:_law_cells 2:_law_place 3:_law_first -/
def m_law_facts : MF := ⟨3, 4,
  [.ite (.cmp .eq (.loc 2) (.cst (.int 3))) [.ret (.idx (.lst [.cst .none, .lst [], .cst (.int 3), .cst (.str ""), .tup [.cst (.bool true)], .lst [.cst (.int 2), .cst (.int 3)], .tup [.cst (.int 2), .cst (.int 3), .cst (.int 4)], .tup []]) (.bin .mod (.idx (.loc 1) (.cst (.int 5))) (.cst (.int 8))))] [],
  .asg 3 (.call "_law_good" [.idx (.loc 1) (.cst (.int 6)), .cst (.int 2)]),
  .ite (.cmp .eq (.loc 2) (.cst (.int 4))) [.asg 3 (.call "_law_odd" [.idx (.loc 1) (.cst (.int 6)), .idx (.lst [.cst (.int 1), .cst (.int 2)]) (.bi .int [.cmp .eq (.loc 0) (.cst (.str "split"))])])] [],
  .ite (.cmp .eq (.loc 0) (.cst (.str "split"))) [.ret (.idx (.lst [.tup [.loc 3, .call "_law_good" [.idx (.loc 1) (.cst (.int 7)), .cst (.int 2)]], .tup [.call "_law_good" [.idx (.loc 1) (.cst (.int 7)), .cst (.int 2)], .loc 3]]) (.bin .mod (.bin .fdiv (.idx (.loc 1) (.cst (.int 7))) (.cst (.int 32))) (.cst (.int 2))))] [],
  .ite (.or2 (.cmp .eq (.loc 0) (.cst (.str "power"))) (.cmp .eq (.loc 0) (.cst (.str "root")))) [.ret (.tup [.idx (.lst [.loc 3, .cst (.int 1)]) (.bi .int [.and2 (.cmp .ne (.loc 2) (.cst (.int 4))) (.cmp .eq (.bin .mod (.idx (.loc 1) (.cst (.int 6))) (.cst (.int 9))) (.cst (.int 0)))])])] [],
  .ite (.and2 (.cmp .eq (.loc 0) (.cst (.str "prime"))) (.cmp .eq (.loc 2) (.cst (.int 5)))) [.ret (.tup [.loc 3, .call "_law_powers_spoilt" [.call "_law_powers" [.loc 1], .idx (.loc 1) (.cst (.int 8))]])] [],
  .ite (.cmp .eq (.loc 0) (.cst (.str "prime"))) [.ret (.tup [.loc 3, .bi .tuple [.call "_law_powers" [.loc 1]]])] [],
  .ret (.tup [])]⟩

/-- _law_thing: 0:_law_cells 1:_law_place 2:_law_word 3:_law_facts_here 4:_law_number 5:_law_row -/
def m_law_thing : MF := ⟨1, 6,
  [.asg 1 (.idx (.lst [.cst (.int 0), .cst (.int 1), .cst (.int 2), .cst (.int 3), .cst (.int 4), .cst (.int 4), .cst (.int 5), .cst (.int 5), .cst (.int 5), .cst (.int 5), .cst (.int 6)]) (.bin .mod (.idx (.loc 0) (.cst (.int 11))) (.cst (.int 11)))),
  .asg 2 (.idx (.lst [.cst (.str "first"), .cst (.str "prime"), .cst (.str "split"), .cst (.str "split"), .cst (.str "power"), .cst (.str "root"), .cst (.str "prime"), .cst (.str "prime")]) (.bin .mod (.idx (.loc 0) (.cst (.int 9))) (.cst (.int 8)))),
  .ite (.cmp .eq (.loc 1) (.cst (.int 5))) [.asg 2 (.cst (.str "prime"))] [],
  .asg 3 (.call "_law_facts" [.loc 2, .loc 0, .loc 1]),
  .ite (.cmp .eq (.loc 1) (.cst (.int 2))) [.asg 2 (.idx (.lst [.cst (.str "Prime"), .cst (.str ""), .cst .none, .cst (.int 2), .cst (.str "primes"), .cst (.str "prim"), .cst (.str "first"), .cst (.str "split")]) (.bin .mod (.bin .fdiv (.idx (.loc 0) (.cst (.int 9))) (.cst (.int 8))) (.cst (.int 8))))] [],
  .asg 4 (.call "_law_good" [.idx (.loc 0) (.cst (.int 10)), .cst (.int 2)]),
  .ite (.cmp .eq (.loc 1) (.cst (.int 1))) [.asg 4 (.call "_law_odd" [.idx (.loc 0) (.cst (.int 10)), .cst (.int 2)])] [],
  .asg 5 (.tup [.loc 4, .loc 2, .loc 3]),
  .ite (.cmp .eq (.loc 1) (.cst (.int 6))) [.ret (.idx (.lst [.bi .list [.loc 5], .bin .add (.loc 5) (.tup [.cst (.int 2)]), .slcT (.loc 5) [] [.cst (.int 2)], .tup [.loc 5], .cst .none, .cst (.str "row"), .tup [], .cst (.int 7)]) (.bin .mod (.idx (.loc 0) (.cst (.int 10))) (.cst (.int 8))))] [],
  .ret (.loc 5)]⟩

/-- law: 0:_law_script 1:_law_cells 2:_law_k 3:_law_thing_here 4:_law_found -/
def m_law : MF := ⟨1, 5,
  [.asg 1 (.call "_law_mixed" [.loc 0, .cst (.int 0), .cst (.int 60)]),
  .forr false [2] .range [.cst (.int 5)] [.asg 3 (.call "_law_thing" [.slc (.loc 1) [.bin .mul (.cst (.int 12)) (.loc 2)] [.bin .add (.bin .mul (.cst (.int 12)) (.loc 2)) (.cst (.int 12))]]),
    .asg 4 (.call "is_row" [.loc 3]),
    .ite (.or2 (.not (.isi (.loc 4) .bool)) (.cmp .ne (.loc 4) (.call "_law_row_right" [.loc 3]))) [.ret (.cst (.bool false))] []],
  .ret (.cst (.bool true))]⟩
theorem ok_is_whole : FnOK hd.view_39 gt "is_whole" ["thing", "least", "most"] ["thing", "least", "most"] m_is_whole :=
  ⟨⟨_, List.mem_of_getElem? (i := 0) rfl, rfl, rfl, rfl, rfl, rfl,
  (.cons (.ret (.and3 (.isi ⟨rfl, rfl⟩ ⟨rfl, rfl⟩ (.loc rfl rfl rfl)) (.and2 (.not (.isi ⟨rfl, rfl⟩ ⟨rfl, rfl⟩ (.loc rfl rfl rfl))) (.cmp2 (.loc rfl rfl rfl) (.loc rfl rfl rfl) (.loc rfl rfl rfl)))))
  .nil),
  rfl, rfl, fun _ _ _ vals hv => match vals, hv with | [v0, v1, v2], _ => rfl⟩⟩

theorem ok_are_powers : FnOK hd.view_39 gt "are_powers" ["thing", "ahead", "pair"] ["thing"] m_are_powers :=
  ⟨⟨_, List.mem_of_getElem? (i := 1) rfl, rfl, rfl, rfl, rfl, rfl,
  (.cons (.ite (.or2 (.not (.isi ⟨rfl, rfl⟩ ⟨rfl, rfl⟩ (.loc rfl rfl rfl))) (.cmp (.bi ⟨rfl, rfl⟩ (.loc rfl rfl rfl) .nil) .int)) (.cons (.ret .bool)
    .nil) .nil)
  (.cons (.asg (Slot.of rfl) .int (fun _ => rfl))
  (.cons (.for1 (Slot.of rfl) (.plain (.loc rfl rfl rfl)) (.cons (.ite (.or2 (.not (.isi ⟨rfl, rfl⟩ ⟨rfl, rfl⟩ (.loc rfl rfl rfl))) (.cmp (.bi ⟨rfl, rfl⟩ (.loc rfl rfl rfl) .nil) .int)) (.cons (.ret .bool)
      .nil) .nil)
    (.cons (.ite (.or2 (.not (.call rfl ⟨rfl, rfl⟩ (.idx (.loc rfl rfl rfl) .int) (.cons (.bin (.loc rfl rfl rfl) .int) (.cons (.glob rfl ⟨rfl, rfl⟩) .nil)))) (.not (.call rfl ⟨rfl, rfl⟩ (.idx (.loc rfl rfl rfl) .int) (.cons .int (.cons (.glob rfl ⟨rfl, rfl⟩) .nil))))) (.cons (.ret .bool)
      .nil) .nil)
    (.cons (.asg (Slot.of rfl) (.idx (.loc rfl rfl rfl) .int) (fun _ => rfl))
    .nil))))
  (.cons (.ret .bool)
  .nil)))),
  rfl, rfl, fun _ _ _ vals hv => match vals, hv with | [v0], _ => rfl⟩⟩

theorem ok_are_facts : FnOK hd.view_39 gt "are_facts" ["word", "facts"] ["word", "facts"] m_are_facts :=
  ⟨⟨_, List.mem_of_getElem? (i := 2) rfl, rfl, rfl, rfl, rfl, rfl,
  (.cons (.ite (.cmp (.loc rfl rfl rfl) (.str (by decide +kernel))) (.cons (.ret (.cmp (.bi ⟨rfl, rfl⟩ (.loc rfl rfl rfl) .nil) .int))
    .nil) .nil)
  (.cons (.ite (.cmp (.loc rfl rfl rfl) (.str (by decide +kernel))) (.cons (.ret (.and3 (.cmp (.bi ⟨rfl, rfl⟩ (.loc rfl rfl rfl) .nil) .int) (.and2 (.call rfl ⟨rfl, rfl⟩ (.idx (.loc rfl rfl rfl) .int) (.cons .int (.cons (.glob rfl ⟨rfl, rfl⟩) .nil))) (.call rfl ⟨rfl, rfl⟩ (.idx (.loc rfl rfl rfl) .int) .nil))))
    .nil) .nil)
  (.cons (.ite (.cmp (.loc rfl rfl rfl) (.str (by decide +kernel))) (.cons (.ret (.and3 (.cmp (.bi ⟨rfl, rfl⟩ (.loc rfl rfl rfl) .nil) .int) (.and2 (.call rfl ⟨rfl, rfl⟩ (.idx (.loc rfl rfl rfl) .int) (.cons .int (.cons (.glob rfl ⟨rfl, rfl⟩) .nil))) (.call rfl ⟨rfl, rfl⟩ (.idx (.loc rfl rfl rfl) .int) (.cons .int (.cons (.glob rfl ⟨rfl, rfl⟩) .nil))))))
    .nil) .nil)
  (.cons (.ret (.and2 (.cmp (.bi ⟨rfl, rfl⟩ (.loc rfl rfl rfl) .nil) .int) (.call rfl ⟨rfl, rfl⟩ (.idx (.loc rfl rfl rfl) .int) (.cons .int (.cons (.glob rfl ⟨rfl, rfl⟩) .nil)))))
  .nil)))),
  rfl, rfl, fun _ _ _ vals hv => match vals, hv with | [v0, v1], _ => rfl⟩⟩

theorem ok_is_row : FnOK hd.view_39 gt "is_row" ["thing"] ["thing"] m_is_row :=
  ⟨⟨_, List.mem_of_getElem? (i := 3) rfl, rfl, rfl, rfl, rfl, rfl,
  (.cons (.ite (.or3 (.not (.isi ⟨rfl, rfl⟩ ⟨rfl, rfl⟩ (.loc rfl rfl rfl))) (.or2 (.cmp (.bi ⟨rfl, rfl⟩ (.loc rfl rfl rfl) .nil) .int) (.not (.call rfl ⟨rfl, rfl⟩ (.idx (.loc rfl rfl rfl) .int) (.cons .int (.cons (.glob rfl ⟨rfl, rfl⟩) .nil)))))) (.cons (.ret .bool)
    .nil) .nil)
  (.cons (.ite (.or3 (.not (.isi ⟨rfl, rfl⟩ ⟨rfl, rfl⟩ (.idx (.loc rfl rfl rfl) .int))) (.or2 (.cmp (.idx (.loc rfl rfl rfl) .int) (.glob rfl ⟨rfl, rfl⟩)) (.not (.isi ⟨rfl, rfl⟩ ⟨rfl, rfl⟩ (.idx (.loc rfl rfl rfl) .int))))) (.cons (.ret .bool)
    .nil) .nil)
  (.cons (.ret (.call rfl ⟨rfl, rfl⟩ (.idx (.loc rfl rfl rfl) .int) (.cons (.idx (.loc rfl rfl rfl) .int) .nil)))
  .nil))),
  rfl, rfl, fun _ _ _ vals hv => match vals, hv with | [v0], _ => rfl⟩⟩

theorem ok_law_cell_at : FnOK hd.view_39 gt "_law_cell_at" ["_law_script", "_law_k"] ["_law_script", "_law_k"] m_law_cell_at :=
  ⟨⟨_, List.mem_of_getElem? (i := 4) rfl, rfl, rfl, rfl, rfl, rfl,
  (.cons (.ite (.cmp (.loc rfl rfl rfl) (.bi ⟨rfl, rfl⟩ (.loc rfl rfl rfl) .nil)) (.cons (.ret (.idx (.loc rfl rfl rfl) (.loc rfl rfl rfl)))
    .nil) .nil)
  (.cons (.ret .int)
  .nil)),
  rfl, rfl, fun _ _ _ vals hv => match vals, hv with | [v0, v1], _ => rfl⟩⟩

theorem ok_law_mixed : FnOK hd.view_39 gt "_law_mixed" ["_law_script", "_law_start", "_law_many", "_law_found", "_law_more", "_law_k"] ["_law_script", "_law_start", "_law_many"] m_law_mixed :=
  ⟨⟨_, List.mem_of_getElem? (i := 5) rfl, rfl, rfl, rfl, rfl, rfl,
  (.cons (.asg (Slot.of rfl) (.lst .nil) (fun _ => rfl))
  (.cons (.asg (Slot.of rfl) .int (fun _ => rfl))
  (.cons (.for1 (Slot.of rfl) (.ty (t := .range) ⟨rfl, rfl⟩ (.loc rfl rfl rfl) .nil) (.cons (.asg (Slot.of rfl) (.bin (.bin (.bin (.bin (.bin (.loc rfl rfl rfl) .int) (.call rfl ⟨rfl, rfl⟩ (.loc rfl rfl rfl) (.cons (.bin (.loc rfl rfl rfl) (.loc rfl rfl rfl)) .nil))) (.bin .int (.loc rfl rfl rfl))) .int) .int) (fun _ => rfl))
    (.cons (.expr (.meth (.loc rfl rfl rfl) (.loc rfl rfl rfl) .nil ⟨fun _ => rfl⟩) (fun _ => rfl))
    .nil)))
  (.cons (.ret (.loc rfl rfl rfl))
  .nil)))),
  rfl, rfl, fun _ _ _ vals hv => match vals, hv with | [v0, v1, v2], _ => rfl⟩⟩

theorem ok_law_rising : FnOK hd.view_39 gt "_law_rising" ["_law_powers_here", "_law_last", "_law_pair"] ["_law_powers_here"] m_law_rising :=
  ⟨⟨_, List.mem_of_getElem? (i := 6) rfl, rfl, rfl, rfl, rfl, rfl,
  (.cons (.asg (Slot.of rfl) .int (fun _ => rfl))
  (.cons (.for1 (Slot.of rfl) (.plain (.loc rfl rfl rfl)) (.cons (.ite (.or3 (.not (.isi ⟨rfl, rfl⟩ ⟨rfl, rfl⟩ (.loc rfl rfl rfl))) (.or2 (.cmp (.bi ⟨rfl, rfl⟩ (.loc rfl rfl rfl) .nil) .int) (.not (.call rfl ⟨rfl, rfl⟩ (.idx (.loc rfl rfl rfl) .int) (.cons (.bin (.loc rfl rfl rfl) .int) (.cons (.bin .int .int) .nil)))))) (.cons (.ret .bool)
      .nil) .nil)
    (.cons (.ite (.not (.call rfl ⟨rfl, rfl⟩ (.idx (.loc rfl rfl rfl) .int) (.cons .int (.cons .int .nil)))) (.cons (.ret .bool)
      .nil) .nil)
    (.cons (.asg (Slot.of rfl) (.idx (.loc rfl rfl rfl) .int) (fun _ => rfl))
    .nil))))
  (.cons (.ret .bool)
  .nil))),
  rfl, rfl, fun _ _ _ vals hv => match vals, hv with | [v0], _ => rfl⟩⟩

theorem ok_law_within : FnOK hd.view_39 gt "_law_within" ["_law_thing_here", "_law_low", "_law_high"] ["_law_thing_here", "_law_low", "_law_high"] m_law_within :=
  ⟨⟨_, List.mem_of_getElem? (i := 7) rfl, rfl, rfl, rfl, rfl, rfl,
  (.cons (.ret (.and3 (.isi ⟨rfl, rfl⟩ ⟨rfl, rfl⟩ (.loc rfl rfl rfl)) (.and2 (.not (.isi ⟨rfl, rfl⟩ ⟨rfl, rfl⟩ (.loc rfl rfl rfl))) (.cmp2 (.loc rfl rfl rfl) (.loc rfl rfl rfl) (.loc rfl rfl rfl)))))
  .nil),
  rfl, rfl, fun _ _ _ vals hv => match vals, hv with | [v0, v1, v2], _ => rfl⟩⟩

theorem ok_law_row_right : FnOK hd.view_39 gt "_law_row_right" ["_law_row", "_law_facts_here"] ["_law_row"] m_law_row_right :=
  ⟨⟨_, List.mem_of_getElem? (i := 8) rfl, rfl, rfl, rfl, rfl, rfl,
  (.cons (.ite (.or3 (.not (.isi ⟨rfl, rfl⟩ ⟨rfl, rfl⟩ (.loc rfl rfl rfl))) (.or2 (.cmp (.bi ⟨rfl, rfl⟩ (.loc rfl rfl rfl) .nil) .int) (.not (.call rfl ⟨rfl, rfl⟩ (.idx (.loc rfl rfl rfl) .int) (.cons .int (.cons (.bin .int .int) .nil)))))) (.cons (.ret .bool)
    .nil) .nil)
  (.cons (.ite (.or2 (.not (.isi ⟨rfl, rfl⟩ ⟨rfl, rfl⟩ (.idx (.loc rfl rfl rfl) .int))) (.not (.isi ⟨rfl, rfl⟩ ⟨rfl, rfl⟩ (.idx (.loc rfl rfl rfl) .int)))) (.cons (.ret .bool)
    .nil) .nil)
  (.cons (.asg (Slot.of rfl) (.idx (.loc rfl rfl rfl) .int) (fun _ => rfl))
  (.cons (.ite (.cmp (.idx (.loc rfl rfl rfl) .int) (.str (by decide +kernel))) (.cons (.ret (.cmp (.loc rfl rfl rfl) (.tup .nil)))
    .nil) .nil)
  (.cons (.ite (.cmp (.idx (.loc rfl rfl rfl) .int) (.str (by decide +kernel))) (.cons (.ret (.and3 (.cmp (.bi ⟨rfl, rfl⟩ (.loc rfl rfl rfl) .nil) .int) (.and2 (.call rfl ⟨rfl, rfl⟩ (.idx (.loc rfl rfl rfl) .int) (.cons .int (.cons (.bin .int .int) .nil))) (.call rfl ⟨rfl, rfl⟩ (.idx (.loc rfl rfl rfl) .int) (.cons .int (.cons (.bin .int .int) .nil))))))
    .nil) .nil)
  (.cons (.ite (.or2 (.cmp (.idx (.loc rfl rfl rfl) .int) (.str (by decide +kernel))) (.cmp (.idx (.loc rfl rfl rfl) .int) (.str (by decide +kernel)))) (.cons (.ret (.and2 (.cmp (.bi ⟨rfl, rfl⟩ (.loc rfl rfl rfl) .nil) .int) (.call rfl ⟨rfl, rfl⟩ (.idx (.loc rfl rfl rfl) .int) (.cons .int (.cons (.bin .int .int) .nil)))))
    .nil) .nil)
  (.cons (.ite (.or3 (.cmp (.idx (.loc rfl rfl rfl) .int) (.str (by decide +kernel))) (.or2 (.cmp (.bi ⟨rfl, rfl⟩ (.loc rfl rfl rfl) .nil) .int) (.not (.call rfl ⟨rfl, rfl⟩ (.idx (.loc rfl rfl rfl) .int) (.cons .int (.cons (.bin .int .int) .nil)))))) (.cons (.ret .bool)
    .nil) .nil)
  (.cons (.ret (.and3 (.isi ⟨rfl, rfl⟩ ⟨rfl, rfl⟩ (.idx (.loc rfl rfl rfl) .int)) (.and2 (.cmp (.bi ⟨rfl, rfl⟩ (.idx (.loc rfl rfl rfl) .int) .nil) .int) (.call rfl ⟨rfl, rfl⟩ (.idx (.loc rfl rfl rfl) .int) .nil))))
  .nil)))))))),
  rfl, rfl, fun _ _ _ vals hv => match vals, hv with | [v0], _ => rfl⟩⟩

theorem ok_law_good : FnOK hd.view_39 gt "_law_good" ["_law_cell", "_law_low"] ["_law_cell", "_law_low"] m_law_good :=
  ⟨⟨_, List.mem_of_getElem? (i := 9) rfl, rfl, rfl, rfl, rfl, rfl,
  (.cons (.ite (.cmp (.bin (.loc rfl rfl rfl) .int) .int) (.cons (.ret (.idx (.lst (.cons (.loc rfl rfl rfl) (.cons (.bin (.loc rfl rfl rfl) .int) (.cons (.bin .int .int) (.cons (.bin (.bin .int .int) .int) .nil))))) (.bin (.bin (.loc rfl rfl rfl) .int) .int)))
    .nil) .nil)
  (.cons (.ret (.bin (.loc rfl rfl rfl) (.bin (.bin (.bin (.loc rfl rfl rfl) .int) (.loc rfl rfl rfl)) (.idx (.lst (.cons .int (.cons (.bin .int .int) .nil))) (.bin (.bin (.loc rfl rfl rfl) .int) .int)))))
  .nil)),
  rfl, rfl, fun _ _ _ vals hv => match vals, hv with | [v0, v1], _ => rfl⟩⟩

theorem ok_law_odd : FnOK hd.view_39 gt "_law_odd" ["_law_cell", "_law_low"] ["_law_cell", "_law_low"] m_law_odd :=
  ⟨⟨_, List.mem_of_getElem? (i := 10) rfl, rfl, rfl, rfl, rfl, rfl,
  (.cons (.ret (.idx (.lst (.cons (.bin (.loc rfl rfl rfl) .int) (.cons (.bin (.loc rfl rfl rfl) .int) (.cons (.bin (.bin .int .int) .int) (.cons .bool (.cons (.str (by decide +kernel)) (.cons .none (.cons (.tup (.cons (.bin (.loc rfl rfl rfl) .int) .nil)) (.cons (.lst (.cons .int .nil)) (.cons (.bin .int .int) (.cons .int .nil))))))))))) (.bin (.loc rfl rfl rfl) .int)))
  .nil),
  rfl, rfl, fun _ _ _ vals hv => match vals, hv with | [v0, v1], _ => rfl⟩⟩

theorem ok_law_powers : FnOK hd.view_39 gt "_law_powers" ["_law_cells", "_law_powers_here", "_law_last", "_law_k"] ["_law_cells"] m_law_powers :=
  ⟨⟨_, List.mem_of_getElem? (i := 11) rfl, rfl, rfl, rfl, rfl, rfl,
  (.cons (.asg (Slot.of rfl) (.lst .nil) (fun _ => rfl))
  (.cons (.asg (Slot.of rfl) .int (fun _ => rfl))
  (.cons (.for1 (Slot.of rfl) (.ty (t := .range) ⟨rfl, rfl⟩ (.bin .int (.bin (.idx (.loc rfl rfl rfl) .int) .int)) .nil) (.cons (.asg (Slot.of rfl) (.bin (.bin (.loc rfl rfl rfl) .int) (.bin (.idx (.loc rfl rfl rfl) (.bin .int (.loc rfl rfl rfl))) (.idx (.lst (.cons .int (.cons .int .nil))) (.bin (.bin (.idx (.loc rfl rfl rfl) (.bin .int (.loc rfl rfl rfl))) .int) .int)))) (fun _ => rfl))
    (.cons (.expr (.meth (.loc rfl rfl rfl) (.tup (.cons (.loc rfl rfl rfl) (.cons (.idx (.lst (.cons (.bin .int (.bin (.bin (.idx (.loc rfl rfl rfl) (.bin .int (.loc rfl rfl rfl))) .int) .int)) (.cons .int (.cons .int .nil)))) (.bin (.bin (.idx (.loc rfl rfl rfl) (.bin .int (.loc rfl rfl rfl))) .int) .int)) .nil))) .nil ⟨fun _ => rfl⟩) (fun _ => rfl))
    .nil)))
  (.cons (.ret (.loc rfl rfl rfl))
  .nil)))),
  rfl, rfl, fun _ _ _ vals hv => match vals, hv with | [v0], _ => rfl⟩⟩

theorem ok_law_powers_spoilt : FnOK hd.view_39 gt "_law_powers_spoilt" ["_law_powers_here", "_law_cell", "_law_at", "_law_q", "_law_times", "_law_way", "_law_some"] ["_law_powers_here", "_law_cell"] m_law_powers_spoilt :=
  ⟨⟨_, List.mem_of_getElem? (i := 12) rfl, rfl, rfl, rfl, rfl, rfl,
  (.cons (.asg (Slot.of rfl) (.bin (.loc rfl rfl rfl) (.bi ⟨rfl, rfl⟩ (.loc rfl rfl rfl) .nil)) (fun _ => rfl))
  (.cons (.asgT (.cons (Slot.of rfl) (.cons (Slot.of rfl) .nil)) (.idx (.loc rfl rfl rfl) (.loc rfl rfl rfl)) (fun _ => rfl) (fun _ => rfl))
  (.cons (.asg (Slot.of rfl) (.bin (.bin (.loc rfl rfl rfl) .int) .int) (fun _ => rfl))
  (.cons (.asg (Slot.of rfl) (.lst (.cons (.tup (.cons (.loc rfl rfl rfl) (.cons .int .nil))) (.cons (.tup (.cons (.loc rfl rfl rfl) (.cons .int .nil))) (.cons (.lst (.cons (.loc rfl rfl rfl) (.cons (.loc rfl rfl rfl) .nil))) (.cons (.tup (.cons (.loc rfl rfl rfl) (.cons (.loc rfl rfl rfl) (.cons .int .nil)))) (.cons (.tup (.cons .bool (.cons (.loc rfl rfl rfl) .nil))) (.cons (.tup (.cons (.loc rfl rfl rfl) (.cons .bool .nil))) (.cons (.tup (.cons .int (.cons (.loc rfl rfl rfl) .nil))) (.cons (.loc rfl rfl rfl) (.cons (.tup (.cons (.loc rfl rfl rfl) .nil)) .nil)))))))))) (fun _ => rfl))
  (.cons (.ite (.cmp (.loc rfl rfl rfl) .int) (.cons (.ret (.bi ⟨rfl, rfl⟩ (.bin (.bin (.slc (.loc rfl rfl rfl) .none (.some (.loc rfl rfl rfl))) (.lst (.cons (.idx (.loc rfl rfl rfl) (.loc rfl rfl rfl)) .nil))) (.slc (.loc rfl rfl rfl) (.some (.bin (.loc rfl rfl rfl) .int)) .none)) .nil))
    .nil) .nil)
  (.cons (.ite (.cmp (.loc rfl rfl rfl) .int) (.cons (.ret (.bi ⟨rfl, rfl⟩ (.bin (.bin (.slc (.loc rfl rfl rfl) .none (.some (.loc rfl rfl rfl))) (.lst (.cons (.idx (.loc rfl rfl rfl) (.loc rfl rfl rfl)) .nil))) (.slc (.loc rfl rfl rfl) (.some (.loc rfl rfl rfl)) .none)) .nil))
    .nil) .nil)
  (.cons (.ite (.and2 (.cmp (.loc rfl rfl rfl) .int) (.cmp (.loc rfl rfl rfl) .int)) (.cons (.ret (.bi ⟨rfl, rfl⟩ (.bin (.bin (.slc (.loc rfl rfl rfl) .none (.some (.bin (.loc rfl rfl rfl) .int))) (.lst (.cons (.idx (.loc rfl rfl rfl) (.loc rfl rfl rfl)) (.cons (.idx (.loc rfl rfl rfl) (.bin (.loc rfl rfl rfl) .int)) .nil)))) (.slc (.loc rfl rfl rfl) (.some (.bin (.loc rfl rfl rfl) .int)) .none)) .nil))
    .nil) .nil)
  (.cons (.ite (.cmp (.loc rfl rfl rfl) .int) (.cons (.ret (.bi ⟨rfl, rfl⟩ (.bin (.loc rfl rfl rfl) (.lst (.cons (.tup (.cons (.bin (.bin .int .int) (.bin (.bin (.loc rfl rfl rfl) .int) .int)) (.cons .int .nil))) .nil))) .nil))
    .nil) .nil)
  (.cons (.ite (.cmp (.loc rfl rfl rfl) .int) (.cons (.ret (.tup .nil))
    .nil) .nil)
  (.cons (.ret (.idx (.lst (.cons (.bi ⟨rfl, rfl⟩ (.loc rfl rfl rfl) .nil) (.cons .none (.cons (.idx (.loc rfl rfl rfl) .int) .nil)))) (.bin (.bin (.loc rfl rfl rfl) .int) .int)))
  .nil)))))))))),
  rfl, rfl, fun _ _ _ vals hv => match vals, hv with | [v0, v1], _ => rfl⟩⟩

theorem ok_law_facts : FnOK hd.view_39 gt "_law_facts" ["_law_word", "_law_cells", "_law_place", "_law_first"] ["_law_word", "_law_cells", "_law_place"] m_law_facts :=
  ⟨⟨_, List.mem_of_getElem? (i := 13) rfl, rfl, rfl, rfl, rfl, rfl,
  (.cons (.ite (.cmp (.loc rfl rfl rfl) .int) (.cons (.ret (.idx (.lst (.cons .none (.cons (.lst .nil) (.cons .int (.cons (.str (by decide +kernel)) (.cons (.tup (.cons .bool .nil)) (.cons (.lst (.cons .int (.cons .int .nil))) (.cons (.tup (.cons .int (.cons .int (.cons .int .nil)))) (.cons (.tup .nil) .nil))))))))) (.bin (.idx (.loc rfl rfl rfl) .int) .int)))
    .nil) .nil)
  (.cons (.asg (Slot.of rfl) (.call rfl ⟨rfl, rfl⟩ (.idx (.loc rfl rfl rfl) .int) (.cons .int .nil)) (fun _ => rfl))
  (.cons (.ite (.cmp (.loc rfl rfl rfl) .int) (.cons (.asg (Slot.of rfl) (.call rfl ⟨rfl, rfl⟩ (.idx (.loc rfl rfl rfl) .int) (.cons (.idx (.lst (.cons .int (.cons .int .nil))) (.bi ⟨rfl, rfl⟩ (.cmp (.loc rfl rfl rfl) (.str (by decide +kernel))) .nil)) .nil)) (fun _ => rfl))
    .nil) .nil)
  (.cons (.ite (.cmp (.loc rfl rfl rfl) (.str (by decide +kernel))) (.cons (.ret (.idx (.lst (.cons (.tup (.cons (.loc rfl rfl rfl) (.cons (.call rfl ⟨rfl, rfl⟩ (.idx (.loc rfl rfl rfl) .int) (.cons .int .nil)) .nil))) (.cons (.tup (.cons (.call rfl ⟨rfl, rfl⟩ (.idx (.loc rfl rfl rfl) .int) (.cons .int .nil)) (.cons (.loc rfl rfl rfl) .nil))) .nil))) (.bin (.bin (.idx (.loc rfl rfl rfl) .int) .int) .int)))
    .nil) .nil)
  (.cons (.ite (.or2 (.cmp (.loc rfl rfl rfl) (.str (by decide +kernel))) (.cmp (.loc rfl rfl rfl) (.str (by decide +kernel)))) (.cons (.ret (.tup (.cons (.idx (.lst (.cons (.loc rfl rfl rfl) (.cons .int .nil))) (.bi ⟨rfl, rfl⟩ (.and2 (.cmp (.loc rfl rfl rfl) .int) (.cmp (.bin (.idx (.loc rfl rfl rfl) .int) .int) .int)) .nil)) .nil)))
    .nil) .nil)
  (.cons (.ite (.and2 (.cmp (.loc rfl rfl rfl) (.str (by decide +kernel))) (.cmp (.loc rfl rfl rfl) .int)) (.cons (.ret (.tup (.cons (.loc rfl rfl rfl) (.cons (.call rfl ⟨rfl, rfl⟩ (.call rfl ⟨rfl, rfl⟩ (.loc rfl rfl rfl) .nil) (.cons (.idx (.loc rfl rfl rfl) .int) .nil)) .nil))))
    .nil) .nil)
  (.cons (.ite (.cmp (.loc rfl rfl rfl) (.str (by decide +kernel))) (.cons (.ret (.tup (.cons (.loc rfl rfl rfl) (.cons (.bi ⟨rfl, rfl⟩ (.call rfl ⟨rfl, rfl⟩ (.loc rfl rfl rfl) .nil) .nil) .nil))))
    .nil) .nil)
  (.cons (.ret (.tup .nil))
  .nil)))))))),
  rfl, rfl, fun _ _ _ vals hv => match vals, hv with | [v0, v1, v2], _ => rfl⟩⟩

theorem ok_law_thing : FnOK hd.view_39 gt "_law_thing" ["_law_cells", "_law_place", "_law_word", "_law_facts_here", "_law_number", "_law_row"] ["_law_cells"] m_law_thing :=
  ⟨⟨_, List.mem_of_getElem? (i := 14) rfl, rfl, rfl, rfl, rfl, rfl,
  (.cons (.asg (Slot.of rfl) (.idx (.lst (.cons .int (.cons .int (.cons .int (.cons .int (.cons .int (.cons .int (.cons .int (.cons .int (.cons .int (.cons .int (.cons .int .nil)))))))))))) (.bin (.idx (.loc rfl rfl rfl) .int) .int)) (fun _ => rfl))
  (.cons (.asg (Slot.of rfl) (.idx (.lst (.cons (.str (by decide +kernel)) (.cons (.str (by decide +kernel)) (.cons (.str (by decide +kernel)) (.cons (.str (by decide +kernel)) (.cons (.str (by decide +kernel)) (.cons (.str (by decide +kernel)) (.cons (.str (by decide +kernel)) (.cons (.str (by decide +kernel)) .nil))))))))) (.bin (.idx (.loc rfl rfl rfl) .int) .int)) (fun _ => rfl))
  (.cons (.ite (.cmp (.loc rfl rfl rfl) .int) (.cons (.asg (Slot.of rfl) (.str (by decide +kernel)) (fun _ => rfl))
    .nil) .nil)
  (.cons (.asg (Slot.of rfl) (.call rfl ⟨rfl, rfl⟩ (.loc rfl rfl rfl) (.cons (.loc rfl rfl rfl) (.cons (.loc rfl rfl rfl) .nil))) (fun _ => rfl))
  (.cons (.ite (.cmp (.loc rfl rfl rfl) .int) (.cons (.asg (Slot.of rfl) (.idx (.lst (.cons (.str (by decide +kernel)) (.cons (.str (by decide +kernel)) (.cons .none (.cons .int (.cons (.str (by decide +kernel)) (.cons (.str (by decide +kernel)) (.cons (.str (by decide +kernel)) (.cons (.str (by decide +kernel)) .nil))))))))) (.bin (.bin (.idx (.loc rfl rfl rfl) .int) .int) .int)) (fun _ => rfl))
    .nil) .nil)
  (.cons (.asg (Slot.of rfl) (.call rfl ⟨rfl, rfl⟩ (.idx (.loc rfl rfl rfl) .int) (.cons .int .nil)) (fun _ => rfl))
  (.cons (.ite (.cmp (.loc rfl rfl rfl) .int) (.cons (.asg (Slot.of rfl) (.call rfl ⟨rfl, rfl⟩ (.idx (.loc rfl rfl rfl) .int) (.cons .int .nil)) (fun _ => rfl))
    .nil) .nil)
  (.cons (.asg (Slot.of rfl) (.tup (.cons (.loc rfl rfl rfl) (.cons (.loc rfl rfl rfl) (.cons (.loc rfl rfl rfl) .nil)))) (fun _ => rfl))
  (.cons (.ite (.cmp (.loc rfl rfl rfl) .int) (.cons (.ret (.idx (.lst (.cons (.bi ⟨rfl, rfl⟩ (.loc rfl rfl rfl) .nil) (.cons (.bin (.loc rfl rfl rfl) (.tup (.cons .int .nil))) (.cons (.slcT (.loc rfl rfl rfl) .none (.some .int)) (.cons (.tup (.cons (.loc rfl rfl rfl) .nil)) (.cons .none (.cons (.str (by decide +kernel)) (.cons (.tup .nil) (.cons .int .nil))))))))) (.bin (.idx (.loc rfl rfl rfl) .int) .int)))
    .nil) .nil)
  (.cons (.ret (.loc rfl rfl rfl))
  .nil)))))))))),
  rfl, rfl, fun _ _ _ vals hv => match vals, hv with | [v0], _ => rfl⟩⟩

theorem ok_law : FnOK hd.view_39 gt "law" ["_law_script", "_law_cells", "_law_k", "_law_thing_here", "_law_found"] ["_law_script"] m_law :=
  ⟨⟨_, List.mem_of_getElem? (i := 15) rfl, rfl, rfl, rfl, rfl, rfl,
  (.cons (.asg (Slot.of rfl) (.call rfl ⟨rfl, rfl⟩ (.loc rfl rfl rfl) (.cons .int (.cons .int .nil))) (fun _ => rfl))
  (.cons (.for1 (Slot.of rfl) (.ty (t := .range) ⟨rfl, rfl⟩ .int .nil) (.cons (.asg (Slot.of rfl) (.call rfl ⟨rfl, rfl⟩ (.slc (.loc rfl rfl rfl) (.some (.bin .int (.loc rfl rfl rfl))) (.some (.bin (.bin .int (.loc rfl rfl rfl)) .int))) .nil) (fun _ => rfl))
    (.cons (.asg (Slot.of rfl) (.call rfl ⟨rfl, rfl⟩ (.loc rfl rfl rfl) .nil) (fun _ => rfl))
    (.cons (.ite (.or2 (.not (.isi ⟨rfl, rfl⟩ ⟨rfl, rfl⟩ (.loc rfl rfl rfl))) (.cmp (.loc rfl rfl rfl) (.call rfl ⟨rfl, rfl⟩ (.loc rfl rfl rfl) .nil))) (.cons (.ret .bool)
      .nil) .nil)
    .nil))))
  (.cons (.ret .bool)
  .nil))),
  rfl, rfl, fun _ _ _ vals hv => match vals, hv with | [v0], _ => rfl⟩⟩

theorem free_b : bnames.all (fun x => freeB hd.view_39 [Str.ofString "BOUND"] x) = true := by decide +kernel
theorem fns_b : gt.fns.all (fun x => ((recsOf hd.view_39).map (·.name)).contains x) = true := by decide +kernel
end
section
open PySem
set_option linter.unusedVariables false
set_option linter.unusedSimpArgs false
set_option maxHeartbeats 2000000
/-! what a row is -/
def BIG : Int := 1000000000000000000000000000000
def whB (v : AV) (a b : Int) : Bool := match v with | .int k => decide (a ≤ k) && decide (k ≤ b) | _ => false
def risB : Int → List AV → Bool
  | _, [] => true
  | a, .tup [.int q, t] :: r => whB (.int q) (a + 1) BIG && whB t 1 100 && risB q r
  | _, _ => false
def powB (v : AV) : Bool := match v with | .tup (x :: r) => risB 1 (x :: r) | _ => false
def facB (w : Str) (f : List AV) : Bool :=
  if w == "first" then decide ((f.length : Int) = 0)
  else if w == "prime" then (match f with | [a, p] => whB a 1 BIG && powB p | _ => false)
  else if w == "split" then (match f with | [a, b] => whB a 2 BIG && whB b 2 BIG | _ => false)
  else (match f with | [a] => whB a 1 BIG | _ => false)
def wordsL : List Str := ["first", "prime", "split", "power", "root"]
def rowB (v : AV) : Bool := match v with | .tup [n, .str w, .tup f] => whB n 2 BIG && wordsL.contains w && facB w f | _ => false

/-- data of a bounded build -/
inductive Gd (H : Hp) : Nat → AV → Prop
  | none {n} : Gd H n .none
  | int {n k} : Gd H n (.int k)
  | bool {n b} : Gd H n (.bool b)
  | str {n x} : Gd H n (.str x)
  | tup {n l} : l.length ≤ 100 → (∀ x ∈ l, Gd H n x) → Gd H (n + 1) (.tup l)
  | ref {n i l} : H[i]? = some (.list l) → (∀ x ∈ l, Gd H n x) → Gd H (n + 1) (.ref i)
theorem Gd.up {H : Hp} {n : Nat} {v : AV} (g : Gd H n v) : ∀ {m}, n ≤ m → Gd H m v := by
  induction g with
  | none => intros; exact .none
  | int => intros; exact .int
  | bool => intros; exact .bool
  | str => intros; exact .str
  | tup h _ ih => intro m hm; obtain ⟨k, rfl⟩ : ∃ k, m = k + 1 := ⟨m - 1, by omega⟩; exact .tup h fun x hx => ih x hx (by omega)
  | ref h _ ih => intro m hm; obtain ⟨k, rfl⟩ : ∃ k, m = k + 1 := ⟨m - 1, by omega⟩; exact .ref h fun x hx => ih x hx (by omega)
theorem pre_at {H H' : Hp} {i : Nat} {o : AObj} (p : H <+: H') (h : H[i]? = some o) : H'[i]? = some o := by
  obtain ⟨t, rfl⟩ := p
  rw [List.getElem?_append_left (List.getElem?_eq_some_iff.mp h).1]; exact h
theorem Gd.grow {H H' : Hp} {n : Nat} {v : AV} (p : H <+: H') (g : Gd H n v) : Gd H' n v := by
  induction g with
  | none => exact .none
  | int => exact .int
  | bool => exact .bool
  | str => exact .str
  | tup h _ ih => exact .tup h ih
  | ref h _ ih => exact .ref (pre_at p h) ih
theorem Gd.len {H : Hp} {n : Nat} {l : List AV} (g : Gd H n (.tup l)) : l.length ≤ 100 := by cases g; assumption
theorem Gd.mem {H : Hp} {n : Nat} {l : List AV} (g : Gd H (n + 1) (.tup l)) : ∀ x ∈ l, Gd H n x := by cases g; assumption
theorem datRs_all {ρ : Nat → Option PyData} {n : Nat} : ∀ {l : List AV}, (∀ x ∈ l, ∃ d, datR ρ x = some d ∧ d.depth ≤ n) → ∃ ds, datRs ρ l = some ds ∧ PyData.depthAll ds ≤ n
  | [], _ => ⟨[], rfl, Nat.zero_le _⟩
  | x :: l, h => by
    obtain ⟨d, h1, h2⟩ := h x (by simp)
    obtain ⟨ds, h3, h4⟩ := datRs_all (l := l) fun y hy => h y (by simp [hy])
    exact ⟨d :: ds, by simp [datRs, h1, h3], by simp only [PyData.depthAll]; omega⟩
theorem Gd.dat {H : Hp} {n : Nat} {v : AV} (g : Gd H n v) : ∀ {m}, n ≤ m → ∃ d, datR (rho H m) v = some d ∧ d.depth ≤ n := by
  induction g with
  | none => intros; exact ⟨.none, rfl, by simp [PyData.depth]⟩
  | int => intros; exact ⟨.int _, rfl, by simp [PyData.depth]⟩
  | bool => intros; exact ⟨.bool _, rfl, by simp [PyData.depth]⟩
  | str => intros; exact ⟨.str _, rfl, by simp [PyData.depth]⟩
  | tup h _ ih =>
    intro m hm
    obtain ⟨ds, h1, h2⟩ := datRs_all fun x hx => ih x hx (m := m) (by omega)
    exact ⟨.tuple ds, by simp [datR, h1], by simp only [PyData.depth]; omega⟩
  | ref h _ ih =>
    intro m hm
    obtain ⟨k, rfl⟩ : ∃ k, m = k + 1 := ⟨m - 1, by omega⟩
    obtain ⟨ds, h1, h2⟩ := datRs_all fun x hx => ih x hx (m := k) (by omega)
    exact ⟨.list ds, by simp [datR, rho, h, h1], by simp only [PyData.depth]; omega⟩

/-! the two judges -/
def SWh (f : Str) (Φ : Fun) : Prop := ∀ (v : AV) (a b : Int) (H : Hp) (Q : PQ), Q (.bool (whB v a b)) H → Φ f [v, .int a, .int b] H Q
theorem is_whole {Φ : Fun} {v : AV} {a b : Int} {H : Hp} {Q : PQ} (h : Q (.bool (whB v a b)) H) : wpF Φ m_is_whole [v, .int a, .int b] H Q := by
  walk_at "fn"
  simp only [m_is_whole]
  walk_at "wp"
  cases v with
  | int k =>
    simp only [isi]
    walk_at "wp"
    simp only [isi]
    walk_at "wp"
    refine sp_d (fun h1 => ?_) (fun h1 => ?_)
    · walk_at "wp"
      simpa [whB, h1] using h
    · walk_at "wp"
      simpa [whB, h1] using h
  | bool k =>
    simp only [isi]
    walk_at "wp"
    simp only [isi]
    walk_at "wp"
    exact h
  | _ =>
    simp only [isi]
    walk_at "wp"
    exact h
theorem within {Φ : Fun} {v : AV} {a b : Int} {H : Hp} {Q : PQ} (h : Q (.bool (whB v a b)) H) : wpF Φ m_law_within [v, .int a, .int b] H Q := is_whole h
theorem drop_at {l : List AV} {i : Nat} {y : AV} (h : l[i]? = some y) : l.drop i = y :: l.drop (i + 1) := by
  obtain ⟨hi, e⟩ := List.getElem?_eq_some_iff.mp h
  rw [List.drop_eq_getElem_cons hi, e]
theorem risB_no {a : Int} {r : List AV} {y : AV} (h : ∀ q t, y ≠ .tup [q, t]) : risB a (y :: r) = false := by
  cases y with
  | tup p =>
    match p, h with
    | [], _ => rfl
    | [x], _ => cases x <;> rfl
    | [q, t], h => exact absurd rfl (h q t)
    | x :: _ :: _ :: _, _ => cases x <;> rfl
  | _ => rfl
theorem risB_two {a k : Int} {r : List AV} {t : AV} : risB a (.tup [.int k, t] :: r) = (whB (.int k) (a + 1) BIG && whB t 1 100 && risB k r) := rfl
theorem risB_nint {a : Int} {r : List AV} {q t : AV} (h : ∀ k, q ≠ .int k) : risB a (.tup [q, t] :: r) = false := by
  cases q <;> first | rfl | exact absurd rfl (h _)
theorem two_or (y : AV) : (∃ q t, y = .tup [q, t]) ∨ ((∀ q t, y ≠ .tup [q, t]) ∧ ((∃ p, y = .tup p ∧ p.length ≠ 2) ∨ ∀ H, isi H y .tuple = false)) := by
  cases y with
  | tup p =>
    match p with
    | [q, t] => exact .inl ⟨q, t, rfl⟩
    | [] => exact .inr ⟨fun _ _ e => (by cases e), .inl ⟨_, rfl, by simp⟩⟩
    | [_] => exact .inr ⟨fun _ _ e => (by cases e), .inl ⟨_, rfl, by simp⟩⟩
    | _ :: _ :: _ :: r => exact .inr ⟨fun _ _ e => (by cases e), .inl ⟨_, rfl, by simp⟩⟩
  | _ => exact .inr ⟨fun _ _ e => (by cases e), .inr fun _ => rfl⟩
theorem whB_int {q : AV} {a b : Int} (h : whB q a b = true) : ∃ k, q = .int k := by
  cases q <;> first | exact ⟨_, rfl⟩ | cases h
def SPw (f : Str) (Φ : Fun) : Prop := ∀ (v : AV) (n : Nat) (H : Hp) (Q : PQ), Gd H n v → Q (.bool (powB v)) H → Φ f [v] H Q
theorem are_powers {Φ : Fun} (c : SWh "is_whole" Φ) {v : AV} {n : Nat} {H : Hp} {Q : PQ} (g : Gd H n v) (h : Q (.bool (powB v)) H) : wpF Φ m_are_powers [v] H Q := by
  walk_at "fn"
  simp only [m_are_powers]
  walk_at "wp"
  cases v with
  | tup l =>
    simp only [isi]
    walk_at "wp"
    refine ⟨by have := g.len; omega, ?_⟩
    refine sp_d (fun h0 => ?_) (fun h0 => ?_)
    · walk_at "wp"
      have : l = [] := List.length_eq_zero_iff.mp (by omega)
      subst this; exact h
    · walk_at "wp"
      have hp : powB (.tup l) = risB 1 l := by cases l with | nil => simp at h0 | cons => rfl
      rw [hp] at h
      refine for_intro (fun i loc H' => ∃ (a : Int) (o : Option AV), H' = H ∧ loc = [some (.tup l), some (.int a), o] ∧ risB a (l.drop i) = risB 1 l) ⟨1, none, rfl, rfl, by simp⟩ ?_
      rintro i loc H' ⟨a, o, rfl, rfl, hr⟩
      refine ⟨trivial, fun y hy => ?_, fun hi => ?_⟩
      · rw [drop_at hy] at hr
        refine ⟨[y], rfl, ?_⟩
        have gy : y ∈ l := List.mem_of_getElem? hy
        rcases two_or y with ⟨q, t, rfl⟩ | ⟨hn, hh⟩
        · walk_at "wp"
          simp only [isi]
          walk_at "wp"
          refine ⟨by simp, ?_⟩
          refine sp_n (fun hc => absurd rfl hc) (fun _ => ?_)
          walk_at "wp"
          refine ⟨by simp, ?_⟩
          refine c q (a + 1) BIG H' _ ?_
          walk_at "wp"
          refine sp_b (b := !whB q (a + 1) BIG) (fun hq => ?_) (fun hq => ?_)
          · walk_at "wp"
            have : risB a (.tup [q, t] :: l.drop (i + 1)) = false := by
              by_cases hk : ∃ k, q = .int k
              · obtain ⟨k, rfl⟩ := hk
                rw [risB_two]
                simp only [Bool.not_eq_true'] at hq
                simp [hq]
              · exact risB_nint fun k e => hk ⟨k, e⟩
            rw [this] at hr
            rw [← hr] at h; exact h
          · walk_at "wp"
            refine ⟨by simp, ?_⟩
            refine c t 1 100 H' _ ?_
            walk_at "wp"
            simp only [Bool.not_eq_false'] at hq
            obtain ⟨k, rfl⟩ := whB_int hq
            rw [risB_two, hq] at hr
            refine sp_b (b := !whB t 1 100) (fun ht => ?_) (fun ht => ?_)
            · walk_at "wp"
              simp only [Bool.not_eq_true'] at ht
              rw [ht] at hr
              rw [← hr] at h; exact h
            · walk_at "wp"
              simp only [Bool.not_eq_false'] at ht
              refine ⟨by simp, ?_⟩
              refine for_next ⟨k, _, rfl, rfl, ?_⟩
              rw [ht] at hr
              simpa using hr
        · rw [risB_no hn] at hr
          rw [← hr] at h
          rcases hh with ⟨p, rfl, hp2⟩ | hno
          · walk_at "wp"
            simp only [isi]
            walk_at "wp"
            have := g
            refine ⟨by cases g with | tup h1 h2 => have := (h2 _ gy).len; omega, ?_⟩
            refine sp_n (fun hc => ?_) (fun hc => absurd (by omega) hp2)
            walk_at "wp"
            exact h
          · walk_at "wp"
            simp only [hno]
            walk_at "wp"
            exact h
      · walk_at "wp"
        have : l.drop i = [] := by rw [hi]; simp
        rw [this] at hr
        rw [← hr] at h; exact h
  | _ =>
    simp only [isi]
    walk_at "wp"
    exact h
def SRis (Φ : Fun) : Prop := ∀ (l : List AV) (n : Nat) (H : Hp) (Q : PQ), Gd H n (.tup l) → Q (.bool (risB 1 l)) H → Φ "_law_rising" [.tup l] H Q
theorem ten30 : ((10 : Int) ^ (Int.toNat 30)) = BIG := by decide
theorem rising {Φ : Fun} (c : SWh "_law_within" Φ) {l : List AV} {n : Nat} {H : Hp} {Q : PQ} (g : Gd H n (.tup l)) (h : Q (.bool (risB 1 l)) H) : wpF Φ m_law_rising [.tup l] H Q := by
  walk_at "fn"
  simp only [m_law_rising]
  walk_at "wp"
  refine for_intro (fun i loc H' => ∃ (a : Int) (o : Option AV), H' = H ∧ loc = [some (.tup l), some (.int a), o] ∧ risB a (l.drop i) = risB 1 l) ⟨1, none, rfl, rfl, by simp⟩ ?_
  rintro i loc H' ⟨a, o, rfl, rfl, hr⟩
  refine ⟨trivial, fun y hy => ?_, fun hi => ?_⟩
  · rw [drop_at hy] at hr
    refine ⟨[y], rfl, ?_⟩
    have gy : y ∈ l := List.mem_of_getElem? hy
    rcases two_or y with ⟨q, t, rfl⟩ | ⟨hn, hh⟩
    · walk_at "wp"
      simp only [isi]
      walk_at "wp"
      refine ⟨by simp, ?_⟩
      refine sp_n (fun hc => absurd rfl hc) (fun _ => ?_)
      walk_at "wp"
      refine ⟨by simp, by decide, by decide, by decide, ?_⟩
      rw [ten30]
      refine c q (a + 1) BIG H' _ ?_
      walk_at "wp"
      refine sp_b (b := !whB q (a + 1) BIG) (fun hq => ?_) (fun hq => ?_)
      · walk_at "wp"
        have : risB a (.tup [q, t] :: l.drop (i + 1)) = false := by
          by_cases hk : ∃ k, q = .int k
          · obtain ⟨k, rfl⟩ := hk
            rw [risB_two]
            simp only [Bool.not_eq_true'] at hq
            simp [hq]
          · exact risB_nint fun k e => hk ⟨k, e⟩
        rw [this] at hr
        rw [← hr] at h; exact h
      · walk_at "wp"
        refine ⟨by simp, ?_⟩
        refine c t 1 100 H' _ ?_
        walk_at "wp"
        simp only [Bool.not_eq_false'] at hq
        obtain ⟨k, rfl⟩ := whB_int hq
        rw [risB_two, hq] at hr
        refine sp_b (b := !whB t 1 100) (fun ht => ?_) (fun ht => ?_)
        · walk_at "wp"
          simp only [Bool.not_eq_true'] at ht
          rw [ht] at hr
          rw [← hr] at h; exact h
        · walk_at "wp"
          simp only [Bool.not_eq_false'] at ht
          refine ⟨by simp, ?_⟩
          refine for_next ⟨k, _, rfl, rfl, ?_⟩
          rw [ht] at hr
          simpa using hr
    · rw [risB_no hn] at hr
      rw [← hr] at h
      rcases hh with ⟨p, rfl, hp2⟩ | hno
      · walk_at "wp"
        simp only [isi]
        walk_at "wp"
        refine ⟨by cases g with | tup h1 h2 => have := (h2 _ gy).len; omega, ?_⟩
        refine sp_n (fun hc => ?_) (fun hc => absurd (by omega) hp2)
        walk_at "wp"
        exact h
      · walk_at "wp"
        simp only [hno]
        walk_at "wp"
        exact h
  · walk_at "wp"
    have : l.drop i = [] := by rw [hi]; simp
    rw [this] at hr
    rw [← hr] at h; exact h
end
section
open PySem
set_option linter.unusedVariables false
set_option linter.unusedSimpArgs false
set_option maxHeartbeats 2000000
def SFac (Φ : Fun) : Prop := ∀ (w : Str) (f : List AV) (n : Nat) (H : Hp) (Q : PQ), Gd H (n + 1) (.tup f) → Q (.bool (facB w f)) H → Φ "are_facts" [.str w, .tup f] H Q
theorem are_facts {Φ : Fun} (c : SWh "is_whole" Φ) (cp : SPw "are_powers" Φ) {w : Str} {f : List AV} {n : Nat} {H : Hp} {Q : PQ} (g : Gd H (n + 1) (.tup f)) (h : Q (.bool (facB w f)) H) : wpF Φ m_are_facts [.str w, .tup f] H Q := by
  have hl := g.len
  unfold facB at h
  walk_at "fn"
  simp only [m_are_facts]
  walk_at "wp"
  refine sp_b (fun h1 => ?_) (fun h1 => ?_)
  · rw [if_pos h1] at h
    walk_at "wp"
    exact ⟨by omega, h⟩
  rw [if_neg (by rw [h1]; exact Bool.false_ne_true)] at h
  walk_at "wp"
  refine sp_b (fun h2 => ?_) (fun h2 => ?_)
  · rw [if_pos h2] at h
    walk_at "wp"
    refine ⟨by omega, ?_⟩
    clear h1 h2
    match f, g, h with
    | [a, p], g, h =>
      refine sp_d (fun h3 => ?_) (fun h3 => absurd rfl h3)
      walk_at "wp"
      refine ⟨by simp, ?_⟩
      refine c a 1 BIG H _ ?_
      walk_at "wp"
      refine sp_b (fun h4 => ?_) (fun h4 => ?_)
      · walk_at "wp"
        refine ⟨by simp, ?_⟩
        refine cp p _ H _ (g.mem p (by simp)) ?_
        have h : Q (.bool (_ && _)) H := h
        rw [h4, Bool.true_and] at h; exact h
      · walk_at "wp"
        have h : Q (.bool (_ && _)) H := h
        rw [h4, Bool.false_and] at h; exact h
    | [], g, h =>
      refine sp_d (fun h3 => by simp at h3) (fun h3 => ?_)
      walk_at "wp"
      exact h
    | [_], g, h =>
      refine sp_d (fun h3 => by simp at h3) (fun h3 => ?_)
      walk_at "wp"
      exact h
    | _ :: _ :: _ :: r, g, h =>
      refine sp_d (fun h3 => by simp at h3; omega) (fun h3 => ?_)
      walk_at "wp"
      exact h
  rw [if_neg (by rw [h2]; exact Bool.false_ne_true)] at h
  walk_at "wp"
  refine sp_b (fun h3 => ?_) (fun h3 => ?_)
  · rw [if_pos h3] at h
    walk_at "wp"
    refine ⟨by omega, ?_⟩
    clear h1 h2 h3
    match f, g, h with
    | [a, p], g, h =>
      refine sp_d (fun h3 => ?_) (fun h3 => absurd rfl h3)
      walk_at "wp"
      refine ⟨by simp, ?_⟩
      refine c a 2 BIG H _ ?_
      walk_at "wp"
      refine sp_b (fun h4 => ?_) (fun h4 => ?_)
      · walk_at "wp"
        refine ⟨by simp, ?_⟩
        refine c p 2 BIG H _ ?_
        have h : Q (.bool (_ && _)) H := h
        rw [h4, Bool.true_and] at h; exact h
      · walk_at "wp"
        have h : Q (.bool (_ && _)) H := h
        rw [h4, Bool.false_and] at h; exact h
    | [], g, h =>
      refine sp_d (fun h3 => by simp at h3) (fun h3 => ?_)
      walk_at "wp"
      exact h
    | [_], g, h =>
      refine sp_d (fun h3 => by simp at h3) (fun h3 => ?_)
      walk_at "wp"
      exact h
    | _ :: _ :: _ :: r, g, h =>
      refine sp_d (fun h3 => by simp at h3; omega) (fun h3 => ?_)
      walk_at "wp"
      exact h
  rw [if_neg (by rw [h3]; exact Bool.false_ne_true)] at h
  walk_at "wp"
  refine ⟨by omega, ?_⟩
  clear h1 h2 h3
  match f, g, h with
  | [a], g, h =>
    refine sp_d (fun h3 => ?_) (fun h3 => absurd rfl h3)
    walk_at "wp"
    refine ⟨by simp, ?_⟩
    exact c a 1 BIG H _ h
  | [], g, h =>
    refine sp_d (fun h3 => by simp at h3) (fun h3 => ?_)
    walk_at "wp"
    exact h
  | _ :: _ :: r, g, h =>
    refine sp_d (fun h3 => by simp at h3; omega) (fun h3 => ?_)
    walk_at "wp"
    exact h

/-- a value is a triple, or no triple -/
theorem three_or (y : AV) : (∃ a b c, y = .tup [a, b, c]) ∨ (rowB y = false ∧ ((∃ p, y = .tup p ∧ p.length ≠ 3) ∨ ∀ H, isi H y .tuple = false)) := by
  cases y with
  | tup p =>
    match p with
    | [a, b, c] => exact .inl ⟨a, b, c, rfl⟩
    | [] => exact .inr ⟨rfl, .inl ⟨_, rfl, by simp⟩⟩
    | [_] => exact .inr ⟨rfl, .inl ⟨_, rfl, by simp⟩⟩
    | [_, b] => exact .inr ⟨by cases b <;> rfl, .inl ⟨_, rfl, by simp⟩⟩
    | _ :: b :: c :: _ :: r => exact .inr ⟨by cases b <;> first | rfl | (cases c <;> rfl), .inl ⟨_, rfl, by simp⟩⟩
  | _ => exact .inr ⟨rfl, .inr fun _ => rfl⟩
theorem str_or (y : AV) : (∃ w, y = .str w) ∨ ((∀ a c, rowB (.tup [a, y, c]) = false) ∧ ∀ H, isi H y .str = false) := by
  cases y <;> first | exact .inl ⟨_, rfl⟩ | exact .inr ⟨fun _ _ => rfl, fun _ => rfl⟩
theorem tup_or (y : AV) : (∃ f, y = .tup f) ∨ ((∀ a w, rowB (.tup [a, .str w, y]) = false) ∧ ∀ H, isi H y .tuple = false) := by
  cases y <;> first | exact .inl ⟨_, rfl⟩ | exact .inr ⟨fun _ _ => rfl, fun _ => rfl⟩
theorem rowB_at {a : AV} {w : Str} {f : List AV} : rowB (.tup [a, .str w, .tup f]) = (whB a 2 BIG && wordsL.contains w && facB w f) := rfl
theorem rowB_n {a b c : AV} (h : whB a 2 BIG = false) : rowB (.tup [a, b, c]) = false := by
  cases b <;> first | rfl | (cases c <;> first | rfl | (rw [rowB_at, h]; rfl))
theorem in_words {H : Hp} {w : Str} {K : Bool → Prop} (h : K (wordsL.contains w)) : wpIn (.str w) c_WORDS H K := by
  refine ⟨.str w, wordsL.map .str, rfl, rfl, by simp [PyData.depth], ?_⟩
  have : (List.any (wordsL.map PyData.str) fun z => PyData.eqv z (.str w)) = wordsL.contains w := by
    simp only [wordsL, List.map_cons, List.map_nil, List.any_cons, List.any_nil, PyData.eqv, List.contains_cons, List.contains_nil, Bool.or_false]
    simp only [Bool.beq_comm, BEq.comm]
  rw [this]; exact h

theorem notin_words {H : Hp} {w : Str} {Q : PQ} (h : Q (.bool !(wordsL.contains w)) H) : wpCmp .notIn (.str w) c_WORDS H Q := in_words (K := fun b => Q (.bool !b) H) h

/-- a thing to be judged -/
def RG (H : Hp) (v : AV) : Prop := (∃ n, Gd H n v) ∧ ∀ a w f, v = .tup [a, .str w, .tup f] → Gd H 4 (.tup f)
def SRow (f : Str) (Φ : Fun) : Prop := ∀ (v : AV) (H : Hp) (Q : PQ), RG H v → Q (.bool (rowB v)) H → Φ f [v] H Q
theorem is_row {Φ : Fun} (c : SWh "is_whole" Φ) (cf : SFac Φ) {v : AV} {H : Hp} {Q : PQ} (g : RG H v) (h : Q (.bool (rowB v)) H) : wpF Φ m_is_row [v] H Q := by
  walk_at "fn"
  simp only [m_is_row]
  walk_at "wp"
  rcases three_or v with ⟨a, b, t, rfl⟩ | ⟨hn, hh⟩
  · simp only [isi]
    walk_at "wp"
    refine ⟨by simp, ?_⟩
    refine sp_n (fun hc => absurd rfl hc) (fun _ => ?_)
    walk_at "wp"
    refine ⟨by simp, ?_⟩
    refine c a 2 BIG H _ ?_
    walk_at "wp"
    refine sp_b (b := !whB a 2 BIG) (fun hq => ?_) (fun hq => ?_)
    · walk_at "wp"
      rw [rowB_n (by simpa using hq)] at h; exact h
    · walk_at "wp"
      refine ⟨by simp, ?_⟩
      rcases str_or b with ⟨w, rfl⟩ | ⟨hn, hno⟩
      · simp only [isi]
        walk_at "wp"
        refine ⟨by simp, ?_⟩
        refine notin_words ?_
        walk_at "wp"
        refine sp_b (b := !wordsL.contains w) (fun hw => ?_) (fun hw => ?_)
        · walk_at "wp"
          rcases tup_or t with ⟨f, rfl⟩ | ⟨hn, hno⟩
          · rw [rowB_at, show wordsL.contains w = false by simpa using hw, Bool.and_false, Bool.false_and] at h; exact h
          · rw [hn] at h; exact h
        · walk_at "wp"
          refine ⟨by simp, ?_⟩
          rcases tup_or t with ⟨f, rfl⟩ | ⟨hn, hno⟩
          · simp only [isi]
            walk_at "wp"
            refine ⟨by simp, by simp, ?_⟩
            refine cf w f 3 H _ (g.2 _ _ _ rfl) ?_
            rw [rowB_at, show wordsL.contains w = true by simpa using hw, show whB a 2 BIG = true by simpa using hq, Bool.and_true, Bool.true_and] at h; exact h
          · simp only [hno]
            walk_at "wp"
            rw [hn] at h; exact h
      · simp only [hno]
        walk_at "wp"
        rw [hn] at h; exact h
  · rw [hn] at h
    rcases hh with ⟨p, rfl, hp⟩ | hno
    · simp only [isi]
      walk_at "wp"
      refine ⟨by obtain ⟨n, g1⟩ := g.1; have := g1.len; omega, ?_⟩
      refine sp_n (fun hc => ?_) (fun hc => absurd (by omega) hp)
      walk_at "wp"
      exact h
    · simp only [hno]
      walk_at "wp"
      exact h
/-- what is equal to the empty tuple -/
theorem eq_nil {f : List AV} {n : Nat} {H : Hp} {Q : PQ} (g : Gd H n (.tup f)) (hn : n ≤ 4) (h : Q (.bool (decide ((f.length : Int) = 0))) H) : wpCmp .eq (.tup f) (.tup []) H Q := by
  obtain ⟨d, h1, h2⟩ := g.dat hn
  refine ⟨d, .tuple [], h1, rfl, by omega, ?_⟩
  have : PyData.eqv d (.tuple []) = decide ((f.length : Int) = 0) := by
    cases f with
    | nil => cases h1; rfl
    | cons x r =>
      simp only [datR, datRs, Option.map_eq_some_iff, Option.bind_eq_some_iff] at h1
      obtain ⟨ds, ⟨y, _, z, _, rfl⟩, rfl⟩ := h1
      simp [PyData.eqv, PyData.eqvAll]
      omega
  rw [this]; exact h
def oneB (f : List AV) : Bool := match f with | [a] => whB a 1 BIG | _ => false
theorem fac_pow {f : List AV} : (wordsL.contains "power" && facB "power" f) = oneB f := rfl
theorem fac_root {f : List AV} : (wordsL.contains "root" && facB "root" f) = oneB f := rfl
theorem row_right {Φ : Fun} (c : SWh "_law_within" Φ) (cr : SRis Φ) {v : AV} {H : Hp} {Q : PQ} (g : RG H v) (h : Q (.bool (rowB v)) H) : wpF Φ m_law_row_right [v] H Q := by
  walk_at "fn"
  simp only [m_law_row_right]
  walk_at "wp"
  rcases three_or v with ⟨a, b, t, rfl⟩ | ⟨hn, hh⟩
  · simp only [isi]
    walk_at "wp"
    refine ⟨by simp, ?_⟩
    refine sp_n (fun hc => absurd rfl hc) (fun _ => ?_)
    walk_at "wp"
    refine ⟨by simp, by decide, by decide, by decide, ?_⟩
    rw [ten30]
    refine c a 2 BIG H _ ?_
    walk_at "wp"
    refine sp_b (b := !whB a 2 BIG) (fun hq => ?_) (fun hq => ?_)
    · walk_at "wp"
      rw [rowB_n (by simpa using hq)] at h; exact h
    walk_at "wp"
    refine ⟨by simp, ?_⟩
    rcases str_or b with ⟨w, rfl⟩ | ⟨hn, hno⟩
    rotate_left
    · simp only [hno]
      walk_at "wp"
      rw [hn] at h; exact h
    simp only [isi]
    walk_at "wp"
    refine ⟨by simp, ?_⟩
    rcases tup_or t with ⟨f, rfl⟩ | ⟨hn, hno⟩
    rotate_left
    · simp only [hno]
      walk_at "wp"
      rw [hn] at h; exact h
    simp only [isi]
    walk_at "wp"
    refine ⟨by simp, by simp, ?_⟩
    have gf : Gd H 4 (.tup f) := g.2 _ _ _ rfl
    have hl := gf.len
    rw [rowB_at, show whB a 2 BIG = true by simpa using hq, Bool.true_and] at h
    refine sp_b (fun h1 => ?_) (fun h1 => ?_)
    · walk_at "wp"
      have := beq_iff_eq.mp h1
      subst this
      refine ⟨by simp [sizeLine], eq_nil gf (by omega) ?_⟩
      exact h
    walk_at "wp"
    refine ⟨by simp, ?_⟩
    refine sp_b (fun h2 => ?_) (fun h2 => ?_)
    · have := beq_iff_eq.mp h2
      subst this
      walk_at "wp"
      refine ⟨by omega, ?_⟩
      match f, gf, h with
      | [x, y], gf, h =>
        refine sp_d (fun _ => ?_) (fun h3 => absurd rfl h3)
        walk_at "wp"
        refine ⟨by simp, by decide, by decide, by decide, ?_⟩
        rw [ten30]
        refine c x 2 BIG H _ ?_
        have e : (wordsL.contains "split" && facB "split" [x, y]) = (whB x 2 BIG && whB y 2 BIG) := rfl
        rw [e] at h
        walk_at "wp"
        refine sp_b (fun h4 => ?_) (fun h4 => ?_)
        · walk_at "wp"
          refine ⟨by simp, by decide, by decide, by decide, ?_⟩
          rw [ten30]
          refine c y 2 BIG H _ ?_
          rw [h4, Bool.true_and] at h; exact h
        · walk_at "wp"
          rw [h4, Bool.false_and] at h; exact h
      | [], _, h =>
        refine sp_d (fun h3 => by simp at h3) (fun h3 => ?_)
        walk_at "wp"
        exact h
      | [_], _, h =>
        refine sp_d (fun h3 => by simp at h3) (fun h3 => ?_)
        walk_at "wp"
        exact h
      | _ :: _ :: _ :: r, _, h =>
        refine sp_d (fun h3 => by simp at h3; omega) (fun h3 => ?_)
        walk_at "wp"
        exact h
    walk_at "wp"
    refine ⟨by simp, ?_⟩
    have pr : ∀ {Q' : PQ}, (w == "power") = true ∨ (w == "root") = true → Q' (.bool (wordsL.contains w && facB w f)) H → ((f.length : Int) = 1 → ∃ x, f = [x] ∧ ∀ b, b = whB x 1 BIG → Q' (.bool b) H) ∧ (¬ (f.length : Int) = 1 → Q' (.bool false) H) := by
      intro Q' hw hq
      have e : (wordsL.contains w && facB w f) = oneB f := by
        rcases hw with hw | hw
        · have := beq_iff_eq.mp hw; subst this; exact fac_pow
        · have := beq_iff_eq.mp hw; subst this; exact fac_root
      rw [e] at hq
      match f, hq with
      | [x], hq => exact ⟨fun _ => ⟨x, rfl, fun b hb => by rw [hb]; exact hq⟩, fun h => absurd rfl h⟩
      | [], hq => exact ⟨fun h => by simp at h, fun _ => hq⟩
      | _ :: _ :: r, hq => exact ⟨fun h => by simp at h; omega, fun _ => hq⟩
    refine sp_b (fun h3 => ?_) (fun h3 => ?_)
    · walk_at "wp"
      obtain ⟨p1, p2⟩ := pr (.inl h3) h
      refine ⟨by omega, ?_⟩
      refine sp_d (fun h4 => ?_) (fun h4 => ?_)
      · obtain ⟨x, rfl, hx⟩ := p1 h4
        walk_at "wp"
        refine ⟨by simp, by decide, by decide, by decide, ?_⟩
        rw [ten30]
        exact c x 1 BIG H _ (hx _ rfl)
      · walk_at "wp"
        exact p2 h4
    walk_at "wp"
    refine ⟨by simp, ?_⟩
    refine sp_b (fun h4 => ?_) (fun h4 => ?_)
    · walk_at "wp"
      obtain ⟨p1, p2⟩ := pr (.inr h4) h
      refine ⟨by omega, ?_⟩
      refine sp_d (fun h4 => ?_) (fun h4 => ?_)
      · obtain ⟨x, rfl, hx⟩ := p1 h4
        walk_at "wp"
        refine ⟨by simp, by decide, by decide, by decide, ?_⟩
        rw [ten30]
        exact c x 1 BIG H _ (hx _ rfl)
      · walk_at "wp"
        exact p2 h4
    walk_at "wp"
    refine ⟨by simp, ?_⟩
    refine sp_b (b := !(w == "prime")) (fun h5 => ?_) (fun h5 => ?_)
    · walk_at "wp"
      have e : wordsL.contains w = false := by
        simp only [Bool.not_eq_true'] at h5
        simp only [wordsL, List.contains_cons, List.contains_nil, Bool.or_false, h1, h2, h3, h4, h5]
      rw [e, Bool.false_and] at h; exact h
    have := beq_iff_eq.mp (show (w == "prime") = true by simpa using h5)
    subst this
    walk_at "wp"
    refine ⟨by omega, ?_⟩
    match f, gf, h with
    | [x, y], gf, h =>
      refine sp_n (fun h3 => absurd rfl h3) (fun _ => ?_)
      walk_at "wp"
      refine ⟨by simp, by decide, by decide, by decide, ?_⟩
      rw [ten30]
      refine c x 1 BIG H _ ?_
      have e : (wordsL.contains "prime" && facB "prime" [x, y]) = (whB x 1 BIG && powB y) := rfl
      rw [e] at h
      walk_at "wp"
      refine sp_b (b := !whB x 1 BIG) (fun h4 => ?_) (fun h4 => ?_)
      · walk_at "wp"
        rw [show whB x 1 BIG = false by simpa using h4] at h; exact h
      rw [show whB x 1 BIG = true by simpa using h4, Bool.true_and] at h
      walk_at "wp"
      refine ⟨by simp, ?_⟩
      rcases tup_or y with ⟨p, rfl⟩ | ⟨hn, hno⟩
      · simp only [isi]
        walk_at "wp"
        have gp : Gd H 3 (.tup p) := gf.mem _ (by simp)
        refine ⟨by simp, by have := gp.len; omega, ?_⟩
        cases p with
        | nil =>
          refine sp_d (fun h3 => by simp at h3) (fun h3 => ?_)
          walk_at "wp"
          exact h
        | cons z r =>
          refine sp_d (fun h3 => ?_) (fun h3 => absurd (by simp; try omega) h3)
          walk_at "wp"
          refine ⟨by simp, ?_⟩
          exact cr _ _ H _ gp h
      · simp only [hno]
        walk_at "wp"
        have : powB y = false := by cases y <;> first | rfl | simp [isi] at hno
        rw [this] at h; exact h
    | [], _, h =>
      refine sp_n (fun h3 => ?_) (fun h3 => by simp at h3)
      walk_at "wp"
      exact h
    | [_], _, h =>
      refine sp_n (fun h3 => ?_) (fun h3 => by simp at h3)
      walk_at "wp"
      exact h
    | _ :: _ :: _ :: r, _, h =>
      refine sp_n (fun h3 => ?_) (fun h3 => by simp at h3; try omega)
      walk_at "wp"
      exact h
  · rw [hn] at h
    rcases hh with ⟨p, rfl, hp⟩ | hno
    · simp only [isi]
      walk_at "wp"
      refine ⟨by obtain ⟨n, g1⟩ := g.1; have := g1.len; omega, ?_⟩
      refine sp_n (fun hc => ?_) (fun hc => absurd (by omega) hp)
      walk_at "wp"
      exact h
    · simp only [hno]
      walk_at "wp"
      exact h
end
section
open PySem
set_option linter.unusedVariables false
set_option linter.unusedSimpArgs false
set_option maxHeartbeats 2000000
theorem at_new {H : Hp} {o : AObj} : (H ++ [o])[H.length]? = some o := by simp
theorem pre_new {H : Hp} {t : Hp} : H <+: H ++ t := List.prefix_append _ _
theorem pre_set {H H' : Hp} {i : Nat} {o : AObj} (p : H <+: H') (h : H.length ≤ i) : H <+: H'.set i o := by
  obtain ⟨t, rfl⟩ := p
  rw [List.set_append_right _ _ h]; exact List.prefix_append _ _
theorem idx_any {H : Hp} {Q : PQ} {i : Nat} {l : List AV} {k : Int} (h : H[i]? = some (.list l)) (hn : l.length ≤ 1000) (h0 : 0 ≤ k) (h1 : k < l.length) (q : ∀ z ∈ l, Q z H) : wpIdx (.ref i) (.int k) H Q := by
  rw [i_list h]
  exact ⟨by omega, k.toNat, l[k.toNat]'(by omega), place_nn h0 h1, List.getElem?_eq_getElem _, q _ (List.getElem_mem _)⟩
theorem cel_at {H : Hp} {Q : PQ} {i n : Nat} {cs : List Int} {k : Int} (h : H[i]? = some (.list (cs.map .int))) (hc : Cells cs n) (hn : n ≤ 1000) (h0 : 0 ≤ k) (h1 : k < n) (q : ∀ c, 0 ≤ c → c < 2147483647 → Q (.int c) H) : wpIdx (.ref i) (.int k) H Q := by
  have hl := hc.len
  refine idx_any h (by simp; omega) h0 (by simp; omega) fun z hz => ?_
  obtain ⟨c, h1, rfl⟩ := List.mem_map.mp hz
  exact q c (hc.bd c h1).1 (hc.bd c h1).2

def SGood (Φ : Fun) : Prop := ∀ (c : Int) (H : Hp) (Q : PQ), 0 ≤ c → c < 2147483647 → (∀ (n : Int) H', H <+: H' → Q (.int n) H') → Φ "_law_good" [.int c, .int 2] H Q
theorem good {Φ : Fun} {c : Int} {H : Hp} {Q : PQ} (h0 : 0 ≤ c) (h1 : c < 2147483647) (h : ∀ (n : Int) H', H <+: H' → Q (.int n) H') : wpF Φ m_law_good [.int c, .int 2] H Q := by
  walk_at "fn"
  simp only [m_law_good]
  walk_at "go"
  walk_at "am"
  refine sp_d (fun _ => ?_) (fun _ => ?_)
  · walk_at "go"
    walk_at "am"
    refine idx_any at_new (by simp) (by omega) (by simp; omega) fun z hz => ?_
    have : ∃ n, z = .int n := by
      simp only [List.mem_cons, List.not_mem_nil, or_false] at hz
      rcases hz with rfl | rfl | rfl | rfl <;> exact ⟨_, rfl⟩
    obtain ⟨n, rfl⟩ := this
    exact h n _ pre_new
  · walk_at "go"
    refine ⟨mulOk_right (by omega), ?_⟩
    walk_at "go"
    walk_at "am"
    refine idx_any at_new (by simp) (by omega) (by simp; omega) fun z hz => ?_
    have : ∃ n : Int, z = .int n ∧ 0 < n := by
      simp only [List.mem_cons, List.not_mem_nil, or_false] at hz
      rcases hz with rfl | rfl <;> exact ⟨_, rfl, by decide⟩
    obtain ⟨n, rfl, hn⟩ := this
    walk_at "wp"
    exact ⟨by omega, h _ _ pre_new⟩

/-- flat data -/
def Fl : AV → Prop | .int _ => True | .bool _ => True | .str _ => True | .none => True | _ => False
theorem Fl.gd {H : Hp} {n : Nat} {v : AV} (h : Fl v) : Gd H n v := by
  cases v <;> first | exact .int | exact .bool | exact .str | exact .none | exact h.elim
def SOdd (Φ : Fun) : Prop := ∀ (c low : Int) (H : Hp) (Q : PQ), 0 ≤ c → (∀ v H', H <+: H' → Gd H' 1 v → Q v H') → Φ "_law_odd" [.int c, .int low] H Q
theorem odd {Φ : Fun} {c low : Int} {H : Hp} {Q : PQ} (h0 : 0 ≤ c) (h : ∀ v H', H <+: H' → Gd H' 1 v → Q v H') : wpF Φ m_law_odd [.int c, .int low] H Q := by
  walk_at "fn"
  simp only [m_law_odd]
  walk_at "go"
  walk_at "am"
  refine idx_any at_new (by simp) (by omega) (by simp; omega) fun z hz => ?_
  refine h z _ (List.IsPrefix.trans pre_new pre_new) ?_
  simp only [List.mem_cons, List.not_mem_nil, or_false] at hz
  rcases hz with rfl | rfl | rfl | rfl | rfl | rfl | rfl | rfl | rfl | rfl
  · exact .int
  · exact .int
  · exact .int
  · exact .bool
  · exact .str
  · exact .none
  · exact .tup (by simp) fun x hx => by rw [List.mem_singleton.mp hx]; exact .int
  · exact .ref (l := [.int 3]) (by simp) fun x hx => by rw [List.mem_singleton.mp hx]; exact .int
  · exact .int
  · exact .int
end
section
open PySem
set_option linter.unusedVariables false
set_option linter.unusedSimpArgs false
set_option maxHeartbeats 2000000
theorem szL {n : Nat} (h : n ≤ 1000) : n ≤ sizeLine := by unfold sizeLine; omega
def Prs (l : List AV) : Prop := ∀ x ∈ l, ∃ q t : Int, x = .tup [.int q, .int t]
def SPowers (Φ : Fun) : Prop := ∀ (i : Nat) (cs : List Int) (H : Hp) (Q : PQ), H[i]? = some (.list (cs.map .int)) → Cells cs 12 → (∀ j l H', H <+: H' → H'[j]? = some (.list l) → 1 ≤ l.length → l.length ≤ 4 → Prs l → Q (.ref j) H') → Φ "_law_powers" [.ref i] H Q
theorem powers {Φ : Fun} {i : Nat} {cs : List Int} {H : Hp} {Q : PQ} (hi : H[i]? = some (.list (cs.map .int))) (hc : Cells cs 12) (h : ∀ j l H', H <+: H' → H'[j]? = some (.list l) → 1 ≤ l.length → l.length ≤ 4 → Prs l → Q (.ref j) H') : wpF Φ m_law_powers [.ref i] H Q := by
  walk_at "fn"
  simp only [m_law_powers]
  walk_at "go"
  refine cel_at (pre_at pre_new hi) hc (by omega) (by omega) (by omega) fun c0 c00 c01 => ?_
  walk_at "go"
  walk_at "am"
  refine ⟨by omega, by omega, ?_⟩
  refine for_intro (fun n loc H' => ∃ (l : List AV) (a : Int) (o : Option AV), H <+: H' ∧ H'[H.length]? = some (.list l) ∧ l.length = n ∧ Prs l ∧ loc = [some (.ref i), some (.ref H.length), some (.int a), o]) ⟨[], 1, none, pre_new, at_new, rfl, (fun x hx => by cases hx), rfl⟩ ?_
  rintro n loc H' ⟨l, a, o, hp, hg, hl, hr, rfl⟩
  refine ⟨trivial, fun y hy => ?_, fun hn => ?_⟩
  · have hlt : n < (1 + c0 % 4).toNat := by
      have := (List.getElem?_eq_some_iff.mp hy).1
      simpa using this
    rw [List.getElem?_map, List.getElem?_range (by simpa using hlt)] at hy
    simp only [Option.map_some, Option.some.injEq] at hy
    subst hy
    refine ⟨[.int n], rfl, ?_⟩
    walk_at "go"
    refine cel_at (pre_at hp hi) hc (by omega) (by omega) (by omega) fun c1 c10 c11 => ?_
    walk_at "go"
    refine cel_at (pre_at (hp.trans pre_new) hi) hc (by omega) (by omega) (by omega) fun c2 c20 c21 => ?_
    walk_at "go"
    walk_at "am"
    refine idx_any at_new (by simp) (by omega) (by simp; omega) fun z hz => ?_
    have : ∃ n : Int, z = .int n ∧ 0 < n := by
      simp only [List.mem_cons, List.not_mem_nil, or_false] at hz
      rcases hz with rfl | rfl <;> exact ⟨_, rfl, by decide⟩
    obtain ⟨m, rfl, hm⟩ := this
    walk_at "go"
    generalize a + 1 + c1.fmod m = q
    generalize hH1 : H' ++ [AObj.list [AV.int 3, AV.int 1000003]] = H1
    have hp1 : H <+: H1 := by rw [← hH1]; exact hp.trans pre_new
    have hg1 : H1[H.length]? = some (.list l) := by rw [← hH1]; exact pre_at pre_new hg
    refine ⟨isL_ref hg1, ?_⟩
    refine cel_at (pre_at hp1 hi) hc (by omega) (by omega) (by omega) fun c3 c30 c31 => ?_
    walk_at "go"
    refine cel_at (pre_at (hp1.trans pre_new) hi) hc (by omega) (by omega) (by omega) fun c4 c40 c41 => ?_
    walk_at "go"
    walk_at "am"
    refine idx_any at_new (by simp) (by omega) (by simp; omega) fun z hz => ?_
    have : ∃ n : Int, z = .int n := by
      simp only [List.mem_cons, List.not_mem_nil, or_false] at hz
      rcases hz with rfl | rfl | rfl <;> exact ⟨_, rfl⟩
    obtain ⟨t, rfl⟩ := this
    walk_at "go"
    rw [m_append (pre_at pre_new hg1)]
    refine ⟨szL (by omega), ?_⟩
    walk_at "wp"
    refine for_next ⟨l ++ [.tup [.int q, .int t]], q, _, pre_set (hp1.trans pre_new) (Nat.le_refl _), ?_, by simp [hl], ?_, rfl⟩
    · rw [List.getElem?_set_self]
      have := (List.getElem?_eq_some_iff.mp hg1).1
      simp; omega
    · intro x hx
      rcases List.mem_append.mp hx with m | m
      · exact hr x m
      · rw [List.mem_singleton.mp m]; exact ⟨q, t, rfl⟩
  · walk_at "wp"
    have : n = (1 + c0 % 4).toNat := by simpa using hn
    exact h H.length l H' hp hg (by omega) (by omega) hr
end
section
open PySem
set_option linter.unusedVariables false
set_option linter.unusedSimpArgs false
set_option maxHeartbeats 2000000
theorem wl_at {H : Hp} {j : Nat} {l : List AV} {K : List AV → Prop} (h : H[j]? = some (.list l)) (k : K l) : withL (seqL H (.ref j)) K := by
  rw [show seqL H (.ref j) = some l by simp [seqL, h]]; exact k
theorem add_at {H : Hp} {Q : PQ} {i j : Nat} {l m : List AV} (h1 : H[i]? = some (.list l)) (h2 : H[j]? = some (.list m)) (hn : l.length + m.length ≤ 1000) (q : Q (.ref H.length) (H ++ [.list (l ++ m)])) : wpBin .add (.ref i) (.ref j) H Q := by
  rw [b_addL h1 h2]; exact ⟨szL hn, q⟩
theorem tup_at {H : Hp} {Q : PQ} {i : Nat} {l : List AV} (h : H[i]? = some (.list l)) (hn : l.length ≤ 1000) (q : Q (.tup l) H) : wpBi .tuple [.ref i] H Q := by
  rw [t_list h]; exact ⟨szL hn, q⟩
theorem lst_at {H : Hp} {Q : PQ} {i : Nat} {l : List AV} (h : H[i]? = some (.list l)) (hn : l.length ≤ 1000) (q : Q (.ref H.length) (H ++ [.list l])) : wpBi .list [.ref i] H Q := by
  rw [g_list h]; exact ⟨szL hn, q⟩
theorem len_at {H : Hp} {Q : PQ} {i : Nat} {l : List AV} (h : H[i]? = some (.list l)) (hn : l.length ≤ 1000) (q : Q (.int l.length) H) : wpBi .len [.ref i] H Q := by
  rw [l_list h]; exact ⟨by omega, q⟩
theorem lslice_mem {l : List AV} {a b : Option Int} {x : AV} (h : x ∈ lslice l a b) : x ∈ l := by
  unfold lslice at h; exact List.mem_of_mem_drop (List.mem_of_mem_take h)
theorem lslice_len {l : List AV} {a b : Option Int} : (lslice l a b).length ≤ l.length := by
  unfold lslice; rw [List.length_take, List.length_drop]; omega

/-- three lists put together and made a tuple -/
theorem Prs.gd {H : Hp} {l : List AV} (h : Prs l) : ∀ x ∈ l, Gd H 1 x := fun x hx => by
  obtain ⟨q, t, rfl⟩ := h x hx
  exact .tup (by simp) fun y hy => by
    simp only [List.mem_cons, List.not_mem_nil, or_false] at hy
    rcases hy with rfl | rfl <;> exact .int
theorem gd3 {H : Hp} {l a b : List AV} (ha : ∀ x ∈ a, Gd H 1 x) (hb : ∀ x ∈ b, Gd H 1 x) (hl : ∀ x ∈ l, Gd H 1 x) (n : a.length + l.length + b.length ≤ 100) : Gd H 3 (.tup (a ++ l ++ b)) :=
  .tup (by simp; omega) fun x hx => by
    rcases List.mem_append.mp hx with hx | hx
    · rcases List.mem_append.mp hx with hx | hx
      · exact (ha x hx).up (by omega)
      · exact (hl x hx).up (by omega)
    · exact (hb x hx).up (by omega)
def SSpoilt (Φ : Fun) : Prop := ∀ (j : Nat) (l : List AV) (c : Int) (H : Hp) (Q : PQ), H[j]? = some (.list l) → 1 ≤ l.length → l.length ≤ 4 → Prs l → 0 ≤ c → (∀ v H', H <+: H' → Gd H' 3 v → Q v H') → Φ "_law_powers_spoilt" [.ref j, .int c] H Q
theorem spoilt {Φ : Fun} {j : Nat} {l : List AV} {c : Int} {H : Hp} {Q : PQ} (hg : H[j]? = some (.list l)) (l1 : 1 ≤ l.length) (l4 : l.length ≤ 4) (hr : Prs l) (c0 : 0 ≤ c) (h : ∀ v H', H <+: H' → Gd H' 3 v → Q v H') : wpF Φ m_law_powers_spoilt [.ref j, .int c] H Q := by
  walk_at "fn"
  simp only [m_law_powers_spoilt]
  walk_at "wp"
  refine len_at hg (by omega) ?_
  walk_at "wp"
  refine ⟨by omega, ?_⟩
  simp only [fmod_nn (show (0 : Int) ≤ l.length by omega)]
  have a0 := Int.emod_nonneg c (show (l.length : Int) ≠ 0 by omega)
  have a1 := Int.emod_lt_of_pos c (show (0 : Int) < l.length by omega)
  generalize c % l.length = a at a0 a1
  walk_at "wp"
  refine idx_any hg (by omega) a0 a1 fun z hz => ?_
  obtain ⟨q, t, rfl⟩ := hr z hz
  walk_at "go"
  walk_at "am"
  generalize hS : [AV.tup [AV.int q, AV.int 0], AV.tup [AV.int q, AV.int 101], AV.ref H.length, AV.tup [AV.int q, AV.int t, AV.int 1], AV.tup [AV.bool true, AV.int t], AV.tup [AV.int q, AV.bool true], AV.tup [AV.int 1, AV.int t], AV.int q, AV.tup [AV.int q]] = S
  generalize hN : (H ++ [AObj.list [AV.int q, AV.int t]]).length = n
  generalize hH1 : H ++ [AObj.list [AV.int q, AV.int t]] ++ [AObj.list S] = H1
  have hp1 : H <+: H1 := by rw [← hH1]; exact pre_new.trans pre_new
  have hg1 : H1[j]? = some (.list l) := pre_at hp1 hg
  have hS1 : H1[n]? = some (.list S) := by rw [← hH1, ← hN]; exact at_new
  have S9 : S.length = 9 := by rw [← hS]; rfl
  have gS : ∀ x ∈ S, Gd H1 1 x := by
    intro x hx
    rw [← hS] at hx
    simp only [List.mem_cons, List.not_mem_nil, or_false] at hx
    rcases hx with rfl | rfl | rfl | rfl | rfl | rfl | rfl | rfl | rfl
    · exact .tup (by simp) fun x hx => by simp only [List.mem_cons, List.not_mem_nil, or_false] at hx; rcases hx with rfl | rfl <;> exact .int
    · exact .tup (by simp) fun x hx => by simp only [List.mem_cons, List.not_mem_nil, or_false] at hx; rcases hx with rfl | rfl <;> exact .int
    · exact .ref (l := [.int q, .int t]) (by rw [← hH1]; exact pre_at pre_new at_new) fun x hx => by simp only [List.mem_cons, List.not_mem_nil, or_false] at hx; rcases hx with rfl | rfl <;> exact .int
    · exact .tup (by simp) fun x hx => by simp only [List.mem_cons, List.not_mem_nil, or_false] at hx; rcases hx with rfl | rfl | rfl <;> exact .int
    · exact .tup (by simp) fun x hx => by simp only [List.mem_cons, List.not_mem_nil, or_false] at hx; rcases hx with rfl | rfl <;> first | exact .int | exact .bool
    · exact .tup (by simp) fun x hx => by simp only [List.mem_cons, List.not_mem_nil, or_false] at hx; rcases hx with rfl | rfl <;> first | exact .int | exact .bool
    · exact .tup (by simp) fun x hx => by simp only [List.mem_cons, List.not_mem_nil, or_false] at hx; rcases hx with rfl | rfl <;> exact .int
    · exact .int
    · exact .tup (by simp) fun x hx => by rw [List.mem_singleton.mp hx]; exact .int
  have w0 : 0 ≤ c / 4 % 14 := by omega
  generalize c / 4 % 14 = w at w0
  have sl : ∀ {x y : Option Int}, (lslice l x y).length ≤ 4 := fun {x y} => Nat.le_trans lslice_len l4
  have gsl : ∀ {H' : Hp} {x y : Option Int}, ∀ z ∈ lslice l x y, Gd H' 1 z := fun {H' x y} z hz => hr.gd z (lslice_mem hz)
  refine sp_d (fun w9 => ?_) (fun w9 => ?_)
  · walk_at "go"
    refine wl_at hg1 ?_
    walk_at "wp"
    refine ⟨szL (by omega), ?_⟩
    refine idx_any (pre_at pre_new hS1) (by omega) w0 (by omega) fun z hz => ?_
    walk_at "go"
    refine add_at (pre_at pre_new at_new) at_new (by have := @sl none (some a); simp; omega) ?_
    walk_at "wp"
    refine ⟨by omega, wl_at (pre_at (pre_new.trans (pre_new.trans pre_new)) hg1) ?_⟩
    walk_at "wp"
    refine ⟨szL (by omega), ?_⟩
    refine add_at (pre_at pre_new at_new) at_new (by have := @sl none (some a); have := @sl (some (a + 1)) none; simp; omega) ?_
    walk_at "wp"
    refine tup_at at_new (by have := @sl none (some a); have := @sl (some (a + 1)) none; simp; omega) ?_
    walk_at "wp"
    refine h _ _ ?_ (gd3 gsl gsl (fun x hx => by rw [List.mem_singleton.mp hx]; exact (gS z hz).grow (by repeat (first | exact pre_new | refine List.IsPrefix.trans ?_ pre_new))) (by have := @sl none (some a); have := @sl (some (a + 1)) none; simp; omega))
    exact hp1.trans (by repeat (first | exact pre_new | refine List.IsPrefix.trans ?_ pre_new))
  walk_at "wp"
  refine sp_d (fun w9 => ?_) (fun w9 => ?_)
  · walk_at "go"
    refine wl_at hg1 ?_
    walk_at "wp"
    refine ⟨szL (by omega), ?_⟩
    refine idx_any (pre_at pre_new hg1) (by omega) a0 a1 fun z hz => ?_
    walk_at "go"
    refine add_at (pre_at pre_new at_new) at_new (by have := @sl none (some a); simp; omega) ?_
    walk_at "wp"
    refine ⟨by omega, wl_at (pre_at (pre_new.trans (pre_new.trans pre_new)) hg1) ?_⟩
    walk_at "wp"
    refine ⟨szL (by omega), ?_⟩
    refine add_at (pre_at pre_new at_new) at_new (by have := @sl none (some a); have := @sl (some a) none; simp; omega) ?_
    walk_at "wp"
    refine tup_at at_new (by have := @sl none (some a); have := @sl (some a) none; simp; omega) ?_
    walk_at "wp"
    refine h _ _ ?_ (gd3 gsl gsl (fun x hx => by rw [List.mem_singleton.mp hx]; exact hr.gd z hz) (by have := @sl none (some a); have := @sl (some a) none; simp; omega))
    exact hp1.trans (by repeat (first | exact pre_new | refine List.IsPrefix.trans ?_ pre_new))
  walk_at "wp"
  refine sp_d (fun w10 => ?_) (fun w10 => ?_)
  · walk_at "wp"
    refine sp_d (fun ap => ?_) (fun ap => ?_)
    · walk_at "wp"
      refine ⟨by omega, wl_at hg1 ?_⟩
      walk_at "wp"
      refine ⟨szL (by omega), ?_⟩
      refine idx_any (pre_at pre_new hg1) (by omega) a0 a1 fun z hz => ?_
      walk_at "wp"
      refine idx_any (pre_at pre_new hg1) (by omega) (by omega) (by omega) fun z2 hz2 => ?_
      walk_at "go"
      refine add_at (pre_at pre_new at_new) at_new (by have := @sl none (some (a - 1)); simp; omega) ?_
      walk_at "wp"
      refine ⟨by omega, wl_at (pre_at (pre_new.trans (pre_new.trans pre_new)) hg1) ?_⟩
      walk_at "wp"
      refine ⟨szL (by omega), ?_⟩
      refine add_at (pre_at pre_new at_new) at_new (by have := @sl none (some (a - 1)); have := @sl (some (a + 1)) none; simp; omega) ?_
      walk_at "wp"
      refine tup_at at_new (by have := @sl none (some (a - 1)); have := @sl (some (a + 1)) none; simp; omega) ?_
      walk_at "wp"
      refine h _ _ ?_ (gd3 gsl gsl (fun x hx => by simp only [List.mem_cons, List.not_mem_nil, or_false] at hx; rcases hx with rfl | rfl <;> exact hr.gd _ (by assumption)) (by have := @sl none (some (a - 1)); have := @sl (some (a + 1)) none; simp; omega))
      exact hp1.trans (by repeat (first | exact pre_new | refine List.IsPrefix.trans ?_ pre_new))
    · walk_at "wp"
      refine sp_d (fun w11 => absurd (w10.symm.trans w11) (by decide)) (fun w11 => ?_)
      walk_at "wp"
      refine sp_d (fun w11 => absurd (w10.symm.trans w11) (by decide)) (fun w11 => ?_)
      walk_at "wp"
      refine lst_at hg1 (by omega) ?_
      walk_at "wp"
      refine idx_any (pre_at pre_new hg1) (by omega) (by omega) (by omega) fun z hz => ?_
      walk_at "go"
      walk_at "am"
      refine idx_any at_new (by simp) (by omega) (by simp; omega) fun y hy => ?_
      walk_at "wp"
      refine h _ _ (hp1.trans (by repeat (first | exact pre_new | refine List.IsPrefix.trans ?_ pre_new))) ?_
      simp only [List.mem_cons, List.not_mem_nil, or_false] at hy
      rcases hy with rfl | rfl | rfl
      · exact .ref (l := l) (pre_at pre_new at_new) fun x hx => (hr.gd x hx).up (by omega)
      · exact .none
      · exact (hr.gd _ hz).up (by omega)
  walk_at "wp"
  refine sp_d (fun w11 => ?_) (fun w11 => ?_)
  · walk_at "go"
    refine add_at (pre_at pre_new hg1) at_new (by simp; omega) ?_
    walk_at "wp"
    refine tup_at at_new (by simp; omega) ?_
    walk_at "wp"
    refine h _ _ (hp1.trans (by repeat (first | exact pre_new | refine List.IsPrefix.trans ?_ pre_new))) ?_
    refine .tup (by simp; omega) fun x hx => ?_
    rcases List.mem_append.mp hx with hx | hx
    · exact (hr.gd x hx).up (by omega)
    · rw [List.mem_singleton.mp hx]
      exact .tup (by simp) fun y hy => by
        simp only [List.mem_cons, List.not_mem_nil, or_false] at hy
        rcases hy with rfl | rfl <;> exact .int
  walk_at "wp"
  refine sp_d (fun w12 => ?_) (fun w12 => ?_)
  · walk_at "go"
    exact h _ _ hp1 (.tup (by simp) fun x hx => by cases hx)
  walk_at "wp"
  refine lst_at hg1 (by omega) ?_
  walk_at "wp"
  refine idx_any (pre_at pre_new hg1) (by omega) (by omega) (by omega) fun z hz => ?_
  walk_at "go"
  walk_at "am"
  refine idx_any at_new (by simp) (by omega) (by simp; omega) fun y hy => ?_
  walk_at "wp"
  refine h _ _ (hp1.trans (by repeat (first | exact pre_new | refine List.IsPrefix.trans ?_ pre_new))) ?_
  simp only [List.mem_cons, List.not_mem_nil, or_false] at hy
  rcases hy with rfl | rfl | rfl
  · exact .ref (l := l) (pre_at pre_new at_new) fun x hx => (hr.gd x hx).up (by omega)
  · exact .none
  · exact (hr.gd _ hz).up (by omega)
end
section
open PySem
set_option linter.unusedVariables false
set_option linter.unusedSimpArgs false
set_option maxHeartbeats 2000000
theorem gd_tup2 {H : Hp} {n : Nat} {a b : AV} (ha : Gd H n a) (hb : Gd H n b) : Gd H (n + 1) (.tup [a, b]) := .tup (by simp) fun x hx => by
  simp only [List.mem_cons, List.not_mem_nil, or_false] at hx
  rcases hx with rfl | rfl <;> assumption
theorem gd_tup1 {H : Hp} {n : Nat} {a : AV} (ha : Gd H n a) : Gd H (n + 1) (.tup [a]) := .tup (by simp) fun x hx => by rw [List.mem_singleton.mp hx]; exact ha
theorem bool01 (b : Bool) : 0 ≤ (if b = true then (1 : Int) else 0) ∧ (if b = true then (1 : Int) else 0) < 2 := by cases b <;> decide
def SFacts (Φ : Fun) : Prop := ∀ (w : Str) (i : Nat) (cs : List Int) (p : Int) (H : Hp) (Q : PQ), H[i]? = some (.list (cs.map .int)) → Cells cs 12 → (∀ v H', H <+: H' → Gd H' 4 v → Q v H') → Φ "_law_facts" [.str w, .ref i, .int p] H Q
theorem facts {Φ : Fun} (cg : SGood Φ) (co : SOdd Φ) (cp : SPowers Φ) (cs' : SSpoilt Φ) {w : Str} {i : Nat} {cs : List Int} {p : Int} {H : Hp} {Q : PQ} (hi : H[i]? = some (.list (cs.map .int))) (hc : Cells cs 12) (h : ∀ v H', H <+: H' → Gd H' 4 v → Q v H') :
    wpF Φ m_law_facts [.str w, .ref i, .int p] H Q := by
  have rest : ∀ v1 H1, H <+: H1 → Gd H1 1 v1 → wpSs Φ (m_law_facts.body.drop 3) [some (.str w), some (.ref i), some (.int p), some v1] H1 (endOf Q) := by
    intro v1 H1 hp g1
    simp only [m_law_facts, List.drop]
    walk_at "wp"
    have hi1 := pre_at hp hi
    refine sp_b (fun h1 => ?_) (fun h1 => ?_)
    · walk_at "wp"
      refine cel_at hi1 hc (by omega) (by omega) (by omega) fun c1 c10 c11 => ?_
      walk_at "wp"
      refine cg c1 H1 _ c10 c11 fun n H2 hp2 => ?_
      walk_at "go"
      refine cel_at (pre_at hp2 hi1) hc (by omega) (by omega) (by omega) fun c2 c20 c21 => ?_
      walk_at "wp"
      refine cg c2 H2 _ c20 c21 fun n2 H3 hp3 => ?_
      walk_at "go"
      refine cel_at (pre_at (hp2.trans (hp3.trans pre_new)) hi1) hc (by omega) (by omega) (by omega) fun c3 c30 c31 => ?_
      walk_at "go"
      walk_at "am"
      refine idx_any at_new (by simp) (by omega) (by simp; omega) fun z hz => ?_
      walk_at "wp"
      refine h z _ (hp.trans (hp2.trans (hp3.trans pre_new))) ?_
      have g2 := g1.grow (hp2.trans (hp3.trans (pre_new (t := [AObj.list [.tup [v1, .int n], .tup [.int n2, v1]]]))))
      simp only [List.mem_cons, List.not_mem_nil, or_false] at hz
      rcases hz with rfl | rfl
      · exact (gd_tup2 g2 .int).up (by omega)
      · exact (gd_tup2 .int g2).up (by omega)
    walk_at "wp"
    have pr : wpSs Φ [MS.ret (.tup [.idx (.lst [.loc 3, .cst (.int 1)]) (.bi .int [.and2 (.cmp .ne (.loc 2) (.cst (.int 4))) (.cmp .eq (.bin .mod (.idx (.loc 1) (.cst (.int 6))) (.cst (.int 9))) (.cst (.int 0)))])])] [some (.str w), some (.ref i), some (.int p), some v1] H1 (thenS Φ (m_law_facts.body.drop 5) (endOf Q)) := by
      have fin : ∀ b : Bool, wpIdx (.ref H1.length) (.int (if b = true then 1 else 0)) (H1 ++ [.list [v1, .int 1]]) (kE1 Φ [] [some (.str w), some (.ref i), some (.int p), some v1] (kTup (kRet [some (.str w), some (.ref i), some (.int p), some v1] (thenS Φ [] (thenS Φ (m_law_facts.body.drop 5) (endOf Q)))))) := by
        intro b
        refine idx_any at_new (by simp) (bool01 b).1 (by have := (bool01 b).2; simpa using this) fun z hz => ?_
        walk_at "go"
        refine h _ _ (hp.trans pre_new) ?_
        have g2 := g1.grow (pre_new (t := [AObj.list [v1, .int 1]]))
        simp only [List.mem_cons, List.not_mem_nil, or_false] at hz
        rcases hz with rfl | rfl
        · exact (gd_tup1 g2).up (by omega)
        · exact (gd_tup1 .int).up (n := 2) (by omega)
      walk_at "go"
      refine sp_n (fun h2 => ?_) (fun h2 => ?_)
      · walk_at "wp"
        refine cel_at (pre_at pre_new hi1) hc (by omega) (by omega) (by omega) fun c1 c10 c11 => ?_
        walk_at "go"
        exact fin _
      · walk_at "wp"
        exact fin _
    refine sp_b (fun h2 => ?_) (fun h2 => ?_)
    · simp only [k_ort, k_ite, k_itet]
      exact pr
    simp only [k_orf]
    walk_at "wp"
    refine sp_b (fun h3 => ?_) (fun h3 => ?_)
    · simp only [k_itet]
      exact pr
    walk_at "wp"
    refine sp_b (fun h4 => ?_) (fun h4 => ?_)
    · walk_at "wp"
      refine sp_d (fun h5 => ?_) (fun h5 => ?_)
      · walk_at "wp"
        refine cp i cs H1 _ hi1 hc fun j l H2 hp2 hj l1 l4 hr => ?_
        walk_at "wp"
        refine cel_at (pre_at hp2 hi1) hc (by omega) (by omega) (by omega) fun c1 c10 c11 => ?_
        walk_at "wp"
        refine cs' j l c1 H2 _ hj l1 l4 hr c10 fun v H3 hp3 gv => ?_
        walk_at "go"
        exact h _ _ (hp.trans (hp2.trans hp3)) (gd_tup2 ((g1.grow (hp2.trans hp3)).up (by omega)) gv)
      · walk_at "wp"
        refine sp_b (fun h6 => ?_) (fun h6 => absurd (h4.symm.trans h6) (by decide))
        walk_at "wp"
        refine cp i cs H1 _ hi1 hc fun j l H2 hp2 hj l1 l4 hr => ?_
        walk_at "wp"
        refine tup_at hj (by omega) ?_
        walk_at "go"
        exact h _ _ (hp.trans hp2) (gd_tup2 ((g1.grow hp2).up (by omega)) (.tup (by omega) fun x hx => (hr.gd x hx).up (by omega)))
    walk_at "wp"
    refine sp_b (fun h6 => absurd (h6.symm.trans h4) (by decide)) (fun h6 => ?_)
    walk_at "go"
    exact h _ _ hp (.tup (n := 3) (by simp) fun x hx => by cases hx)
  walk_at "fn"
  simp only [m_law_facts]
  walk_at "wp"
  refine sp_d (fun h3 => ?_) (fun h3 => ?_)
  · walk_at "go"
    refine cel_at (pre_at (pre_new.trans (pre_new.trans pre_new)) hi) hc (by omega) (by omega) (by omega) fun c1 c10 c11 => ?_
    walk_at "go"
    walk_at "am"
    refine idx_any at_new (by simp) (by omega) (by simp; omega) fun z hz => ?_
    walk_at "wp"
    refine h z _ (pre_new.trans (pre_new.trans pre_new)) ?_
    simp only [List.mem_cons, List.not_mem_nil, or_false] at hz
    rcases hz with rfl | rfl | rfl | rfl | rfl | rfl | rfl | rfl
    · exact .none
    · exact .ref (l := []) (pre_at (pre_new.trans pre_new) at_new) fun x hx => by cases hx
    · exact .int
    · exact .str
    · exact gd_tup1 .bool
    · exact .ref (l := [.int 2, .int 3]) (pre_at pre_new at_new) fun x hx => by
        simp only [List.mem_cons, List.not_mem_nil, or_false] at hx
        rcases hx with rfl | rfl <;> exact .int
    · exact .tup (by simp) fun x hx => by
        simp only [List.mem_cons, List.not_mem_nil, or_false] at hx
        rcases hx with rfl | rfl | rfl <;> exact .int
    · exact .tup (by simp) fun x hx => by cases hx
  walk_at "wp"
  refine cel_at hi hc (by omega) (by omega) (by omega) fun c1 c10 c11 => ?_
  walk_at "wp"
  refine cg c1 H _ c10 c11 fun n H1 hp1 => ?_
  walk_at "wp"
  refine sp_d (fun h4 => ?_) (fun h4 => ?_)
  · walk_at "wp"
    refine cel_at (pre_at hp1 hi) hc (by omega) (by omega) (by omega) fun c2 c20 c21 => ?_
    walk_at "go"
    generalize (w == "split") = b
    refine idx_any at_new (by simp) (bool01 b).1 (by have := (bool01 b).2; simpa using this) fun z hz => ?_
    have : ∃ n : Int, z = .int n := by
      simp only [List.mem_cons, List.not_mem_nil, or_false] at hz
      rcases hz with rfl | rfl <;> exact ⟨_, rfl⟩
    obtain ⟨m, rfl⟩ := this
    walk_at "wp"
    refine co c2 m _ _ c20 fun v H2 hp2 gv => ?_
    simp only [k_asg, ss_nil, thenS_next, List.set_cons_zero, List.set_cons_succ]
    exact rest v H2 (hp1.trans (pre_new.trans hp2)) gv
  · simp only [k_itef, ss_nil, thenS_next]
    exact rest (.int n) H1 hp1 .int
end
section
open PySem
set_option linter.unusedVariables false
set_option linter.unusedSimpArgs false
set_option maxHeartbeats 2000000
def SThing (Φ : Fun) : Prop := ∀ (i : Nat) (cs : List Int) (H : Hp) (Q : PQ), H[i]? = some (.list (cs.map .int)) → Cells cs 12 → (∀ v H', H <+: H' → RG H' v → Q v H') → Φ "_law_thing" [.ref i] H Q
theorem thing {Φ : Fun} (cg : SGood Φ) (co : SOdd Φ) (cf : SFacts Φ) {i : Nat} {cs : List Int} {H : Hp} {Q : PQ} (hi : H[i]? = some (.list (cs.map .int))) (hc : Cells cs 12) (h : ∀ v H', H <+: H' → RG H' v → Q v H') :
    wpF Φ m_law_thing [.ref i] H Q := by
  have rest3 : ∀ (p : Int) (vw vf vn : AV) H1, H <+: H1 → Fl vw → Gd H1 4 vf → Gd H1 1 vn → wpSs Φ (m_law_thing.body.drop 7) [some (.ref i), some (.int p), some vw, some vf, some vn, none] H1 (endOf Q) := by
    intro p vw vf vn H1 hp hw gf gn
    have hi1 := pre_at hp hi
    have g3 : Gd H1 5 (.tup [vn, vw, vf]) := .tup (by simp) fun x hx => by
      simp only [List.mem_cons, List.not_mem_nil, or_false] at hx
      rcases hx with rfl | rfl | rfl
      · exact gn.up (by omega)
      · exact hw.gd
      · exact gf
    have r3 : ∀ H2, H1 <+: H2 → RG H2 (.tup [vn, vw, vf]) := fun H2 p2 => ⟨⟨5, g3.grow p2⟩, fun a w f e => by cases e; exact gf.grow p2⟩
    simp only [m_law_thing, List.drop]
    walk_at "go"
    refine sp_d (fun h6 => ?_) (fun h6 => ?_)
    · walk_at "go"
      refine cel_at (pre_at (pre_new.trans pre_new) hi1) hc (by omega) (by omega) (by omega) fun c1 c10 c11 => ?_
      walk_at "go"
      walk_at "am"
      refine idx_any at_new (by simp) (by omega) (by simp; omega) fun z hz => ?_
      walk_at "wp"
      refine h z _ (hp.trans (pre_new.trans pre_new)) ?_
      have g4 := g3.grow ((pre_new (t := [AObj.list [vn, vw, vf]])).trans (pre_new (t := [AObj.list [AV.ref H1.length, AV.tup ([vn, vw, vf] ++ [AV.int 2]), AV.tup (lslice [vn, vw, vf] none (some 2)), AV.tup [AV.tup [vn, vw, vf]], AV.none, AV.str "row", AV.tup [], AV.int 7]])))
      simp only [List.mem_cons, List.not_mem_nil, or_false] at hz
      rcases hz with rfl | rfl | rfl | rfl | rfl | rfl | rfl | rfl
      · exact ⟨⟨6, .ref (l := [vn, vw, vf]) (pre_at pre_new at_new) fun x hx => (g4.mem x hx).up (by omega)⟩, fun a w f e => by cases e⟩
      · exact ⟨⟨5, .tup (by simp) fun x hx => by
          simp only [List.mem_cons, List.not_mem_nil, or_false] at hx
          rcases hx with rfl | rfl | rfl | rfl
          · exact g4.mem _ (by simp)
          · exact g4.mem _ (by simp)
          · exact g4.mem _ (by simp)
          · exact .int⟩, fun a w f e => by cases e⟩
      · exact ⟨⟨5, .tup (by have := @lslice_len [vn, vw, vf] none (some 2); simp at this; omega) fun x hx => g4.mem x (lslice_mem hx)⟩, fun a w f e => by cases e⟩
      · exact ⟨⟨6, gd_tup1 g4⟩, fun a w f e => by cases e⟩
      · exact ⟨⟨1, .none⟩, fun a w f e => by cases e⟩
      · exact ⟨⟨1, .str⟩, fun a w f e => by cases e⟩
      · exact ⟨⟨1, .tup (by simp) fun x hx => by cases hx⟩, fun a w f e => by cases e⟩
      · exact ⟨⟨1, .int⟩, fun a w f e => by cases e⟩
    · walk_at "wp"
      exact h _ _ hp (r3 _ (List.prefix_refl _))
  have rest2 : ∀ (p : Int) (vw vf : AV) H1, H <+: H1 → Fl vw → Gd H1 4 vf → wpSs Φ (m_law_thing.body.drop 5) [some (.ref i), some (.int p), some vw, some vf, none, none] H1 (endOf Q) := by
    intro p vw vf H1 hp hw gf
    simp only [m_law_thing, List.drop]
    walk_at "wp"
    refine cel_at (pre_at hp hi) hc (by omega) (by omega) (by omega) fun c1 c10 c11 => ?_
    walk_at "wp"
    refine cg c1 H1 _ c10 c11 fun n H2 hp2 => ?_
    walk_at "wp"
    refine sp_d (fun h1 => ?_) (fun h1 => ?_)
    · walk_at "wp"
      refine cel_at (pre_at (hp.trans hp2) hi) hc (by omega) (by omega) (by omega) fun c2 c20 c21 => ?_
      walk_at "wp"
      refine co c2 2 _ _ c20 fun v H3 hp3 gv => ?_
      simp only [k_asg, ss_nil, thenS_next, List.set_cons_zero, List.set_cons_succ]
      exact rest3 p vw vf v H3 (hp.trans (hp2.trans hp3)) hw (gf.grow (hp2.trans hp3)) gv
    · simp only [k_itef, ss_nil, thenS_next]
      exact rest3 p vw vf (.int n) H2 (hp.trans hp2) hw (gf.grow hp2) .int
  have rest1 : ∀ (p : Int) (w : Str) H1, H <+: H1 → wpSs Φ (m_law_thing.body.drop 3) [some (.ref i), some (.int p), some (.str w), none, none, none] H1 (endOf Q) := by
    intro p w H1 hp
    simp only [m_law_thing, List.drop]
    walk_at "wp"
    refine cf w i cs p H1 _ (pre_at hp hi) hc fun v H2 hp2 gv => ?_
    walk_at "wp"
    refine sp_d (fun h1 => ?_) (fun h1 => ?_)
    · walk_at "go"
      refine cel_at (pre_at (hp.trans (hp2.trans pre_new)) hi) hc (by omega) (by omega) (by omega) fun c2 c20 c21 => ?_
      walk_at "go"
      walk_at "am"
      refine idx_any at_new (by simp) (by omega) (by simp; omega) fun z hz => ?_
      simp only [k_asg, ss_nil, thenS_next, List.set_cons_zero, List.set_cons_succ]
      refine rest2 p z v _ (hp.trans (hp2.trans pre_new)) ?_ (gv.grow pre_new)
      simp only [List.mem_cons, List.not_mem_nil, or_false] at hz
      rcases hz with rfl | rfl | rfl | rfl | rfl | rfl | rfl | rfl <;> exact trivial
    · simp only [k_itef, ss_nil, thenS_next]
      exact rest2 p (.str w) v H2 (hp.trans hp2) trivial gv
  walk_at "fn"
  simp only [m_law_thing]
  walk_at "go"
  refine cel_at (pre_at pre_new hi) hc (by omega) (by omega) (by omega) fun c1 c10 c11 => ?_
  walk_at "go"
  walk_at "am"
  refine idx_any at_new (by simp) (by omega) (by simp; omega) fun z hz => ?_
  have : ∃ n : Int, z = .int n := by
    simp only [List.mem_cons, List.not_mem_nil, or_false] at hz
    rcases hz with rfl | rfl | rfl | rfl | rfl | rfl | rfl | rfl | rfl | rfl | rfl <;> exact ⟨_, rfl⟩
  obtain ⟨p, rfl⟩ := this
  walk_at "go"
  generalize hH1 : H ++ [AObj.list [AV.int 0, AV.int 1, AV.int 2, AV.int 3, AV.int 4, AV.int 4, AV.int 5, AV.int 5, AV.int 5, AV.int 5, AV.int 6]] = H1
  have hp1 : H <+: H1 := by rw [← hH1]; exact pre_new
  refine cel_at (pre_at (hp1.trans pre_new) hi) hc (by omega) (by omega) (by omega) fun c2 c20 c21 => ?_
  walk_at "go"
  walk_at "am"
  refine idx_any at_new (by simp) (by omega) (by simp; omega) fun z hz => ?_
  have : ∃ w : Str, z = .str w := by
    simp only [List.mem_cons, List.not_mem_nil, or_false] at hz
    rcases hz with rfl | rfl | rfl | rfl | rfl | rfl | rfl | rfl <;> exact ⟨_, rfl⟩
  obtain ⟨w, rfl⟩ := this
  walk_at "wp"
  refine sp_d (fun h5 => ?_) (fun h5 => ?_)
  · rw [k_itet, ss_cons, s_asg, e_cst, k_asg, thenS_next, ss_nil, thenS_next]
    simp only [List.set_cons_zero, List.set_cons_succ]
    exact rest1 p "prime" _ (hp1.trans pre_new)
  · simp only [k_itef, ss_nil, thenS_next]
    exact rest1 p w _ (hp1.trans pre_new)

theorem law03 {Φ : Fun} (cm : SMixed Φ) (ct : SThing Φ) (c1 : SRow "is_row" Φ) (c2 : SRow "_law_row_right" Φ) {l : List Int} {H : Hp} {Q : PQ} (hl : l.length ≤ 63) (h : ∀ H', Q (.bool true) H') : wpF Φ m_law [.fro (l.map .int)] H Q := by
  walk_at "fn"
  simp only [m_law]
  walk_at "wp"
  refine cm l 60 H _ hl (by omega) fun cs hc => ?_
  walk_at "go"
  refine for_intro (fun n loc H' => ∃ (o1 o2 o3 : Option AV), (H ++ [AObj.list (cs.map .int)]) <+: H' ∧ loc = [some (.fro (l.map .int)), some (.ref H.length), o1, o2, o3]) ⟨none, none, none, List.prefix_refl _, rfl⟩ ?_
  rintro n loc H' ⟨o1, o2, o3, hp, rfl⟩
  have hg : H'[H.length]? = some (.list (cs.map .int)) := pre_at hp at_new
  refine ⟨trivial, fun y hy => ?_, fun hn => ?_⟩
  · have hlt : n < 5 := by
      have := (List.getElem?_eq_some_iff.mp hy).1
      simpa using this
    rw [List.getElem?_map, List.getElem?_range (by simpa using hlt)] at hy
    simp only [Option.map_some, Option.some.injEq] at hy
    subst hy
    refine ⟨[.int n], rfl, ?_⟩
    walk_at "wp"
    refine ⟨mulOk_left (by decide), by omega, mulOk_left (by decide), by omega, wl_at hg ?_⟩
    walk_at "wp"
    have hl60 := hc.len
    refine ⟨szL (by simp; omega), ?_⟩
    have es : lslice (cs.map AV.int) (some (12 * ↑n)) (some (12 * ↑n + 12)) = ((cs.drop (12 * n)).take 12).map AV.int := by
      unfold lslice
      simp only [lclip, List.length_map, List.map_take, List.map_drop]
      congr 1
      · omega
      · congr 1; omega
    rw [es]
    refine ct H'.length ((cs.drop (12 * n)).take 12) _ _ at_new ⟨by simp; omega, fun c hcc => hc.bd c (List.mem_of_mem_drop (List.mem_of_mem_take hcc))⟩ fun v H2 hp2 gv => ?_
    walk_at "wp"
    refine c1 v H2 _ gv ?_
    walk_at "wp"
    simp only [isi]
    walk_at "wp"
    refine c2 v H2 _ gv ?_
    walk_at "wp"
    simp only [bne_self_eq_false, beq_self_eq_true, Bool.not_true]
    walk_at "wp"
    exact for_next ⟨_, _, _, hp.trans (pre_new.trans hp2), rfl⟩
  · walk_at "wp"
    exact h _
end
section
open PySem PySem.W PyProof.Rows
set_option linter.unusedVariables false
set_option maxRecDepth 100000
set_option maxHeartbeats 8000000

theorem VRs.strs {B h : Heap} {ι : List Addr} : ∀ {ss : List Str} {vs : List Value}, StrsAre vs ss → ss.all PyData.strOk = true → VRs B h ι (ss.map .str) vs
  | [], _, .nil, _ => rfl
  | y :: ys, _, .cons _ t r, ok => by
    simp only [List.all_cons, Bool.and_eq_true] at ok
    exact ⟨_, _, rfl, VR.mkStr _ _ ok.1, VRs.strs r ok.2⟩
theorem words_ok : wordsL.all PyData.strOk = true := by decide +kernel
theorem words_of : tupStrsOf hd.view_39 "WORDS" = some wordsL := by decide +kernel

theorem main03 {prog : Program} {R : WRecords} {w : World} {s₀ : Shared} {mg mb : Str → Option Value} {h : Heap} (G : Ground hd.view_39 [Str.ofString "BOUND"] R (XL hd.view_39 [(Str.ofString "BOUND", .int 1000000000000000000000000000000)]) w s₀ mg mb h) {ns : List Int} (hl : ns.length ≤ 63) :
    CallOK (PEnv.mk prog w h mg mb) 5 "law" [.fro (ns.map .int)] [] (fun v _ => v = .bool true) XF := by
  have ok : GOK (PEnv.mk prog w h mg mb) gt := gok_of G free_b fns_b (fun x v e => by
    simp only [gt, List.lookup_cons] at e
    split at e
    · rename_i hx
      have hx := beq_iff_eq.mp hx
      subst hx
      cases e
      obtain ⟨u, h1, h2⟩ := G.X.2.val (Str.ofString "BOUND", .int 1000000000000000000000000000000) (List.mem_singleton.mpr rfl)
      cases h2
      exact ⟨_, h1, fun _ _ _ => VR.mkInt _ _⟩
    split at e
    · rename_i hx
      have hx := beq_iff_eq.mp hx
      subst hx
      cases e
      obtain ⟨a, vs, h1, h2, h3⟩ := G.B.tupS (Str.ofString "WORDS") wordsL words_of
      refine ⟨_, h1, fun h' ι st => ?_⟩
      show VR h h' ι (.tup (wordsL.map .str)) _
      unfold VR
      exact ⟨_, vs, rfl, PTup.of (h2.keeps st), VRs.strs h3 words_ok⟩
    split at e
    · rename_i hx
      have hx := beq_iff_eq.mp hx
      subst hx
      cases e
      obtain ⟨u, h1, h2⟩ := G.T.const (Str.ofString "MOST_TIMES") (.int 100) rfl
      cases h2 default
      exact ⟨_, h1, fun _ _ _ => VR.mkInt _ _⟩
    · simp at e)
  have k1 : ∀ n, SCell (CK (PEnv.mk prog w h mg mb) (n + 1)) := fun n l k H Q h1 h2 h3 => ok_law_cell_at.call (n := n) G ok (Φ := CK _ n) (fun _ _ _ _ h => h) (cell_at h1 h2 h3)
  have k2 : SMixed (CK (PEnv.mk prog w h mg mb) 4) := fun l n H Q h1 h2 h3 => ok_law_mixed.call (n := 3) G ok (Φ := CK _ 3) (fun _ _ _ _ h => h) (mixed (k1 2) h1 h2 h3)
  have k3 : ∀ n, SWh "is_whole" (CK (PEnv.mk prog w h mg mb) (n + 1)) := fun n v a b H Q h1 => ok_is_whole.call (n := n) G ok (Φ := CK _ n) (fun _ _ _ _ h => h) (is_whole h1)
  have k4 : ∀ n, SWh "_law_within" (CK (PEnv.mk prog w h mg mb) (n + 1)) := fun n v a b H Q h1 => ok_law_within.call (n := n) G ok (Φ := CK _ n) (fun _ _ _ _ h => h) (within h1)
  have k5 : SPw "are_powers" (CK (PEnv.mk prog w h mg mb) 2) := fun v n H Q h1 h2 => ok_are_powers.call (n := 1) G ok (Φ := CK _ 1) (fun _ _ _ _ h => h) (are_powers (k3 0) h1 h2)
  have k6 : SFac (CK (PEnv.mk prog w h mg mb) 3) := fun w f n H Q h1 h2 => ok_are_facts.call (n := 2) G ok (Φ := CK _ 2) (fun _ _ _ _ h => h) (are_facts (k3 1) k5 h1 h2)
  have k7 : SRow "is_row" (CK (PEnv.mk prog w h mg mb) 4) := fun v H Q h1 h2 => ok_is_row.call (n := 3) G ok (Φ := CK _ 3) (fun _ _ _ _ h => h) (is_row (k3 2) k6 h1 h2)
  have k8 : SRis (CK (PEnv.mk prog w h mg mb) 3) := fun l n H Q h1 h2 => ok_law_rising.call (n := 2) G ok (Φ := CK _ 2) (fun _ _ _ _ h => h) (rising (k4 1) h1 h2)
  have k9 : SRow "_law_row_right" (CK (PEnv.mk prog w h mg mb) 4) := fun v H Q h1 h2 => ok_law_row_right.call (n := 3) G ok (Φ := CK _ 3) (fun _ _ _ _ h => h) (row_right (k4 2) k8 h1 h2)
  have g1 : ∀ n, SGood (CK (PEnv.mk prog w h mg mb) (n + 1)) := fun n c H Q h1 h2 h3 => ok_law_good.call (n := n) G ok (Φ := CK _ n) (fun _ _ _ _ h => h) (good h1 h2 h3)
  have g2 : ∀ n, SOdd (CK (PEnv.mk prog w h mg mb) (n + 1)) := fun n c low H Q h1 h2 => ok_law_odd.call (n := n) G ok (Φ := CK _ n) (fun _ _ _ _ h => h) (odd h1 h2)
  have g3 : SPowers (CK (PEnv.mk prog w h mg mb) 2) := fun i cs H Q h1 h2 h3 => ok_law_powers.call (n := 1) G ok (Φ := CK _ 1) (fun _ _ _ _ h => h) (powers h1 h2 h3)
  have g4 : SSpoilt (CK (PEnv.mk prog w h mg mb) 2) := fun j l c H Q h1 h2 h3 h4 h5 h6 => ok_law_powers_spoilt.call (n := 1) G ok (Φ := CK _ 1) (fun _ _ _ _ h => h) (spoilt h1 h2 h3 h4 h5 h6)
  have g5 : SFacts (CK (PEnv.mk prog w h mg mb) 3) := fun w i cs p H Q h1 h2 h3 => ok_law_facts.call (n := 2) G ok (Φ := CK _ 2) (fun _ _ _ _ h => h) (facts (g1 1) (g2 1) g3 g4 h1 h2 h3)
  have g6 : SThing (CK (PEnv.mk prog w h mg mb) 4) := fun i cs H Q h1 h2 h3 => ok_law_thing.call (n := 3) G ok (Φ := CK _ 3) (fun _ _ _ _ h => h) (thing (g1 2) (g2 2) g5 h1 h2 h3)
  exact ok_law.call (n := 4) G ok (Φ := CK _ 4) (fun _ _ _ _ h => h) (law03 k2 g6 k7 k9 hl fun H' => rfl)
end
end Mine
open PySem PySem.W PyProof.Rows
set_option maxRecDepth 100000
set_option maxHeartbeats 8000000
theorem PySem.Challenge.cw_uf030003_03_holds : PySem.Challenge.rw_uf030003_03.Holds :=
  Mine.hd (by
  k_fill
  intro w s₀ s₁ mg mb G Y fa o pm cd doc dV kV ho hd hcd hD hmg hg args vals as hpre hlay hrd hwl hlo
  have hm : mg (Str.ofString "law") = some (.ref fa) := hmg
  clear ho hd hcd hD Y hmg
  have T := G.T
  wrow_args hpre hlay hrd hwl hlo
  rename_i hI hr h63 ht
  refine enter_call ?_
  refine Mine.finish (n := 5) hm hg (by decide) (by assumption) hI (fun _ => rfl) (Mine.post_true _ _) (Mine.main03 G (by omega)))

