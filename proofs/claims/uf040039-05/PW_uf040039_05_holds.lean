import PyProof.Rows.All
import KE.KDictSum
import KE.KEqDict
import Wide.All
import OpenK.AllK
import Wide.FinOn
import PySem.Challenge.RW_uf040039_05
set_option Elab.async false
set_option autoImplicit false
set_option linter.unusedVariables false
set_option linter.unusedSimpArgs false

namespace Mine
open PySem PySem.Calls

/-- a value without its token -/
inductive V where
  | none | ell | nimp
  | bool (b : Bool) | int (i : Int) | flt (x : UInt64) | str (s : Str) | bytes (b : Array UInt8)
  | typ (n : String) | bi (id : String) | ref (a : Nat)
  deriving DecidableEq, Inhabited

def toV : Value → V
  | .none => .none | .ellipsis => .ell | .notImplemented => .nimp
  | .bool b => .bool b | .int i _ => .int i | .float x _ => .flt x | .str s _ => .str s | .bytes b _ => .bytes b
  | .type n => .typ n | .builtin id => .bi id | .ref a => .ref a

theorem toV_int {v : Value} {i : Int} (h : toV v = .int i) : ∃ t, v = .int i t := by cases v <;> simp [toV] at h; subst h; exact ⟨_, rfl⟩
theorem toV_str {v : Value} {x : Str} (h : toV v = .str x) : ∃ t, v = .str x t := by cases v <;> simp [toV] at h; subst h; exact ⟨_, rfl⟩
theorem toV_bool {v : Value} {b : Bool} (h : toV v = .bool b) : v = .bool b := by cases v <;> simp [toV] at h; subst h; rfl
theorem toV_ref {v : Value} {a : Nat} (h : toV v = .ref a) : v = .ref a := by cases v <;> simp [toV] at h; subst h; rfl
theorem toV_none {v : Value} (h : toV v = .none) : v = .none := by cases v <;> simp [toV] at h; rfl
theorem toV_typ {v : Value} {n : String} (h : toV v = .typ n) : v = .type n := by cases v <;> simp [toV] at h; subst h; rfl
theorem toV_bi {v : Value} {n : String} (h : toV v = .bi n) : v = .builtin n := by cases v <;> simp [toV] at h; subst h; rfl

/-- what a visible object holds -/
inductive Node where
  | list (xs : List V)
  | rlist (xs : List V)
  | tuple (xs : List V)
  | sdict (es : List (Str × V))
  | idict (es : List (Int × V))
  | rng (a b c : Int)
  | inst (cls : Nat) (d : Nat)
  | other (cls : V)

def Node.isRO : Node → Bool
  | .rlist _ => true
  | _ => false

structure AH where
  get : Nat → Option Node

def AH.set (H : AH) (a : Nat) (n : Node) : AH := ⟨fun b => if b = a then some n else H.get b⟩
theorem AH.set_self (H : AH) (a : Nat) (n : Node) : (H.set a n).get a = some n := by simp [AH.set]
theorem AH.set_ne (H : AH) {a b : Nat} (n : Node) (h : b ≠ a) : (H.set a n).get b = H.get b := by simp [AH.set, h]

/-- the fixed surroundings of one law's call -/
structure Cx where
  prog : Program
  w : World
  h₀ : Heap
  mg : Str → Option Value
  mb : Str → Option Value
  gens : Array GenState
  os : OsState
  gns : h₀.Ns mainGlobals mg
  bns : h₀.Ns builtinsNs mb
  nolim : h₀.NoLimit
  mods : ∃ o, h₀.get? sysModules = some o

abbrev Cx.M (C : Cx) : Model := model C.prog C.w

def ObjIs (C : Cx) (o : Obj) : Node → Prop
  | .list xs => xs.length < 2 ^ 62 ∧ ∃ vs k, o = { cls := .type "list", data := .seq vs k } ∧ vs.toList.map toV = xs
  | .rlist xs => xs.length < 2 ^ 62 ∧ o.cls = .type "list" ∧ o.dict = none ∧ ∃ vs k, o.data = .seq vs k ∧ vs.toList.map toV = xs
  | .tuple xs => xs.length < 2 ^ 62 ∧ o.cls = .type "tuple" ∧ o.dict = none ∧ ∃ vs k, o.data = .seq vs k ∧ vs.toList.map toV = xs
  | .sdict es => es.length < 2 ^ 62 ∧ ∃ kvs, o.IsDictOf (strKind C.prog C.w) kvs ∧ kvs.map (fun p => (p.1, toV p.2)) = es
  | .idict es => es.length < 2 ^ 62 ∧ ∃ kvs, o.IsDictOf (intKind C.prog C.w) kvs ∧ kvs.map (fun p => (p.1, toV p.2)) = es
  | .rng a b c => ∃ t u v, o = { cls := .type "range", data := .fields #[.int a t, .int b u, .int c v] }
  | .inst c d => o.cls = .ref c ∧ o.dict = some d ∧ o.data = .plain
  | .other c => toV o.cls = c

def NodeAt (C : Cx) (h : Heap) (a : Addr) (n : Node) : Prop := ∃ o, h.get? a = some o ∧ ObjIs C o n

/-- a list that may be read -/
def Node.seqL : Node → Option (List V)
  | .list xs | .rlist xs => some xs
  | _ => none
theorem NodeAt.isList {C : Cx} {h : Heap} {a : Addr} {n : Node} {xs : List V} (x : NodeAt C h a n) (e : n.seqL = some xs) : ∃ vs, h.IsList a vs ∧ vs.toList.map toV = xs ∧ xs.length < 2 ^ 62 := by
  obtain ⟨o, ho, r⟩ := x
  cases n <;> simp [Node.seqL] at e <;> subst e
  · obtain ⟨hz, vs, k, rfl, hv⟩ := r; exact ⟨vs, ⟨_, ho, rfl, k, rfl⟩, hv, hz⟩
  · obtain ⟨hz, hc, hd, vs, k, hs, hv⟩ := r; exact ⟨vs, ⟨_, ho, hc, k, hs⟩, hv, hz⟩
theorem NodeAt.plainList {C : Cx} {h : Heap} {a : Addr} {xs : List V} (x : NodeAt C h a (.list xs)) : ∃ vs, h.PlainList a vs ∧ vs.toList.map toV = xs ∧ xs.length < 2 ^ 62 := by
  obtain ⟨o, ho, hz, vs, k, rfl, hv⟩ := x; exact ⟨vs, ⟨k, ho⟩, hv, hz⟩
theorem NodeAt.isTuple {C : Cx} {h : Heap} {a : Addr} {xs : List V} (x : NodeAt C h a (.tuple xs)) : ∃ vs, h.IsTuple a vs ∧ vs.toList.map toV = xs ∧ xs.length < 2 ^ 62 := by
  obtain ⟨o, ho, hz, hc, hd, vs, k, hs, hv⟩ := x; exact ⟨vs, ⟨_, ho, hc, k, hs⟩, hv, hz⟩
theorem NodeAt.sdict {C : Cx} {h : Heap} {a : Addr} {es : List (Str × V)} (x : NodeAt C h a (.sdict es)) : ∃ kvs, h.DictOf (strKind C.prog C.w) a kvs ∧ kvs.map (fun p => (p.1, toV p.2)) = es ∧ es.length < 2 ^ 62 := by
  obtain ⟨o, ho, hz, kvs, hd, he⟩ := x; exact ⟨kvs, Heap.dictOf_iff.mpr ⟨o, ho, hd⟩, he, hz⟩
theorem NodeAt.idict {C : Cx} {h : Heap} {a : Addr} {es : List (Int × V)} (x : NodeAt C h a (.idict es)) : ∃ kvs, h.DictOf (intKind C.prog C.w) a kvs ∧ kvs.map (fun p => (p.1, toV p.2)) = es ∧ es.length < 2 ^ 62 := by
  obtain ⟨o, ho, hz, kvs, hd, he⟩ := x; exact ⟨kvs, Heap.dictOf_iff.mpr ⟨o, ho, hd⟩, he, hz⟩

/-- items of a list or a tuple -/
def Node.seq : Node → Option (List V)
  | .list xs | .rlist xs | .tuple xs => some xs
  | _ => none

theorem NodeAt.at {C : Cx} {h h' : Heap} {a : Addr} {n : Node} (x : NodeAt C h a n) (k : ∀ o, h.get? a = some o → h'.get? a = some o) : NodeAt C h' a n :=
  let ⟨o, ho, r⟩ := x; ⟨o, k o ho, r⟩

/-- an object stands as it stood; a frame (its data is a dict) may have got other slots -/
def Kept (o : Obj) (x : Option Obj) : Prop := ∃ sl, x = some { o with slots := sl } ∧ ((∀ es ep, o.data ≠ .dict es ep) → sl = o.slots)

theorem Kept.refl (o : Obj) : Kept o (some o) := ⟨o.slots, rfl, fun _ => rfl⟩
theorem Kept.same {o : Obj} {x : Option Obj} (h : Kept o x) (hc : ∀ es ep, o.data ≠ .dict es ep) : x = some o := by
  obtain ⟨sl, e, q⟩ := h; rw [q hc] at e; exact e
theorem Kept.trans {o : Obj} {x y : Option Obj} (h : Kept o x) (k : ∀ o', x = some o' → Kept o' y) : Kept o y := by
  obtain ⟨sl, e, q⟩ := h
  obtain ⟨sl', e', q'⟩ := k _ e
  exact ⟨sl', e', fun hc => (q' hc).trans (q hc)⟩

structure Snap where
  h : Heap
  H : AH
  own : List Addr
  fz : List Addr

/-- the addresses that a frame itself may turn -/
def ownOf (env : Env) : List Addr := env.locals :: env.cells.map (·.2)

/-- what is known of a block's own surroundings, once and for all -/
structure EnvOk (env : Env) : Prop where
  kind : env.scope.kind = .function
  globals : env.globals = mainGlobals
  builtins : env.builtins = builtinsNs
  apart : (ownOf env).Nodup
  cell : ∀ x, env.kindOf x = some .cell ∨ env.kindOf x = some .free → ∃ c, env.cells.lookup x = some c

def VarAt (env : Env) (m : Str → Option Value) (h : Heap) (x : Str) (v : Value) : Prop :=
  (env.kindOf x = some .local ∧ m x = some v) ∨ ((env.kindOf x = some .cell ∨ env.kindOf x = some .free) ∧ ∃ c, env.cells.lookup x = some c ∧ h.IsCell c (some v))

structure Inv (C : Cx) (sn : Snap) (env : Env) (ρ : Str → Option V) (H : AH) (s : Shared) : Prop where
  ok : EnvOk env
  base : ∀ b o, C.h₀.get? b = some o → s.heap.get? b = some o
  nodes : ∀ a n, H.get a = some n → NodeAt C s.heap a n
  new : ∀ a n, H.get a = some n → n.isRO = false → C.h₀.get? a = none
  hid : ∀ b o, sn.h.get? b = some o → sn.H.get b = none → b ∉ sn.own → H.get b = none ∧ Kept o (s.heap.get? b)
  fresh : ∀ b ∈ ownOf env, H.get b = none ∧ C.h₀.get? b = none
  vars : ∃ m, s.heap.Ns env.locals m ∧ ∀ x v, ρ x = some v → ∃ cv, VarAt env m s.heap x cv ∧ toV cv = v
  cells : ∀ p ∈ env.cells, ∃ v, s.heap.IsCell p.2 v
  gens : s.gens = C.gens
  os : s.os = C.os
  mine : ∀ b ∈ ownOf env, ∀ o, sn.h.get? b = some o → b ∈ sn.own
  frz : ∀ b ∈ sn.fz, s.heap.get? b = sn.h.get? b ∧ ∃ n, H.get b = some n
  live : ∀ b o, sn.h.get? b = some o → ∃ o', s.heap.get? b = some o'

section
variable {C : Cx} {sn : Snap} {env : Env} {ρ : Str → Option V} {H : AH} {s : Shared}

theorem Inv.none_of_new (I : Inv C sn env ρ H s) {a : Addr} (h : s.heap.get? a = none) : H.get a = none := by
  cases q : H.get a with
  | none => rfl
  | some n => obtain ⟨o, ho, _⟩ := I.nodes a n q; rw [h] at ho; cases ho

theorem get_size (h : Heap) : h.get? h.objs.size = none := by
  cases q : h.get? h.objs.size with
  | none => rfl
  | some o => exact absurd (Heap.lt_size q) (Nat.lt_irrefl _)

theorem Inv.toks (I : Inv C sn env ρ H s) (tk : Nat) : Inv C sn env ρ H { s with toks := tk } :=
  ⟨I.ok, I.base, I.nodes, I.new, I.hid, I.fresh, I.vars, I.cells, I.gens, I.os, I.mine, I.frz, I.live⟩

theorem VarAt.keeps {m : Str → Option Value} {h h' : Heap} {x : Str} {v : Value} (a : VarAt env m h x v) (k : ∀ b ∈ ownOf env, ∀ o, h.get? b = some o → h'.get? b = some o) : VarAt env m h' x v := by
  rcases a with a | ⟨a, c, hc, o, ho, hd⟩
  · exact .inl a
  · refine .inr ⟨a, c, hc, o, k c ?_ o ho, hd⟩
    exact List.mem_cons_of_mem _ (List.mem_map.mpr ⟨_, mem_of_lookup hc, rfl⟩)

/-- only things that are no part of what is known have come -/
theorem Inv.keeps (I : Inv C sn env ρ H s) {h' : Heap} {tk : Nat} (k : ∀ b o, s.heap.get? b = some o → h'.get? b = some o) : Inv C sn env ρ H { s with heap := h', toks := tk } where
  ok := I.ok
  base := fun b o e => k b o (I.base b o e)
  nodes := fun a n e => (I.nodes a n e).at (k a)
  new := I.new
  hid := fun b o e e1 e2 => by
    obtain ⟨q, r⟩ := I.hid b o e e1 e2
    refine ⟨q, r.trans fun o' ho' => ?_⟩
    rw [show ({ s with heap := h', toks := tk } : Shared).heap.get? b = some o' from k b o' ho']; exact Kept.refl _
  fresh := I.fresh
  vars := by
    obtain ⟨m, hn, hv⟩ := I.vars
    refine ⟨m, hn.keeps k, fun x v e => ?_⟩
    obtain ⟨cv, a, b⟩ := hv x v e
    exact ⟨cv, a.keeps fun b _ o => k b o, b⟩
  cells := fun p e => let ⟨v, q⟩ := I.cells p e; ⟨v, q.keeps k⟩
  gens := I.gens
  os := I.os
  mine := I.mine
  frz := fun b hb => by
    obtain ⟨q, n, e⟩ := I.frz b hb
    obtain ⟨o, ho, _⟩ := I.nodes b n e
    exact ⟨by rw [← q, ho]; exact k b o ho, n, e⟩
  live := fun b o e => let ⟨o', h⟩ := I.live b o e; ⟨o', k b o' h⟩

/-- a visible object has come -/
theorem Inv.come (I : Inv C sn env ρ H s) {h' : Heap} {tk : Nat} {a : Addr} {n : Node} (k : ∀ b o, s.heap.get? b = some o → h'.get? b = some o) (ha : s.heap.get? a = none) (hn : NodeAt C h' a n) :
    Inv C sn env ρ (H.set a n) { s with heap := h', toks := tk } := by
  have J := I.keeps (tk := tk) k
  refine ⟨J.ok, J.base, fun b m e => ?_, fun b m e r => ?_, fun b o e e1 e2 => ?_, fun b hb => ?_, J.vars, J.cells, J.gens, J.os, J.mine, fun b hb => ?_, J.live⟩
  · by_cases h : b = a
    · subst h; rw [AH.set_self] at e; cases e; exact hn
    · rw [AH.set_ne _ _ h] at e; exact J.nodes b m e
  · by_cases h : b = a
    · subst h
      cases q : C.h₀.get? b with
      | none => rfl
      | some o => have := I.base b o q; rw [ha] at this; cases this
    · rw [AH.set_ne _ _ h] at e; exact I.new b m e r
  · obtain ⟨q, r⟩ := J.hid b o e e1 e2
    refine ⟨?_, r⟩
    rw [AH.set_ne _ _ ?_]; exact q
    rintro rfl
    obtain ⟨q', r'⟩ := I.hid b o e e1 e2
    rw [ha] at r'; obtain ⟨_, x, _⟩ := r'; cases x
  · obtain ⟨q, r⟩ := I.fresh b hb
    refine ⟨?_, r⟩
    rw [AH.set_ne _ _ ?_]; exact q
    rintro rfl
    rcases List.mem_cons.mp hb with e | hb
    · obtain ⟨m, hm, _⟩ := I.vars
      obtain ⟨o, _, _, ho, _⟩ := hm
      rw [← e] at ho; rw [ha] at ho; cases ho
    · obtain ⟨p, hp, rfl⟩ := List.mem_map.mp hb
      obtain ⟨v, o, ho, _⟩ := I.cells p hp
      rw [ha] at ho; cases ho
  · obtain ⟨q, m, e⟩ := J.frz b hb
    refine ⟨q, m, ?_⟩
    rw [AH.set_ne _ _ ?_]; exact e
    rintro rfl
    rw [I.none_of_new ha] at e; cases e

theorem Inv.own_there (I : Inv C sn env ρ H s) {b : Addr} (hb : b ∈ ownOf env) : ∃ o, s.heap.get? b = some o := by
  rcases List.mem_cons.mp hb with rfl | hb
  · obtain ⟨m, ⟨o, _, _, ho, _⟩, _⟩ := I.vars; exact ⟨o, ho⟩
  · obtain ⟨p, hp, rfl⟩ := List.mem_map.mp hb
    obtain ⟨v, o, ho, _⟩ := I.cells p hp; exact ⟨o, ho⟩

/-- a visible object has turned -/
theorem Inv.turn (I : Inv C sn env ρ H s) {h' : Heap} {tk : Nat} {a : Addr} {n n' : Node} (hn : H.get a = some n) (hro : n.isRO = false) (hfz : a ∉ sn.fz) (k : Heap.ExtBut a s.heap h') (hn' : NodeAt C h' a n') :
    Inv C sn env ρ (H.set a n') { s with heap := h', toks := tk } := by
  have hne : ∀ b, H.get b = none → b ≠ a := fun b e q => by rw [q, hn] at e; cases e
  refine ⟨I.ok, fun b o e => ?_, fun b m e => ?_, fun b m e r => ?_, fun b o e e1 e2 => ?_, fun b hb => ?_, ?_, fun p hp => ?_, I.gens, I.os, I.mine, fun b hb => ?_, fun b o e => ?_⟩
  · refine k b o ?_ (I.base b o e)
    rintro rfl
    have := I.new b n hn hro; rw [this] at e; cases e
  · by_cases h : b = a
    · subst h; rw [AH.set_self] at e; cases e; exact hn'
    · rw [AH.set_ne _ _ h] at e; exact (I.nodes b m e).at fun o ho => k b o h ho
  · by_cases h : b = a
    · subst h; exact I.new b n hn hro
    · rw [AH.set_ne _ _ h] at e; exact I.new b m e r
  · obtain ⟨q, r⟩ := I.hid b o e e1 e2
    have hb := hne b q
    refine ⟨by rw [AH.set_ne _ _ hb]; exact q, r.trans fun o' ho' => ?_⟩
    rw [show ({ s with heap := h', toks := tk } : Shared).heap.get? b = some o' from k b o' hb ho']; exact Kept.refl _
  · obtain ⟨q, r⟩ := I.fresh b hb
    exact ⟨by rw [AH.set_ne _ _ (hne b q)]; exact q, r⟩
  · obtain ⟨m, hm, hv⟩ := I.vars
    refine ⟨m, hm.extBut k (hne _ (I.fresh _ (List.mem_cons_self ..)).1), fun x v e => ?_⟩
    obtain ⟨cv, x1, x2⟩ := hv x v e
    exact ⟨cv, x1.keeps fun b hb o ho => k b o (hne b (I.fresh b hb).1) ho, x2⟩
  · obtain ⟨v, o, ho, hd⟩ := I.cells p hp
    exact ⟨v, o, k _ o (hne _ (I.fresh _ (List.mem_cons_of_mem _ (List.mem_map.mpr ⟨p, hp, rfl⟩))).1) ho, hd⟩
  · obtain ⟨q, m, e⟩ := I.frz b hb
    have hba : b ≠ a := by rintro rfl; exact hfz hb
    obtain ⟨o, ho, _⟩ := I.nodes b m e
    exact ⟨by rw [← q, ho]; exact k b o hba ho, m, by rw [AH.set_ne _ _ hba]; exact e⟩
  · obtain ⟨o', h⟩ := I.live b o e
    by_cases hba : b = a
    · subst hba; obtain ⟨o'', h'', _⟩ := hn'; exact ⟨o'', h''⟩
    · exact ⟨o', k b o' hba h⟩
end

/-- a tree of the machine, seen from the visible heap -/
def TM {α : Type} (C : Cx) (sn : Snap) (A : Around) (env : Env) (ρ : Str → Option V) (m : Sem α) (Q : α → AH → Prop) (E : Value → Shared → Prop) (H : AH) : Prop :=
  ∀ s, Inv C sn env ρ H s → wpAny C.M A m (fun a s' => ∃ H', Inv C sn env ρ H' s' ∧ Q a H') E s

section
variable {α β : Type} {C : Cx} {sn : Snap} {A : Around} {env : Env} {ρ : Str → Option V} {H : AH} {E : Value → Shared → Prop}

theorem TM.pure {a : α} {Q : α → AH → Prop} (h : Q a H) : TM C sn A env ρ (pure a) Q E H := fun _ I => wpAny_pure ⟨H, I, h⟩
theorem TM.bind {m : Sem α} {f : α → Sem β} {Q : β → AH → Prop} (h : TM C sn A env ρ m (fun a H' => TM C sn A env ρ (f a) Q E H') E H) : TM C sn A env ρ (m >>= f) Q E H :=
  fun s I => wpAny_bind (wpAny_mono (h s I) (fun _ _ ⟨_, I', h'⟩ => h' _ I') fun _ _ e => e)
theorem TM.mono {m : Sem α} {Q Q' : α → AH → Prop} (h : TM C sn A env ρ m Q E H) (k : ∀ a H', Q a H' → Q' a H') : TM C sn A env ρ m Q' E H :=
  fun s I => wpAny_mono (h s I) (fun _ _ ⟨H', I', h'⟩ => ⟨H', I', k _ _ h'⟩) fun _ _ e => e
theorem TM.standAt {pos : Pos} {Q : Unit → AH → Prop} (h : Q () H) : TM C sn A env ρ (standAt pos) Q E H := fun _ I => wpAny_standAt ⟨H, I, h⟩
theorem TM.holding {vs : List Value} {m : Sem α} {Q : α → AH → Prop} (h : TM C sn A env ρ m Q E H) : TM C sn A env ρ (holding vs m) Q E H := fun s I => wpAny_holding (h s I)
theorem TM.operate {vs : List Value} {m : Sem Value} {Q : Value → AH → Prop} (h : TM C sn A env ρ m Q E H) : TM C sn A env ρ (operate vs m) Q E H :=
  fun s I Γ p hΓ => by rw [Sem.wp_operate]; exact h s I Γ p hΓ
theorem TM.point {Q : Unit → AH → Prop} (h : Q () H) : TM C sn A env ρ PySem.point Q E H := fun _ I => wpAny_point ⟨H, I, h⟩
theorem TM.release {vs k : List Value} {Q : Unit → AH → Prop} (h : Q () H) : TM C sn A env ρ (release vs k) Q E H :=
  fun s I Γ p hΓ => by rw [Sem.wp_release]; exact ⟨H, I, h⟩
theorem TM.mkInt {i : Int} {Q : Value → AH → Prop} (h : ∀ t, Q (.int i t) H) : TM C sn A env ρ (mkInt i) Q E H := fun _ I => wpAny_mkInt ⟨H, I.toks _, h _⟩
theorem TM.mkText {x : Str} {Q : Value → AH → Prop} (h : ∀ t, Q (.str x t) H) : TM C sn A env ρ (mkText x) Q E H := fun _ I => wpAny_mkText ⟨H, I.toks _, h _⟩
theorem TM.ite {c : Prop} [Decidable c] {a b : Sem α} {Q : α → AH → Prop} (h : if c then TM C sn A env ρ a Q E H else TM C sn A env ρ b Q E H) : TM C sn A env ρ (if c then a else b) Q E H := by
  split <;> simp_all

end
end Mine

namespace Mine
open PySem PySem.Calls

def upd (ρ : Str → Option V) (x : Str) (v : V) : Str → Option V := fun y => if y = x then some v else ρ y

/-- as TM, where the block's own names may turn -/
def TR {α : Type} (C : Cx) (sn : Snap) (A : Around) (env : Env) (m : Sem α) (Q : α → (Str → Option V) → AH → Prop) (E : Value → Shared → Prop) (ρ : Str → Option V) (H : AH) : Prop :=
  ∀ s, Inv C sn env ρ H s → wpAny C.M A m (fun a s' => ∃ ρ' H', Inv C sn env ρ' H' s' ∧ Q a ρ' H') E s

section
variable {α β : Type} {C : Cx} {sn : Snap} {A : Around} {env : Env} {ρ : Str → Option V} {H : AH} {E : Value → Shared → Prop} {s : Shared}

theorem TR.of {m : Sem α} {Q : α → (Str → Option V) → AH → Prop} (h : TM C sn A env ρ m (fun a H' => Q a ρ H') E H) : TR C sn A env m Q E ρ H :=
  fun s I => wpAny_mono (h s I) (fun _ _ ⟨H', I', q⟩ => ⟨ρ, H', I', q⟩) fun _ _ e => e
theorem TR.pure {a : α} {Q : α → (Str → Option V) → AH → Prop} (h : Q a ρ H) : TR C sn A env (pure a) Q E ρ H := fun _ I => wpAny_pure ⟨ρ, H, I, h⟩
theorem TR.bind {m : Sem α} {f : α → Sem β} {Q : β → (Str → Option V) → AH → Prop} (h : TR C sn A env m (fun a ρ' H' => TR C sn A env (f a) Q E ρ' H') E ρ H) : TR C sn A env (m >>= f) Q E ρ H :=
  fun s I => wpAny_bind (wpAny_mono (h s I) (fun _ _ ⟨_, _, I', h'⟩ => h' _ I') fun _ _ e => e)
theorem TR.mono {m : Sem α} {Q Q' : α → (Str → Option V) → AH → Prop} (h : TR C sn A env m Q E ρ H) (k : ∀ a ρ' H', Q a ρ' H' → Q' a ρ' H') : TR C sn A env m Q' E ρ H :=
  fun s I => wpAny_mono (h s I) (fun _ _ ⟨ρ', H', I', h'⟩ => ⟨ρ', H', I', k _ _ _ h'⟩) fun _ _ e => e
theorem TM.loadVar {x : Str} {v : V} {Q : Value → AH → Prop} (hx : ρ x = some v) (h : ∀ cv, toV cv = v → Q cv H) (hn : (x == ("__classdict__" : Str)) = false) : TM C sn A env ρ (loadName env x) Q E H := by
  intro s I
  obtain ⟨m, hm, hv⟩ := I.vars
  obtain ⟨cv, a, e⟩ := hv x v hx
  rcases a with ⟨hk, hx'⟩ | ⟨hk, c, hc, hcell⟩
  · exact wpAny_loadName_local I.ok.kind hk hm hx' ⟨H, I, h cv e⟩
  · rcases hk with hk | hk
    · exact wpAny_loadName_cell I.ok.kind hk hc hcell ⟨H, I, h cv e⟩
    · exact wpAny_loadName_free I.ok.kind hk hc hcell ⟨H, I, h cv e⟩ hn

theorem cell_inj {cs : List (Str × Addr)} (nd : (cs.map (·.2)).Nodup) {x y : Str} {c : Addr} (hx : (x, c) ∈ cs) (hy : (y, c) ∈ cs) : x = y := by
  induction cs with
  | nil => cases hx
  | cons p r ih =>
    rw [List.map_cons, List.nodup_cons] at nd
    rcases List.mem_cons.mp hx with e | hx <;> rcases List.mem_cons.mp hy with e' | hy
    · rw [← e'] at e; exact (Prod.mk.inj e).1
    · exact absurd (List.mem_map.mpr ⟨_, hy, by rw [← e]⟩) nd.1
    · exact absurd (List.mem_map.mpr ⟨_, hx, by rw [← e']⟩) nd.1
    · exact ih nd.2 hx hy

/-- the block's own place `a` has turned, all else stands -/
theorem Inv.own (I : Inv C sn env ρ H s) {h' : Heap} {tk : Nat} {a : Addr} {ρ' : Str → Option V} (ha : a ∈ ownOf env) (k : Heap.ExtBut a s.heap h')
    (hv : ∃ m, h'.Ns env.locals m ∧ ∀ x v, ρ' x = some v → ∃ cv, VarAt env m h' x cv ∧ toV cv = v) (hc : ∀ p ∈ env.cells, ∃ v, h'.IsCell p.2 v) : Inv C sn env ρ' H { s with heap := h', toks := tk } := by
  obtain ⟨f1, f2⟩ := I.fresh a ha
  refine ⟨I.ok, fun b o e => ?_, fun b m e => ?_, I.new, fun b o e e1 e2 => ?_, I.fresh, hv, hc, I.gens, I.os, I.mine, fun b hb => ?_, fun b o e => ?_⟩
  · refine k b o ?_ (I.base b o e)
    rintro rfl; rw [f2] at e; cases e
  · refine (I.nodes b m e).at fun o ho => k b o ?_ ho
    rintro rfl; rw [f1] at e; cases e
  · obtain ⟨q, r⟩ := I.hid b o e e1 e2
    refine ⟨q, r.trans fun o' ho' => ?_⟩
    have hb : b ≠ a := by rintro rfl; exact e2 (I.mine b ha o e)
    rw [show ({ s with heap := h', toks := tk } : Shared).heap.get? b = some o' from k b o' hb ho']; exact Kept.refl _
  · obtain ⟨q, m, e⟩ := I.frz b hb
    have hba : b ≠ a := by rintro rfl; rw [f1] at e; cases e
    obtain ⟨o, ho, _⟩ := I.nodes b m e
    exact ⟨by rw [← q, ho]; exact k b o hba ho, m, e⟩
  · obtain ⟨o', h⟩ := I.live b o e
    by_cases hba : b = a
    · subst hba
      rcases List.mem_cons.mp ha with rfl | ha
      · obtain ⟨m, ⟨o'', _, _, h'', _⟩, _⟩ := hv; exact ⟨o'', h''⟩
      · obtain ⟨p, hp, rfl⟩ := List.mem_map.mp ha
        obtain ⟨v, o'', h'', _⟩ := hc p hp; exact ⟨o'', h''⟩
    · exact ⟨o', k b o' hba h⟩

theorem TR.storeVar {x : Str} {cv : Value} {Q : Unit → (Str → Option V) → AH → Prop} (hk : env.kindOf x = some .local ∨ env.kindOf x = some .cell) (h : Q () (upd ρ x (toV cv)) H) :
    TR C sn A env (storeName env x cv) Q E ρ H := by
  intro s I
  obtain ⟨m, hm, hv⟩ := I.vars
  rcases hk with hk | hk
  · refine wpAny_storeName_local hk hm (fun h' hn hs => ⟨_, H, I.own (List.mem_cons_self ..) hs.extBut ⟨_, hn, fun y v e => ?_⟩ fun p hp => ?_, h⟩) (by rw [I.ok.kind]; rfl)
    · by_cases hy : y = x
      · subst hy; simp [upd] at e; exact ⟨cv, .inl ⟨hk, by simp⟩, e⟩
      · simp only [upd, hy, if_false] at e
        obtain ⟨cv', a, b⟩ := hv y v e
        refine ⟨cv', ?_, b⟩
        rcases a with ⟨q1, q2⟩ | ⟨q1, c, hc, hcell⟩
        · exact .inl ⟨q1, by simp [hy, q2]⟩
        · refine .inr ⟨q1, c, hc, hcell.sameBut hs ?_⟩
          rintro rfl
          exact (List.nodup_cons.mp I.ok.apart).1 (List.mem_map.mpr ⟨_, mem_of_lookup hc, rfl⟩)
    · obtain ⟨v, q⟩ := I.cells p hp
      refine ⟨v, q.sameBut hs ?_⟩
      intro e
      exact (List.nodup_cons.mp I.ok.apart).1 (e ▸ List.mem_map.mpr ⟨p, hp, rfl⟩)
  · obtain ⟨c, hc⟩ := I.ok.cell x (.inl hk)
    have hmem := mem_of_lookup hc
    obtain ⟨v₀, hcell⟩ := I.cells _ hmem
    have nd := List.nodup_cons.mp I.ok.apart
    refine wpAny_storeName_cell I.ok.kind hk hc hcell fun h' hn hs => ⟨_, H, I.own (List.mem_cons_of_mem _ (List.mem_map.mpr ⟨_, hmem, rfl⟩)) hs.extBut ⟨m, hm.sameBut hs ?_, fun y v e => ?_⟩ fun p hp => ?_, h⟩
    · intro e; exact nd.1 (e ▸ List.mem_map.mpr ⟨_, hmem, rfl⟩)
    · by_cases hy : y = x
      · subst hy; simp [upd] at e; exact ⟨cv, .inr ⟨.inl hk, c, hc, hn⟩, e⟩
      · simp only [upd, hy, if_false] at e
        obtain ⟨cv', a, b⟩ := hv y v e
        refine ⟨cv', ?_, b⟩
        rcases a with q | ⟨q1, c', hc', hcell'⟩
        · exact .inl q
        · refine .inr ⟨q1, c', hc', hcell'.sameBut hs ?_⟩
          rintro rfl
          exact hy (cell_inj nd.2 (mem_of_lookup hc') hmem)
    · by_cases hpc : p.2 = c
      · exact ⟨some cv, hpc ▸ hn⟩
      · obtain ⟨v, q⟩ := I.cells p hp
        exact ⟨v, q.sameBut hs hpc⟩

theorem TR.bindVar {x : Str} {cv : Value} {Q : Unit → (Str → Option V) → AH → Prop} (hk : env.kindOf x = some .local ∨ env.kindOf x = some .cell) (h : Q () (upd ρ x (toV cv)) H) :
    TR C sn A env (bindName env x cv) Q E ρ H := fun s I => wpAny_bindName (TR.storeVar hk h s I)

theorem TM.loadGlob {x : Str} {v : Value} {Q : Value → AH → Prop} (hk : env.kindOf x = some .globalImplicit) (hv : C.mg x = some v) (h : Q v H) : TM C sn A env ρ (loadName env x) Q E H := by
  intro s I
  unfold loadName
  simp only [Env.blockKind, I.ok.kind, hk, ScopeKind.isAnnotationScope, Bool.false_and, Bool.false_eq_true, if_false]
  have hg : s.heap.Ns env.globals C.mg := by rw [I.ok.globals]; exact C.gns.keeps I.base
  exact loadGlobal_global hg hv ⟨H, I, h⟩
theorem TM.loadBi {x : Str} {v : Value} {Q : Value → AH → Prop} (hk : env.kindOf x = some .globalImplicit) (hm : C.mg x = none) (hv : C.mb x = some v) (h : Q v H) : TM C sn A env ρ (loadName env x) Q E H := by
  intro s I
  unfold loadName
  simp only [Env.blockKind, I.ok.kind, hk, ScopeKind.isAnnotationScope, Bool.false_and, Bool.false_eq_true, if_false]
  have hg : s.heap.Ns env.globals C.mg := by rw [I.ok.globals]; exact C.gns.keeps I.base
  have hb : s.heap.Ns env.builtins C.mb := by rw [I.ok.builtins]; exact C.bns.keeps I.base
  exact loadGlobal_builtin hg hm hb hv ⟨H, I, h⟩
end
end Mine

namespace Mine
open PySem PySem.Calls

/-- a divisor of a known size -/
def DivOk (y : Int) : Prop := y ≠ 0 ∧ y.natAbs.log2 < 9000
theorem DivOk.of {y : Int} (h : y ≠ 0) (h2 : y.natAbs < 2 ^ 300) : DivOk y := by
  refine ⟨h, ?_⟩
  have : y.natAbs.log2 < 300 := (Nat.log2_lt (by omega)).mpr h2
  omega
theorem mulOk_left {a b : Int} (h1 : -(2 ^ 64) < a) (h2 : a < 2 ^ 64) : IntMulOk a b := .of_left (intBits_le_64 h1 h2)
theorem mulOk_right {a b : Int} (h1 : -(2 ^ 64) < b) (h2 : b < 2 ^ 64) : IntMulOk a b := .of_right (intBits_le_64 h1 h2)

def strRep (x : Str) (n : Int) : Str := Txt.mul x n

/-- a new thing comes -/
def made (fz : List Nat) (n : Node) (Q : V → AH → Prop) (H : AH) : Prop := ∀ a, H.get a = none → a ∉ fz → Q (.ref a) (H.set a n)

def opBin (fz : List Nat) (op : Operator) (a b : V) (Q : V → AH → Prop) (H : AH) : Prop :=
  match op, a, b with
  | .Add, .int x, .int y => Q (.int (x + y)) H
  | .Sub, .int x, .int y => Q (.int (x - y)) H
  | .Mult, .int x, .int y => IntMulOk x y ∧ Q (.int (x * y)) H
  | .FloorDiv, .int x, .int y => DivOk y ∧ Q (.int (x.fdiv y)) H
  | .Mod, .int x, .int y => y ≠ 0 ∧ Q (.int (x.fmod y)) H
  | .Pow, .int x, .int y => (2 ≤ x ∧ 1 ≤ y ∧ Builtin.Int.intTooBig (((Builtin.Int.intBits x : Nat) : Int) * y) = false) ∧ Q (.int (x ^ y.toNat)) H
  | .Add, .str x, .str y => x.length + y.length ≤ sizeLine ∧ Q (.str (x ++ y)) H
  | .Mult, .str x, .int y => MulOk x y ∧ Q (.str (strRep x y)) H
  | .Add, .ref p, .ref q => (match H.get p, H.get q with
    | some (.list xs), some (.list ys) => xs.length + ys.length ≤ sizeLine ∧ made fz (.list (xs ++ ys)) Q H
    | some (.tuple xs), some (.tuple ys) => (xs ≠ [] ∧ ys ≠ []) ∧ xs.length + ys.length ≤ sizeLine ∧ made fz (.tuple (xs ++ ys)) Q H
    | _, _ => False)
  | _, _, _ => False

section
variable {C : Cx} {sn : Snap} {A : Around} {env : Env} {ρ : Str → Option V} {H : AH} {E : Value → Shared → Prop} {Q : V → AH → Prop}

theorem toks_still {s : Shared} (I : Inv C sn env ρ H s) {v : Value} (h : Q (toV v) H) (tk : Nat) : ∃ H', Inv C sn env ρ H' { s with toks := tk } ∧ Q (toV v) H' := ⟨H, I.toks tk, h⟩

theorem Inv.notFz {s : Shared} (I : Inv C sn env ρ H s) {a : Nat} (h : H.get a = none) : a ∉ sn.fz := fun hb => by
  obtain ⟨_, n, e⟩ := I.frz a hb; rw [h] at e; cases e

theorem map_size {vs : Array Value} {xs : List V} (h : vs.toList.map toV = xs) : vs.size = xs.length := by rw [← h]; simp
theorem map_get {vs : Array Value} {xs : List V} (h : vs.toList.map toV = xs) {k : Nat} {x : V} (e : xs[k]? = some x) : ∃ v, vs[k]? = some v ∧ toV v = x := by
  subst h
  simp at e
  exact e

/-- all that stands, but one place -/
def allBut (h : Heap) (L : Addr) : List (Addr × Obj) := (List.range h.objs.size).filterMap fun b => if b = L then none else (h.get? b).map fun o => (b, o)
theorem mem_allBut {h : Heap} {L b : Addr} {o : Obj} : (b, o) ∈ allBut h L ↔ h.get? b = some o ∧ b ≠ L := by
  unfold allBut
  rw [List.mem_filterMap]
  constructor
  · rintro ⟨c, _, hc⟩
    split at hc
    · cases hc
    · rename_i hne
      cases q : h.get? c with
      | none => rw [q] at hc; cases hc
      | some o' => rw [q] at hc; simp at hc; obtain ⟨rfl, rfl⟩ := hc; exact ⟨q, hne⟩
  · rintro ⟨e, hne⟩
    exact ⟨b, List.mem_range.mpr (Heap.lt_size e), by rw [if_neg hne, e]; rfl⟩

open PyProof.Rows in
theorem Inv.fr {s : Shared} (I : Inv C sn env ρ H s) : ∃ m, (Fr {} env.locals s.heap m ∧ News {} env.locals s.heap (allBut s.heap env.locals)) ∧
    ∀ h' tk, Fr {} env.locals h' m → News {} env.locals h' (allBut s.heap env.locals) → Inv C sn env ρ H { s with heap := h', toks := tk } := by
  obtain ⟨m, hm, hv⟩ := I.vars
  have e0 : ∀ b, Heap.get? {} b = none := fun b => by
    cases q : Heap.get? {} b with
    | none => rfl
    | some o => exact absurd (Heap.lt_size q) (Nat.not_lt_zero _)
  refine ⟨m, ⟨⟨hm, fun b o e => (by rw [e0] at e; cases e), Nat.zero_le _⟩, fun p hp => ?_⟩, fun h' tk F N => ?_⟩
  · obtain ⟨b, o⟩ := p
    obtain ⟨q1, q2⟩ := mem_allBut.mp hp
    exact ⟨q1, q2, e0 b⟩
  · have k : Heap.ExtBut env.locals s.heap h' := fun b o hb e => (N (b, o) (mem_allBut.mpr ⟨e, hb⟩)).1
    have nd := List.nodup_cons.mp I.ok.apart
    refine I.own (List.mem_cons_self ..) k ⟨m, F.ns, fun x v e => ?_⟩ fun p hp => ?_
    · obtain ⟨cv, a, b⟩ := hv x v e
      refine ⟨cv, ?_, b⟩
      rcases a with a | ⟨a, c, hc, o, ho, hd⟩
      · exact .inl a
      · refine .inr ⟨a, c, hc, o, k c o ?_ ho, hd⟩
        rintro rfl; exact nd.1 (List.mem_map.mpr ⟨_, mem_of_lookup hc, rfl⟩)
    · obtain ⟨v, o, ho, hd⟩ := I.cells p hp
      refine ⟨v, o, k _ o ?_ ho, hd⟩
      intro e; exact nd.1 (e ▸ List.mem_map.mpr ⟨p, hp, rfl⟩)

open PyProof.Rows in
/-- the same, and one visible thing more -/
theorem Inv.frCome {s : Shared} (I : Inv C sn env ρ H s) {m : Str → Option Value} {h' : Heap} {tk : Nat} {D : Addr} {o : Obj} {n : Node}
    (keep : ∀ h' tk, Fr {} env.locals h' m → News {} env.locals h' (allBut s.heap env.locals) → Inv C sn env ρ H { s with heap := h', toks := tk })
    (F : Fr {} env.locals h' m) (N : News {} env.locals h' ((D, o) :: allBut s.heap env.locals)) (hD : s.heap.get? D = none) (ho : ObjIs C o n) :
    Inv C sn env ρ (H.set D n) { s with heap := h', toks := tk } := by
  have J := keep h' tk F fun p hp => N p (List.mem_cons_of_mem _ hp)
  have hn : NodeAt C h' D n := ⟨o, (N _ (List.mem_cons_self ..)).1, ho⟩
  have hDL := (N _ (List.mem_cons_self ..)).2.1
  refine ⟨J.ok, J.base, fun b m e => ?_, fun b m e r => ?_, fun b o e e1 e2 => ?_, fun b hb => ?_, J.vars, J.cells, J.gens, J.os, J.mine, fun b hb => ?_, J.live⟩
  · by_cases h : b = D
    · subst h; rw [AH.set_self] at e; cases e; exact hn
    · rw [AH.set_ne _ _ h] at e; exact J.nodes b m e
  · by_cases h : b = D
    · subst h
      cases q : C.h₀.get? b with
      | none => rfl
      | some o => have := I.base b o q; rw [hD] at this; cases this
    · rw [AH.set_ne _ _ h] at e; exact I.new b m e r
  · obtain ⟨q, r⟩ := J.hid b o e e1 e2
    refine ⟨?_, r⟩
    rw [AH.set_ne _ _ ?_]; exact q
    rintro rfl
    obtain ⟨q', r'⟩ := I.hid b o e e1 e2
    rw [hD] at r'; obtain ⟨_, x, _⟩ := r'; cases x
  · obtain ⟨q, r⟩ := I.fresh b hb
    refine ⟨?_, r⟩
    rw [AH.set_ne _ _ ?_]; exact q
    rintro rfl
    obtain ⟨o', ho'⟩ := I.own_there hb
    rw [hD] at ho'; cases ho'
  · obtain ⟨q, m, e⟩ := J.frz b hb
    refine ⟨q, m, ?_⟩
    rw [AH.set_ne _ _ ?_]; exact e
    rintro rfl
    rw [I.none_of_new hD] at e; cases e

theorem TM.bin_list {p q : Nat} {n k : Node} {xs ys : List V} (hp : H.get p = some n) (hq : H.get q = some k) (en : n.seqL = some xs) (ek : k.seqL = some ys) (hz : xs.length + ys.length ≤ sizeLine)
    (h : made sn.fz (.list (xs ++ ys)) Q H) : TM C sn A env ρ (binaryOp .Add (.ref p) (.ref q)) (fun v H' => Q (toV v) H') E H := by
  intro s I
  obtain ⟨vs, hvs, e1, z1⟩ := (I.nodes p n hp).isList en
  obtain ⟨ws, hws, e2, z2⟩ := (I.nodes q k hq).isList ek
  obtain ⟨m, ⟨F, N⟩, keep⟩ := I.fr
  have hD : s.heap.get? s.heap.objs.size = none := get_size _
  refine PyProof.Rows.add_arrays F N hvs hws (fun h' F' N' => ⟨_, I.frCome keep F' N' hD ?_, h _ (I.none_of_new hD) (I.notFz (I.none_of_new hD))⟩) (by rw [map_size e1, map_size e2]; exact hz)
  refine ⟨?_, _, _, rfl, ?_⟩
  · rw [List.length_append]; rw [sizeLine_eq] at hz; omega
  · simp [e1, e2]

theorem TM.bin_tuple {p q : Nat} {xs ys : List V} (hp : H.get p = some (.tuple xs)) (hq : H.get q = some (.tuple ys)) (nx : xs ≠ []) (ny : ys ≠ []) (hz : xs.length + ys.length ≤ sizeLine)
    (h : made sn.fz (.tuple (xs ++ ys)) Q H) : TM C sn A env ρ (binaryOp .Add (.ref p) (.ref q)) (fun v H' => Q (toV v) H') E H := by
  intro s I
  obtain ⟨vs, hvs, e1, z1⟩ := (I.nodes p _ hp).isTuple
  obtain ⟨ws, hws, e2, z2⟩ := (I.nodes q _ hq).isTuple
  obtain ⟨m, ⟨F, N⟩, keep⟩ := I.fr
  have hD : s.heap.get? s.heap.objs.size = none := get_size _
  refine PyProof.Rows.add_tuples (vs := vs.toList) (ws := ws.toList) F N hvs hws (fun e => ?_) (fun _ e => ?_) (fun _ _ h' F' N' => ⟨_, I.frCome keep F' N' hD ?_, h _ (I.none_of_new hD) (I.notFz (I.none_of_new hD))⟩) (by simp [map_size e1, map_size e2]; exact hz)
  · rw [e] at e1; exact absurd e1.symm nx
  · rw [e] at e2; exact absurd e2.symm ny
  refine ⟨?_, rfl, rfl, _, _, rfl, ?_⟩
  · rw [List.length_append]; rw [sizeLine_eq] at hz; omega
  · simp [e1, e2]

theorem TM.bin_str {x y : Str} {t u : Tok} (hz : x.length + y.length ≤ sizeLine) (h : Q (.str (x ++ y)) H) : TM C sn A env ρ (binaryOp .Add (.str x t) (.str y u)) (fun v H' => Q (toV v) H') E H :=
  fun _ I => PyProof.Rows.add_str (fun t' tk => toks_still I (v := .str _ t') h tk) hz
theorem TM.bin_rep {x : Str} {y : Int} {t u : Tok} (hz : MulOk x y) (h : Q (.str (strRep x y)) H) : TM C sn A env ρ (binaryOp .Mult (.str x t) (.int y u)) (fun v H' => Q (toV v) H') E H :=
  fun _ I => SB.mul hz (fun t' tk => toks_still I (v := .str _ t') h tk)

theorem TM.bin {op : Operator} {a b : Value} (h : opBin sn.fz op (toV a) (toV b) Q H) : TM C sn A env ρ (binaryOp op a b) (fun v H' => Q (toV v) H') E H := by
  generalize ea : toV a = va at h
  generalize eb : toV b = vb at h
  unfold opBin at h
  split at h
  all_goals try exact False.elim h
  all_goals try (obtain ⟨t, rfl⟩ := toV_int ea)
  all_goals try (obtain ⟨t, rfl⟩ := toV_str ea)
  all_goals try (obtain ⟨u, rfl⟩ := toV_int eb)
  all_goals try (obtain ⟨u, rfl⟩ := toV_str eb)
  · exact fun _ I => P.add_int (toks_still I (v := .int _ _) h _)
  · exact fun _ I => P.sub_int (toks_still I (v := .int _ _) h _)
  · exact fun _ I => P.mul_int (toks_still I (v := .int _ _) h.2 _) h.1
  · exact fun _ I => PyProof.Rows.floordiv_int h.1.1 (toks_still I (v := .int _ _) h.2 _) (.inl (PyProof.noPylong_of_log2 h.1.2))
  · exact fun _ I => PyProof.Rows.mod_int' h.1 (toks_still I (v := .int _ _) h.2 _)
  · obtain ⟨⟨h1, h2, h3⟩, h⟩ := h
    exact fun _ I => AutoIntOps.pow_4 (by omega) (by simp; omega) (by simp; omega) (by simp; omega) (by simp [h3]) (toks_still I (v := .int _ _) h _)
  · exact TM.bin_str h.1 h.2
  · exact TM.bin_rep h.1 h.2
  · rename_i p q
    have := toV_ref ea; subst this
    have := toV_ref eb; subst this
    split at h
    · rename_i e1 e2; exact TM.bin_list e1 e2 rfl rfl h.1 h.2
    · rename_i e1 e2; exact TM.bin_tuple e1 e2 h.1.1 h.1.2 h.2.1 h.2.2
    · exact h.elim
end
end Mine

namespace Mine
open PySem PySem.Calls PySem.SeqAt

/-! equality -/
def scEq : V → V → Option Bool
  | .none, .none => some true
  | .bool a, .bool b => some (a == b)
  | .int a, .int b => some (a == b)
  | .str a, .str b => some (a == b)
  | .bool a, .int b => some ((if a then 1 else 0) == b)
  | .int a, .bool b => some (a == (if b then 1 else 0))
  | .none, .bool _ | .none, .int _ | .none, .str _ => some false
  | .bool _, .none | .bool _, .str _ => some false
  | .int _, .none | .int _, .str _ => some false
  | .str _, .none | .str _, .bool _ | .str _, .int _ => some false
  | _, _ => none

theorem eqAt_sc {A : Around} {s : Shared} {a b : Value} {r : Bool} (h : scEq (toV a) (toV b) = some r) : EqAt A s a b r ∧ RcAt A s a b r ∧ RcNeAt A s a b (!r) := by
  cases a <;> cases b <;> simp only [toV, scEq, Option.some.injEq, reduceCtorEq] at h <;> subst h
  · exact ⟨EqAt.same _, RcAt.none_none, RcNeAt.none_none⟩
  · exact ⟨EqAt.none_bool _, RcAt.none_bool _, RcNeAt.none_bool _⟩
  · exact ⟨EqAt.none_int _ _, RcAt.none_int _ _, RcNeAt.none_int _ _⟩
  · exact ⟨EqAt.none_str _ _, RcAt.none_str _ _, RcNeAt.none_str _ _⟩
  · exact ⟨EqAt.bool_none _, RcAt.bool_none _, RcNeAt.bool_none _⟩
  · exact ⟨EqAt.bool_bool _ _, RcAt.bool_bool _ _, RcNeAt.bool_bool _ _⟩
  · exact ⟨EqAt.bool_int _ _ _, RcAt.bool_int _ _ _, RcNeAt.bool_int _ _ _⟩
  · exact ⟨EqAt.bool_str _ _ _, RcAt.bool_str _ _ _, RcNeAt.bool_str _ _ _⟩
  · exact ⟨EqAt.int_none _ _, RcAt.int_none _ _, RcNeAt.int_none _ _⟩
  · exact ⟨EqAt.int_bool _ _ _, RcAt.int_bool _ _ _, RcNeAt.int_bool _ _ _⟩
  · exact ⟨EqAt.int_int _ _ _ _, RcAt.int_int _ _ _ _, RcNeAt.int_int _ _ _ _⟩
  · exact ⟨EqAt.int_str _ _ _ _, RcAt.int_str _ _ _ _, RcNeAt.int_str _ _ _ _⟩
  · exact ⟨EqAt.str_none _ _, RcAt.str_none _ _, RcNeAt.str_none _ _⟩
  · exact ⟨EqAt.str_bool _ _ _, RcAt.str_bool _ _ _, RcNeAt.str_bool _ _ _⟩
  · exact ⟨EqAt.str_int _ _ _ _, RcAt.str_int _ _ _ _, RcNeAt.str_int _ _ _ _⟩
  · exact ⟨EqAt.str_str _ _ _ _, RcAt.str_str _ _ _ _, RcNeAt.str_str _ _ _ _⟩

/-- `==` of two values over the visible heap; the last number: how deep -/
inductive EqV (H : AH) : V → V → Bool → Nat → Prop
  | sc {a b r} : scEq a b = some r → EqV H a b r 0
  | len {p q n k xs ys} : H.get p = some n → H.get q = some k → n.seqL = some xs → k.seqL = some ys → xs.length ≠ ys.length → EqV H (.ref p) (.ref q) false 0
  | list {p q n k xs ys e d} : H.get p = some n → H.get q = some k → n.seqL = some xs → k.seqL = some ys → xs.length = ys.length → (p = q → (List.range xs.length).all e = true) →
      (∀ (j : Nat) x y, xs[j]? = some x → ys[j]? = some y → EqV H x y (e j) d) → EqV H (.ref p) (.ref q) ((List.range xs.length).all e) (d + 1)
  | tuple {p q xs ys e d} : H.get p = some (.tuple xs) → H.get q = some (.tuple ys) → (p = q → ((List.range (min xs.length ys.length)).all e && xs.length == ys.length) = true) →
      (∀ (j : Nat) x y, xs[j]? = some x → ys[j]? = some y → EqV H x y (e j) d) → EqV H (.ref p) (.ref q) ((List.range (min xs.length ys.length)).all e && xs.length == ys.length) (d + 1)

def NodesIn (C : Cx) (H : AH) (h : Heap) : Prop := ∀ a n, H.get a = some n → NodeAt C h a n

theorem EqAt.of_rc {A : Around} {s : Shared} {p q : Addr} {r : Bool} (h : p = q → r = true) (rc : RcAt A s (.ref p) (.ref q) r) : EqAt A s (.ref p) (.ref q) r := by
  by_cases e : p = q
  · rw [h e]; subst e; exact EqAt.same _
  · exact EqAt.of_refs e rc

theorem EqV.sound {C : Cx} {H : AH} {a b : V} {r : Bool} {d : Nat} (h : EqV H a b r d) : ∀ {A : Around} {s : Shared} {x y : Value}, NodesIn C H s.heap → A.units + d < cLine → toV x = a → toV y = b →
    EqAt A s x y r ∧ RcAt A s x y r ∧ RcNeAt A s x y (!r) := by
  induction h with
  | sc h => intro A s x y _ _ ex ey; subst ex ey; exact eqAt_sc h
  | len hp hq en ek hne =>
    intro A s x y N hu ex ey
    have := toV_ref ex; subst this
    have := toV_ref ey; subst this
    obtain ⟨vs, hvs, e1, z1⟩ := (N _ _ hp).isList en
    obtain ⟨ws, hws, e2, z2⟩ := (N _ _ hq).isList ek
    have hsz : (vs.size != ws.size) = true := by rw [map_size e1, map_size e2]; simpa using hne
    have rc := RcAt.lists_lengths hvs hws hsz hu
    refine ⟨EqAt.of_rc (fun e => ?_) rc, rc, RcNeAt.lists_lengths hvs hws hsz hu⟩
    subst e
    rw [hp] at hq; cases hq; rw [en] at ek; cases ek; exact absurd rfl hne
  | @list p q n k xs ys e d hp hq en ek hl hpq _ ih =>
    intro A s x y N hu ex ey
    have := toV_ref ex; subst this
    have := toV_ref ey; subst this
    obtain ⟨vs, hvs, e1, z1⟩ := (N _ _ hp).isList en
    obtain ⟨ws, hws, e2, z2⟩ := (N _ _ hq).isList ek
    have hsz : vs.size = ws.size := by rw [map_size e1, map_size e2]; exact hl
    have hu' : A.units < cLine := by omega
    have he : ∀ j (h1 : j < vs.size) (h2 : j < ws.size), EqAt A.in1 s vs[j] ws[j] (e j) := fun j h1 h2 =>
      (ih j (toV vs[j]) (toV ws[j]) (by rw [← e1]; simp [h1]) (by rw [← e2]; simp [h2]) (A := A.in1) N (by show A.units + 1 + d < cLine; omega) rfl rfl).1
    have rc := RcAt.lists hvs hws hsz hu' he
    rw [map_size e1] at rc
    refine ⟨EqAt.of_rc hpq rc, rc, ?_⟩
    have := RcNeAt.lists hvs hws hsz hu' he
    rw [map_size e1] at this; exact this
  | @tuple p q xs ys e d hp hq hpq _ ih =>
    intro A s x y N hu ex ey
    have := toV_ref ex; subst this
    have := toV_ref ey; subst this
    obtain ⟨vs, hvs, e1, z1⟩ := (N _ _ hp).isTuple
    obtain ⟨ws, hws, e2, z2⟩ := (N _ _ hq).isTuple
    have hu' : A.units < cLine := by omega
    have he : ∀ j (h1 : j < vs.size) (h2 : j < ws.size), EqAt A.in1 s vs[j] ws[j] (e j) := fun j h1 h2 =>
      (ih j (toV vs[j]) (toV ws[j]) (by rw [← e1]; simp [h1]) (by rw [← e2]; simp [h2]) (A := A.in1) N (by show A.units + 1 + d < cLine; omega) rfl rfl).1
    have rc := RcAt.tuples hvs hws hu' he
    rw [map_size e1, map_size e2] at rc
    refine ⟨EqAt.of_rc hpq rc, rc, ?_⟩
    have := RcNeAt.tuples hvs hws hu' he
    rw [map_size e1, map_size e2] at this; exact this
end Mine

namespace Mine
open PySem PySem.Calls PySem.SeqAt

/-- room for what the machine nests by itself -/
def Room (A : Around) : Prop := A.units + 200 < cLine

def deepest : Nat := 90

def opEq (a b : V) (Q : Bool → Prop) (H : AH) : Prop :=
  match scEq a b with
  | some r => Q r
  | none => ∃ r d, EqV H a b r d ∧ d ≤ deepest ∧ Q r

def strIn (y x : Str) : Bool := !(Builtin.Str.occurrences x y 0 x.length 1).isEmpty

def opIn (v b : V) (Q : Bool → Prop) (H : AH) : Prop :=
  match b with
  | .str x => (match v with | .str y => Q (strIn y x) | _ => False)
  | .ref p => (match H.get p with
    | some (.list xs) | some (.rlist xs) | some (.tuple xs) => ∃ e : V → Bool, (∀ y ∈ xs, ∃ d, EqV H y v (e y) d ∧ d ≤ deepest) ∧ Q (xs.any e)
    | some (.sdict es) => (match v with | .str k => Q (es.any fun p => p.1 = k) | _ => False)
    | some (.idict es) => (match v with | .int k => Q (es.any fun p => p.1 = k) | _ => False)
    | _ => False)
  | _ => False

def dget {K : Type} [DecidableEq K] (es : List (K × V)) (k : K) : Option V := (es.find? fun p => p.1 = k).map (·.2)

/-- `==` of two dicts with plain values -/
def dEq {K : Type} [DecidableEq K] (es fs : List (K × V)) : Bool := es.length == fs.length && es.all fun p => match dget fs p.1 with | some w => (scEq p.2 w).getD false | none => false
def dSc {K : Type} [DecidableEq K] (es fs : List (K × V)) : Prop := ∀ p ∈ es, ∀ w, dget fs p.1 = some w → (scEq p.2 w).isSome = true

def opEq2 (a b : V) (Q : Bool → Prop) (H : AH) : Prop :=
  match a, b with
  | .ref p, .ref q => (match H.get p, H.get q with
    | some (.sdict es), some (.sdict fs) => dSc es fs ∧ Q (dEq es fs)
    | some (.idict es), some (.idict fs) => dSc es fs ∧ Q (dEq es fs)
    | _, _ => opEq (.ref p) (.ref q) Q H)
  | a, b => opEq a b Q H

def opCmp (op : CmpOp) (a b : V) (Q : Bool → Prop) (H : AH) : Prop :=
  match op with
  | .Eq => opEq2 a b Q H
  | .NotEq => opEq2 a b (fun r => Q (!r)) H
  | .In => opIn a b Q H
  | .NotIn => opIn a b (fun r => Q (!r)) H
  | .Lt => (match a, b with | .int x, .int y => Q (decide (x < y)) | _, _ => False)
  | .LtE => (match a, b with | .int x, .int y => Q (decide (x ≤ y)) | _, _ => False)
  | .Gt => (match a, b with | .int x, .int y => Q (decide (x > y)) | _, _ => False)
  | .GtE => (match a, b with | .int x, .int y => Q (decide (x ≥ y)) | _, _ => False)
  | .Is => (match b with | .none => (match a with | .bi _ => False | _ => Q (decide (a = .none))) | _ => False)
  | .IsNot => (match b with | .none => (match a with | .bi _ => False | _ => Q (decide (a ≠ .none))) | _ => False)

def pick (xs : List V) (k : Int) : Option V := if 0 ≤ k then xs[k.toNat]? else if -(xs.length : Int) ≤ k then xs[(k + xs.length).toNat]? else none

def dput {K : Type} [DecidableEq K] (es : List (K × V)) (k : K) (v : V) : List (K × V) :=
  if es.any (fun p => p.1 = k) then es.map (fun p => if p.1 = k then (p.1, v) else p) else es ++ [(k, v)]

def opIdx (o i : V) (Q : V → Prop) (H : AH) : Prop :=
  match o, i with
  | .ref p, .int k => (match H.get p with
    | some (.list xs) | some (.rlist xs) | some (.tuple xs) => (match pick xs k with | some v => Q v | none => False)
    | some (.idict es) => (match dget es k with | some v => Q v | none => False)
    | _ => False)
  | .ref p, .str k => (match H.get p with
    | some (.sdict es) => (match dget es k with | some v => Q v | none => False)
    | _ => False)
  | .str x, .int k => 0 ≤ k ∧ k < 2 ^ 62 ∧ (match x.cps[k.toNat]? with | some c => Q (.str ⟨#[c]⟩) | none => False)
  | _, _ => False

section
variable {C : Cx} {sn : Snap} {A : Around} {env : Env} {ρ : Str → Option V} {H : AH} {E : Value → Shared → Prop}

theorem Inv.nodesIn {s : Shared} (I : Inv C sn env ρ H s) : NodesIn C H s.heap := I.nodes
theorem Inv.notMods {s : Shared} (I : Inv C sn env ρ H s) {a : Addr} {n : Node} (h : H.get a = some n) (hr : n.isRO = false) : (a == sysModules) = false := by
  obtain ⟨o, ho⟩ := C.mods
  have := I.new a n h hr
  rw [beq_eq_false_iff_ne]
  rintro rfl
  rw [ho] at this; cases this

theorem opEq_has {a b : V} {Q : Bool → Prop} (h : opEq a b Q H) : ∃ r d, EqV H a b r d ∧ d ≤ deepest ∧ Q r := by
  unfold opEq at h
  split at h
  · rename_i r e; exact ⟨r, 0, .sc e, Nat.zero_le _, h⟩
  · exact h

theorem dget_map {K : Type} [DecidableEq K] {kvs : List (K × Value)} {es : List (K × V)} (h : kvs.map (fun p => (p.1, toV p.2)) = es) (k : K) : dget es k = (valueAt kvs k).map toV := by
  subst h
  unfold dget valueAt
  induction kvs with
  | nil => rfl
  | cons p r ih =>
    simp only [List.map_cons, List.find?_cons]
    by_cases e : p.1 = k
    · simp [e]
    · simpa [e] using ih
theorem any_map {K : Type} [DecidableEq K] {kvs : List (K × Value)} {es : List (K × V)} (h : kvs.map (fun p => (p.1, toV p.2)) = es) (k : K) : (es.any fun p => p.1 = k) = (valueAt kvs k).isSome := by
  subst h
  unfold valueAt
  induction kvs with
  | nil => rfl
  | cons p r ih =>
    simp only [List.map_cons, List.any_cons, List.find?_cons]
    by_cases e : p.1 = k
    · simp [e]
    · simp [e] at ih ⊢; simpa using ih
theorem dput_map {K : Type} [DecidableEq K] {kvs : List (K × Value)} {es : List (K × V)} (h : kvs.map (fun p => (p.1, toV p.2)) = es) (k : K) (v : Value) : (stored kvs k v).map (fun p => (p.1, toV p.2)) = dput es k (toV v) := by
  subst h
  unfold stored dput
  have : (List.any (List.map (fun p => (p.1, toV p.2)) kvs) fun p => decide (p.1 = k)) = kvs.any fun p => decide (p.1 = k) := by
    rw [List.any_map]; rfl
  rw [this]
  split
  · rw [List.map_map, List.map_map]
    apply List.map_congr_left
    intro p _
    simp only [Function.comp]
    split <;> rfl
  · simp

theorem TM.opIn_ {a b : Value} {Q : Bool → Prop} (hr : Room A) (h : opIn (toV a) (toV b) Q H) :
    TM C sn A env ρ (compareOp .In a b) (fun v H' => (∃ r, v = .bool r ∧ Q r) ∧ H' = H) E H ∧ TM C sn A env ρ (compareOp .NotIn a b) (fun v H' => (∃ r, v = .bool (!r) ∧ Q r) ∧ H' = H) E H := by
  have hu : A.units + 200 < cLine := hr
  unfold opIn at h
  split at h
  · rename_i x eb
    split at h
    · rename_i y ea
      obtain ⟨t, rfl⟩ := toV_str ea
      obtain ⟨u, rfl⟩ := toV_str eb
      exact ⟨fun s I => P.in_str ⟨H, I, ⟨_, rfl, h⟩, rfl⟩, fun s I => P.notIn_str ⟨H, I, ⟨_, rfl, h⟩, rfl⟩⟩
    · exact h.elim
  · rename_i p eb
    have := toV_ref eb; subst this
    have lists : ∀ n xs, H.get p = some n → n.seqL = some xs → (∃ e : V → Bool, (∀ y ∈ xs, ∃ d, EqV H y (toV a) (e y) d ∧ d ≤ deepest) ∧ Q (xs.any e)) →
        TM C sn A env ρ (compareOp .In a (.ref p)) (fun v H' => (∃ r, v = .bool r ∧ Q r) ∧ H' = H) E H ∧ TM C sn A env ρ (compareOp .NotIn a (.ref p)) (fun v H' => (∃ r, v = .bool (!r) ∧ Q r) ∧ H' = H) E H := by
      rintro n xs hp en ⟨e, he, q⟩
      have key : ∀ s, Inv C sn env ρ H s → ∃ vs, s.heap.IsList p vs ∧ (∀ y, y ∈ vs → EqAt A.in1 s y a (e (toV y))) ∧ Q (vs.any fun y => e (toV y)) := fun s I => by
        obtain ⟨vs, hvs, e1, z1⟩ := (I.nodes p n hp).isList en
        refine ⟨vs, hvs, fun y hy => ?_, ?_⟩
        · obtain ⟨d, hd, hle⟩ := he (toV y) (by rw [← e1]; exact List.mem_map.mpr ⟨y, by simpa using hy, rfl⟩)
          exact (hd.sound (A := A.in1) I.nodesIn (by show A.units + 1 + d < cLine; unfold deepest at hle; omega) rfl rfl).1
        · rw [← e1, List.any_map] at q
          rw [← Array.any_toList]; exact q
      exact ⟨fun s I => let ⟨vs, h1, h2, h3⟩ := key s I; in_listAt _ h1 h2 ⟨H, I, ⟨_, rfl, h3⟩, rfl⟩, fun s I => let ⟨vs, h1, h2, h3⟩ := key s I; notIn_listAt _ h1 h2 ⟨H, I, ⟨_, rfl, h3⟩, rfl⟩⟩
    split at h
    · rename_i xs hp; exact lists _ xs hp rfl h
    · rename_i xs hp; exact lists _ xs hp rfl h
    · rename_i xs hp
      obtain ⟨e, he, q⟩ := h
      have key : ∀ s, Inv C sn env ρ H s → ∃ vs, s.heap.IsTuple p vs ∧ (∀ y, y ∈ vs → EqAt A.in1 s y a (e (toV y))) ∧ Q (vs.any fun y => e (toV y)) := fun s I => by
        obtain ⟨vs, hvs, e1, z1⟩ := (I.nodes p _ hp).isTuple
        refine ⟨vs, hvs, fun y hy => ?_, ?_⟩
        · obtain ⟨d, hd, hle⟩ := he (toV y) (by rw [← e1]; exact List.mem_map.mpr ⟨y, by simpa using hy, rfl⟩)
          exact (hd.sound (A := A.in1) I.nodesIn (by show A.units + 1 + d < cLine; unfold deepest at hle; omega) rfl rfl).1
        · rw [← e1, List.any_map] at q
          rw [← Array.any_toList]; exact q
      exact ⟨fun s I => let ⟨vs, h1, h2, h3⟩ := key s I; in_tupleAt _ h1 h2 ⟨H, I, ⟨_, rfl, h3⟩, rfl⟩, fun s I => let ⟨vs, h1, h2, h3⟩ := key s I; notIn_tupleAt _ h1 h2 ⟨H, I, ⟨_, rfl, h3⟩, rfl⟩⟩
    · rename_i es hp
      split at h
      · rename_i k ea
        obtain ⟨t, rfl⟩ := toV_str ea
        refine ⟨fun s I => ?_, fun s I => ?_⟩
        all_goals
          obtain ⟨kvs, hd, e1, _⟩ := (I.nodes p _ hp).sdict
          rw [any_map e1] at h
        · exact wpAny_in_of (strKind_is _ _ k t) (I.notMods hp rfl) hd.mapOf ⟨H, I.toks _, ⟨_, rfl, h⟩, rfl⟩
        · exact wpAny_notIn_of (strKind_is _ _ k t) (I.notMods hp rfl) hd.mapOf ⟨H, I.toks _, ⟨_, rfl, h⟩, rfl⟩
      · exact h.elim
    · rename_i es hp
      split at h
      · rename_i k ea
        obtain ⟨t, rfl⟩ := toV_int ea
        refine ⟨fun s I => ?_, fun s I => ?_⟩
        all_goals
          obtain ⟨kvs, hd, e1, _⟩ := (I.nodes p _ hp).idict
          rw [any_map e1] at h
        · exact wpAny_in_of (intKind_is _ _ k t) (I.notMods hp rfl) hd.mapOf ⟨H, I.toks _, ⟨_, rfl, h⟩, rfl⟩
        · exact wpAny_notIn_of (intKind_is _ _ k t) (I.notMods hp rfl) hd.mapOf ⟨H, I.toks _, ⟨_, rfl, h⟩, rfl⟩
      · exact h.elim
    · exact h.elim
  · exact h.elim
end
end Mine

namespace Mine
open PySem PySem.Calls PySem.SeqAt

section
variable {C : Cx} {sn : Snap} {A : Around} {env : Env} {ρ : Str → Option V} {H : AH} {E : Value → Shared → Prop}

theorem hits_of {K : Type} [DecidableEq K] {A : Around} {s : Shared} {kb : List (K × Value)} {fs : List (K × V)} (hb : kb.map (fun p => (p.1, toV p.2)) = fs) : ∀ (ka : List (K × Value)) (es : List (K × V)), ka.map (fun p => (p.1, toV p.2)) = es → dSc es fs →
    W.KeqHits A s kb ka (es.all fun p => match dget fs p.1 with | some w => (scEq p.2 w).getD false | none => false)
  | [], _, rfl, _ => .nil
  | (k, v) :: r, _, rfl, h => by
    simp only [List.map_cons, List.all_cons]
    have hr := hits_of (A := A) (s := s) hb r _ rfl fun p hp => h p (List.mem_cons_of_mem _ hp)
    have hd := dget_map hb k
    cases q : valueAt kb k with
    | none =>
      rw [q] at hd
      simp only [Option.map_none] at hd
      rw [hd]
      exact .miss q
    | some y =>
      rw [q] at hd
      simp only [Option.map_some] at hd
      rw [hd]
      obtain ⟨e, he⟩ := Option.isSome_iff_exists.mp (h (k, toV v) (by simp) (toV y) hd)
      simp only [he, Option.getD_some]
      exact .hit q (eqAt_sc he).1 hr

theorem eq2_has {a b : Value} {Q : Bool → Prop} (hr : Room A) (h : opEq2 (toV a) (toV b) Q H) : ∃ r, Q r ∧ ∀ s, Inv C sn env ρ H s → (∀ (P : Value → Shared → Prop), P (.bool r) s → wpAny C.M A (compareOp .Eq a b) P E s) ∧ (∀ (P : Value → Shared → Prop), P (.bool !r) s → wpAny C.M A (compareOp .NotEq a b) P E s) := by
  have hu : A.units + 200 < cLine := hr
  have old : opEq (toV a) (toV b) Q H → ∃ r, Q r ∧ ∀ s, Inv C sn env ρ H s → (∀ (P : Value → Shared → Prop), P (.bool r) s → wpAny C.M A (compareOp .Eq a b) P E s) ∧ (∀ (P : Value → Shared → Prop), P (.bool !r) s → wpAny C.M A (compareOp .NotEq a b) P E s) := fun h => by
    obtain ⟨r, d, he, hd, q⟩ := opEq_has h
    refine ⟨r, q, fun s I => ?_⟩
    have := (he.sound (A := A) (x := a) (y := b) I.nodesIn (by unfold deepest at hd; omega) rfl rfl).2
    exact ⟨fun P hP => this.1 _ _ _ _ hP, fun P hP => this.2 _ _ _ _ hP⟩
  unfold opEq2 at h
  split at h
  · rename_i p q ea eb
    have := toV_ref ea; subst this
    have := toV_ref eb; subst this
    split at h
    · rename_i es fs hp hq
      refine ⟨_, h.2, fun s I => ?_⟩
      obtain ⟨ka, da, e1, _⟩ := (I.nodes p _ hp).sdict
      obtain ⟨kb, db, e2, _⟩ := (I.nodes q _ hq).sdict
      have hl : (ka.length == kb.length) = (es.length == fs.length) := by rw [← e1, ← e2]; simp
      refine ⟨fun P hP => W.keq_eq (I.notMods hp rfl) (I.notMods hq rfl) da db (by omega) (fun _ => hits_of e2 ka es e1 h.1) (by rw [hl]; exact hP), fun P hP => W.keq_ne (I.notMods hp rfl) (I.notMods hq rfl) da db (by omega) (fun _ => hits_of e2 ka es e1 h.1) (by rw [hl]; exact hP)⟩
    · rename_i es fs hp hq
      refine ⟨_, h.2, fun s I => ?_⟩
      obtain ⟨ka, da, e1, _⟩ := (I.nodes p _ hp).idict
      obtain ⟨kb, db, e2, _⟩ := (I.nodes q _ hq).idict
      have hl : (ka.length == kb.length) = (es.length == fs.length) := by rw [← e1, ← e2]; simp
      refine ⟨fun P hP => W.keq_eq (I.notMods hp rfl) (I.notMods hq rfl) da db (by omega) (fun _ => hits_of e2 ka es e1 h.1) (by rw [hl]; exact hP), fun P hP => W.keq_ne (I.notMods hp rfl) (I.notMods hq rfl) da db (by omega) (fun _ => hits_of e2 ka es e1 h.1) (by rw [hl]; exact hP)⟩
    · exact old h
  · exact old h

theorem TM.cmp {op : CmpOp} {a b : Value} {Q : Bool → Prop} (hr : Room A) (h : opCmp op (toV a) (toV b) Q H) :
    TM C sn A env ρ (compareOp op a b) (fun v H' => (∃ r, v = .bool r ∧ Q r) ∧ H' = H) E H := by
  have hu : A.units + 200 < cLine := hr
  unfold opCmp at h
  split at h
  · obtain ⟨r, q, k⟩ := eq2_has (C := C) (sn := sn) (env := env) (ρ := ρ) (E := E) hr h
    exact fun s I => (k s I).1 _ ⟨H, I, ⟨_, rfl, q⟩, rfl⟩
  · obtain ⟨r, q, k⟩ := eq2_has (C := C) (sn := sn) (env := env) (ρ := ρ) (E := E) hr h
    exact fun s I => (k s I).2 _ ⟨H, I, ⟨_, rfl, q⟩, rfl⟩
  · exact (TM.opIn_ hr h).1
  · exact ((TM.opIn_ hr h).2).mono fun v H' ⟨⟨r, e, q⟩, e'⟩ => ⟨⟨_, e, q⟩, e'⟩
  · split at h
    · rename_i ea eb
      obtain ⟨t, rfl⟩ := toV_int ea; obtain ⟨u, rfl⟩ := toV_int eb
      exact fun s I => P.lt_int ⟨H, I, ⟨_, rfl, h⟩, rfl⟩
    · exact False.elim h
  · split at h
    · rename_i ea eb
      obtain ⟨t, rfl⟩ := toV_int ea; obtain ⟨u, rfl⟩ := toV_int eb
      exact fun s I => P.le_int ⟨H, I, ⟨_, rfl, h⟩, rfl⟩
    · exact False.elim h
  · split at h
    · rename_i ea eb
      obtain ⟨t, rfl⟩ := toV_int ea; obtain ⟨u, rfl⟩ := toV_int eb
      exact fun s I => P.gt_int ⟨H, I, ⟨_, rfl, h⟩, rfl⟩
    · exact False.elim h
  · split at h
    · rename_i ea eb
      obtain ⟨t, rfl⟩ := toV_int ea; obtain ⟨u, rfl⟩ := toV_int eb
      exact fun s I => P.ge_int ⟨H, I, ⟨_, rfl, h⟩, rfl⟩
    · exact False.elim h
  · split at h
    · rename_i eb
      have := toV_none eb; subst this
      split at h
      · exact False.elim h
      · rename_i hnb
        refine fun s I => wpAny_is_plain ?_ ⟨H, I, ⟨_, rfl, ?_⟩, rfl⟩
        · cases a <;> first | rfl | exact absurd rfl (hnb _)
        · have : (a == Value.none) = decide (toV a = .none) := by cases a <;> simp [toV]
          rw [this]; exact h
    · exact False.elim h
  · split at h
    · rename_i eb
      have := toV_none eb; subst this
      split at h
      · exact False.elim h
      · rename_i hnb
        refine fun s I => wpAny_isNot_plain ?_ ⟨H, I, ⟨_, rfl, ?_⟩, rfl⟩
        · cases a <;> first | rfl | exact absurd rfl (hnb _)
        · have : (!(a == Value.none)) = decide (toV a ≠ .none) := by cases a <;> simp [toV]
          rw [this]; exact h
    · exact False.elim h

theorem pick_get {vs : Array Value} {xs : List V} {k : Int} {v : V} (e1 : vs.toList.map toV = xs) (hz : xs.length < 2 ^ 62) (h : pick xs k = some v) :
    ∃ cv, toV cv = v ∧ ((0 ≤ k ∧ k < 2 ^ 62 ∧ vs[k.toNat]? = some cv) ∨ (k < 0 ∧ -(vs.size : Int) ≤ k ∧ -(2 ^ 62) ≤ k ∧ vs[(k + vs.size).toNat]? = some cv)) := by
  unfold pick at h
  have hs := map_size e1
  split at h
  · rename_i h0
    obtain ⟨cv, q1, q2⟩ := map_get e1 h
    refine ⟨cv, q2, .inl ⟨h0, ?_, q1⟩⟩
    have := (Array.getElem?_eq_some_iff.mp q1).1
    omega
  · rename_i h0
    split at h
    · rename_i h1
      obtain ⟨cv, q1, q2⟩ := map_get e1 h
      refine ⟨cv, q2, .inr ⟨by omega, by rw [hs]; exact h1, by omega, by rw [hs]; exact q1⟩⟩
    · cases h

theorem subscripted_any (slice : Expr) (o i : Value) : ∃ ops, subscripted slice false o i = operate ops (getItem o i) := by
  unfold subscripted
  split
  · exact ⟨_, rfl⟩
  · rename_i h; cases h
  · exact ⟨_, rfl⟩

theorem tail_of {s : Shared} {value slice : Expr} {o i : Value} {T id : String} {Q : Value → Shared → Prop} (hT : s.TypeIs o T)
    (hl : typeLookup (.type T) "__getitem__" = pure (some (.builtin id))) (hg : wpAny C.M A (getItem o i) Q E s) : wpAny C.M A (PyProof.Rows.subscriptTail value slice o i) Q E s := by
  obtain ⟨ops, e⟩ := subscripted_any slice o i
  exact PyProof.Rows.tail_any hT hl hg e

theorem TM.idx {value slice : Expr} {o i : Value} {Q : V → Prop} (h : opIdx (toV o) (toV i) Q H) :
    TM C sn A env ρ (PyProof.Rows.subscriptTail value slice o i) (fun v H' => Q (toV v) ∧ H' = H) E H := by
  unfold opIdx at h
  split at h
  · rename_i p k eo ei
    have := toV_ref eo; subst this
    obtain ⟨t, rfl⟩ := toV_int ei
    have lists : ∀ n xs, H.get p = some n → n.seqL = some xs → (match pick xs k with | some v => Q v | none => False) →
        TM C sn A env ρ (PyProof.Rows.subscriptTail value slice (.ref p) (.int k t)) (fun v H' => Q (toV v) ∧ H' = H) E H := by
      intro n xs hp en h s I
      obtain ⟨vs, hvs, e1, z1⟩ := (I.nodes p n hp).isList en
      split at h
      · rename_i v hv
        obtain ⟨cv, e, q | q⟩ := pick_get e1 z1 hv
        · exact tail_of hvs.typeIs slot_list_getitem.lookup (wpAny_getItem_list hvs q.1 (by omega) q.2.2 ⟨H, I, by rw [e]; exact h, rfl⟩)
        · exact tail_of hvs.typeIs slot_list_getitem.lookup (wpAny_getItem_list_neg hvs q.1 q.2.1 (by omega) q.2.2.2 ⟨H, I, by rw [e]; exact h, rfl⟩)
      · exact False.elim h
    split at h
    · rename_i xs hp; exact lists _ xs hp rfl h
    · rename_i xs hp; exact lists _ xs hp rfl h
    · rename_i xs hp
      intro s I
      obtain ⟨vs, hvs, e1, z1⟩ := (I.nodes p _ hp).isTuple
      split at h
      · rename_i v hv
        obtain ⟨cv, e, q⟩ := pick_get e1 z1 hv
        have hvs' : PyProof.Rows.IsTup s.heap p vs := hvs
        rcases q with q | q
        · refine tail_of hvs'.typeIs PyProof.Rows.slot_tuple_getitem.lookup (PyProof.Rows.getItem_tuple hvs' (by omega) (by omega) (j := k.toNat) ?_ q.2.2 ⟨H, I, by rw [e]; exact h, rfl⟩)
          have := (Array.getElem?_eq_some_iff.mp q.2.2).1
          unfold seqIndex?
          simp; omega
        · refine tail_of hvs'.typeIs PyProof.Rows.slot_tuple_getitem.lookup (PyProof.Rows.getItem_tuple hvs' (by omega) (by omega) (j := (k + vs.size).toNat) ?_ q.2.2.2 ⟨H, I, by rw [e]; exact h, rfl⟩)
          have := (Array.getElem?_eq_some_iff.mp q.2.2.2).1
          unfold seqIndex?
          simp; omega
      · exact False.elim h
    · rename_i es hp
      intro s I
      obtain ⟨kvs, hd, e1, _⟩ := (I.nodes p _ hp).idict
      split at h
      · rename_i v hv
        rw [dget_map e1] at hv
        cases q : valueAt kvs k with
        | none => rw [q] at hv; cases hv
        | some cv =>
          rw [q] at hv
          simp at hv
          exact tail_of hd.typeIs slot_dict_getitem.lookup (wpAny_getItem_of (intKind_is _ _ k t) hd.mapOf q ⟨H, I.toks _, by rw [hv]; exact h, rfl⟩)
      · exact False.elim h
    · exact False.elim h
  · rename_i p k eo ei
    have := toV_ref eo; subst this
    obtain ⟨t, rfl⟩ := toV_str ei
    split at h
    · rename_i es hp
      intro s I
      obtain ⟨kvs, hd, e1, _⟩ := (I.nodes p _ hp).sdict
      split at h
      · rename_i v hv
        rw [dget_map e1] at hv
        cases q : valueAt kvs k with
        | none => rw [q] at hv; cases hv
        | some cv =>
          rw [q] at hv
          simp at hv
          exact tail_of hd.typeIs slot_dict_getitem.lookup (wpAny_getItem_of (strKind_is _ _ k t) hd.mapOf q ⟨H, I.toks _, by rw [hv]; exact h, rfl⟩)
      · exact False.elim h
    · exact False.elim h
  · rename_i x k eo ei
    obtain ⟨t, rfl⟩ := toV_str eo
    obtain ⟨u, rfl⟩ := toV_int ei
    obtain ⟨h0, h1, h⟩ := h
    split at h
    · rename_i c hc
      intro s I
      refine tail_of (typeIs_str s x t) PyProof.Rows.slot_str_getitem.lookup (PyProof.Rows.getItem_str (c := c) (by simp; omega) ?_ ⟨H, I.toks _, h, rfl⟩)
      have := (Array.getElem?_eq_some_iff.mp hc).1
      have e : seqIndex? k x.length = some k.toNat := by
        unfold seqIndex? Str.length
        simp; omega
      rw [e]; exact hc
    · exact False.elim h
  · exact False.elim h
end
end Mine

namespace Mine
open PySem PySem.Calls PySem.SeqAt

/-- all arguments of a call, one behind the other -/
def plainArgs (args : List (Bool × Sem Value)) : Prop := ∀ x ∈ args, x.1 = false

section
variable {α : Type} {C : Cx} {sn : Snap} {A : Around} {env : Env} {ρ : Str → Option V} {H : AH} {E : Value → Shared → Prop}

/-- each tree gives a value; all of them, in order -/
def TMs (C : Cx) (sn : Snap) (A : Around) (env : Env) (ρ : Str → Option V) (E : Value → Shared → Prop) : List (Sem Value) → (List Value → AH → Prop) → AH → Prop
  | [], Q, H => Q [] H
  | t :: ts, Q, H => TM C sn A env ρ t (fun v H' => TMs C sn A env ρ E ts (fun vs H'' => Q (v :: vs) H'') H') E H

theorem tm_spliced {args : List (Bool × Sem Value)} {Q : List Value → AH → Prop} (hp : plainArgs args) (h : TMs C sn A env ρ E (args.map (·.2)) Q H) : TM C sn A env ρ (spliced args) Q E H := by
  induction args generalizing H Q with
  | nil => exact .pure h
  | cons x r ih =>
    obtain ⟨b, t⟩ := x
    have hb : b = false := hp _ (List.mem_cons_self ..)
    subst hb
    rw [PySem.spliced]
    refine .bind (TM.mono h fun v H' h' => ?_)
    simp only [Bool.false_eq_true, if_false]
    refine .bind (.pure (.bind (.holding ?_)))
    exact (ih (fun y hy => hp y (List.mem_cons_of_mem _ hy)) h').mono fun vs H'' q => .pure q

theorem tm_evalArgs {f : Value} {args : List (Bool × Sem Value)} {Q : Args → AH → Prop} (hp : plainArgs args) (h : TMs C sn A env ρ E (args.map (·.2)) (fun vs H' => Q ⟨vs, []⟩ H') H) :
    TM C sn A env ρ (evalArgs f true args []) Q E H := by
  have hs := tm_spliced hp h
  unfold PySem.evalArgs
  match args, hp, hs with
  | [], _, hs =>
    show TM C sn A env ρ (PySem.spliced [] >>= _) Q E H
    refine .bind (hs.mono fun vs H' q => ?_)
    refine .holding ?_
    exact .bind (.pure (.bind (.pure (.pure q))))
  | (true, x) :: rest, hp, _ => exact absurd (hp _ (List.mem_cons_self ..)) (by simp)
  | (false, x) :: rest, _, hs =>
    show TM C sn A env ρ (PySem.spliced ((false, x) :: rest) >>= _) Q E H
    refine .bind (hs.mono fun vs H' q => ?_)
    refine .holding ?_
    exact .bind (.pure (.bind (.pure (.pure q))))

theorem tm_callWith_other {pos : Pos} {f : Value} {first : List Value} {args : List (Bool × Sem Value)} {Q : Value → AH → Prop} (hf : ∀ a, f ≠ .ref a) (hp : plainArgs args)
    (h : TMs C sn A env ρ E (args.map (·.2)) (fun vs H' => TM C sn A env ρ (call f (first ++ vs)) Q E H') H) : TM C sn A env ρ (callWith pos f first args []) Q E H := by
  have hk : keeperOf f = pure .machine := by cases f <;> first | rfl | exact absurd rfl (hf _)
  have ha : args.any (·.1) = false := by rw [List.any_eq_false]; intro x hx; rw [hp x hx]; simp
  unfold callWith
  refine .bind (.holding (tm_evalArgs hp ?_))
  have mono : ∀ {ts : List (Sem Value)} {Q Q' : List Value → AH → Prop} {H : AH}, TMs C sn A env ρ E ts Q H → (∀ vs H', Q vs H' → Q' vs H') → TMs C sn A env ρ E ts Q' H := by
    intro ts
    induction ts with
    | nil => intro Q Q' H h k; exact k _ _ h
    | cons t r ih => intro Q Q' H h k; exact TM.mono h fun v H' h' => ih h' fun vs H'' q => k _ _ q
  refine mono h fun vs H' q => .bind (.standAt ?_)
  rw [hk]
  simp only [ha, List.any_nil, Bool.or_false]
  refine .bind (.pure ?_)
  exact .bind (q.mono fun r H'' qr => .bind (.holding (.point (.pure qr))))

theorem TMs.mono {ts : List (Sem Value)} {Q Q' : List Value → AH → Prop} (h : TMs C sn A env ρ E ts Q H) (k : ∀ vs H', Q vs H' → Q' vs H') : TMs C sn A env ρ E ts Q' H := by
  induction ts generalizing Q Q' H with
  | nil => exact k _ _ h
  | cons t r ih => exact TM.mono h fun v H' h' => ih h' fun vs H'' q => k _ _ q

theorem TM.keep {vs : List Value} {m : Sem α} {Q : α → AH → Prop} (h : TM C sn A env ρ m Q E H) : TM C sn A env ρ (m.keep vs) Q E H := fun s I => wpAny_keep (h s I)

end
end Mine

namespace Mine
open PySem PySem.Calls PySem.SeqAt

/-- the name of a value's type, of the kinds that are served -/
def kindV (H : AH) : V → Option String
  | .none => some "NoneType"
  | .bool _ => some "bool"
  | .int _ => some "int"
  | .str _ => some "str"
  | .ref p => match H.get p with
    | some (.list _) | some (.rlist _) => some "list"
    | some (.tuple _) => some "tuple"
    | some (.sdict _) | some (.idict _) => some "dict"
    | _ => none
  | _ => none

def zdw (K T : String) : Bool := K == T || (K == "bool" && T == "int")
def isiTypes : List String := ["str", "int", "bool", "tuple", "list", "dict"]

def opBi (id : String) (vs : List V) (Q : V → AH → Prop) (H : AH) : Prop :=
  match id, vs with
  | "len", [.str x] => x.length < 2 ^ 62 ∧ Q (.int x.length) H
  | "len", [.ref p] => (match H.get p with
    | some (.list xs) | some (.rlist xs) | some (.tuple xs) => Q (.int xs.length) H
    | some (.sdict es) => Q (.int es.length) H
    | some (.idict es) => Q (.int es.length) H
    | _ => False)
  | "isinstance", [v, .typ T] => isiTypes.contains T = true ∧ (match kindV H v with | some K => Q (.bool (zdw K T)) H | none => False)
  | _, _ => False

def opTyp (fz : List Nat) (T : String) (vs : List V) (Q : V → AH → Prop) (H : AH) : Prop :=
  match T, vs with
  | "dict", [.ref p] => (match H.get p with
    | some (.sdict es) => es.length ≤ sizeLine ∧ made fz (.sdict es) Q H
    | some (.idict es) => es.length ≤ sizeLine ∧ made fz (.idict es) Q H
    | _ => False)
  | _, _ => False

section
variable {C : Cx} {sn : Snap} {A : Around} {env : Env} {ρ : Str → Option V} {H : AH} {E : Value → Shared → Prop} {Q : V → AH → Prop}

theorem tm_len_str {x : Str} {t : Tok} (hz : x.length < 2 ^ 62) (h : Q (.int x.length) H) : TM C sn A env ρ (call (.builtin "len") [.str x t]) (fun v H' => Q (toV v) H') E H :=
  fun s I => PyProof.Rows.len_str (by omega) (toks_still I (v := .int _ _) h _)
theorem tm_len_list {p : Nat} {n : Node} {xs : List V} (hp : H.get p = some n) (en : n.seqL = some xs) (h : Q (.int xs.length) H) : TM C sn A env ρ (call (.builtin "len") [.ref p]) (fun v H' => Q (toV v) H') E H := by
  intro s I
  obtain ⟨vs, hvs, e1, z1⟩ := (I.nodes p n hp).isList en
  refine call_len_list hvs (by rw [map_size e1]; omega) ?_
  rw [map_size e1]; exact toks_still I (v := .int _ _) h _
theorem tm_len_tuple {p : Nat} {xs : List V} (hp : H.get p = some (.tuple xs)) (h : Q (.int xs.length) H) : TM C sn A env ρ (call (.builtin "len") [.ref p]) (fun v H' => Q (toV v) H') E H := by
  intro s I
  obtain ⟨vs, hvs, e1, z1⟩ := (I.nodes p _ hp).isTuple
  refine PyProof.Rows.len_tuple (t := p) hvs (by rw [map_size e1]; omega) ?_
  rw [map_size e1]; exact toks_still I (v := .int _ _) h _
theorem tm_len_dict {K : Type} [DecidableEq K] {knd : KeyKind C.prog C.w K} {p : Nat} {kvs : List (K × Value)} {es : List (K × V)} {s : Shared} (I : Inv C sn env ρ H s) (hd : s.heap.DictOf knd p kvs) (e1 : kvs.map (fun p => (p.1, toV p.2)) = es)
    (hz : es.length < 2 ^ 62) (hm : (p == sysModules) = false) (h : Q (.int es.length) H) : wpAny C.M A (call (.builtin "len") [.ref p]) (fun v s' => ∃ H', Inv C sn env ρ H' s' ∧ Q (toV v) H') E s := by
  have hl : kvs.length = es.length := by rw [← e1]; simp
  refine call_len_dict hm hd (by omega) ?_
  rw [hl]; exact toks_still I (v := .int _ _) h _

theorem isi_facts {T : String} (hT : isiTypes.contains T = true) : typeOf (.type T) = pure (.type "type") := by
  simp only [isiTypes, List.contains_cons, List.contains_nil, Bool.or_false, Bool.or_eq_true, beq_iff_eq] at hT
  rcases hT with rfl | rfl | rfl | rfl | rfl | rfl
  · exact F.isi_meta_str
  · exact F.isi_meta_int
  · exact F.isi_meta_bool
  · exact F.isi_meta_tuple
  · exact F.isi_meta_list
  · exact F.isi_meta_dict

def servedKinds : List String := ["NoneType", "bool", "int", "str", "list", "tuple", "dict"]
theorem sub_facts {K T : String} (hK : servedKinds.contains K = true) (hT : isiTypes.contains T = true) : isSubtype (.type K) (.type T) = pure (zdw K T) := by
  simp only [servedKinds, isiTypes, List.contains_cons, List.contains_nil, Bool.or_false, Bool.or_eq_true, beq_iff_eq] at hK hT
  rcases hK with rfl | rfl | rfl | rfl | rfl | rfl | rfl <;> rcases hT with rfl | rfl | rfl | rfl | rfl | rfl <;> (rw [isSubtype_type]; kernel_rfl)

theorem tm_isi {a : Value} {K T : String} (hT : isiTypes.contains T = true) (hk : kindV H (toV a) = some K) (h : Q (.bool (zdw K T)) H) :
    TM C sn A env ρ (call (.builtin "isinstance") [a, .type T]) (fun v H' => Q (toV v) H') E H := by
  intro s I
  have hty := isi_facts hT
  have typ : servedKinds.contains K = true ∧ s.TypeIs a K := by
    unfold kindV at hk
    cases a <;> simp only [toV, reduceCtorEq, Option.some.injEq] at hk
    case ref p =>
      split at hk <;> simp only [reduceCtorEq, Option.some.injEq] at hk <;> subst hk
      · rename_i xs hp; obtain ⟨vs, hvs, _⟩ := (I.nodes p _ hp).isList rfl; exact ⟨by decide, hvs.typeIs⟩
      · rename_i xs hp; obtain ⟨vs, hvs, _⟩ := (I.nodes p _ hp).isList rfl; exact ⟨by decide, hvs.typeIs⟩
      · rename_i xs hp; obtain ⟨vs, hvs, _⟩ := (I.nodes p _ hp).isTuple; obtain ⟨o, ho, hc, _⟩ := hvs; exact ⟨by decide, o, ho, hc⟩
      · rename_i xs hp; obtain ⟨kvs, hd, _⟩ := (I.nodes p _ hp).sdict; exact ⟨by decide, hd.typeIs⟩
      · rename_i xs hp; obtain ⟨kvs, hd, _⟩ := (I.nodes p _ hp).idict; exact ⟨by decide, hd.typeIs⟩
    all_goals (subst hk; exact ⟨by decide, rfl⟩)
  have hsub := sub_facts typ.1 hT
  cases hb : zdw K T with
  | true =>
    rw [hb] at hsub h
    exact call_isinstance (isinstance_true hty hsub) ⟨typ.2, H, I, h⟩
  | false =>
    rw [hb] at hsub h
    have hne : ∀ K', K = K' → (Value.type K' == Value.type T) = false := by
      rintro K' rfl
      rw [beq_eq_false_iff_ne]
      intro e
      injection e with e
      subst e
      simp [zdw] at hb
    have fin : ∃ H', Inv C sn env ρ H' { s with toks := s.toks + 1 } ∧ Q (toV (.bool false)) H' := ⟨H, I.toks _, h⟩
    unfold kindV at hk
    cases a <;> simp only [toV, reduceCtorEq, Option.some.injEq] at hk
    case ref p =>
      obtain ⟨o, ho, hc⟩ := typ.2
      split at hk <;> simp only [reduceCtorEq, Option.some.injEq] at hk <;> subst hk
      · exact call_isinstance (isinstance_false_list (hne _ rfl) hty hsub) ⟨⟨o, ho, hc⟩, fin⟩
      · exact call_isinstance (isinstance_false_list (hne _ rfl) hty hsub) ⟨⟨o, ho, hc⟩, fin⟩
      · exact call_isinstance (isinstance_false_tuple (hne _ rfl) hty hsub) ⟨⟨o, ho, hc⟩, fin⟩
      · exact call_isinstance (isinstance_false_dict (hne _ rfl) hty hsub) ⟨⟨o, ho, hc⟩, fin⟩
      · exact call_isinstance (isinstance_false_dict (hne _ rfl) hty hsub) ⟨⟨o, ho, hc⟩, fin⟩
    · subst hk; exact call_isinstance (isinstance_false_none (hne _ rfl) hty hsub) fin
    · subst hk; exact call_isinstance (isinstance_false_bool (hne _ rfl) hty hsub) fin
    · subst hk; exact call_isinstance (isinstance_false_int (hne _ rfl) hty hsub) fin
    · subst hk; exact call_isinstance (isinstance_false_str (hne _ rfl) hty hsub) fin

theorem map_cons' {vs : List Value} {x : V} {r : List V} (h : vs.map toV = x :: r) : ∃ v us, vs = v :: us ∧ toV v = x ∧ us.map toV = r := List.map_eq_cons_iff.mp h
theorem map_one {vs : List Value} {x : V} (h : vs.map toV = [x]) : ∃ v, vs = [v] ∧ toV v = x := by
  obtain ⟨v, us, rfl, e, h⟩ := map_cons' h
  rw [List.map_eq_nil_iff.mp h]
  exact ⟨v, rfl, e⟩
theorem map_two {vs : List Value} {x y : V} (h : vs.map toV = [x, y]) : ∃ v u, vs = [v, u] ∧ toV v = x ∧ toV u = y := by
  obtain ⟨v, us, rfl, e, h⟩ := map_cons' h
  obtain ⟨u, rfl, e'⟩ := map_one h
  exact ⟨v, u, rfl, e, e'⟩

theorem tm_bi {id : String} {vs : List Value} (hh : id = "min" → A.handled = none) (h : opBi id (vs.map toV) Q H) : TM C sn A env ρ (call (.builtin id) vs) (fun v H' => Q (toV v) H') E H := by
  generalize ev : vs.map toV = us at h
  unfold opBi at h
  split at h
  · obtain ⟨v, rfl, e⟩ := map_one ev
    obtain ⟨t, rfl⟩ := toV_str e
    exact tm_len_str h.1 h.2
  · obtain ⟨v, rfl, e⟩ := map_one ev
    have := toV_ref e; subst this
    split at h
    · rename_i hp; exact tm_len_list hp rfl h
    · rename_i hp; exact tm_len_list hp rfl h
    · rename_i hp; exact tm_len_tuple hp h
    · rename_i hp
      intro s I
      obtain ⟨kvs, hd, e1, z1⟩ := (I.nodes _ _ hp).sdict
      exact tm_len_dict I hd e1 z1 (I.notMods hp rfl) h
    · rename_i hp
      intro s I
      obtain ⟨kvs, hd, e1, z1⟩ := (I.nodes _ _ hp).idict
      exact tm_len_dict I hd e1 z1 (I.notMods hp rfl) h
    · exact False.elim h
  · obtain ⟨v, u, rfl, e, e'⟩ := map_two ev
    have := toV_typ e'; subst this
    obtain ⟨hT, h⟩ := h
    split at h
    · rename_i K hK; rw [← e] at hK; exact tm_isi hT hK h
    · exact False.elim h
  · exact False.elim h

theorem tm_dict_copy {K : Type} [DecidableEq K] {knd : KeyKind C.prog C.w K} {p : Nat} {kvs : List (K × Value)} {n : Node} {s : Shared} (I : Inv C sn env ρ H s) (hd : s.heap.DictOf knd p kvs)
    (hz : kvs.length ≤ sizeLine) (hm : (p == sysModules) = false) (hn : ∀ o : Obj, o.IsDictOf knd kvs → ObjIs C o n) (h : made sn.fz n Q H) : wpAny C.M A (call (.type "dict") [.ref p]) (fun v s' => ∃ H', Inv C sn env ρ H' s' ∧ Q (toV v) H') E s := by
  have hD : s.heap.get? s.heap.objs.size = none := get_size _
  refine kt_call_dict hm hd hz fun h' hd' hs => ?_
  obtain ⟨o, ho, hio⟩ := Heap.dictOf_iff.mp hd'
  exact ⟨_, I.come (tk := s.toks) (fun b o e => hs.extBut b o (Nat.ne_of_lt (Heap.lt_size e)) (Heap.get?_push_of_some _ e)) hD ⟨o, ho, hn o hio⟩, h _ (I.none_of_new hD) (I.notFz (I.none_of_new hD))⟩

theorem tm_typ {T : String} {vs : List Value} (h : opTyp sn.fz T (vs.map toV) Q H) : TM C sn A env ρ (call (.type T) vs) (fun v H' => Q (toV v) H') E H := by
  generalize ev : vs.map toV = us at h
  unfold opTyp at h
  split at h
  · obtain ⟨v, rfl, e⟩ := map_one ev
    have := toV_ref e; subst this
    split at h
    · rename_i es hp
      intro s I
      obtain ⟨kvs, hd, e1, z1⟩ := (I.nodes _ _ hp).sdict
      have hl : kvs.length = es.length := by rw [← e1]; simp
      exact tm_dict_copy (n := .sdict es) I hd (by rw [hl]; exact h.1) (I.notMods hp rfl) (fun o ho => ⟨z1, kvs, ho, e1⟩) h.2
    · rename_i es hp
      intro s I
      obtain ⟨kvs, hd, e1, z1⟩ := (I.nodes _ _ hp).idict
      have hl : kvs.length = es.length := by rw [← e1]; simp
      exact tm_dict_copy (n := .idict es) I hd (by rw [hl]; exact h.1) (I.notMods hp rfl) (fun o ho => ⟨z1, kvs, ho, e1⟩) h.2
    · exact False.elim h
  · exact False.elim h
end
end Mine

namespace Mine
open PySem PySem.Calls PySem.SeqAt

def dmerge {K : Type} [DecidableEq K] (es fs : List (K × V)) : List (K × V) := fs.foldl (fun acc p => dput acc p.1 p.2) es

/-- methods of built-in types -/
def opM (fz : List Nat) (id : String) (vs : List V) (Q : V → AH → Prop) (H : AH) : Prop :=
  match id, vs with
  | "list.append", [.ref p, x] => (match H.get p with | some (.list xs) => p ∉ fz ∧ xs.length ≤ sizeLine ∧ Q .none (H.set p (.list (xs ++ [x]))) | _ => False)
  | "str.join", [.str x, .ref p] => (match H.get p with
    | some (.list xs) => ∃ ss : List Str, xs = ss.map V.str ∧ JoinOk x ss = true ∧ Q (.str (Txt.join x ss)) H
    | _ => False)
  | _, _ => False

def opSet (fz : List Nat) (o i v : V) (Q : AH → Prop) (H : AH) : Prop :=
  match o with
  | .ref p => (match H.get p, i with
    | some (.list xs), .int k => p ∉ fz ∧ (0 ≤ k ∧ k < xs.length) ∧ Q (H.set p (.list (xs.set k.toNat v)))
    | some (.sdict es), .str k => p ∉ fz ∧ es.length ≤ sizeLine ∧ Q (H.set p (.sdict (dput es k v)))
    | some (.sdict []), .int k => p ∉ fz ∧ Q (H.set p (.idict [(k, v)]))
    | some (.idict es), .int k => p ∉ fz ∧ es.length ≤ sizeLine ∧ Q (H.set p (.idict (dput es k v)))
    | _, _ => False)
  | _ => False

section
variable {C : Cx} {sn : Snap} {A : Around} {env : Env} {ρ : Str → Option V} {H : AH} {E : Value → Shared → Prop} {Q : V → AH → Prop}

theorem map_three {vs : List Value} {x y z : V} (h : vs.map toV = [x, y, z]) : ∃ v u t, vs = [v, u, t] ∧ toV v = x ∧ toV u = y ∧ toV t = z := by
  obtain ⟨v, us, rfl, e, h⟩ := map_cons' h
  obtain ⟨u, t, rfl, e', e''⟩ := map_two h
  exact ⟨v, u, t, rfl, e, e', e''⟩

theorem dput_length {K : Type} [DecidableEq K] (es : List (K × V)) (k : K) (v : V) : (dput es k v).length ≤ es.length + 1 := by
  unfold dput; split <;> simp
theorem ext_update (h : Heap) (a : Addr) (f : Obj → Obj) : Heap.ExtBut a h (h.update a f) := (Heap.SameBut.update ..).extBut

/-- a list of the call's own is turned -/
theorem Inv.turnList {s : Shared} (I : Inv C sn env ρ H s) {p : Nat} {xs ys : List V} {vs : Array Value} {k : Nat} (hp : H.get p = some (.list xs)) (hfz : p ∉ sn.fz) (ho : s.heap.get? p = some { cls := .type "list", data := .seq vs k })
    (f : Array Value → Array Value) (hf : (f vs).toList.map toV = ys) (hz : ys.length < 2 ^ 62) : Inv C sn env ρ (H.set p (.list ys)) { s with heap := s.heap.update p (Obj.mapSeq f) } :=
  I.turn (n' := .list ys) (tk := s.toks) hp rfl hfz (ext_update _ _ _) ⟨_, IsL.update (n := k) ho f, hz, _, _, rfl, hf⟩

theorem sdict_nil {o : Obj} : ObjIs C o (.sdict []) ↔ ObjIs C o (.idict []) := by
  constructor
  · rintro ⟨z, kvs, ⟨es, ep, h1, h2, h3, h4, h5⟩, e⟩
    have : kvs = [] := by simpa using e
    subst this
    have hl := h4.length
    have : es = #[] := by rw [← Array.toList_eq_nil_iff]; exact List.length_eq_zero_iff.mp hl
    subst this
    exact ⟨by simp, [], ⟨#[], ep, h1, h2, fun _ h => by simp at h, .nil, by simp⟩, rfl⟩
  · rintro ⟨z, kvs, ⟨es, ep, h1, h2, h3, h4, h5⟩, e⟩
    have : kvs = [] := by simpa using e
    subst this
    have hl := h4.length
    have : es = #[] := by rw [← Array.toList_eq_nil_iff]; exact List.length_eq_zero_iff.mp hl
    subst this
    exact ⟨by simp, [], ⟨#[], ep, h1, h2, fun _ h => by simp at h, .nil, by simp⟩, rfl⟩

/-- an empty dict may be taken as one of either kind -/
theorem Inv.asInt {s : Shared} (I : Inv C sn env ρ H s) {p : Nat} (hp : H.get p = some (.sdict [])) : ∃ kvs, s.heap.DictOf (intKind C.prog C.w) p kvs ∧ kvs = [] := by
  obtain ⟨o, ho, hi⟩ := I.nodes p _ hp
  obtain ⟨z, kvs, hd, e⟩ := sdict_nil.mp hi
  exact ⟨kvs, Heap.dictOf_iff.mpr ⟨o, ho, hd⟩, by simpa using e⟩

theorem tr_setItem {o i v : Value} {Q : AH → Prop} (h : opSet sn.fz (toV o) (toV i) (toV v) Q H) : TM C sn A env ρ (setItem o i v) (fun _ H' => Q H') E H := by
  unfold opSet at h
  split at h
  · rename_i p eo
    have := toV_ref eo; subst this
    split at h
    · rename_i xs k hp ei
      obtain ⟨t, rfl⟩ := toV_int ei
      intro s I
      obtain ⟨ob, ho, hz, vs, kk, rfl, e1⟩ := I.nodes p _ hp
      have hs := map_size e1
      refine PySem.W.ki_setAt (n := kk) ho h.2.1.1 (by omega) (by omega) ⟨_, I.turnList (ys := xs.set k.toNat (toV v)) hp h.1 ho _ ?_ ?_, h.2.2⟩
      · rw [Array.toList_setIfInBounds, List.map_set, e1]
      · rw [List.length_set]; exact hz
    · rename_i es k hp ei
      obtain ⟨t, rfl⟩ := toV_str ei
      intro s I
      obtain ⟨kvs, hd, e1, z1⟩ := (I.nodes p _ hp).sdict
      have hl : kvs.length = es.length := by rw [← e1]; simp
      refine wpAny_setItem_pairs (strKind_is _ _ k t) hd (fun h' hd' hs => ?_) (by rw [hl]; exact h.2.1)
      obtain ⟨ob, ho, hio⟩ := Heap.dictOf_iff.mp hd'
      refine ⟨_, I.turn (n' := .sdict _) hp rfl h.1 hs.extBut ⟨ob, ho, ?_, _, hio, dput_map e1 k v⟩, h.2.2⟩
      have := dput_length es k (toV v); have := h.2.1; rw [sizeLine_eq] at this; omega
    · rename_i k hp ei
      obtain ⟨t, rfl⟩ := toV_int ei
      intro s I
      obtain ⟨kvs, hd, rfl⟩ := I.asInt hp
      refine wpAny_setItem_pairs (intKind_is _ _ k t) hd (fun h' hd' hs => ?_) (by simp [sizeLine_eq])
      obtain ⟨ob, ho, hio⟩ := Heap.dictOf_iff.mp hd'
      exact ⟨_, I.turn (n' := .idict [(k, toV v)]) hp rfl h.1 hs.extBut ⟨ob, ho, by simp, _, hio, by simp [stored]⟩, h.2⟩
    · rename_i es k hp ei
      obtain ⟨t, rfl⟩ := toV_int ei
      intro s I
      obtain ⟨kvs, hd, e1, z1⟩ := (I.nodes p _ hp).idict
      have hl : kvs.length = es.length := by rw [← e1]; simp
      refine wpAny_setItem_pairs (intKind_is _ _ k t) hd (fun h' hd' hs => ?_) (by rw [hl]; exact h.2.1)
      obtain ⟨ob, ho, hio⟩ := Heap.dictOf_iff.mp hd'
      refine ⟨_, I.turn (n' := .idict _) hp rfl h.1 hs.extBut ⟨ob, ho, ?_, _, hio, dput_map e1 k v⟩, h.2.2⟩
      have := dput_length es k (toV v); have := h.2.1; rw [sizeLine_eq] at this; omega
    · exact False.elim h
  · exact False.elim h

theorem strs_values {vs : Array Value} {ss : List Str} (h : vs.toList.map toV = ss.map V.str) : ∃ l : List (Str × Tok), vs = (strValues l).toArray ∧ l.map (·.1) = ss := by
  obtain ⟨l⟩ := vs
  simp only at h
  induction l generalizing ss with
  | nil => cases ss with
    | nil => exact ⟨[], rfl, rfl⟩
    | cons _ _ => simp at h
  | cons v r ih => cases ss with
    | nil => simp at h
    | cons x xs =>
      simp only [List.map_cons, List.cons.injEq] at h
      obtain ⟨t, rfl⟩ := toV_str h.1
      obtain ⟨l, e1, e2⟩ := ih h.2
      refine ⟨(x, t) :: l, ?_, by simp [e2]⟩
      simp only [strValues, List.map_cons] at e1 ⊢
      have := congrArg Array.toList e1
      simp at this
      rw [this]

theorem tm_meth {id : String} {vs : List Value} (hr : Room A) (h : opM sn.fz id (vs.map toV) Q H) : TM C sn A env ρ (call (.builtin id) vs) (fun v H' => Q (toV v) H') E H := by
  have hu : A.units + 200 < cLine := hr
  generalize ev : vs.map toV = us at h
  unfold opM at h
  split at h
  · obtain ⟨v, u, rfl, e, e'⟩ := map_two ev
    have := toV_ref e; subst this
    split at h
    · rename_i p _ xs hp
      intro s I
      obtain ⟨vs, ⟨k, ho⟩, e1, z1⟩ := (I.nodes _ _ hp).plainList
      refine wpAny_list_append_plain ⟨k, ho⟩ (fun h' hl hs => ⟨_, I.turn (n' := .list _) (tk := s.toks) hp rfl h.1 hs.extBut ?_, h.2.2⟩) (by rw [map_size e1]; exact h.2.1)
      obtain ⟨k', ho'⟩ := hl
      refine ⟨_, ho', ?_, _, _, rfl, ?_⟩
      · have := h.2.1; rw [sizeLine_eq] at this; simp; omega
      · simp [e1, e']
    · exact False.elim h
  · obtain ⟨v, u, rfl, e, e'⟩ := map_two ev
    obtain ⟨t, rfl⟩ := toV_str e
    have := toV_ref e'; subst this
    split at h
    · rename_i x p xs hp
      obtain ⟨ss, rfl, hok, q⟩ := h
      intro s I
      obtain ⟨vs, ⟨k, ho⟩, e1, z1⟩ := (I.nodes _ _ hp).plainList
      obtain ⟨l, rfl, e2⟩ := strs_values e1
      exact SC.join ⟨_, ho, rfl, k, rfl⟩ e2 hok fun t' tk => toks_still I (v := .str _ t') q tk
    · exact False.elim h
  · exact False.elim h
end
end Mine

namespace Mine
open PySem PySem.Calls PySem.SeqAt

def rngItems (a b c : Int) : List V := (List.range (Builtin.Range.rangeSize a b c).toNat).map fun i => V.int (a + (i : Nat) * c)

/-- what a walk over a value hands out -/
def ItemsV (H : AH) (v : V) (xs : List V) : Prop :=
  match v with
  | .str x => xs = x.cps.toList.map fun c => V.str ⟨#[c]⟩
  | .ref p => (match H.get p with
    | some (.list ys) | some (.rlist ys) | some (.tuple ys) => xs = ys
    | some (.sdict es) => xs = es.map fun e => V.str e.1
    | some (.idict es) => xs = es.map fun e => V.int e.1
    | some (.rng a b c) => (-(2 ^ 60) ≤ a ∧ a ≤ 2 ^ 60 ∧ -(2 ^ 60) ≤ b ∧ b ≤ 2 ^ 60 ∧ 1 ≤ c ∧ c ≤ 2 ^ 20) ∧ xs = rngItems a b c
    | _ => False)
  | _ => False

/-- the visible object that a walk reads, if any -/
def srcOf : V → List Nat
  | .ref p => [p]
  | _ => []

theorem small_range {a b c : Int} (h : -(2 ^ 60) ≤ a ∧ a ≤ 2 ^ 60 ∧ -(2 ^ 60) ≤ b ∧ b ≤ 2 ^ 60 ∧ 1 ≤ c ∧ c ≤ 2 ^ 20) : Builtin.Range.small a b c = true := by
  obtain ⟨h1, h2, h3, h4, h5, h6⟩ := h
  have hs : Builtin.Range.rangeSize a b c ≤ 2 ^ 62 ∧ 0 ≤ Builtin.Range.rangeSize a b c := by
    unfold Builtin.Range.rangeSize
    rw [if_pos (by omega)]
    split
    · have e1 : (b - a - 1) / c ≤ b - a - 1 := Int.ediv_le_self _ (by omega)
      have e2 : 0 ≤ (b - a - 1) / c := Int.ediv_nonneg (by omega) (by omega)
      omega
    · omega
  unfold Builtin.Range.small Builtin.Range.rangeFitsLong
  rw [if_pos (show c > 0 by omega)]
  simp only [Bool.and_eq_true, Bool.or_eq_true, decide_eq_true_eq, beq_iff_eq]
  omega

section
variable {C : Cx} {sn : Snap} {A : Around} {env : Env} {ρ : Str → Option V} {H : AH} {E : Value → Shared → Prop} {Q : V → AH → Prop}

/-- a walk is begun: its own object, what it hands out -/
structure Begun (C : Cx) (v : V) (xs : List V) (h : Heap) (I : Addr) (St : Nat → Heap → Prop) (P : Nat → Value → Prop) : Prop where
  walks : ∀ A' : Around, A'.handled = none → Walks C.prog C.w A' I (I :: srcOf v) [I] xs.length P St
  start : St 0 h
  item : ∀ i cx, P i cx → xs[i]? = some (toV cx)
  obj : ∀ i h, St i h → ∃ o vs, h.get? I = some o ∧ o.data = .fields vs

theorem begun_iter {v : Value} {xs : List V} {s : Shared} {R : Value → Shared → Prop} (I : Inv C sn env ρ H s) (hx : ItemsV H (toV v) xs)
    (h : ∀ o St P, Begun C (toV v) xs (s.heap.push o) s.heap.objs.size St P → R (.ref s.heap.objs.size) { s with heap := s.heap.push o }) : wpAny C.M A (pyIter v) R E s := by
  unfold ItemsV at hx
  generalize ev : toV v = u at hx h
  split at hx
  · rename_i x
    obtain ⟨t, rfl⟩ := toV_str ev
    have it : ∀ i cx, SignAt x i cx → xs[i]? = some (toV cx) := by
      rintro i cx ⟨c, u, e, rfl⟩
      subst hx
      simp [toV, e]
    have hsz : xs.length = x.cps.size := by subst hx; simp
    refine wpAny_pyIter_strU ?_
    cases ha : x.cps.all (· < 128)
    · refine h _ (fun i h => h.IsStrIter s.heap.objs.size "str_iterator" x t i) (SignAt x) ⟨fun A' hA => ?_, ⟨_, Heap.get?_push_size _ rfl, by simp [strIterType, ha], rfl⟩, it, fun i h ⟨o, ho, _, hd⟩ => ⟨o, _, ho, hd⟩⟩
      rw [hsz]
      exact (Walks.strWide hA _ x t).mono_fp (by simp [srcOf])
    · refine h _ (fun i h => h.IsStrIter s.heap.objs.size "str_ascii_iterator" x t i) (SignAt x) ⟨fun A' hA => ?_, ⟨_, Heap.get?_push_size _ rfl, by simp [strIterType, ha], rfl⟩, it, fun i h ⟨o, ho, _, hd⟩ => ⟨o, _, ho, hd⟩⟩
      rw [hsz]
      exact (Walks.strAscii hA _ x t).mono_fp (by simp [srcOf])
  · rename_i p
    have := toV_ref ev; subst this
    have lists : ∀ n ys, H.get p = some n → n.seqL = some ys → xs = ys → wpAny C.M A (pyIter (.ref p)) R E s := by
      rintro n ys hp en rfl
      obtain ⟨vs, hvs, e1, z1⟩ := (I.nodes p n hp).isList en
      have hlt : p ≠ s.heap.objs.size := by obtain ⟨o, ho, _⟩ := id hvs; exact Nat.ne_of_lt (Heap.lt_size ho)
      refine wpAny_pyIter_list hvs (h _ (fun i h => h.IsListIter s.heap.objs.size p i ∧ h.IsList p vs) (fun i v => vs[i]? = some v) ⟨fun A' hA => ?_, ⟨⟨_, Heap.get?_push_size _ rfl, rfl, rfl⟩, hvs.push _⟩, fun i cx e => ?_, fun i h ⟨⟨o, ho, _, hd⟩, _⟩ => ⟨o, _, ho, hd⟩⟩)
      · have := Walks.list (prog := C.prog) (w := C.w) hA s.heap.objs.size p hlt vs
        rw [← map_size e1]
        exact this.mono_fp (by simp [srcOf])
      · rw [← e1]; simp [e]
    split at hx
    · rename_i ys hp; exact lists _ ys hp rfl hx
    · rename_i ys hp; exact lists _ ys hp rfl hx
    · rename_i ys hp
      subst hx
      obtain ⟨vs, hvs, e1, z1⟩ := (I.nodes p _ hp).isTuple
      have hlt : p ≠ s.heap.objs.size := by obtain ⟨o, ho, _⟩ := id hvs; exact Nat.ne_of_lt (Heap.lt_size ho)
      refine wpAny_pyIter_tuple hvs (h _ (fun i h => h.IsTupleIter s.heap.objs.size p i ∧ h.IsTuple p vs) (fun i v => vs[i]? = some v) ⟨fun A' hA => ?_, ⟨⟨_, Heap.get?_push_size _ rfl, rfl, rfl⟩, ?_⟩, fun i cx e => ?_, fun i h ⟨⟨o, ho, _, hd⟩, _⟩ => ⟨o, _, ho, hd⟩⟩)
      · have := Walks.tuple (prog := C.prog) (w := C.w) hA s.heap.objs.size p hlt vs
        rw [← map_size e1]
        exact this.mono_fp (by simp [srcOf])
      · exact hvs.at fun o e => Heap.get?_push_of_some _ e
      · rw [← e1]; simp [e]
    · rename_i es hp
      subst hx
      obtain ⟨kvs, hd, e1, z1⟩ := (I.nodes p _ hp).sdict
      obtain ⟨ep, hd⟩ := hd.dictAt
      have hlt : p ≠ s.heap.objs.size := Nat.ne_of_lt hd.lt_size
      refine wpAny_pyIter_dict (I.notMods hp rfl) hd (h _ (fun i h => h.IsKeyIter s.heap.objs.size p i kvs.length ep ∧ h.DictAt (strKind C.prog C.w) p kvs ep) (fun i v => ∃ k x, kvs[i]? = some (k, x) ∧ (strKind C.prog C.w).is k v = true) ⟨fun A' hA => ?_, ⟨⟨_, Heap.get?_push_size _ rfl, rfl, rfl⟩, hd.push _⟩, ?_, fun i h ⟨⟨o, ho, _, hd⟩, _⟩ => ⟨o, _, ho, hd⟩⟩)
      · have := Walks.dictKeys (prog := C.prog) (w := C.w) (knd := strKind C.prog C.w) hA s.heap.objs.size p hlt kvs ep
        rw [show (es.map fun e => V.str e.1).length = kvs.length by rw [← e1]; simp]
        exact this.mono_fp (by simp [srcOf])
      · rintro i cx ⟨k, x, e, hk⟩
        obtain ⟨t, rfl⟩ := Value.isStrOf_shape (show Value.isStrOf k cx = true from hk)
        rw [← e1]; simp [e, toV]
    · rename_i es hp
      subst hx
      obtain ⟨kvs, hd, e1, z1⟩ := (I.nodes p _ hp).idict
      obtain ⟨ep, hd⟩ := hd.dictAt
      have hlt : p ≠ s.heap.objs.size := Nat.ne_of_lt hd.lt_size
      refine wpAny_pyIter_dict (I.notMods hp rfl) hd (h _ (fun i h => h.IsKeyIter s.heap.objs.size p i kvs.length ep ∧ h.DictAt (intKind C.prog C.w) p kvs ep) (fun i v => ∃ k x, kvs[i]? = some (k, x) ∧ (intKind C.prog C.w).is k v = true) ⟨fun A' hA => ?_, ⟨⟨_, Heap.get?_push_size _ rfl, rfl, rfl⟩, hd.push _⟩, ?_, fun i h ⟨⟨o, ho, _, hd⟩, _⟩ => ⟨o, _, ho, hd⟩⟩)
      · have := Walks.dictKeys (prog := C.prog) (w := C.w) (knd := intKind C.prog C.w) hA s.heap.objs.size p hlt kvs ep
        rw [show (es.map fun e => V.int e.1).length = kvs.length by rw [← e1]; simp]
        exact this.mono_fp (by simp [srcOf])
      · rintro i cx ⟨k, x, e, hk⟩
        obtain ⟨t, rfl⟩ := Value.isInt_shape (show Value.isInt k cx = true from hk)
        rw [← e1]; simp [e, toV]
    · rename_i a b c hp
      obtain ⟨hsm, rfl⟩ := hx
      obtain ⟨o, ho, t, u, w, rfl⟩ := I.nodes p _ hp
      have e0 := PyProof.Rows.rangeSize_toNat a b c
      refine wpAny_pyIter_range ho (small_range hsm) (h _ (fun i h => IsRangeIter h s.heap.objs.size (a + (i : Nat) * c) (((Builtin.Range.rangeSize a b c).toNat : Int) - (i : Nat)) c) (fun i v => ∃ t, v = .int (a + i * c) t ∧ i < (Builtin.Range.rangeSize a b c).toNat) ⟨fun A' hA => ?_, ?_, ?_, fun i h ho => ⟨_, _, ho, rfl⟩⟩)
      · have W := Walks.range (prog := C.prog) (w := C.w) hA s.heap.objs.size a c (Builtin.Range.rangeSize a b c).toNat
        rw [show (rngItems a b c).length = (Builtin.Range.rangeSize a b c).toNat by simp [rngItems]]
        refine ⟨by simp, fun i h h' st hk => W.frame i h h' st fun b hb o e => hk b (by simp at hb; simp [hb]) o e, fun i s Q E hi st hQ => ?_, fun s Q E st hQ => W.done s Q E st hQ, fun i s Q E st hQ => W.self i s Q E st hQ⟩
        exact W.item i s Q E hi st fun v h' tk ⟨t, e⟩ st' k => hQ v h' tk ⟨t, e, hi⟩ st' k
      · show IsRangeIter _ _ _ _ _
        rw [← e0]
        have := Heap.get?_push_size s.heap (o := { cls := .type "range_iterator", data := .fields #[rawInt a, rawInt (Builtin.Range.rangeSize a b c), rawInt c] }) rfl
        simpa [IsRangeIter] using this
      · rintro i cx ⟨t, rfl, hi⟩
        simp [rngItems, hi, toV]
    · exact False.elim hx
  · exact False.elim hx

/-- range objects -/
def opRange (fz : List Nat) (vs : List V) (Q : V → AH → Prop) (H : AH) : Prop :=
  match vs with
  | [.int b] => made fz (.rng 0 b 1) Q H
  | [.int a, .int b] => made fz (.rng a b 1) Q H
  | [.int a, .int b, .int c] => DivOk c ∧ made fz (.rng a b c) Q H
  | _ => False

theorem tm_range {vs : List Value} (h : opRange sn.fz (vs.map toV) Q H) : TM C sn A env ρ (call (.type "range") vs) (fun v H' => Q (toV v) H') E H := by
  generalize ev : vs.map toV = us at h
  unfold opRange at h
  split at h
  · obtain ⟨v, rfl, e⟩ := map_one ev
    obtain ⟨t, rfl⟩ := toV_int e
    intro s I
    have hD : s.heap.get? s.heap.objs.size = none := get_size _
    refine call_range_1 ⟨_, I.come (n := .rng _ _ _) (fun b o e => Heap.get?_push_of_some _ e) hD ⟨_, Heap.get?_push_size _ rfl, _, _, _, rfl⟩, h _ (I.none_of_new hD) (I.notFz (I.none_of_new hD))⟩
  · obtain ⟨v, u, rfl, e, e'⟩ := map_two ev
    obtain ⟨t, rfl⟩ := toV_int e
    obtain ⟨t', rfl⟩ := toV_int e'
    intro s I
    have hD : s.heap.get? s.heap.objs.size = none := get_size _
    refine call_range_2 ⟨_, I.come (n := .rng _ _ _) (fun b o e => Heap.get?_push_of_some _ e) hD ⟨_, Heap.get?_push_size _ rfl, _, _, _, rfl⟩, h _ (I.none_of_new hD) (I.notFz (I.none_of_new hD))⟩
  · obtain ⟨v, u, x, rfl, e, e', e''⟩ := map_three ev
    obtain ⟨t, rfl⟩ := toV_int e
    obtain ⟨t', rfl⟩ := toV_int e'
    obtain ⟨t'', rfl⟩ := toV_int e''
    intro s I
    have hD : s.heap.get? s.heap.objs.size = none := get_size _
    refine call_range_3 h.1.1 ⟨_, I.come (n := .rng _ _ _) (tk := s.toks) (fun b o e => Heap.get?_push_of_some _ e) hD ⟨_, Heap.get?_push_size _ rfl, _, _, _, rfl⟩, h.2 _ (I.none_of_new hD) (I.notFz (I.none_of_new hD))⟩ (.inl (PyProof.noPylong_of_log2 h.1.2))
  · exact False.elim h
end
end Mine

namespace Mine
open PySem PySem.Calls PySem.SeqAt

theorem Kept.data {o : Obj} {x : Option Obj} (h : Kept o x) : ∃ o', x = some o' ∧ o'.data = o.data ∧ o'.cls = o.cls := by
  obtain ⟨sl, rfl, _⟩ := h; exact ⟨_, rfl, rfl, rfl⟩
theorem Kept.ns {h h' : Heap} {a : Addr} {m : Str → Option Value} (hn : h.Ns a m) (k : ∀ o, h.get? a = some o → Kept o (h'.get? a)) : h'.Ns a m := by
  obtain ⟨o, es, ep, ho, hd, r⟩ := hn
  obtain ⟨o', ho', hd', _⟩ := (k o ho).data
  exact ⟨o', es, ep, ho', hd'.trans hd, r⟩
theorem Kept.cell {h h' : Heap} {a : Addr} {v : Option Value} (hn : h.IsCell a v) (k : ∀ o, h.get? a = some o → Kept o (h'.get? a)) : h'.IsCell a v := by
  obtain ⟨o, ho, hd⟩ := hn
  obtain ⟨o', ho', hd', _⟩ := (k o ho).data
  exact ⟨o', ho', hd'.trans hd⟩

section
variable {C : Cx} {sn : Snap} {A : Around} {env env' : Env} {ρ ρ' : Str → Option V} {H H' : AH} {s s' : Shared}

/-- what stood hidden when a snapshot was taken stands hidden behind it -/
theorem Inv.over (I : Inv C sn env ρ H s) {own' fz' : List Addr} (J : Inv C ⟨s.heap, H, own', fz'⟩ env' ρ' H' s') {b : Addr} {o : Obj} (hb : s.heap.get? b = some o) (hn : H.get b = none) (ho : b ∉ own') :
    H'.get b = none ∧ Kept o (s'.heap.get? b) := J.hid b o hb hn ho

/-- back from a called block -/
theorem Inv.back (I : Inv C sn env ρ H s) (J : Inv C ⟨s.heap, H, [], sn.fz⟩ env' ρ' H' s') : Inv C sn env ρ H' s' := by
  have own : ∀ b ∈ ownOf env, ∀ o, s.heap.get? b = some o → H'.get b = none ∧ Kept o (s'.heap.get? b) := fun b hb o ho => I.over J ho (I.fresh b hb).1 (by simp)
  refine ⟨I.ok, J.base, J.nodes, J.new, fun b o e e1 e2 => ?_, fun b hb => ?_, ?_, fun p hp => ?_, J.gens, J.os, I.mine, fun b hb => ?_, fun b o e => ?_⟩
  · obtain ⟨q, r⟩ := I.hid b o e e1 e2
    obtain ⟨o', ho', _⟩ := r.data
    obtain ⟨q', r'⟩ := I.over J ho' q (by simp)
    exact ⟨q', r.trans fun o'' ho'' => by rw [ho'] at ho''; cases ho''; exact r'⟩
  · obtain ⟨o, ho⟩ := I.own_there hb
    exact ⟨(own b hb o ho).1, (I.fresh b hb).2⟩
  · obtain ⟨m, hm, hv⟩ := I.vars
    refine ⟨m, Kept.ns hm fun o ho => (own _ (List.mem_cons_self ..) o ho).2, fun x v e => ?_⟩
    obtain ⟨cv, a, q⟩ := hv x v e
    refine ⟨cv, ?_, q⟩
    rcases a with a | ⟨a, c, hc, hcell⟩
    · exact .inl a
    · exact .inr ⟨a, c, hc, Kept.cell hcell fun o ho => (own c (List.mem_cons_of_mem _ (List.mem_map.mpr ⟨_, mem_of_lookup hc, rfl⟩)) o ho).2⟩
  · obtain ⟨v, hcell⟩ := I.cells p hp
    exact ⟨v, Kept.cell hcell fun o ho => (own p.2 (List.mem_cons_of_mem _ (List.mem_map.mpr ⟨p, hp, rfl⟩)) o ho).2⟩
  · exact ⟨(J.frz b hb).1.trans (I.frz b hb).1, (J.frz b hb).2⟩
  · obtain ⟨o', ho'⟩ := I.live b o e
    exact J.live b o' ho'

/-- on from a turn of a loop of the same block -/
theorem Inv.again (I : Inv C sn env ρ H s) {fz' : List Addr} (hf : ∀ b ∈ sn.fz, b ∈ fz') (J : Inv C ⟨s.heap, H, ownOf env, fz'⟩ env ρ' H' s') : Inv C sn env ρ' H' s' := by
  refine ⟨I.ok, J.base, J.nodes, J.new, fun b o e e1 e2 => ?_, J.fresh, J.vars, J.cells, J.gens, J.os, I.mine, fun b hb => ?_, fun b o e => ?_⟩
  · obtain ⟨q, r⟩ := I.hid b o e e1 e2
    obtain ⟨o', ho', _⟩ := r.data
    have hb : b ∉ ownOf env := fun hb => e2 (I.mine b hb o e)
    obtain ⟨q', r'⟩ := I.over J ho' q hb
    exact ⟨q', r.trans fun o'' ho'' => by rw [ho'] at ho''; cases ho''; exact r'⟩
  · exact ⟨(J.frz b (hf b hb)).1.trans (I.frz b hb).1, (J.frz b (hf b hb)).2⟩
  · obtain ⟨o', ho'⟩ := I.live b o e
    exact J.live b o' ho'

/-- a snapshot for a turn -/
theorem Inv.snap (I : Inv C sn env ρ H s) {fz' : List Addr} (hf : ∀ b ∈ fz', ∃ n, H.get b = some n) : Inv C ⟨s.heap, H, ownOf env, fz'⟩ env ρ H s where
  ok := I.ok
  base := I.base
  nodes := I.nodes
  new := I.new
  hid := fun b o e e1 _ => ⟨e1, by rw [e]; exact Kept.refl o⟩
  fresh := I.fresh
  vars := I.vars
  cells := I.cells
  gens := I.gens
  os := I.os
  mine := fun b hb _ _ => hb
  frz := fun b hb => ⟨rfl, hf b hb⟩
  live := fun b o e => ⟨o, e⟩
end

/-- an object that came since the snapshot and that nothing visible knows -/
def Junk (C : Cx) (sn : Snap) (env : Env) (H : AH) (b : Addr) : Prop := H.get b = none ∧ b ∉ ownOf env ∧ C.h₀.get? b = none ∧ sn.h.get? b = none

/-- an exception in flight within a block; its note: none yet, or where it flies -/
structure FlyS (C : Cx) (sn : Snap) (env : Env) (ρ : Str → Option V) (H : AH) (cls : Value) (e : Value) (st : Option Value) (s : Shared) : Prop where
  inv : Inv C sn env ρ H s
  exc : ∃ a oe vs, e = .ref a ∧ s.heap.get? a = some oe ∧ oe.cls = cls ∧ oe.data = .fields vs ∧ 1 < vs.size ∧ Junk C sn env H a ∧
    (match st with
    | none => vs[1]? = some .none
    | some fl => ∃ T oT ts, vs[1]? = some (.ref T) ∧ T ≠ a ∧ Junk C sn env H T ∧ s.heap.get? T = some oT ∧ oT.data = .fields ts ∧ ts[3]? = some fl)

def Fly (C : Cx) (sn : Snap) (env : Env) (ρ : Str → Option V) (H : AH) (cls : Value) (e : Value) (s : Shared) : Prop :=
  ∃ st, (st = none ∨ st = some .none ∨ st = some (rawInt env.locals)) ∧ FlyS C sn env ρ H cls e st s

/-- what a block may end by beside its value -/
abbrev Exc := Value → (Str → Option V) → AH → Prop

def Exits (C : Cx) (sn : Snap) (env : Env) (X : Exc) (E : Value → Shared → Prop) : Prop := ∀ cls ρ H e s, X cls ρ H → Fly C sn env ρ H cls e s → E e s

def noX : Exc := fun _ _ _ => False
/-- the frames below, as the exceptions' notes want them -/
structure Stk (C : Cx) (sn : Snap) (A : Around) (env : Env) : Prop where
  frame : env.frame = some env.locals
  stack : ∃ outer, A.frames = some (env :: outer) ∧ ∀ f ∈ outer, f.scope.kind ≠ .module ∧ ∃ b o, f.frame = some b ∧ sn.h.get? b = some o ∧ (∃ es ep, o.data = .dict es ep) ∧ sn.H.get b = none ∧ b ∉ sn.own ∧ C.h₀.get? b = none

section
variable {C : Cx} {sn : Snap} {A : Around} {env : Env} {ρ : Str → Option V} {H : AH} {s : Shared} {E : Value → Shared → Prop}

/-- the frames got other slots, some junk turned, things came -/
theorem Inv.slots (I : Inv C sn env ρ H s) {h' : Heap} {fr : List Addr} (jk : Addr → Prop) (hj : ∀ b, jk b → Junk C sn env H b)
    (hfr : ∀ b ∈ fr, b = env.locals ∨ ∃ o, sn.h.get? b = some o ∧ (∃ es ep, o.data = .dict es ep) ∧ sn.H.get b = none ∧ b ∉ sn.own ∧ C.h₀.get? b = none)
    (k1 : ∀ b o, s.heap.get? b = some o → b ∉ fr → ¬ jk b → h'.get? b = some o) (k2 : ∀ b ∈ fr, ∀ o, s.heap.get? b = some o → ∃ sl, h'.get? b = some { o with slots := sl }) :
    Inv C sn env ρ H { s with heap := h' } := by
  have base : ∀ b ∈ fr, C.h₀.get? b = none := fun b hb => by
    rcases hfr b hb with rfl | ⟨o, _, _, _, _, h⟩
    · exact (I.fresh _ (List.mem_cons_self ..)).2
    · exact h
  have vis : ∀ b ∈ fr, H.get b = none := fun b hb => by
    rcases hfr b hb with rfl | ⟨o, e, _, e1, e2, _⟩
    · exact (I.fresh _ (List.mem_cons_self ..)).1
    · exact (I.hid b o e e1 e2).1
  have up : ∀ b o, s.heap.get? b = some o → ¬ jk b → ∃ sl, h'.get? b = some { o with slots := sl } := fun b o e hn => by
    by_cases hb : b ∈ fr
    · exact k2 b hb o e
    · exact ⟨o.slots, k1 b o e hb hn⟩
  have ownj : ∀ b ∈ ownOf env, ¬ jk b := fun b hb hjb => (hj b hjb).2.1 hb
  refine ⟨I.ok, fun b o e => ?_, fun b n e => ?_, I.new, fun b o e e1 e2 => ?_, I.fresh, ?_, fun p hp => ?_, I.gens, I.os, I.mine, fun b hb => ?_, fun b o e => ?_⟩
  · refine k1 b o (I.base b o e) (fun hb => ?_) fun hb => ?_
    · rw [base b hb] at e; cases e
    · rw [(hj b hb).2.2.1] at e; cases e
  · refine (I.nodes b n e).at fun o ho => k1 b o ho (fun hb => ?_) fun hb => ?_
    · rw [vis b hb] at e; cases e
    · rw [(hj b hb).1] at e; cases e
  · obtain ⟨q, r⟩ := I.hid b o e e1 e2
    refine ⟨q, ?_⟩
    obtain ⟨sl, e', hq⟩ := r
    have hnj : ¬ jk b := fun hb => by rw [(hj b hb).2.2.2] at e; cases e
    obtain ⟨sl', e''⟩ := up b _ e' hnj
    refine ⟨sl', e'', fun hd => ?_⟩
    by_cases hb : b ∈ fr
    · exfalso
      rcases hfr b hb with rfl | ⟨o', e3, ⟨es, ep, hd'⟩, _⟩
      · exact e2 (I.mine _ (List.mem_cons_self ..) o e)
      · rw [e] at e3; cases e3; exact hd es ep hd'
    · have := k1 b _ e' hb hnj
      rw [show ({ s with heap := h' } : Shared).heap.get? b = h'.get? b from rfl, this] at e''
      injection e'' with e''
      injection e'' with _ _ _ e4
      rw [← e4]; exact hq hd
  · obtain ⟨m, ⟨o, es, ep, ho, hd, r⟩, hv⟩ := I.vars
    obtain ⟨sl, ho'⟩ := up _ o ho (ownj _ (List.mem_cons_self ..))
    refine ⟨m, ⟨_, es, ep, ho', hd, r⟩, fun x v e => ?_⟩
    obtain ⟨cv, a, q⟩ := hv x v e
    refine ⟨cv, ?_, q⟩
    rcases a with a | ⟨a, c, hc, oc, hoc, hdc⟩
    · exact .inl a
    · obtain ⟨sl, hoc'⟩ := up c oc hoc (ownj c (List.mem_cons_of_mem _ (List.mem_map.mpr ⟨_, mem_of_lookup hc, rfl⟩)))
      exact .inr ⟨a, c, hc, _, hoc', hdc⟩
  · obtain ⟨v, oc, hoc, hdc⟩ := I.cells p hp
    obtain ⟨sl, hoc'⟩ := up p.2 oc hoc (ownj p.2 (List.mem_cons_of_mem _ (List.mem_map.mpr ⟨p, hp, rfl⟩)))
    exact ⟨v, _, hoc', hdc⟩
  · obtain ⟨q, n, e⟩ := I.frz b hb
    obtain ⟨o, ho, _⟩ := I.nodes b n e
    refine ⟨?_, n, e⟩
    rw [← q, ho]
    refine k1 b o ho (fun hb => ?_) fun hb => ?_
    · rw [vis b hb] at e; cases e
    · rw [(hj b hb).1] at e; cases e
  · obtain ⟨o', ho'⟩ := I.live b o e
    obtain ⟨sl, h⟩ := up b o' ho' fun hb => by rw [(hj b hb).2.2.2] at e; cases e
    exact ⟨_, h⟩
end
end Mine

namespace Mine
open PySem PySem.Calls PySem.SeqAt PySem.W

section
variable {C : Cx} {sn : Snap} {A : Around} {env : Env} {ρ : Str → Option V} {H : AH} {s : Shared} {E : Value → Shared → Prop} {cls e : Value}

theorem Inv.junk_of_new (I : Inv C sn env ρ H s) {b : Addr} (h : s.heap.get? b = none) : Junk C sn env H b := by
  refine ⟨I.none_of_new h, fun hb => ?_, ?_, ?_⟩
  · obtain ⟨o, ho⟩ := I.own_there hb; rw [h] at ho; cases ho
  · cases q : C.h₀.get? b with
    | none => rfl
    | some o => have := I.base b o q; rw [h] at this; cases this
  · cases q : sn.h.get? b with
    | none => rfl
    | some o => obtain ⟨o', ho'⟩ := I.live b o q; rw [h] at ho'; cases ho'

/-- the stack's frames, and what is known of them -/
theorem Stk.facts (S : Stk C sn A env) (I : Inv C sn env ρ H s) : ∃ outer, A.frames = some (env :: outer) ∧
    (∀ b ∈ (env :: outer).filterMap (·.frame), b = env.locals ∨ ∃ o, sn.h.get? b = some o ∧ (∃ es ep, o.data = .dict es ep) ∧ sn.H.get b = none ∧ b ∉ sn.own ∧ C.h₀.get? b = none) ∧
    (∀ b ∈ (env :: outer).filterMap (·.frame), ∃ o, s.heap.get? b = some o ∧ ∀ vs, o.data ≠ .fields vs) ∧
    ∀ B : Heap, (∀ b ∈ (env :: outer).filterMap (·.frame), B.get? b = none) → s.heap.FunFrames B (env :: outer) := by
  obtain ⟨outer, hfr, hout⟩ := S.stack
  have key : ∀ b ∈ (env :: outer).filterMap (·.frame), b = env.locals ∨ ∃ o, sn.h.get? b = some o ∧ (∃ es ep, o.data = .dict es ep) ∧ sn.H.get b = none ∧ b ∉ sn.own ∧ C.h₀.get? b = none := fun b hb => by
    obtain ⟨f, hf, hfb⟩ := List.mem_filterMap.mp hb
    rcases List.mem_cons.mp hf with rfl | hf
    · rw [S.frame] at hfb; exact .inl (Option.some.inj hfb).symm
    · obtain ⟨_, b', o, h1, h2⟩ := hout f hf
      rw [h1] at hfb; cases hfb
      exact .inr ⟨o, h2⟩
  have there : ∀ b ∈ (env :: outer).filterMap (·.frame), ∃ o, s.heap.get? b = some o ∧ ∀ vs, o.data ≠ .fields vs := fun b hb => by
    rcases key b hb with rfl | ⟨o, h1, ⟨es, ep, hd⟩, h3, h4, h5⟩
    · obtain ⟨m, ⟨o, es, ep, ho, hd, _⟩, _⟩ := I.vars
      exact ⟨o, ho, fun vs q => by rw [hd] at q; cases q⟩
    · obtain ⟨o', ho', hd', _⟩ := (I.hid b o h1 h3 h4).2.data
      exact ⟨o', ho', fun vs q => by rw [hd', hd] at q; cases q⟩
  refine ⟨outer, hfr, key, there, fun B hB => ?_⟩
  have fun_all : ∀ l : List Env, (∀ f ∈ l, f ∈ env :: outer) → s.heap.FunFrames B l := by
    intro l
    induction l with
    | nil => intro _; trivial
    | cons f r ih =>
      intro hl
      have hf := hl f (List.mem_cons_self ..)
      refine ⟨?_, ?_, ih fun g hg => hl g (List.mem_cons_of_mem _ hg)⟩
      · rcases List.mem_cons.mp hf with rfl | hf
        · rw [I.ok.kind]; decide
        · exact (hout f hf).1
      · have : ∃ b, f.frame = some b := by
          rcases List.mem_cons.mp hf with rfl | hf
          · exact ⟨_, S.frame⟩
          · obtain ⟨_, b', o, h1, _⟩ := hout f hf; exact ⟨b', h1⟩
        obtain ⟨b, hb⟩ := this
        have hm : b ∈ (env :: outer).filterMap (·.frame) := List.mem_filterMap.mpr ⟨f, hf, hb⟩
        obtain ⟨o, ho, hd⟩ := there b hm
        exact ⟨b, o, hb, hB b hm, ho, hd⟩
  exact fun_all _ fun f hf => hf

/-- the frames' notes are taken: what is known stands -/
theorem FlyS.after {st : Option Value} {a : Addr} {jk : List Addr} {outer : List Env} {B h' : Heap} {fl a0 : Value} (I : Inv C sn env ρ H s) (hj : ∀ b ∈ a :: jk, Junk C sn env H b)
    (key : ∀ b ∈ (env :: outer).filterMap (·.frame), b = env.locals ∨ ∃ o, sn.h.get? b = some o ∧ (∃ es ep, o.data = .dict es ep) ∧ sn.H.get b = none ∧ b ∉ sn.own ∧ C.h₀.get? b = none)
    (there : ∀ b ∈ (env :: outer).filterMap (·.frame), ∃ o, s.heap.get? b = some o ∧ ∀ vs, o.data ≠ .fields vs)
    (hB : B = hideAll s.heap (a :: jk ++ (env :: outer).filterMap (·.frame))) (N : Heap.NotedW B (env :: outer) a cls a0 fl s.heap h') : FlyS C sn env ρ H cls (.ref a) (some fl) { s with heap := h' } := by
  subst hB
  obtain ⟨n1, n2, n3, n4⟩ := N
  have I' : Inv C sn env ρ H { s with heap := h' } := by
    refine I.slots (fr := (env :: outer).filterMap (·.frame)) (fun b => b ∈ a :: jk) hj key (fun b o e h1 h2 => ?_) fun b hb o e => ?_
    · refine n1 b o (hideAll_get _ e fun hm => ?_)
      rcases List.mem_append.mp hm with hm | hm
      · exact h2 hm
      · exact h1 hm
    · obtain ⟨o', ho', hd'⟩ := there b hb
      rw [e] at ho'; cases ho'
      exact n4 b o e hd'
  obtain ⟨oe, vs, T, oT, ts, he, ⟨hc, h0⟩, hd, h1, hT, hTa, hTo, hTd, h3⟩ := n3
  refine ⟨I', a, oe, vs, rfl, he, hc, hd, (Array.getElem?_eq_some_iff.mp h1).1, hj a (List.mem_cons_self ..), T, oT, ts, h1, hTa, ?_, hTo, hTd, h3⟩
  by_cases hTj : T ∈ a :: jk
  · exact hj T hTj
  · refine I.junk_of_new ?_
    cases q : s.heap.get? T with
    | none => rfl
    | some o =>
      exfalso
      by_cases hTf : T ∈ (env :: outer).filterMap (·.frame)
      · obtain ⟨_, o', ho', hd'⟩ := n2.mem hTf
        rw [hTo] at ho'; cases ho'; exact hd' ts hTd
      · have := hideAll_get (a :: jk ++ (env :: outer).filterMap (·.frame)) q fun hm => by
          rcases List.mem_append.mp hm with hm | hm
          · exact hTj hm
          · exact hTf hm
        rw [hT] at this; cases this

theorem Fly.noted (S : Stk C sn A env) (F : Fly C sn env ρ H cls e s) {Q : Unit → Shared → Prop} (h : ∀ s', FlyS C sn env ρ H cls e (some (rawInt env.locals)) s' → Q () s') : wpAny C.M A (noteFrame e env) Q E s := by
  obtain ⟨st, hst, I, a, oe, vs, rfl, he, hc, hd, hsz, hja, htr⟩ := F
  obtain ⟨outer, hfr, key, there, ff⟩ := S.facts I
  obtain ⟨a0, h0⟩ : ∃ a0, vs[0]? = some a0 := ⟨vs[0], by simp⟩
  rcases hst with rfl | rfl | rfl
  · have hj : ∀ b ∈ [a], Junk C sn env H b := fun b hb => by rw [List.mem_singleton.mp hb]; exact hja
    unfold noteFrame
    simp only [S.frame]
    refine wpAny_bind (wpAny_field he hd htr ?_)
    rw [if_neg (by decide)]
    subst hc
    exact wpAny_entryW hfr (ff (hideAll s.heap (a :: [] ++ (env :: outer).filterMap (·.frame))) fun b hb => hideAll_none _ (List.mem_append.mpr (.inr hb))) S.frame he
      (fun b o q => of_hideAll _ q) (hideAll_none _ (List.mem_append.mpr (.inl (List.mem_cons_self ..)))) hd hsz h0 fun h' N => h _ (FlyS.after (st := none) I hj key there rfl N)
  · obtain ⟨T, oT, ts, h1, hTa, hjT, hTo, hTd, h3⟩ := htr
    have hj : ∀ b ∈ [a, T], Junk C sn env H b := fun b hb => by
      rcases List.mem_cons.mp hb with rfl | hb
      · exact hja
      · rw [List.mem_singleton.mp hb]; exact hjT
    exact wpAny_noteFrame_onW hfr (ff (hideAll s.heap (a :: [T] ++ (env :: outer).filterMap (·.frame))) fun b hb => hideAll_none _ (List.mem_append.mpr (.inr hb))) S.frame
      ⟨oe, vs, T, oT, ts, he, ⟨hc, h0⟩, hd, h1, hideAll_none _ (List.mem_append.mpr (.inl (List.mem_cons_of_mem _ (List.mem_cons_self ..)))), hTa, hTo, hTd, h3⟩
      (fun b o q => of_hideAll _ q) (hideAll_none _ (List.mem_append.mpr (.inl (List.mem_cons_self ..)))) fun h' N => h _ (FlyS.after (st := none) I hj key there rfl N)
  · obtain ⟨T, oT, ts, h1, hTa, hjT, hTo, hTd, h3⟩ := htr
    refine wpAny_noteFrame_againW (base := {}) (a0 := a0) S.frame ⟨oe, vs, T, oT, ts, he, ⟨hc, h0⟩, hd, h1, ?_, hTa, hTo, hTd, h3⟩ (h _ ⟨I, a, oe, vs, rfl, he, hc, hd, hsz, hja, T, oT, ts, h1, hTa, hjT, hTo, hTd, h3⟩)
    cases q : Heap.get? {} T with
    | none => rfl
    | some o => exact absurd (Heap.lt_size q) (Nat.not_lt_zero _)

theorem FlyS.setFlight {fl : Value} {f : Option Addr} (F : FlyS C sn env ρ H cls e (some fl) s) {Q : Unit → Shared → Prop} (h : ∀ s', FlyS C sn env ρ H cls e (some (f.elim .none fun b => rawInt b)) s' → Q () s') : wpAny C.M A (setFlight e f) Q E s := by
  obtain ⟨I, a, oe, vs, rfl, he, hc, hd, hsz, hja, T, oT, ts, h1, hTa, hjT, hTo, hTd, h3⟩ := F
  have hsz3 : 3 < ts.size := (Array.getElem?_eq_some_iff.mp h3).1
  unfold PySem.setFlight
  refine wpAny_bind (wpAny_field he hd h1 ?_)
  rw [if_pos (show (Value.ref T != Value.none) = true from by simp)]
  refine wpAny_setField hTo hTd hsz3 (h _ ?_)
  have other : ∀ b, b ≠ T → (s.heap.update T (Obj.mapFields (·.setIfInBounds 3 (f.elim Value.none fun b => rawInt b)))).get? b = s.heap.get? b := fun b hb => Heap.get?_update_other _ _ (Ne.symm hb)
  refine ⟨I.slots (fr := []) (fun b => b = T) (fun b hb => hb ▸ hjT) (by simp) (fun b o q _ hn => (other b hn).trans q) (by simp), a, oe, vs, rfl, (other a (Ne.symm hTa)).trans he, hc, hd, hsz, hja, T, _, _, h1, hTa, hjT,
    Heap.get?_update_self _ hTo (Obj.isFreed_of_fields (Obj.data_mapFields hTd _)), Obj.data_mapFields hTd _, by simp [hsz3]⟩

/-- an exception that passes an own activation of the block -/
theorem Exits.own {X : Exc} (S : Stk C sn A env) (hE : Exits C sn env X E) : Exits C sn env X (notedBy C.M A env (cameBackBy C.M A env E)) := by
  intro cls ρ H e s hx F
  unfold notedBy
  refine F.noted S fun s' F' => ?_
  unfold cameBackBy
  obtain ⟨I, a, oe, vs, rfl, he, hc, hd, hsz, hja, T, oT, ts, h1, r⟩ := id F'
  refine wpAny_bind (wpAny_field he hd h1 ?_)
  rw [if_neg (by simp)]
  rw [S.frame]
  exact F'.setFlight fun s'' F'' => hE cls ρ H _ s'' hx ⟨_, .inr (.inr rfl), F''⟩

theorem leaving_fly (S : Stk C sn A env) (F : Fly C sn env ρ H cls e s) {Q : Unit → Shared → Prop} (h : ∀ s', FlyS C sn env ρ H cls e (some .none) s' → Q () s') : wpAny C.M A (leaving env e) Q E s := by
  unfold leaving
  exact wpAny_bind (F.noted S fun s' F' => F'.setFlight h)
end
end Mine

namespace Mine
open PySem PySem.Calls PySem.SeqAt PySem.W

/-- the frames that stand when a block runs -/
def Frs (C : Cx) (sn : Snap) (A : Around) (env : Env) : Prop :=
  ∃ l, A.frames = some l ∧ ∀ f ∈ l, f.scope.kind ≠ .module ∧ ∃ b, f.frame = some b ∧
    (b = env.locals ∨ ∃ o, sn.h.get? b = some o ∧ (∃ es ep, o.data = .dict es ep) ∧ sn.H.get b = none ∧ b ∉ sn.own ∧ C.h₀.get? b = none)

theorem Stk.frs {C : Cx} {sn : Snap} {A : Around} {env : Env} (S : Stk C sn A env) (hk : env.scope.kind = .function) : Frs C sn A env := by
  obtain ⟨outer, hfr, hout⟩ := S.stack
  refine ⟨_, hfr, fun f hf => ?_⟩
  rcases List.mem_cons.mp hf with rfl | hf
  · exact ⟨by rw [hk]; decide, _, S.frame, .inl rfl⟩
  · obtain ⟨h1, b, o, h2, h3⟩ := hout f hf
    exact ⟨h1, b, h2, .inr ⟨o, h3⟩⟩

/-- room to call `d` deep -/
structure Good (C : Cx) (fz : List Nat) (d : Nat) (free : Bool) (sn : Snap) (A : Around) (env : Env) : Prop where
  fz : sn.fz = fz
  hd : free = true → A.handled = none
  depth : A.depth + d < recursionLimit
  units : A.units + 3 * d + 300 < cLine
  frs : Frs C sn A env

theorem Good.room {C : Cx} {fz : List Nat} {d : Nat} {free : Bool} {sn : Snap} {A : Around} {env : Env} (G : Good C fz d free sn A env) : Room A := by
  have := G.units; unfold Room; omega

/-- a value is called and gives, or raises, as told -/
def CallsTo (C : Cx) (fz : List Nat) (d : Nat) (free : Bool) (f : Value) (vs : List V) (Q : V → AH → Prop) (X : Value → AH → Prop) (H : AH) : Prop :=
  ∀ sn A env ρ E cvs, cvs.map toV = vs → Good C fz d free sn A env → Exits C sn env (fun cls ρ' H' => ρ' = ρ ∧ X cls H') E →
    TM C sn A env ρ (call f cvs) (fun v H' => Q (toV v) H') E H

/-- a def of the text -/
def FnAt (C : Cx) (a : Addr) (ps : List Str) (body : List Stmt) (scope : Scope) : Prop :=
  ∃ o fd, C.h₀.get? a = some o ∧ o.data = .func fd ∧ fd.body = .stmts body ∧ fd.scope = scope ∧ fd.globals = mainGlobals ∧ fd.builtins = builtinsNs ∧ fd.closure = [] ∧
    C.h₀.CodeRec fd.code fd.qualname ∧ ∀ vals : List Value, vals.length = ps.length → bindArgs fd ⟨vals, []⟩ = pure (ps.zip vals)

def nodupS : List Str → Bool
  | [] => true
  | x :: r => !(r.contains x) && nodupS r
theorem nodupS_iff : ∀ {l : List Str}, nodupS l = true → l.Nodup
  | [], _ => List.nodup_nil
  | x :: r, h => by
    simp only [nodupS, Bool.and_eq_true, Bool.not_eq_true', List.contains_eq_mem, decide_eq_false_iff_not] at h
    exact List.nodup_cons.mpr ⟨h.1, nodupS_iff h.2⟩

/-- a block's table of names, as the walk wants it -/
def scopeOk (scope : Scope) (ps : List Str) : Bool :=
  scope.kind == .function && !scope.isGenerator && !scope.isCoroutine && nodupS (scope.names.map (·.1)) && nodupS ps &&
    (scope.names.all fun x => x.2 != .free) && ps.all fun x => scope.names.lookup x == some .local || scope.names.lookup x == some .cell

def zcx (scope : Scope) (x : Str) : Option NameKind := scope.names.lookup x
def zdc (ps : List Str) (vs : List V) (x : Str) : Option V := (ps.zip vs).lookup x

theorem cellsFrom_some : ∀ (names : List (Str × NameKind)) (n : Nat) (acc : List (Str × Addr)) (x : Str), names.lookup x = some .cell ∨ (acc.lookup x).isSome = true → ((cellsFrom n names acc).lookup x).isSome = true
  | [], _, _, x, h => by
    rcases h with h | h
    · cases h
    · exact h
  | (name, kind) :: r, n, acc, x, h => by
    unfold cellsFrom
    by_cases hx : x == name
    · split
      · refine cellsFrom_some r _ _ x (.inr ?_)
        simp [List.lookup_cons, hx]
      · rename_i hk
        refine cellsFrom_some r _ _ x (.inr ?_)
        rcases h with h | h
        · simp only [List.lookup_cons, hx] at h
          cases h; exact absurd rfl hk
        · exact h
    · have hx' : (x == name) = false := by simpa using hx
      rw [List.lookup_cons, hx'] at h
      split
      · refine cellsFrom_some r _ _ x ?_
        rcases h with h | h
        · exact .inl h
        · refine .inr ?_; rw [List.lookup_cons, hx']; exact h
      · exact cellsFrom_some r _ _ x h

theorem cellsFrom_keys : ∀ (names : List (Str × NameKind)) (n : Nat) (acc : List (Str × Addr)), (names.map (·.1)).Nodup → (acc.map (·.1)).Nodup → (∀ x ∈ acc.map (·.1), x ∉ names.map (·.1)) → ((cellsFrom n names acc).map (·.1)).Nodup
  | [], _, _, _, h, _ => h
  | (name, kind) :: r, n, acc, h1, h2, h3 => by
    rw [List.map_cons, List.nodup_cons] at h1
    unfold cellsFrom
    split
    · refine cellsFrom_keys r _ _ h1.2 ?_ fun x hx => ?_
      · rw [List.map_cons, List.nodup_cons]
        exact ⟨fun hm => h3 name hm (by simp), h2⟩
      · rw [List.map_cons] at hx
        rcases List.mem_cons.mp hx with rfl | hx
        · exact h1.1
        · exact fun hm => h3 x hx (by rw [List.map_cons]; exact List.mem_cons_of_mem _ hm)
    · exact cellsFrom_keys r _ _ h1.2 h2 fun x hx hm => h3 x hx (by rw [List.map_cons]; exact List.mem_cons_of_mem _ hm)

theorem lookup_of_mem {α : Type} : ∀ {l : List (Str × α)}, (l.map (·.1)).Nodup → ∀ {p : Str × α}, p ∈ l → l.lookup p.1 = some p.2
  | [], _, _, h => by cases h
  | (k, v) :: r, nd, p, h => by
    rw [List.map_cons, List.nodup_cons] at nd
    rcases List.mem_cons.mp h with rfl | h'
    · simp
    · have : (p.1 == k) = false := by
        simp only [beq_eq_false_iff_ne]; rintro rfl; exact nd.1 (List.mem_map.mpr ⟨p, h', rfl⟩)
      rw [List.lookup_cons, this]; exact lookup_of_mem nd.2 h'

theorem bindL_other (kd : Str → Option NameKind) : ∀ (b : List (Str × Value)) (m : Str → Option Value) (x : Str), x ∉ b.map (·.1) → bindL kd b m x = m x
  | [], _, _, _ => rfl
  | (n, v) :: r, m, x, h => by
    rw [List.map_cons, List.mem_cons, not_or] at h
    unfold bindL
    rw [bindL_other kd r _ x h.2]
    split
    · simp [h.1]
    · rfl
theorem bindC_other (kd : Str → Option NameKind) : ∀ (b : List (Str × Value)) (m : Str → Option Value) (x : Str), x ∉ b.map (·.1) → bindC kd b m x = m x
  | [], _, _, _ => rfl
  | (n, v) :: r, m, x, h => by
    rw [List.map_cons, List.mem_cons, not_or] at h
    unfold bindC
    rw [bindC_other kd r _ x h.2]
    split
    · rfl
    · simp [h.1]
theorem bind_get (kd : Str → Option NameKind) : ∀ (b : List (Str × Value)) (m m' : Str → Option Value) (x : Str) (v : Value), (b.map (·.1)).Nodup → b.lookup x = some v →
    (kd x = some .local → bindL kd b m x = some v) ∧ (kd x ≠ some .local → bindC kd b m' x = some v)
  | [], _, _, _, _, _, h => by cases h
  | (n, u) :: r, m, m', x, v, nd, h => by
    rw [List.map_cons, List.nodup_cons] at nd
    by_cases hx : x = n
    · subst hx
      simp only [List.lookup_cons, beq_self_eq_true] at h
      cases h
      refine ⟨fun hk => ?_, fun hk => ?_⟩
      · unfold bindL; rw [bindL_other kd r _ x nd.1, if_pos hk]; simp
      · unfold bindC; rw [bindC_other kd r _ x nd.1, if_neg hk]; simp
    · have hb : (x == n) = false := by simpa using hx
      rw [List.lookup_cons, hb] at h
      unfold bindL bindC
      exact bind_get kd r _ _ x v nd.2 h

theorem lookup_zip_map : ∀ (ps : List Str) (cvs : List Value) (x : Str), (ps.zip (cvs.map toV)).lookup x = ((ps.zip cvs).lookup x).map toV
  | [], _, _ => by simp
  | _ :: _, [], _ => by simp
  | p :: ps, v :: cvs, x => by
    simp only [List.map_cons, List.zip_cons_cons, List.lookup_cons]
    split <;> first | rfl | exact lookup_zip_map ps cvs x

section
variable {C : Cx} {sn : Snap} {A : Around} {env : Env} {ρ : Str → Option V} {H : AH} {s : Shared} {E : Value → Shared → Prop}

/-- what a raise handed over by a called block is to the caller -/
theorem FlyS.back {env' : Env} {ρ' : Str → Option V} {H' : AH} {cls e : Value} {st : Option Value} {s' : Shared} (I : Inv C sn env ρ H s) (F : FlyS C ⟨s.heap, H, [], sn.fz⟩ env' ρ' H' cls e st s') : FlyS C sn env ρ H' cls e st s' := by
  have jk : ∀ b, Junk C ⟨s.heap, H, [], sn.fz⟩ env' H' b → Junk C sn env H' b := fun b hb => by
    have hn : s.heap.get? b = none := hb.2.2.2
    refine ⟨hb.1, fun ho => ?_, hb.2.2.1, ?_⟩
    · obtain ⟨o, ho⟩ := I.own_there ho; rw [hn] at ho; cases ho
    · cases q : sn.h.get? b with
      | none => rfl
      | some o => obtain ⟨o', ho'⟩ := I.live b o q; rw [hn] at ho'; cases ho'
  obtain ⟨J, a, oe, vs, rfl, he, hc, hd, hsz, hja, htr⟩ := F
  refine ⟨I.back J, a, oe, vs, rfl, he, hc, hd, hsz, jk a hja, ?_⟩
  cases st with
  | none => exact htr
  | some fl =>
    obtain ⟨T, oT, ts, h1, h2, h3, h4⟩ := htr
    exact ⟨T, oT, ts, h1, h2, jk T h3, h4⟩

theorem callsTo_of {a : Addr} {ps : List Str} {body : List Stmt} {scope : Scope} {fz : List Nat} {d : Nat} {free : Bool} {vs : List V} {Q : V → AH → Prop} {X : Value → AH → Prop}
    (F : FnAt C a ps body scope) (hs : scopeOk scope ps = true) (hl : vs.length = ps.length)
    (h : ∀ sn A env E, Good C fz d free sn A env → Stk C sn A env → (∀ x, env.kindOf x = zcx scope x) → Exits C sn env (fun cls _ H' => X cls H') E →
      TR C sn A env (execs body env) (fun f _ H' => Q (match f with | .ret v => toV v | _ => .none) H') E (zdc ps vs) H) :
    CallsTo C fz (d + 1) free (.ref a) vs Q X H := by
  intro sn A env ρ E cvs hcv G hE s I
  obtain ⟨o, fd, ho, hd, hb, rfl, hg, hbi, hcl, hcd, hba⟩ := F
  simp only [scopeOk, Bool.and_eq_true, beq_iff_eq, Bool.not_eq_true', List.all_eq_true, bne_iff_ne, Bool.or_eq_true] at hs
  obtain ⟨⟨⟨⟨⟨⟨hk, hgen⟩, hco⟩, nd1⟩, nd2⟩, hfree⟩, hps⟩ := hs
  have nd1 := nodupS_iff nd1
  have nd2 := nodupS_iff nd2
  have hlen : cvs.length = ps.length := by rw [← hl, ← hcv]; simp
  have fresh : ∀ b, s.heap.objs.size ≤ b → s.heap.get? b = none := fun b hb => by
    cases q : s.heap.get? b with
    | none => rfl
    | some o => exact absurd (Heap.lt_size q) (Nat.not_lt.mpr hb)
  have hkeys : ∀ x ∈ ps.zip cvs, x.1 ∈ ps := fun x hx => (List.of_mem_zip hx).1
  have hmap : (ps.zip cvs).map (·.1) = ps := by rw [← List.unzip_fst]; simp [List.unzip_zip, hlen]
  refine wpAny_call (codeAny_call_cells (by have := G.depth; omega) (I.base a o ho) hd (C.nolim.keeps I.base) (hcd.keeps I.base) hb (hba cvs hlen) hcl (fun x hx => ?_) (fun s₁ X₁ => ?_) hco hgen hk)
  · rcases hps x.1 (hkeys x hx) with q | q
    · exact .inl q
    · exact .inr ⟨q, cellsFrom_some _ _ _ _ (.inl q)⟩
  have EL : (callEnvC fd s.heap.objs.size a).locals = s.heap.objs.size := rfl
  have EC : (callEnvC fd s.heap.objs.size a).cells = cellsFrom (s.heap.objs.size + 1) fd.scope.names [] := rfl
  generalize hev : callEnvC fd s.heap.objs.size a = env' at X₁ ⊢
  have EK : ∀ x, env'.kindOf x = zcx fd.scope x := fun x => by subst hev; rfl
  rw [hev] at EL EC
  obtain ⟨h₁, tk, rfl, hkeep⟩ := X₁.done
  have own : ∀ b ∈ ownOf env', s.heap.get? b = none := fun b hb => by
    rcases List.mem_cons.mp hb with rfl | hb
    · exact fresh _ (by rw [EL]; exact Nat.le_refl _)
    · obtain ⟨p, hp, rfl⟩ := List.mem_map.mp hb
      have := X₁.above p.1 p.2 hp
      rw [EL] at this
      exact fresh _ (Nat.le_of_lt this)
  have ckeys : (env'.cells.map (·.1)).Nodup := by rw [EC]; exact cellsFrom_keys _ _ _ nd1 List.nodup_nil (by simp)
  have ok : EnvOk env' := by
    refine ⟨by subst hev; exact hk, by subst hev; exact hg, by subst hev; exact hbi, ?_, fun x hx => ?_⟩
    · unfold ownOf
      refine List.nodup_cons.mpr ⟨fun hm => ?_, ?_⟩
      · obtain ⟨p, hp, e⟩ := List.mem_map.mp hm
        have := X₁.above p.1 p.2 hp
        rw [e] at this; exact Nat.lt_irrefl _ this
      · exact List.pairwise_map.mpr X₁.apart
    · rw [EK] at hx
      rcases hx with hx | hx
      · rw [EC]; exact Option.isSome_iff_exists.mp (cellsFrom_some _ _ _ _ (.inl hx))
      · exact absurd rfl (hfree _ (mem_of_lookup hx))
  have J : Inv C ⟨s.heap, H, [], sn.fz⟩ env' (zdc ps vs) H { s with heap := h₁, toks := tk } := by
    refine ⟨ok, fun b o e => hkeep b o (I.base b o e), fun b n e => (I.nodes b n e).at (hkeep b), I.new, fun b o e e1 _ => ⟨e1, by rw [show ({ s with heap := h₁, toks := tk } : Shared).heap.get? b = some o from hkeep b o e]; exact Kept.refl o⟩,
      fun b hb => ⟨I.none_of_new (own b hb), ?_⟩, ⟨_, X₁.toInCall.ns, fun x v e => ?_⟩, fun p hp => ⟨_, X₁.cell p.1 p.2 (lookup_of_mem ckeys hp)⟩, I.gens, I.os, fun b hb o e => ?_, fun b hb => ?_, fun b o e => ⟨o, hkeep b o e⟩⟩
    · cases q : C.h₀.get? b with
      | none => rfl
      | some o => have := I.base b o q; rw [own b hb] at this; cases this
    · unfold zdc at e
      rw [← hcv, lookup_zip_map] at e
      obtain ⟨cv, hcv1, rfl⟩ := Option.map_eq_some_iff.mp e
      refine ⟨cv, ?_, rfl⟩
      have hxp : x ∈ ps := hkeys _ (mem_of_lookup hcv1)
      obtain ⟨g1, g2⟩ := bind_get env'.kindOf (ps.zip cvs) (fun _ => none) (fun _ => none) x cv (by rw [hmap]; exact nd2) hcv1
      rcases hps x hxp with q | q
      · have : env'.kindOf x = some .local := (EK x).trans q
        exact .inl ⟨this, g1 this⟩
      · have hq : env'.kindOf x = some .cell := (EK x).trans q
        obtain ⟨c, hc⟩ := ok.cell x (.inl hq)
        refine .inr ⟨.inl hq, c, hc, ?_⟩
        have := X₁.cell x c hc
        rwa [g2 (by rw [hq]; decide)] at this
    · rw [own b hb] at e; cases e
    · obtain ⟨q, n, e⟩ := I.frz b hb
      obtain ⟨o, ho, _⟩ := I.nodes b n e
      refine ⟨?_, n, e⟩
      show h₁.get? b = s.heap.get? b
      rw [ho]; exact hkeep b o ho
  have S : Stk C ⟨s.heap, H, [], sn.fz⟩ (A.deeper env') env' := by
    obtain ⟨l, hl1, hl2⟩ := G.frs
    refine ⟨by subst hev; rfl, l, by simp [Around.deeper, hl1], fun f hf => ?_⟩
    obtain ⟨h1, b, h2, h3⟩ := hl2 f hf
    refine ⟨h1, b, ?_⟩
    rcases h3 with rfl | ⟨o, e1, ⟨es, ep, hdd⟩, e2, e3, e4⟩
    · obtain ⟨m, ⟨o, es, ep, ho, hdd, _⟩, _⟩ := I.vars
      exact ⟨o, h2, ho, ⟨es, ep, hdd⟩, (I.fresh _ (List.mem_cons_self ..)).1, by simp, (I.fresh _ (List.mem_cons_self ..)).2⟩
    · obtain ⟨q, r⟩ := I.hid b o e1 e2 e3
      obtain ⟨o', ho', hd', _⟩ := r.data
      exact ⟨o', h2, ho', ⟨es, ep, hd'.trans hdd⟩, q, by simp, e4⟩
  have G' : Good C fz d free ⟨s.heap, H, [], sn.fz⟩ (A.deeper env') env' := ⟨G.fz, G.hd, by have := G.depth; simp only [Around.deeper]; omega, by have := G.units; simp only [Around.deeper]; omega, S.frs ok.kind⟩
  refine wpAny_mono (h _ _ env' _ G' S EK ?_ _ J) (fun f s' hf => ?_) fun _ _ e => e
  · intro cls ρ' H' e s' hx Fl
    refine leaving_fly S Fl fun s'' F'' => ?_
    exact hE cls ρ H' e s'' ⟨rfl, hx⟩ ⟨_, .inr (.inl rfl), FlyS.back I F''⟩
  · obtain ⟨ρ', H', J', q⟩ := hf
    refine ⟨H', I.back J', ?_⟩
    cases f <;> exact q
end
end Mine

namespace Mine
open PySem PySem.Calls PySem.SeqAt PySem.W

/-- how a suite ends -/
inductive Flw where
  | next | brk | cont | ret (v : V)

def toF : Flow → Flw
  | .next => .next | .brk => .brk | .cont => .cont | .ret v => .ret (toV v)

abbrev Env' := Str → Option V

section
variable {C : Cx} {sn : Snap} {A : Around} {env : Env} {ρ : Str → Option V} {H : AH} {s : Shared} {E : Value → Shared → Prop} {fz : List Nat} {d : Nat} {free : Bool}

theorem Inv.notOwn (I : Inv C sn env ρ H s) {b : Addr} {o : Obj} (h : sn.h.get? b = some o) (hn : b ∉ sn.own) : b ∉ ownOf env := fun hb => hn (I.mine b hb o h)

theorem FlyS.again {ρ' : Str → Option V} {H' : AH} {cls e : Value} {st : Option Value} {s' : Shared} {fz' : List Addr} (I : Inv C sn env ρ H s) (hf : ∀ b ∈ sn.fz, b ∈ fz') (F : FlyS C ⟨s.heap, H, ownOf env, fz'⟩ env ρ' H' cls e st s') :
    FlyS C sn env ρ' H' cls e st s' := by
  have jk : ∀ b, Junk C ⟨s.heap, H, ownOf env, fz'⟩ env H' b → Junk C sn env H' b := fun b hb => by
    have hn : s.heap.get? b = none := hb.2.2.2
    refine ⟨hb.1, hb.2.1, hb.2.2.1, ?_⟩
    cases q : sn.h.get? b with
    | none => rfl
    | some o => obtain ⟨o', ho'⟩ := I.live b o q; rw [hn] at ho'; cases ho'
  obtain ⟨J, a, oe, vs, rfl, he, hc, hd, hsz, hja, htr⟩ := F
  refine ⟨I.again hf J, a, oe, vs, rfl, he, hc, hd, hsz, jk a hja, ?_⟩
  cases st with
  | none => exact htr
  | some fl =>
    obtain ⟨T, oT, ts, h1, h2, h3, h4⟩ := htr
    exact ⟨T, oT, ts, h1, h2, jk T h3, h4⟩

theorem Exits.again {X : Exc} {fz' : List Addr} (I : Inv C sn env ρ H s) (hf : ∀ b ∈ sn.fz, b ∈ fz') (hE : Exits C sn env X E) : Exits C ⟨s.heap, H, ownOf env, fz'⟩ env X E :=
  fun cls ρ' H' e s' hx ⟨st, hst, F⟩ => hE cls ρ' H' e s' hx ⟨st, hst, F.again I hf⟩

theorem Stk.again {fz' : List Addr} (S : Stk C sn A env) (I : Inv C sn env ρ H s) : Stk C ⟨s.heap, H, ownOf env, fz'⟩ A env := by
  obtain ⟨outer, h1, h2⟩ := S.stack
  refine ⟨S.frame, outer, h1, fun f hf => ?_⟩
  obtain ⟨k1, b, o, k2, k3, ⟨es, ep, k4⟩, k5, k6, k7⟩ := h2 f hf
  obtain ⟨q, r⟩ := I.hid b o k3 k5 k6
  obtain ⟨o', ho', hd', _⟩ := r.data
  exact ⟨k1, b, o', k2, ho', ⟨es, ep, hd'.trans k4⟩, q, I.notOwn k3 k6, k7⟩

theorem Frs.again {fz' : List Addr} (S : Frs C sn A env) (I : Inv C sn env ρ H s) : Frs C ⟨s.heap, H, ownOf env, fz'⟩ A env := by
  obtain ⟨l, h1, h2⟩ := S
  refine ⟨l, h1, fun f hf => ?_⟩
  obtain ⟨k1, b, k2, k3⟩ := h2 f hf
  refine ⟨k1, b, k2, ?_⟩
  rcases k3 with k3 | ⟨o, k3, ⟨es, ep, k4⟩, k5, k6, k7⟩
  · exact .inl k3
  · obtain ⟨q, r⟩ := I.hid b o k3 k5 k6
    obtain ⟨o', ho', hd', _⟩ := r.data
    exact .inr ⟨o', ho', ⟨es, ep, hd'.trans k4⟩, q, I.notOwn k3 k6, k7⟩

theorem Good.again {more : List Nat} (G : Good C fz d free sn A env) (I : Inv C sn env ρ H s) : Good C (more ++ fz) d free ⟨s.heap, H, ownOf env, more ++ sn.fz⟩ A env :=
  ⟨by rw [← G.fz], G.hd, G.depth, G.units, G.frs.again I⟩

theorem ItemsV.src {v : V} {xs : List V} (h : ItemsV H v xs) : ∀ b ∈ srcOf v, ∃ n, H.get b = some n := by
  intro b hb
  unfold srcOf at hb
  split at hb
  · rw [List.mem_singleton] at hb
    subst hb
    unfold ItemsV at h
    simp only at h
    split at h <;> first | exact ⟨_, by assumption⟩ | exact h.elim
  · cases hb

/-- what one turn of a for may end in -/
def turnEnd (R : Flw → Env' → AH → Prop) (J : Env' → AH → Prop) : Flw → Env' → AH → Prop
  | .next => J
  | .cont => J
  | .brk => R .next
  | .ret v => R (.ret v)

theorem tr_for {x : Str} {px pos : Pos} {iter : Expr} {body : List Stmt} {R : Flw → Env' → AH → Prop} {X : Exc}
    (G : Good C fz d true sn A env) (S : Stk C sn A env) (hE : Exits C sn env X E) (hk : env.kindOf x = some .local ∨ env.kindOf x = some .cell) (hs : ∀ v, foldedSetIterable iter env v = pure v)
    (h : TM C sn A env ρ (eval iter env) (fun v H₁ => ∃ xs, ItemsV H₁ (toV v) xs ∧ ∃ J : Nat → Env' → AH → Prop, J 0 ρ H₁ ∧
      (∀ k y ρ' H', xs[k]? = some y → J k ρ' H' → ∀ sn' E', Good C (srcOf (toV v) ++ fz) d true sn' A env → Stk C sn' A env → Exits C sn' env X E' →
        TR C sn' A env (execs body env) (fun f ρ'' H'' => turnEnd R (J (k + 1)) (toF f) ρ'' H'') E' (upd ρ' x y) H') ∧
      ∀ ρ' H', J xs.length ρ' H' → R .next ρ' H') E H) :
    TR C sn A env (exec (.For (.Name x px) iter body [] pos) env) (fun f ρ' H' => R (toF f) ρ' H') E ρ H := by
  intro s I
  refine wpAny_For (wpAny_mono (h s I) (fun v s₁ hv => ?_) fun _ _ e => e) hs
  obtain ⟨H₁, I₁, xs, hx, J, j0, hbody, hend⟩ := hv
  refine begun_iter I₁ hx fun o St P B => ?_
  have I₂ : Inv C sn env ρ H₁ { s₁ with heap := s₁.heap.push o } := I₁.keeps (tk := s₁.toks) fun b o e => Heap.get?_push_of_some _ e
  have jk : Junk C sn env H₁ s₁.heap.objs.size := I₁.junk_of_new (get_size _)
  generalize s₁.heap.objs.size = It at B jk
  have W := B.walks A (G.hd rfl)
  have hE' := Exits.own S hE
  refine codeAny_forLoop (fun n s' => ∃ k ρ' H', n = xs.length + 1 - k ∧ k ≤ xs.length ∧ Inv C sn env ρ' H' s' ∧ J k ρ' H' ∧ St k s'.heap ∧ Junk C sn env H' It ∧ ∀ b ∈ srcOf (toV v), ∃ n, H'.get b = some n) ?_ (xs.length + 1)
    ⟨0, ρ, H₁, rfl, Nat.zero_le _, I₂, j0, B.start, jk, hx.src⟩
  rintro n s' ⟨k, ρ', H', rfl, hkl, I', hJ, st, jk', src⟩
  by_cases hlt : k < xs.length
  · refine W.item k s' _ _ hlt st fun cv h' tk hP st' hkeep => ?_
    have I3 : Inv C sn env ρ' H' { s' with heap := h', toks := tk } :=
      (I'.slots (fr := []) (h' := h') (fun b => b = It) (fun b hb => hb ▸ jk') (by simp) (fun b o e _ hn => hkeep b o (by simpa using hn) e) (by simp)).toks tk
    have I4 := I3.snap (fz' := srcOf (toV v) ++ sn.fz) fun b hb => by
      rcases List.mem_append.mp hb with hb | hb
      · exact src b hb
      · exact (I'.frz b hb).2
    have hf : ∀ b ∈ sn.fz, b ∈ srcOf (toV v) ++ sn.fz := fun b hb => List.mem_append.mpr (.inr hb)
    refine wpAny_assign_Name (wpAny_mono (TR.storeVar (cv := cv) hk (Q := fun _ ρ'' H'' => ρ'' = upd ρ' x (toV cv) ∧ H'' = H') ⟨rfl, rfl⟩ _ I4) (fun _ s4 h4 => ?_) fun _ _ e => e)
    obtain ⟨_, _, I5, e5, e6⟩ := h4
    rw [e5, e6] at I5
    refine wpAny_mono (hbody k (toV cv) ρ' H' (B.item k cv hP) hJ _ _ (G.again I3) (S.again I3) (hE'.again I3 hf) s4 I5) (fun f s5 h5 => ?_) fun _ _ e => e
    obtain ⟨ρ'', H'', J5, q⟩ := h5
    have Ifin := I3.again hf J5
    obtain ⟨oI, vsI, hoI, hdI⟩ := B.obj _ _ st'
    obtain ⟨hI1, hI2⟩ := J5.hid It oI hoI jk'.1 jk'.2.1
    have hI3 := hI2.same fun es ep e => by rw [hdI] at e; cases e
    have more : ∃ m, m < xs.length + 1 - k ∧ (J (k + 1) ρ'' H'' → ∃ k' ρ' H', m = xs.length + 1 - k' ∧ k' ≤ xs.length ∧ Inv C sn env ρ' H' s5 ∧ J k' ρ' H' ∧ St k' s5.heap ∧ Junk C sn env H' It ∧ ∀ b ∈ srcOf (toV v), ∃ n, H'.get b = some n) := by
      refine ⟨xs.length + 1 - (k + 1), by omega, fun hJ' => ⟨k + 1, ρ'', H'', rfl, hlt, Ifin, hJ', W.frame _ _ _ st' fun b hb o e => ?_, ⟨hI1, jk'.2⟩, fun b hb => (J5.frz b (List.mem_append.mpr (.inl hb))).2⟩⟩
      rcases List.mem_cons.mp hb with rfl | hb
      · rw [hoI] at e; cases e; exact hI3
      · exact (J5.frz b (List.mem_append.mpr (.inl hb))).1.trans e
    obtain ⟨m, hm, hmore⟩ := more
    cases f with
    | next => exact ⟨m, hm, hmore q⟩
    | cont => exact ⟨m, hm, hmore q⟩
    | brk => exact ⟨ρ'', H'', Ifin, q⟩
    | ret v => exact ⟨ρ'', H'', Ifin, q⟩
  · have hk0 : k = xs.length := by omega
    subst hk0
    refine W.done s' _ _ st fun h' tk hkeep => ?_
    have I3 : Inv C sn env ρ' H' { s' with heap := h', toks := tk } :=
      (I'.slots (fr := []) (h' := h') (fun b => b = It) (fun b hb => hb ▸ jk') (by simp) (fun b o e _ hn => hkeep b o (by simpa using hn) e) (by simp)).toks tk
    exact wpAny_execs_nil ⟨ρ', H', I3, hend ρ' H' hJ⟩

end
end Mine

namespace Mine
open PySem PySem.Calls PySem.SeqAt PySem.W

/-- the kinds of names within a comprehension -/
def kdC (scope : Scope) (kd : Str → Option NameKind) (y : Str) : Option NameKind :=
  (scope.names.map fun x => if x.2 == .free && kd x.1 == some .cell then (x.1, NameKind.cell) else x).lookup y

/-- what a comprehension sees of the names around it -/
def zdr (scope : Scope) (kd : Str → Option NameKind) (ρ : Env') : Env' := fun y => if kdC scope kd y = some .cell then ρ y else none

def compOk (scope : Scope) (kd : Str → Option NameKind) (x : Str) : Bool :=
  scope.kind == .function && nodupS (scope.names.map (·.1)) && scope.names.lookup x == some .local &&
    scope.names.all fun y => y.2 != .cell && (y.2 != .free || kd y.1 == some .cell)

def clOf (env : Env) : List (Str × NameKind) → List (Str × Addr) → List (Str × Addr)
  | [], acc => acc
  | (n, k) :: r, acc => if k == .free then clOf env r ((n, (env.cells.lookup n).getD 0) :: acc) else clOf env r acc

theorem closureFor_of {scope : Scope} {env : Env} (h : ∀ y ∈ scope.names, y.2 = .free → ∃ c, env.cells.lookup y.1 = some c) : closureFor scope env = pure (clOf env scope.names []) := by
  have key : ∀ (names : List (Str × NameKind)) (acc : List (Str × Addr)), (∀ y ∈ names, y.2 = .free → ∃ c, env.cells.lookup y.1 = some c) →
      (forIn names acc fun (x : Str × NameKind) (r : List (Str × Addr)) => (if x.2 == .free then (do let c ← cellOf env x.1; pure (ForInStep.yield ((x.1, c) :: r))) else pure (ForInStep.yield r) : Sem (ForInStep (List (Str × Addr))))) = pure (clOf env names acc) := by
    intro names
    induction names with
    | nil => intro acc _; rfl
    | cons y r ih =>
      intro acc hy
      obtain ⟨n, k⟩ := y
      rw [List.forIn_cons]
      unfold clOf
      by_cases hk : k = .free
      · subst hk
        obtain ⟨c, hc⟩ := hy (n, .free) (List.mem_cons_self ..) rfl
        have hc : env.cells.lookup n = some c := hc
        simp only [beq_self_eq_true, if_true, hc, Option.getD_some]
        have : cellOf env n = pure c := by unfold cellOf; rw [hc]
        rw [this]
        exact ih _ fun y h => hy y (List.mem_cons_of_mem _ h)
      · have hb : (k == NameKind.free) = false := by simpa using hk
        simp only [hb, Bool.false_eq_true, if_false]
        exact ih _ fun y h => hy y (List.mem_cons_of_mem _ h)
  unfold closureFor
  have := key scope.names [] h
  simp only [bind_pure]
  exact this

theorem clOf_mem {env : Env} : ∀ (names : List (Str × NameKind)) (acc : List (Str × Addr)) (p : Str × Addr), p ∈ clOf env names acc ↔ p ∈ acc ∨ ((p.1, NameKind.free) ∈ names ∧ p.2 = (env.cells.lookup p.1).getD 0)
  | [], acc, p => by simp [clOf]
  | (n, k) :: r, acc, p => by
    unfold clOf
    by_cases hk : k = .free
    · subst hk
      simp only [beq_self_eq_true, if_true]
      rw [clOf_mem r _ p]
      constructor
      · rintro (h | ⟨h1, h2⟩)
        · rcases List.mem_cons.mp h with rfl | h
          · exact .inr ⟨List.mem_cons_self .., rfl⟩
          · exact .inl h
        · exact .inr ⟨List.mem_cons_of_mem _ h1, h2⟩
      · rintro (h | ⟨h1, h2⟩)
        · exact .inl (List.mem_cons_of_mem _ h)
        · rcases List.mem_cons.mp h1 with e | h1
          · refine .inl ?_
            obtain ⟨p1, p2⟩ := p
            injection e with e1 e2
            simp only at e1 h2
            subst e1; subst h2
            exact List.mem_cons_self ..
          · exact .inr ⟨h1, h2⟩
    · have hb : (k == NameKind.free) = false := by simpa using hk
      simp only [hb, Bool.false_eq_true, if_false]
      rw [clOf_mem r _ p]
      constructor
      · rintro (h | ⟨h1, h2⟩)
        · exact .inl h
        · exact .inr ⟨List.mem_cons_of_mem _ h1, h2⟩
      · rintro (h | ⟨h1, h2⟩)
        · exact .inl h
        · rcases List.mem_cons.mp h1 with e | h1
          · injection e with e1 e2; exact absurd e2.symm hk
          · exact .inr ⟨h1, h2⟩

theorem clOf_keys {env : Env} : ∀ (names : List (Str × NameKind)) (acc : List (Str × Addr)), (names.map (·.1)).Nodup → (acc.map (·.1)).Nodup → (∀ x ∈ acc.map (·.1), x ∉ names.map (·.1)) → ((clOf env names acc).map (·.1)).Nodup
  | [], _, _, h, _ => h
  | (n, k) :: r, acc, h1, h2, h3 => by
    rw [List.map_cons, List.nodup_cons] at h1
    unfold clOf
    split
    · refine clOf_keys r _ h1.2 ?_ fun x hx => ?_
      · rw [List.map_cons, List.nodup_cons]
        exact ⟨fun hm => h3 n hm (by simp), h2⟩
      · rw [List.map_cons] at hx
        rcases List.mem_cons.mp hx with rfl | hx
        · exact h1.1
        · exact fun hm => h3 x hx (by rw [List.map_cons]; exact List.mem_cons_of_mem _ hm)
    · exact clOf_keys r _ h1.2 h2 fun x hx hm => h3 x hx (by rw [List.map_cons]; exact List.mem_cons_of_mem _ hm)

/-- the comprehension's own tests -/
def testsOf (ifs : List Expr) (env : Env) : Sem Bool :=
  match ifs with
  | [] => pure true
  | c :: _ => isTrue c env (eval c env)

section
variable {C : Cx} {sn : Snap} {A : Around} {env cenv : Env} {ρ ρ' : Str → Option V} {H H' : AH} {s s' : Shared} {E : Value → Shared → Prop} {fz : List Nat} {d : Nat} {free : Bool} {kd : Str → Option NameKind} {scope : Scope}

/-- a hidden new object becomes visible -/
theorem Inv.reveal (I : Inv C sn env ρ H s) {a : Addr} {n : Node} (j : Junk C sn env H a) (hn : NodeAt C s.heap a n) : Inv C sn env ρ (H.set a n) s := by
  refine ⟨I.ok, I.base, fun b m e => ?_, fun b m e r => ?_, fun b o e e1 e2 => ?_, fun b hb => ?_, I.vars, I.cells, I.gens, I.os, I.mine, fun b hb => ?_, I.live⟩
  · by_cases h : b = a
    · subst h; rw [AH.set_self] at e; cases e; exact hn
    · rw [AH.set_ne _ _ h] at e; exact I.nodes b m e
  · by_cases h : b = a
    · subst h; exact j.2.2.1
    · rw [AH.set_ne _ _ h] at e; exact I.new b m e r
  · obtain ⟨q, r⟩ := I.hid b o e e1 e2
    refine ⟨?_, r⟩
    rw [AH.set_ne _ _ ?_]; exact q
    rintro rfl; rw [j.2.2.2] at e; cases e
  · obtain ⟨q, r⟩ := I.fresh b hb
    refine ⟨?_, r⟩
    rw [AH.set_ne _ _ ?_]; exact q
    rintro rfl; exact j.2.1 hb
  · obtain ⟨q, m, e⟩ := I.frz b hb
    refine ⟨q, m, ?_⟩
    rw [AH.set_ne _ _ ?_]; exact e
    rintro rfl; rw [j.1] at e; cases e

/-- back from a comprehension's names -/
theorem Inv.backC {cl : List (Str × Addr)} {fz' : List Addr} (I : Inv C sn env ρ H s) (J : Inv C ⟨s.heap, H, cl.map (·.2), fz'⟩ cenv ρ' H' s') (hf : ∀ b ∈ sn.fz, b ∈ fz') (hce : cenv.cells = cl)
    (hcl : ∀ p ∈ cl, env.cells.lookup p.1 = some p.2) (hcap : ∀ p ∈ cl, ∀ v, ρ p.1 = some v → ρ' p.1 = some v ∧ cenv.kindOf p.1 = some .cell ∧ cenv.cells.lookup p.1 = some p.2) : Inv C sn env ρ H' s' := by
  have sub : ∀ b ∈ cl.map (·.2), b ∈ ownOf env := fun b hb => by
    obtain ⟨p, hp, rfl⟩ := List.mem_map.mp hb
    exact List.mem_cons_of_mem _ (List.mem_map.mpr ⟨_, mem_of_lookup (hcl p hp), rfl⟩)
  have subc : ∀ b ∈ cl.map (·.2), b ∈ ownOf cenv := fun b hb => by unfold ownOf; rw [hce]; exact List.mem_cons_of_mem _ hb
  have nd := List.nodup_cons.mp I.ok.apart
  have keep : ∀ b o, s.heap.get? b = some o → H.get b = none → b ∉ cl.map (·.2) → H'.get b = none ∧ Kept o (s'.heap.get? b) := fun b o h1 h2 h3 => J.hid b o h1 h2 h3
  have cells : ∀ p ∈ env.cells, ∃ v, s'.heap.IsCell p.2 v := fun p hp => by
    by_cases hm : p.2 ∈ cl.map (·.2)
    · obtain ⟨q, hq, e⟩ := List.mem_map.mp hm
      rw [← e]; exact J.cells q (by rw [hce]; exact hq)
    · obtain ⟨v, o, ho, hd⟩ := I.cells p hp
      have hown : p.2 ∈ ownOf env := List.mem_cons_of_mem _ (List.mem_map.mpr ⟨p, hp, rfl⟩)
      exact ⟨v, Kept.cell ⟨o, ho, hd⟩ fun o' ho' => by rw [ho] at ho'; cases ho'; exact (keep _ o ho (I.fresh _ hown).1 hm).2⟩
  refine ⟨I.ok, J.base, J.nodes, J.new, fun b o e e1 e2 => ?_, fun b hb => ?_, ?_, cells, J.gens, J.os, I.mine, fun b hb => ?_, fun b o e => ?_⟩
  · obtain ⟨q, r⟩ := I.hid b o e e1 e2
    obtain ⟨o', ho', _⟩ := r.data
    obtain ⟨q', r'⟩ := keep b o' ho' q fun hm => I.notOwn e e2 (sub b hm)
    exact ⟨q', r.trans fun o'' ho'' => by rw [ho'] at ho''; cases ho''; exact r'⟩
  · refine ⟨?_, (I.fresh b hb).2⟩
    by_cases hm : b ∈ cl.map (·.2)
    · exact (J.fresh b (subc b hm)).1
    · obtain ⟨o, ho⟩ := I.own_there hb
      exact (keep b o ho (I.fresh b hb).1 hm).1
  · obtain ⟨m, hm, hv⟩ := I.vars
    have hL : env.locals ∉ cl.map (·.2) := fun h => nd.1 (by
      obtain ⟨p, hp, e⟩ := List.mem_map.mp h
      rw [← e]; exact List.mem_map.mpr ⟨_, mem_of_lookup (hcl p hp), rfl⟩)
    refine ⟨m, Kept.ns hm fun o ho => (keep _ o ho (I.fresh _ (List.mem_cons_self ..)).1 hL).2, fun x v e => ?_⟩
    obtain ⟨cv, a, q⟩ := hv x v e
    rcases a with a | ⟨a, c, hc, hcell⟩
    · exact ⟨cv, .inl a, q⟩
    · by_cases hm : c ∈ cl.map (·.2)
      · obtain ⟨p, hp, e'⟩ := List.mem_map.mp hm
        have hpx : p.1 = x := by
          have h1 := mem_of_lookup (hcl p hp)
          rw [e'] at h1
          exact cell_inj nd.2 h1 (mem_of_lookup hc)
        obtain ⟨k1, k2, k3⟩ := hcap p hp v (by rw [hpx]; exact e)
        obtain ⟨m', _, hv'⟩ := J.vars
        obtain ⟨cv', a', q'⟩ := hv' _ v k1
        rcases a' with ⟨a', _⟩ | ⟨_, c', hc', hcell'⟩
        · rw [k2] at a'; cases a'
        · rw [k3] at hc'; cases hc'
          exact ⟨cv', .inr ⟨a, c, hc, e' ▸ hcell'⟩, q'⟩
      · refine ⟨cv, .inr ⟨a, c, hc, Kept.cell hcell fun o ho => (keep c o ho (I.fresh c ?_).1 hm).2⟩, q⟩
        exact List.mem_cons_of_mem _ (List.mem_map.mpr ⟨_, mem_of_lookup hc, rfl⟩)
  · exact ⟨(J.frz b (hf b hb)).1.trans (I.frz b hb).1, (J.frz b (hf b hb)).2⟩
  · obtain ⟨o', ho'⟩ := I.live b o e
    exact J.live b o' ho'
end
end Mine

namespace Mine
open PySem PySem.Calls PySem.SeqAt PySem.W

section
variable {C : Cx} {sn : Snap} {A : Around} {env cenv : Env} {ρ ρ' : Str → Option V} {H H' : AH} {s s' : Shared} {E : Value → Shared → Prop} {fz : List Nat} {d : Nat} {free : Bool} {kd : Str → Option NameKind} {scope : Scope}

/-- the outcome of a comprehension, as its own last steps want it -/
def CompFin (C : Cx) (sn : Snap) (env : Env) (ρ : Env') (n : Nat) (J : Nat → List V → AH → Prop) (PP : Value → Addr → Shared → Prop) : Prop :=
  ∀ acc D ys vs H' s', Inv C sn env ρ H' s' → Junk C sn env H' acc → s'.heap.PlainList acc vs → vs.toList.map toV = ys → ys.length ≤ n → acc ≠ D → Junk C sn env H' D → (∃ m, s'.heap.Ns D m) → J n ys H' → PP (.ref acc) D s'

def CompTurn (C : Cx) (sn : Snap) (A : Around) (cenv : Env) (ρ : Env') (ifs : List Expr) (elt : Expr) (E : Value → Shared → Prop) (J : List V → AH → Prop) (ys : List V) (H : AH) : Prop :=
  match ifs with
  | [] => TM C sn A cenv ρ (eval elt cenv) (fun v H₃ => J (ys ++ [toV v]) H₃) E H
  | c :: _ => TM C sn A cenv ρ (isTrue c cenv (eval c cenv)) (fun ok H'' => if ok then TM C sn A cenv ρ (eval elt cenv) (fun v H₃ => J (ys ++ [toV v]) H₃) E H'' else J ys H'') E H

theorem comp_core {elt iter : Expr} {x : Str} {px pos : Pos} {ifs : List Expr} {v : Value} {xs : List V} {PP : Value → Addr → Result → Shared → Prop}
    (I₁ : Inv C sn env ρ H s) (G : Good C fz d true sn A env) (hkd : ∀ y, env.kindOf y = kd y) (hok : compOk scope kd x = true) (hx : ItemsV H (toV v) xs) (hz : xs.length ≤ sizeLine) (hif : ifs.length ≤ 1)
    (J : Nat → List V → AH → Prop) (j0 : J 0 [] H)
    (turn : ∀ k y ys H', xs[k]? = some y → J k ys H' → ∀ sn' cenv E', Good C (srcOf (toV v) ++ fz) d true sn' A cenv → (∀ y, cenv.kindOf y = kdC scope kd y) →
      CompTurn C sn' A cenv (upd (zdr scope kd ρ) x y) ifs elt E' (J (k + 1)) ys H')
    (fin : CompFin C sn env ρ xs.length J fun acc D s' => PP acc D (.ok .next) s') :
    wpAny C.M A (pyIter v) (fun it s₂ => wpAny C.M A (newList []) (fun acc s₃ => wpAny C.M A (newFunctionEnv scope env.globals (clOf env scope.names []) [] env.qual none .none (some env)) (fun cenv s₄ =>
      codeAny C.M A (.compStart (.ListComp elt [⟨.Name x px, iter, ifs, 0⟩] scope pos) 0 it acc { cenv with scope := relabel scope env }) (PP acc cenv.locals) s₄) E s₃) E s₂) E s := by
  simp only [compOk, Bool.and_eq_true, beq_iff_eq, List.all_eq_true, bne_iff_ne, Bool.or_eq_true] at hok
  obtain ⟨⟨⟨hkind, hnd⟩, hxl⟩, hall⟩ := hok
  have hnd := nodupS_iff hnd
  have hcellS : ∀ y ∈ scope.names, y.2 ≠ .cell := fun y hy => (hall y hy).1
  have hfreeS : ∀ y ∈ scope.names, y.2 = .free → kd y.1 = some .cell := fun y hy h => by
    rcases (hall y hy).2 with q | q
    · exact absurd h q
    · exact q
  have hne : ∀ z, H.get z = none → ∀ b n, H.get b = some n → b ≠ z := fun z h b n h' e => by rw [e, h] at h'; cases h'
  generalize hcl : clOf env scope.names [] = cl
  have clm : ∀ p ∈ cl, (p.1, NameKind.free) ∈ scope.names ∧ env.cells.lookup p.1 = some p.2 := fun p hp => by
    rw [← hcl, clOf_mem] at hp
    rcases hp with hp | ⟨h1, h2⟩
    · cases hp
    · obtain ⟨c, hc⟩ := I₁.ok.cell p.1 (.inl ((hkd _).trans (hfreeS _ h1 rfl)))
      rw [hc] at h2
      exact ⟨h1, by rw [hc, h2]; rfl⟩
  have clk : (cl.map (·.1)).Nodup := by rw [← hcl]; exact clOf_keys _ _ hnd List.nodup_nil (by simp)
  have clown : ∀ b ∈ cl.map (·.2), b ∈ ownOf env := fun b hb => by
    obtain ⟨p, hp, rfl⟩ := List.mem_map.mp hb
    exact List.mem_cons_of_mem _ (List.mem_map.mpr ⟨_, mem_of_lookup (clm p hp).2, rfl⟩)
  have apart := List.nodup_cons.mp I₁.ok.apart
  -- the kinds within
  have kC : ∀ D y, (compEnvC scope cl D env).kindOf y = kdC scope kd y := fun D y => by
    show (relabel scope env).names.lookup y = _
    unfold relabel kdC
    congr 1
    apply List.map_congr_left
    rintro ⟨n, k⟩ _
    simp only [hkd, I₁.ok.kind, beq_self_eq_true, Bool.and_true]
  have kC_cell : ∀ y, kdC scope kd y = some .cell ∨ kdC scope kd y = some .free → (y, NameKind.free) ∈ scope.names ∧ kdC scope kd y = some .cell := fun y h => by
    have : ∃ k, (y, k) ∈ (scope.names.map fun x => if x.2 == .free && kd x.1 == some .cell then (x.1, NameKind.cell) else x) ∧ kdC scope kd y = some k ∧ (k = .cell ∨ k = .free) := by
      rcases h with h | h
      · exact ⟨_, mem_of_lookup h, h, .inl rfl⟩
      · exact ⟨_, mem_of_lookup h, h, .inr rfl⟩
    obtain ⟨k, hm, hk, hkk⟩ := this
    obtain ⟨⟨n, k0⟩, hy, e⟩ := List.mem_map.mp hm
    split at e
    · rename_i hc
      simp only [Bool.and_eq_true, beq_iff_eq] at hc
      injection e with e1 e2
      subst e1; subst e2
      obtain ⟨c1, c2⟩ := hc
      have c1 : k0 = NameKind.free := c1
      subst c1
      exact ⟨hy, hk⟩
    · rename_i hc
      injection e with e1 e2
      subst e1; subst e2
      rcases hkk with rfl | rfl
      · exact absurd rfl (hcellS _ hy)
      · have := hfreeS _ hy rfl
        simp only at this
        simp [this] at hc
  have kC_free : ∀ y, (y, NameKind.free) ∈ scope.names → kdC scope kd y = some .cell := fun y hy => by
    have hm : (y, NameKind.cell) ∈ (scope.names.map fun x => if x.2 == .free && kd x.1 == some .cell then (x.1, NameKind.cell) else x) := by
      refine List.mem_map.mpr ⟨_, hy, ?_⟩
      have := hfreeS _ hy rfl
      simp only at this
      simp [this]
    have hk : ((scope.names.map fun x => if x.2 == .free && kd x.1 == some .cell then (x.1, NameKind.cell) else x).map (·.1)).Nodup := by
      rw [List.map_map, show ((fun x : Str × NameKind => x.1) ∘ fun x => if x.2 == .free && kd x.1 == some .cell then (x.1, NameKind.cell) else x) = (·.1) from ?_]
      · exact hnd
      · funext x
        simp only [Function.comp]
        split <;> rfl
    exact lookup_of_mem hk hm
  have clLook : ∀ p ∈ cl, cl.lookup p.1 = some p.2 := fun p hp => lookup_of_mem clk hp
  have clSome : ∀ y, (y, NameKind.free) ∈ scope.names → ∃ c, cl.lookup y = some c ∧ env.cells.lookup y = some c := fun y hy => by
    obtain ⟨c, hc⟩ := I₁.ok.cell y (.inl ((hkd _).trans (hfreeS _ hy rfl)))
    have hm : (y, c) ∈ cl := by rw [← hcl, clOf_mem]; exact .inr ⟨hy, by simp [hc]⟩
    exact ⟨c, clLook _ hm, hc⟩
  have kx : kdC scope kd x = some .local := by
    have := lookup_relabel_local (env := env) hxl
    rw [← kC 0 x]; exact this
  refine begun_iter I₁ hx fun o St P B => ?_
  refine wpAny_newObj_type ?_
  refine wpAny_newFunctionEnv hcellS (by intro y hy; simp at hy) (fun h₄ hns hsb => ?_) hkind
  dsimp only at hns hsb ⊢
  generalize hh2 : s.heap.push o = h2 at hns hsb ⊢
  generalize hh3 : h2.push { cls := .type "list", dict := none, data := .seq ([] : List Value).toArray } = h3 at hns hsb ⊢
  have z2 : h2.objs.size = s.heap.objs.size + 1 := by rw [← hh2, Heap.size_push]
  have z3 : h3.objs.size = s.heap.objs.size + 2 := by rw [← hh3, Heap.size_push, z2]
  have new : ∀ b, s.heap.objs.size ≤ b → s.heap.get? b = none := fun b hb => by
    cases q : s.heap.get? b with
    | none => rfl
    | some o => exact absurd (Heap.lt_size q) (Nat.not_lt.mpr hb)
  have keep2 : ∀ b o', h2.get? b = some o' → h₄.get? b = some o' := fun b o' e => by
    refine hsb.extBut b o' (Nat.ne_of_lt ?_) (Heap.get?_push_of_some _ (hh3 ▸ Heap.get?_push_of_some _ e))
    exact Nat.lt_of_lt_of_le (Heap.lt_size e) (by rw [z3, z2]; exact Nat.le_succ _)
  have keep : ∀ b o', s.heap.get? b = some o' → h₄.get? b = some o' := fun b o' e => keep2 b o' (hh2 ▸ Heap.get?_push_of_some _ e)
  have hacc : h₄.PlainList h2.objs.size #[] := ⟨_, hsb.extBut _ _ (Nat.ne_of_lt (by rw [z3, z2]; exact Nat.lt_succ_self _)) (Heap.get?_push_of_some _ (hh3 ▸ Heap.get?_push_size _ rfl))⟩
  have W := B.walks A (G.hd rfl)
  rw [hh2] at B
  have st₄ : St 0 h₄ := W.frame _ _ _ B.start fun b _ o' e => keep2 b o' e
  have nIt : s.heap.get? s.heap.objs.size = none := new _ (Nat.le_refl _)
  have nAcc : s.heap.get? h2.objs.size = none := new _ (by omega)
  have nD : s.heap.get? h3.objs.size = none := new _ (by omega)
  have dIA : s.heap.objs.size ≠ h2.objs.size := by omega
  have dAD : h2.objs.size ≠ h3.objs.size := by omega
  have dID : s.heap.objs.size ≠ h3.objs.size := by omega
  generalize s.heap.objs.size = It at *
  generalize h2.objs.size = acc at *
  generalize h3.objs.size = D at *
  -- the comprehension's own state
  have ownC : ∀ b ∈ ownOf (compEnvC scope cl D env), b = D ∨ b ∈ cl.map (·.2) := fun b hb => List.mem_cons.mp hb
  have okC : EnvOk (compEnvC scope cl D env) := by
    refine ⟨hkind, I₁.ok.globals, I₁.ok.builtins, ?_, fun y hy => ?_⟩
    · refine List.nodup_cons.mpr ⟨fun hm => ?_, ?_⟩
      · obtain ⟨o', ho'⟩ := I₁.own_there (clown _ hm)
        have ho' : s.heap.get? D = some o' := ho'
        rw [nD] at ho'; cases ho'
      · refine List.pairwise_map.mpr ?_
        have : cl.Pairwise fun a b => a.1 ≠ b.1 := List.pairwise_map.mp clk
        refine this.imp_of_mem fun {a b} ha hb hab e => hab ?_
        have h1 := mem_of_lookup (clm a ha).2
        have h2 := mem_of_lookup (clm b hb).2
        rw [e] at h1
        exact cell_inj apart.2 h1 h2
    · rw [kC] at hy
      obtain ⟨c, hc, _⟩ := clSome y (kC_cell y hy).1
      exact ⟨c, hc⟩
  have Ic : Inv C ⟨s.heap, H, cl.map (·.2), srcOf (toV v) ++ sn.fz⟩ (compEnvC scope cl D env) (zdr scope kd ρ) H { s with heap := h₄ } := by
    refine ⟨okC, fun b o' e => keep b o' (I₁.base b o' e), fun b n e => (I₁.nodes b n e).at (keep b), I₁.new, fun b o' e e1 _ => ⟨e1, by rw [show ({ s with heap := h₄ } : Shared).heap.get? b = some o' from keep b o' e]; exact Kept.refl _⟩,
      fun b hb => ?_, ⟨_, hns, fun y w e => ?_⟩, fun p hp => ?_, I₁.gens, I₁.os, fun b hb o' e => ?_, fun b hb => ?_, fun b o' e => ⟨o', keep b o' e⟩⟩
    · rcases ownC b hb with rfl | hb
      · refine ⟨I₁.none_of_new nD, ?_⟩
        cases q : C.h₀.get? b with
        | none => rfl
        | some o' => have := I₁.base b o' q; rw [nD] at this; cases this
      · exact I₁.fresh b (clown b hb)
    · unfold zdr at e
      split at e
      · rename_i hk
        obtain ⟨hf, _⟩ := kC_cell y (.inl hk)
        obtain ⟨c, hc1, hc2⟩ := clSome y hf
        obtain ⟨m, hm, hv⟩ := I₁.vars
        obtain ⟨cv, a, q⟩ := hv y w e
        rcases a with ⟨a, _⟩ | ⟨_, c', hc', hcell⟩
        · rw [hkd, hfreeS _ hf rfl] at a; cases a
        · rw [hc2] at hc'; cases hc'
          exact ⟨cv, .inr ⟨.inl ((kC D y).trans hk), c, hc1, hcell.keeps keep⟩, q⟩
      · cases e
    · obtain ⟨w, q⟩ := I₁.cells _ (mem_of_lookup (clm p hp).2)
      exact ⟨w, q.keeps keep⟩
    · rcases ownC b hb with rfl | hb
      · rw [show (⟨s.heap, H, cl.map (·.2), srcOf (toV v) ++ sn.fz⟩ : Snap).h.get? b = s.heap.get? b from rfl, nD] at e; cases e
      · exact hb
    · have : ∃ n, H.get b = some n := by
        rcases List.mem_append.mp hb with hb | hb
        · exact hx.src b hb
        · exact (I₁.frz b hb).2
      obtain ⟨n, e⟩ := this
      obtain ⟨o', ho', _⟩ := I₁.nodes b n e
      refine ⟨?_, n, e⟩
      show h₄.get? b = s.heap.get? b
      rw [ho']; exact keep b o' ho'
  have kC' := kC D
  generalize hce : compEnvC scope cl D env = cenv at Ic okC ownC kC' ⊢
  have hcells : cenv.cells = cl := by rw [← hce]; rfl
  have hlocals : cenv.locals = D := by rw [← hce]; rfl
  have jOf : ∀ b, s.heap.get? b = none → b ≠ D → Junk C ⟨s.heap, H, cl.map (·.2), srcOf (toV v) ++ sn.fz⟩ cenv H b := fun b hb hbD => by
    refine ⟨I₁.none_of_new hb, fun hm => ?_, ?_, hb⟩
    · have hm : b ∈ D :: cl.map (·.2) := by unfold ownOf at hm; rw [hlocals, hcells] at hm; exact hm
      rcases List.mem_cons.mp hm with rfl | hm
      · exact hbD rfl
      · obtain ⟨o', ho'⟩ := I₁.own_there (clown b hm); rw [hb] at ho'; cases ho'
    · cases q : C.h₀.get? b with
      | none => rfl
      | some o' => have := I₁.base b o' q; rw [hb] at this; cases this
  have Gc : Good C (srcOf (toV v) ++ fz) d true ⟨s.heap, H, cl.map (·.2), srcOf (toV v) ++ sn.fz⟩ A cenv := by
    refine ⟨by rw [← G.fz], G.hd, G.depth, G.units, ?_⟩
    obtain ⟨l, h1, h2⟩ := G.frs
    refine ⟨l, h1, fun f hf => ?_⟩
    obtain ⟨k1, b, k2, k3⟩ := h2 f hf
    refine ⟨k1, b, k2, .inr ?_⟩
    rcases k3 with rfl | ⟨o', k3, ⟨es, ep, k4⟩, k5, k6, k7⟩
    · obtain ⟨m, ⟨o', es, ep, ho', hd', _⟩, _⟩ := I₁.vars
      refine ⟨o', ho', ⟨es, ep, hd'⟩, (I₁.fresh _ (List.mem_cons_self ..)).1, fun hm => ?_, (I₁.fresh _ (List.mem_cons_self ..)).2⟩
      obtain ⟨p, hp, e⟩ := List.mem_map.mp hm
      exact apart.1 (e ▸ List.mem_map.mpr ⟨_, mem_of_lookup (clm p hp).2, rfl⟩)
    · obtain ⟨q, r⟩ := I₁.hid b o' k3 k5 k6
      obtain ⟨o'', ho'', hd'', _⟩ := r.data
      exact ⟨o'', ho'', ⟨es, ep, hd''.trans k4⟩, q, fun hm => I₁.notOwn k3 k6 (clown b hm), k7⟩
  have captx : ∀ (r : Env') y, (∀ z, z ≠ x → r z = zdr scope kd ρ z) → upd r x y = upd (zdr scope kd ρ) x y := fun r y hr => by
    funext z
    by_cases hz : z = x
    · simp [upd, hz]
    · simp [upd, hz, hr z hz]
  have loop : ∀ s₄ : Shared, s₄ = { s with heap := h₄ } → codeAny C.M A (.compLoop (.ListComp elt [⟨.Name x px, iter, ifs, 0⟩] scope pos) 0 (.ref It) (.ref acc) cenv) (PP (.ref acc) D) s₄ := by
    rintro s₄ rfl
    refine codeAny_compLoop_tests (fun n s' => ∃ k ρ' H' ys vs, n = xs.length + 1 - k ∧ k ≤ xs.length ∧ Inv C ⟨s.heap, H, cl.map (·.2), srcOf (toV v) ++ sn.fz⟩ cenv ρ' H' s' ∧ (∀ z, z ≠ x → ρ' z = zdr scope kd ρ z) ∧ J k ys H' ∧ St k s'.heap ∧
      Junk C ⟨s.heap, H, cl.map (·.2), srcOf (toV v) ++ sn.fz⟩ cenv H' It ∧ Junk C ⟨s.heap, H, cl.map (·.2), srcOf (toV v) ++ sn.fz⟩ cenv H' acc ∧ s'.heap.PlainList acc vs ∧ vs.toList.map toV = ys ∧ ys.length ≤ k ∧ ∀ b ∈ srcOf (toV v), ∃ n, H'.get b = some n) ?_ (xs.length + 1)
      ⟨0, _, H, [], #[], rfl, Nat.zero_le _, Ic, fun _ _ => rfl, j0, st₄, jOf It nIt dID, jOf acc nAcc dAD, hacc, rfl, Nat.le_refl _, hx.src⟩
    rintro n s' ⟨k, ρ', H', ys, vs, rfl, hkl, I', hρ, hJ, st, jI, jA, pl, hvs, hyk, src⟩
    by_cases hlt : k < xs.length
    · refine W.item k s' _ _ hlt st fun cv h' tk hP st' hkeep => ?_
      have hIw : ∀ b, b ≠ It → b ∉ [It] := fun b hb hm => hb (List.mem_singleton.mp hm)
      have I3 : Inv C ⟨s.heap, H, cl.map (·.2), srcOf (toV v) ++ sn.fz⟩ cenv ρ' H' { s' with heap := h', toks := tk } :=
        (I'.slots (fr := []) (h' := h') (fun b => b = It) (fun b hb => hb ▸ jI) (by simp) (fun b o e _ hn => hkeep b o (hIw b hn) e) (by simp)).toks tk
      have pl3 : h'.PlainList acc vs := pl.at fun o e => hkeep acc o (hIw acc dIA.symm) e
      have I4 := I3.snap (fz' := srcOf (toV v) ++ sn.fz) fun b hb => (I'.frz b hb).2
      refine wpAny_assign_Name (wpAny_mono (TR.storeVar (cv := cv) (.inl ((kC' x).trans kx)) (Q := fun _ ρ'' H'' => ρ'' = upd ρ' x (toV cv) ∧ H'' = H') ⟨rfl, rfl⟩ _ I4) (fun _ s4 h4 => ?_) fun _ _ e => e)
      obtain ⟨_, _, I5, e5, e6⟩ := h4
      rw [e5, e6, captx _ _ hρ] at I5
      have next : ∀ {H'' : AH} {s5 : Shared}, Inv C ⟨h', H', ownOf cenv, srcOf (toV v) ++ sn.fz⟩ cenv (upd (zdr scope kd ρ) x (toV cv)) H'' s5 →
          Inv C ⟨s.heap, H, cl.map (·.2), srcOf (toV v) ++ sn.fz⟩ cenv (upd (zdr scope kd ρ) x (toV cv)) H'' s5 ∧ St (k + 1) s5.heap ∧ Junk C ⟨s.heap, H, cl.map (·.2), srcOf (toV v) ++ sn.fz⟩ cenv H'' It ∧
          Junk C ⟨s.heap, H, cl.map (·.2), srcOf (toV v) ++ sn.fz⟩ cenv H'' acc ∧ s5.heap.PlainList acc vs ∧ ∀ b ∈ srcOf (toV v), ∃ n, H''.get b = some n := by
        intro H'' s5 J5
        obtain ⟨oI, vsI, hoI, hdI⟩ := B.obj _ _ st'
        obtain ⟨hI1, hI2⟩ := J5.hid It oI hoI jI.1 jI.2.1
        have hI3 := hI2.same fun es ep e => by rw [hdI] at e; cases e
        obtain ⟨na, hna⟩ := pl3
        obtain ⟨hA1, hA2⟩ := J5.hid acc _ hna jA.1 jA.2.1
        have hA3 := hA2.same fun es ep e => by cases e
        refine ⟨I3.again (fun b hb => hb) J5, W.frame _ _ _ st' fun b hb o e => ?_, ⟨hI1, jI.2⟩, ⟨hA1, jA.2⟩, ⟨na, hA3⟩, fun b hb => (J5.frz b (List.mem_append.mpr (.inl hb))).2⟩
        rcases List.mem_cons.mp hb with rfl | hb
        · rw [hoI] at e; cases e; exact hI3
        · exact (J5.frz b (List.mem_append.mpr (.inl hb))).1.trans e
      have elt_ : ∀ {H'' : AH} {s5 : Shared} {ok : Bool}, Inv C ⟨h', H', ownOf cenv, srcOf (toV v) ++ sn.fz⟩ cenv (upd (zdr scope kd ρ) x (toV cv)) H'' s5 →
          (if ok then TM C ⟨h', H', ownOf cenv, srcOf (toV v) ++ sn.fz⟩ A cenv (upd (zdr scope kd ρ) x (toV cv)) (eval elt cenv) (fun v H₃ => J (k + 1) (ys ++ [toV v]) H₃) (notedBy C.M A cenv fun e s' => PP (.ref acc) D (.error e) s') H'' else J (k + 1) ys H'') →
          (if ok = true then wpAny C.M A (eval elt cenv) (fun x₁ s₄ =>
              wpAny C.M A (call (.builtin "list.append") [.ref acc, x₁]) (fun _ s₅ => ∃ m, m < xs.length + 1 - k ∧ ∃ k ρ' H' ys vs, m = xs.length + 1 - k ∧ k ≤ xs.length ∧ Inv C ⟨s.heap, H, cl.map (·.2), srcOf (toV v) ++ sn.fz⟩ cenv ρ' H' s₅ ∧ (∀ z, z ≠ x → ρ' z = zdr scope kd ρ z) ∧ J k ys H' ∧ St k s₅.heap ∧
      Junk C ⟨s.heap, H, cl.map (·.2), srcOf (toV v) ++ sn.fz⟩ cenv H' It ∧ Junk C ⟨s.heap, H, cl.map (·.2), srcOf (toV v) ++ sn.fz⟩ cenv H' acc ∧ s₅.heap.PlainList acc vs ∧ vs.toList.map toV = ys ∧ ys.length ≤ k ∧ ∀ b ∈ srcOf (toV v), ∃ n, H'.get b = some n)
                (notedBy C.M A cenv fun e s' => PP (.ref acc) D (.error e) s') s₄) (notedBy C.M A cenv fun e s' => PP (.ref acc) D (.error e) s') s5
            else ∃ m, m < xs.length + 1 - k ∧ ∃ k ρ' H' ys vs, m = xs.length + 1 - k ∧ k ≤ xs.length ∧ Inv C ⟨s.heap, H, cl.map (·.2), srcOf (toV v) ++ sn.fz⟩ cenv ρ' H' s5 ∧ (∀ z, z ≠ x → ρ' z = zdr scope kd ρ z) ∧ J k ys H' ∧ St k s5.heap ∧
      Junk C ⟨s.heap, H, cl.map (·.2), srcOf (toV v) ++ sn.fz⟩ cenv H' It ∧ Junk C ⟨s.heap, H, cl.map (·.2), srcOf (toV v) ++ sn.fz⟩ cenv H' acc ∧ s5.heap.PlainList acc vs ∧ vs.toList.map toV = ys ∧ ys.length ≤ k ∧ ∀ b ∈ srcOf (toV v), ∃ n, H'.get b = some n) := by
        intro H'' s5 ok J5 q
        have hupd : ∀ z, z ≠ x → upd (zdr scope kd ρ) x (toV cv) z = zdr scope kd ρ z := fun z hz => by simp [upd, hz]
        cases ok with
        | false =>
          obtain ⟨n1, n2, n3, n4, n5, n6⟩ := next J5
          exact ⟨xs.length + 1 - (k + 1), by omega, k + 1, _, H'', ys, vs, rfl, hlt, n1, hupd, q, n2, n3, n4, n5, hvs, by omega, n6⟩
        | true =>
          refine wpAny_mono (q s5 J5) (fun y s6 h6 => ?_) fun _ _ e => e
          obtain ⟨H3, J6, hJ6⟩ := h6
          obtain ⟨n1, n2, n3, n4, n5, n6⟩ := next J6
          have hsz : vs.size ≤ sizeLine := by rw [map_size hvs]; omega
          refine wpAny_list_append_plain n5 (fun h7 pl7 sb7 => ?_) hsz
          have I7 : Inv C ⟨s.heap, H, cl.map (·.2), srcOf (toV v) ++ sn.fz⟩ cenv (upd (zdr scope kd ρ) x (toV cv)) H3 { s6 with heap := h7 } :=
            n1.slots (fr := []) (h' := h7) (fun b => b = acc) (fun b hb => hb ▸ n4) (by simp) (fun b o e _ hn => sb7.extBut b o hn e) (by simp)
          refine ⟨xs.length + 1 - (k + 1), by omega, k + 1, _, H3, ys ++ [toV y], vs.push y, rfl, hlt, I7, hupd, hJ6, W.frame _ _ _ n2 fun b hb o e => sb7.extBut b o ?_ e, n3, n4, pl7, by rw [Array.toList_push, List.map_append, hvs]; rfl, by simp; omega, n6⟩
          rcases List.mem_cons.mp hb with rfl | hb
          · exact dIA
          · rintro rfl
            obtain ⟨n, hn⟩ := n6 b hb
            rw [n4.1] at hn; cases hn
      match ifs, hif with
      | [], _ =>
        exact wpAny_tests_nil (elt_ (ok := true) I5 fun s5 I5' => turn k (toV cv) ys H' (B.item k cv hP) hJ _ cenv (notedBy C.M A cenv fun e s' => PP (.ref acc) D (.error e) s') (Gc.again (more := []) I3) kC' s5 I5')
      | [c], _ =>
        refine wpAny_tests_one (wpAny_mono (turn k (toV cv) ys H' (B.item k cv hP) hJ _ cenv (notedBy C.M A cenv fun e s' => PP (.ref acc) D (.error e) s') (Gc.again (more := []) I3) kC' s4 I5) (fun ok s5 h5 => ?_) fun _ _ e => e)
        obtain ⟨H'', J5, q⟩ := h5
        exact elt_ J5 q
    · have hk0 : k = xs.length := by omega
      subst hk0
      refine W.done s' _ _ st fun h' tk hkeep => ?_
      have hIw : ∀ b, b ≠ It → b ∉ [It] := fun b hb hm => hb (List.mem_singleton.mp hm)
      have I3 : Inv C ⟨s.heap, H, cl.map (·.2), srcOf (toV v) ++ sn.fz⟩ cenv ρ' H' { s' with heap := h', toks := tk } :=
        (I'.slots (fr := []) (h' := h') (fun b => b = It) (fun b hb => hb ▸ jI) (by simp) (fun b o e _ hn => hkeep b o (hIw b hn) e) (by simp)).toks tk
      have pl3 : h'.PlainList acc vs := pl.at fun o e => hkeep acc o (hIw acc dIA.symm) e
      have If : Inv C sn env ρ H' { s' with heap := h', toks := tk } := by
        refine I₁.backC I3 (fun b hb => List.mem_append.mpr (.inr hb)) hcells (fun p hp => (clm p hp).2) fun p hp w e => ?_
        have hkp := kC_free p.1 (clm p hp).1
        refine ⟨?_, (kC' _).trans hkp, by rw [hcells]; exact clLook p hp⟩
        rw [hρ _ (by rintro e'; rw [e', kx] at hkp; cases hkp)]
        unfold zdr
        rw [if_pos hkp]; exact e
      have jk : ∀ b, H'.get b = none → s.heap.get? b = none → Junk C sn env H' b := fun b hb hb' => by
        refine ⟨hb, fun hm => ?_, ?_, ?_⟩
        · obtain ⟨o', ho'⟩ := I₁.own_there hm; rw [hb'] at ho'; cases ho'
        · cases q : C.h₀.get? b with
          | none => rfl
          | some o' => have := I₁.base b o' q; rw [hb'] at this; cases this
        · cases q : sn.h.get? b with
          | none => rfl
          | some o' => obtain ⟨o'', ho''⟩ := I₁.live b o' q; rw [hb'] at ho''; cases ho''
      obtain ⟨m, hm, _⟩ := I3.vars
      rw [hlocals] at hm
      exact fin acc D ys vs H' _ If (jk acc jA.1 nAcc) pl3 hvs hyk dAD (jk D (I3.fresh D (by rw [← hlocals]; exact List.mem_cons_self ..)).1 nD) ⟨m, hm⟩ hJ
  subst hce
  exact codeAny_compStart_list (loop _ rfl) (W.self 0 _ _ _ st₄ (loop _ rfl))
end
end Mine

namespace Mine
open PySem PySem.Calls PySem.SeqAt PySem.W

section
variable {C : Cx} {sn : Snap} {A : Around} {env : Env} {ρ : Str → Option V} {H : AH} {s : Shared} {E : Value → Shared → Prop} {fz : List Nat} {d : Nat} {kd : Str → Option NameKind} {scope : Scope}

/-- the suite that a comprehension's turn must meet -/
def CompGoal (C : Cx) (A : Around) (fz : List Nat) (d : Nat) (kd : Str → Option NameKind) (scope : Scope) (ρ : Env') (x : Str) (ifs : List Expr) (elt : Expr) (v : V) (Q : List V → AH → Prop) (H₁ : AH) : Prop :=
  ∃ xs, ItemsV H₁ v xs ∧ xs.length ≤ sizeLine ∧ ∃ J : Nat → List V → AH → Prop, J 0 [] H₁ ∧
    (∀ k y ys H', xs[k]? = some y → J k ys H' → ∀ sn' cenv E', Good C (srcOf v ++ fz) d true sn' A cenv → (∀ y, cenv.kindOf y = kdC scope kd y) →
      CompTurn C sn' A cenv (upd (zdr scope kd ρ) x y) ifs elt E' (J (k + 1)) ys H') ∧
    ∀ ys H', ys.length ≤ xs.length → J xs.length ys H' → Q ys H'

theorem tm_comp {elt iter : Expr} {x : Str} {px pos : Pos} {ifs : List Expr} {Q : V → AH → Prop}
    (G : Good C fz d true sn A env) (hkd : ∀ y, env.kindOf y = kd y) (hok : compOk scope kd x = true) (hif : ifs.length ≤ 1) (hs : ∀ v, foldedSetIterable iter env v = pure v)
    (h : TM C sn A env ρ (eval iter env) (fun v H₁ => CompGoal C A fz d kd scope ρ x ifs elt (toV v) (fun ys H' => made fz (.list ys) Q H') H₁) E H) :
    TM C sn A env ρ (eval (.ListComp elt [⟨.Name x px, iter, ifs, 0⟩] scope pos) env) (fun v H' => Q (toV v) H') E H := by
  intro s I
  have hok' := hok
  simp only [compOk, Bool.and_eq_true, beq_iff_eq, List.all_eq_true, bne_iff_ne, Bool.or_eq_true] at hok'
  obtain ⟨⟨⟨hkind, hnd⟩, hxl⟩, hall⟩ := hok'
  have hnd := nodupS_iff hnd
  rw [eval_ListComp]
  refine wpAny_comprehension_free (use := none) rfl hs (closureFor_of fun y hy hf => ?_) hkind (fun y hy hl => ?_) (wpAny_mono (h s I) (fun v s₁ hv => ?_) fun _ _ e => e)
  · rcases (hall y hy).2 with q | q
    · exact absurd hf q
    · exact I.ok.cell y.1 (.inl ((hkd _).trans q))
  · have := lookup_of_mem hnd hy
    rwa [hl] at this
  obtain ⟨H₁, I₁, xs, hx, hz, J, j0, turn, hQ⟩ := hv
  refine comp_core (PP := fun acc D => compPost C.M A E none _ acc D) I₁ G hkd hok hx hz hif J j0 turn fun acc D ys vs H' s' I' jA pl hvs hle dAD jD hns hJ => ?_
  obtain ⟨m, hm⟩ := hns
  refine ⟨m, hm, fun h' sb => ?_⟩
  have I2 : Inv C sn env ρ H' { s' with heap := h' } := I'.slots (fr := []) (h' := h') (fun b => b = D) (fun b hb => hb ▸ jD) (by simp) (fun b o e _ hn => sb.extBut b o hn e) (by simp)
  obtain ⟨n, hn⟩ := pl.extBut sb.extBut dAD
  have hlen : ys.length < 2 ^ 62 := Nat.lt_of_le_of_lt (Nat.le_trans hle hz) (by unfold sizeLine; decide)
  refine ⟨_, I2.reveal (n := .list ys) jA ⟨_, hn, hlen, vs, n, rfl, hvs⟩, hQ ys H' hle hJ acc jA.1 ?_⟩
  rw [← G.fz]; exact I2.notFz jA.1

end
end Mine

namespace Mine
open PySem PySem.Calls PySem.SeqAt PySem.W

/-- truth -/
def opTruth (v : V) (k : Bool → Prop) (H : AH) : Prop :=
  match v with
  | .bool b => k b
  | .none => k false
  | .int i => k (i != 0)
  | .ref p => (match H.get p with
    | some (.list xs) | some (.rlist xs) => k (!xs.isEmpty)
    | some (.sdict es) => k (!es.isEmpty)
    | _ => False)
  | _ => False

/-- a slice without a step of a list -/
def opSlice (fz : List Nat) (o lo hi : V) (Q : V → AH → Prop) (H : AH) : Prop :=
  match o with
  | .ref p => (match H.get p with
    | some (.list xs) | some (.rlist xs) => xs.length ≤ sizeLine ∧ (match lo, hi with
      | .none, .int b => 0 ≤ b ∧ made fz (.list (xs.take b.toNat)) Q H
      | .int a, .none => 0 ≤ a ∧ made fz (.list (xs.drop a.toNat)) Q H
      | .int a, .int b => 0 ≤ a ∧ a ≤ b ∧ b ≤ xs.length ∧ made fz (.list ((xs.drop a.toNat).take (b - a).toNat)) Q H
      | _, _ => False)
    | _ => False)
  | _ => False

def methId (T : String) (name : Str) : Option String :=
  match T with
  | "list" => if name = ("append" : Str) then some "list.append" else if name = ("extend" : Str) then some "list.extend" else if name = ("clear" : Str) then some "list.clear" else if name = ("index" : Str) then some "list.index" else none
  | "dict" => if name = ("get" : Str) then some "dict.get" else if name = ("update" : Str) then some "dict.update" else if name = ("clear" : Str) then some "dict.clear" else none
  | "str" => if name = ("join" : Str) then some "str.join" else none
  | _ => none

section
variable {C : Cx} {sn : Snap} {A : Around} {env : Env} {ρ : Str → Option V} {H : AH} {s : Shared} {E : Value → Shared → Prop} {fz : List Nat} {d : Nat}

theorem TM.truthy {v : Value} {k : Bool → Prop} (h : opTruth (toV v) k H) : TM C sn A env ρ (truthy v) (fun b H' => k b ∧ H' = H) E H := by
  intro s I
  unfold opTruth at h
  split at h
  · rename_i b e
    have := toV_bool e; subst this
    exact wpAny_truthy_bool ⟨H, I, h, rfl⟩
  · rename_i e
    have := toV_none e; subst this
    exact PyProof.Rows.truthy_none ⟨H, I, h, rfl⟩
  · rename_i i e
    obtain ⟨t, rfl⟩ := toV_int e
    exact PyProof.Rows.truthy_int ⟨H, I, h, rfl⟩
  · rename_i p e
    have := toV_ref e; subst this
    have lists : ∀ n xs, H.get p = some n → n.seqL = some xs → k (!xs.isEmpty) → wpAny C.M A (PySem.truthy (.ref p)) (fun b s' => ∃ H', Inv C sn env ρ H' s' ∧ k b ∧ H' = H) E s := by
      intro n xs hp en h
      obtain ⟨vs, hvs, e1, z1⟩ := (I.nodes p n hp).isList en
      have hm := map_size e1
      refine wpAny_truthy_list hvs (by omega) ⟨H, I.toks _, ?_, rfl⟩
      have : (!vs.isEmpty) = !xs.isEmpty := by
        unfold Array.isEmpty; rw [hm]; cases xs <;> rfl
      rw [this]; exact h
    split at h
    · rename_i xs hp; exact lists _ xs hp rfl h
    · rename_i xs hp; exact lists _ xs hp rfl h
    · rename_i es hp
      obtain ⟨kvs, hd, e1, z1⟩ := (I.nodes p _ hp).sdict
      have hl : kvs.length = es.length := by rw [← e1]; simp
      refine wpAny_truthy_dict (I.notMods hp rfl) hd (by omega) ⟨H, I.toks _, ?_, rfl⟩
      have : (!kvs.isEmpty) = !es.isEmpty := by cases kvs <;> cases es <;> simp_all
      rw [this]; exact h
    · exact h.elim
  · exact h.elim

theorem part_of {v : Value} (h : toV v = .none) : IsPart v none := by have := toV_none h; subst this; exact .none
theorem part_int {v : Value} {i : Int} (h : toV v = .int i) : IsPart v (some i) := by obtain ⟨t, rfl⟩ := toV_int h; exact .int i t

theorem tm_slice {value : Expr} {lower upper : Option Expr} {pp pos : Pos} {o : Value} {Q : V → AH → Prop}
    (h : TM C sn A env ρ (evalPart lower env) (fun l H₁ => TM C sn A env ρ (evalPart upper env) (fun u H₂ => opSlice sn.fz (toV o) (toV l) (toV u) Q H₂) E H₁) E H) :
    ∀ s, Inv C sn env ρ H s → wpAny C.M A (eval (.Slice lower upper none pp) env) (fun i s' => wpAny C.M A (standAt pos >>= fun _ => PyProof.Rows.subscriptTail value (.Slice lower upper none pp) o i) (fun v s'' => ∃ H', Inv C sn env ρ H' s'' ∧ Q (toV v) H') E s') E s := by
  intro s I
  refine (wpAny_Slice (wpAny_mono (h s I) (fun l s₁ h₁ => ?_) fun _ _ e => e))
  obtain ⟨H₁, I₁, h₁⟩ := h₁
  refine wpAny_mono (h₁ s₁ I₁) (fun u s₂ h₂ => ?_) fun _ _ e => e
  obtain ⟨H₂, I₂, h₂⟩ := h₂
  rw [evalPart_none]
  refine wpAny_pure (wpAny_bind (wpAny_standAt ?_))
  unfold opSlice at h₂
  split at h₂
  · rename_i p eo
    have := toV_ref eo; subst this
    have lists : ∀ n xs, H₂.get p = some n → n.seqL = some xs → (xs.length ≤ sizeLine ∧ (match toV l, toV u with
      | .none, .int b => 0 ≤ b ∧ made sn.fz (.list (xs.take b.toNat)) Q H₂
      | .int a, .none => 0 ≤ a ∧ made sn.fz (.list (xs.drop a.toNat)) Q H₂
      | .int a, .int b => 0 ≤ a ∧ a ≤ b ∧ b ≤ xs.length ∧ made sn.fz (.list ((xs.drop a.toNat).take (b - a).toNat)) Q H₂
      | _, _ => False)) → wpAny C.M A (PyProof.Rows.subscriptTail value (.Slice lower upper none pp) (.ref p) (.ref s₂.heap.objs.size)) (fun v s' => ∃ H', Inv C sn env ρ H' s' ∧ Q (toV v) H') E { s₂ with heap := s₂.heap.push { cls := .type "slice", data := .fields #[l, u, .none] } } := by
      intro n xs hp en h
      obtain ⟨vs, hvs, e1, z1⟩ := (I₂.nodes p n hp).isList en
      have hm := map_size e1
      have I₃ : Inv C sn env ρ H₂ { s₂ with heap := s₂.heap.push { cls := .type "slice", data := .fields #[l, u, .none] } } := I₂.keeps (tk := s₂.toks) fun b o e => Heap.get?_push_of_some _ e
      have hvs' : (s₂.heap.push { cls := .type "slice", data := .fields #[l, u, .none] }).IsList p vs := hvs.push _
      refine tail_of hvs'.typeIs slot_list_getitem.lookup ?_
      have fin : ∀ {lo hi : Option Int} {ys : List V}, IsPart l lo → IsPart u hi → (slicePick vs lo hi none).toList.map toV = ys → ys.length < 2 ^ 62 → made sn.fz (.list ys) Q H₂ →
          wpAny C.M A (getItem (.ref p) (.ref s₂.heap.objs.size)) (fun v s' => ∃ H', Inv C sn env ρ H' s' ∧ Q (toV v) H') E { s₂ with heap := s₂.heap.push { cls := .type "slice", data := .fields #[l, u, .none] } } := by
        intro lo hi ys pl pu hy hlen hq
        refine wpAny_getItem_list_slice hvs' (Heap.IsSliceOf.new _ _ _ _) pl pu .none (by simp) ?_ (by rw [hm]; exact h.1)
        have hD := get_size (s₂.heap.push { cls := .type "slice", data := .fields #[l, u, .none] })
        refine ⟨_, I₃.come (n := .list ys) (tk := s₂.toks) (fun b o e => Heap.get?_push_of_some _ e) hD ⟨_, Heap.get?_push_size _ rfl, hlen, _, _, rfl, hy⟩, hq _ (I₃.none_of_new hD) (I₃.notFz (I₃.none_of_new hD))⟩
      obtain ⟨hz, h⟩ := h
      split at h
      · rename_i b el eu
        obtain ⟨hb, hq⟩ := h
        obtain ⟨b, rfl⟩ := Int.eq_ofNat_of_zero_le hb
        refine fin (part_of el) (part_int eu) ?_ ?_ hq
        · rw [slicePick_upto']; simp [List.map_take, e1]
        · rw [List.length_take]; omega
      · rename_i a el eu
        obtain ⟨hb, hq⟩ := h
        obtain ⟨a, rfl⟩ := Int.eq_ofNat_of_zero_le hb
        refine fin (part_int el) (part_of eu) ?_ ?_ hq
        · rw [slicePick_from']; simp [List.map_drop, e1]
        · rw [List.length_drop]; omega
      · rename_i a b el eu
        obtain ⟨ha, hab, hb, hq⟩ := h
        obtain ⟨a, rfl⟩ := Int.eq_ofNat_of_zero_le ha
        obtain ⟨b, rfl⟩ := Int.eq_ofNat_of_zero_le (Int.le_trans ha hab)
        refine fin (part_int el) (part_int eu) ?_ ?_ hq
        · rw [slicePick_run _ _ _ (by omega) (by omega)]
          have : ((b : Int) - (a : Int)).toNat = b - a := by omega
          simp [List.map_take, List.map_drop, e1, this]
        · rw [List.length_take, List.length_drop]; omega
      · exact h.elim
    split at h₂
    · rename_i xs hp; exact lists _ xs hp rfl h₂
    · rename_i xs hp; exact lists _ xs hp rfl h₂
    · exact h₂.elim
  · exact h₂.elim

/-- the method that a name gives at a built-in thing -/
def opGet (H : AH) (ov : V) (name : Str) (k : String → Prop) : Prop :=
  match ov with
  | .str _ => (match methId "str" name with | some id => k id | none => False)
  | .ref p => (match H.get p with
    | some (.list _) => (match methId "list" name with | some id => k id | none => False)
    | some (.sdict _) => (match methId "dict" name with | some id => k id | none => False)
    | some (.idict _) => (match methId "dict" name with | some id => k id | none => False)
    | _ => False)
  | _ => False

theorem methId_slot {T : String} {name : Str} {id : String} (h : methId T name = some id) : PlainAttrs T ∧ Slot T name id ∧ typeOf (.builtin id) = pure (.type "method_descriptor") := by
  unfold methId at h
  split at h
  · split at h
    · subst_vars; cases h; exact ⟨F.plainAttrs_list, F.slot_list_append, F.type_list_append⟩
    split at h
    · subst_vars; cases h; exact ⟨F.plainAttrs_list, F.slot_list_extend, F.type_list_extend⟩
    split at h
    · subst_vars; cases h; exact ⟨F.plainAttrs_list, F.slot_list_clear, F.type_list_clear⟩
    split at h
    · subst_vars; cases h; exact ⟨F.plainAttrs_list, F.slot_list_index, F.type_list_index⟩
    · cases h
  · split at h
    · subst_vars; cases h; exact ⟨F.plainAttrs_dict, F.slot_dict_get, F.type_dict_get⟩
    split at h
    · subst_vars; cases h; exact ⟨F.plainAttrs_dict, F.slot_dict_update, F.type_dict_update⟩
    split at h
    · subst_vars; cases h; exact ⟨F.plainAttrs_dict, F.slot_dict_clear, F.type_dict_clear⟩
    · cases h
  · split at h
    · subst_vars; cases h; exact ⟨F.plainAttrs_str, F.slot_str_join, F.type_str_join⟩
    · cases h
  · cases h

set_option maxRecDepth 20000 in
theorem tm_getM {ov : Value} {name : Str} {pl : Sem Bool} {k : String → Prop} (h : opGet H (toV ov) name k) : TM C sn A env ρ (getMethod ov name pl) (fun r H' => ∃ id, r = (.builtin id, [ov]) ∧ k id ∧ H' = H) E H := by
  intro s I
  unfold opGet at h
  split at h
  · rename_i x e
    obtain ⟨t, rfl⟩ := toV_str e
    split at h
    · rename_i id hid
      obtain ⟨pa, sl, ty⟩ := methId_slot hid
      have hT : s.TypeIs (.str x t) "str" := typeIs_str s x t
      have hd : ∀ a, Value.str x t = .ref a → ∃ o, s.heap.get? a = some o ∧ o.dict = none := fun a e => by cases e
      refine getMethod_builtin hT pa sl ty hd ?_
      refine ⟨H, I, id, ?_, h, ?_⟩
      · rfl
      · rfl
    · exact h.elim
  · rename_i p e
    have := toV_ref e; subst this
    split at h
    · rename_i xs hp
      split at h
      · rename_i id hid
        obtain ⟨pa, sl, ty⟩ := methId_slot hid
        obtain ⟨o, ho, _, vs, kk, rfl, _⟩ := I.nodes p _ hp
        exact getMethod_builtin ⟨_, ho, rfl⟩ pa sl ty (fun a e => by cases e; exact ⟨_, ho, rfl⟩) ⟨H, I, id, rfl, h, rfl⟩
      · exact h.elim
    · rename_i es hp
      split at h
      · rename_i id hid
        obtain ⟨pa, sl, ty⟩ := methId_slot hid
        obtain ⟨o, ho, _, kvs, ⟨_, _, ⟨hc, hd, _⟩, _⟩, _⟩ := I.nodes p _ hp
        exact getMethod_builtin ⟨_, ho, hc⟩ pa sl ty (fun a e => by cases e; exact ⟨_, ho, hd⟩) ⟨H, I, id, rfl, h, rfl⟩
      · exact h.elim
    · rename_i es hp
      split at h
      · rename_i id hid
        obtain ⟨pa, sl, ty⟩ := methId_slot hid
        obtain ⟨o, ho, _, kvs, ⟨_, _, ⟨hc, hd, _⟩, _⟩, _⟩ := I.nodes p _ hp
        exact getMethod_builtin ⟨_, ho, hc⟩ pa sl ty (fun a e => by cases e; exact ⟨_, ho, hd⟩) ⟨H, I, id, rfl, h, rfl⟩
      · exact h.elim
    · exact h.elim
  · exact h.elim

/-- a list display, a tuple display -/
theorem tm_seqDisplay {items : Sem (List Value)} {T : String} {mk : List V → Node} {Q : V → AH → Prop} (hT : ∀ (vs : List Value), vs.length < 2 ^ 62 → ObjIs C { cls := .type T, data := .seq vs.toArray } (mk (vs.map toV)))
    (h : TM C sn A env ρ items (fun vs H' => vs.length ≤ sizeLine ∧ made sn.fz (mk (vs.map toV)) Q H') E H) :
    TM C sn A env ρ (items >>= fun vs => newObj (.type T) (.seq vs.toArray)) (fun v H' => Q (toV v) H') E H := by
  refine .bind (h.mono fun vs H' hq => ?_)
  intro s I
  obtain ⟨hz, hq⟩ := hq
  have hD := get_size s.heap
  refine wpAny_newObj_type ⟨_, I.come (n := mk (vs.map toV)) (tk := s.toks) (fun b o e => Heap.get?_push_of_some _ e) hD ⟨_, Heap.get?_push_size _ rfl, hT vs ?_⟩, hq _ (I.none_of_new hD) (I.notFz (I.none_of_new hD))⟩ ?_
  · exact Nat.lt_of_le_of_lt hz (by unfold sizeLine; decide)
  · show vs.toArray.size ≤ sizeLine
    rw [List.size_toArray]; exact hz
end
end Mine

namespace Mine
open PySem PySem.Calls PySem.SeqAt PySem.W PyProof.Rows

theorem strsAre_of : ∀ {vs : List Value} {ss : List Str}, vs.map toV = ss.map V.str → StrsAre vs ss
  | [], [], _ => .nil
  | [], _ :: _, h => by cases h
  | _ :: _, [], h => by cases h
  | v :: vs, x :: ss, h => by
    rw [List.map_cons, List.map_cons] at h
    injection h with h1 h2
    obtain ⟨t, rfl⟩ := toV_str h1
    exact .cons x t (strsAre_of h2)
theorem strsAre_to {vs : List Value} {ss : List Str} (h : StrsAre vs ss) : vs.map toV = ss.map V.str := by
  induction h with
  | nil => rfl
  | cons y t _ ih => rw [List.map_cons, List.map_cons, ih]; rfl

/-- the texts that a sort takes, if it takes texts alone -/
def textsOf (H : AH) (v : V) (ss : List Str) : Prop :=
  match v with
  | .ref p => (match H.get p with
    | some (.list xs) => xs = ss.map V.str
    | some (.sdict es) => es.map (·.1) = ss
    | _ => False)
  | _ => False

def opSorted (fz : List Nat) (vs : List V) (Q : V → AH → Prop) (H : AH) : Prop :=
  match vs with
  | [v] => ∃ ss, textsOf H v ss ∧ ss.length < 64 ∧ ∀ ss', ss'.Perm ss → sortedS ss' = true → made fz (.list (ss'.map V.str)) Q H
  | _ => False

section
variable {C : Cx} {sn : Snap} {A : Around} {env : Env} {ρ : Str → Option V} {H : AH} {E : Value → Shared → Prop} {Q : V → AH → Prop}

theorem tm_sorted {vs : List Value} (hh : A.handled = none) (h : opSorted sn.fz (vs.map toV) Q H) : TM C sn A env ρ (call (.builtin "sorted") vs) (fun v H' => Q (toV v) H') E H := by
  unfold opSorted at h
  split at h
  · rename_i v0 e0
    obtain ⟨v, rfl, ev⟩ := map_one e0
    obtain ⟨ss, hss, h64, hQ⟩ := h
    intro s I
    subst ev
    unfold textsOf at hss
    split at hss
    · rename_i p ep
      have := toV_ref ep; subst this
      split at hss
      · rename_i xs hp
        subst hss
        obtain ⟨o, ho, hz, ws, k, rfl, hws⟩ := I.nodes p _ hp
        have hS : StrsAre ws.toList ss := strsAre_of hws
        have hlen : ws.toList.length = ss.length := by have := congrArg List.length hws; simpa using this
        refine sorted_strs (l := p) (vs := ws.toList) ⟨_, ho, rfl, k, by simp⟩ hS (by omega) fun out ss' h1 h2 h3 => ?_
        obtain ⟨e, he⟩ := sortedAll_at s.heap ws.toList out
        have hD : s.heap.get? (s.heap.objs.size + 1) = none := by
          cases q : s.heap.get? (s.heap.objs.size + 1) with
          | none => rfl
          | some o => exact absurd (Heap.lt_size q) (Nat.not_lt.mpr (Nat.le_succ _))
        have hl' : ss'.length = ss.length := h2.length_eq
        refine ⟨_, I.come (n := .list (ss'.map V.str)) (tk := s.toks) (fun b o eb => sortedAll_old eb) hD ⟨_, he, by rw [List.length_map]; omega, out, e, rfl, strsAre_to h1⟩, hQ ss' h2 h3 _ (I.none_of_new hD) (I.notFz (I.none_of_new hD))⟩
      · rename_i es hp
        obtain ⟨kvs, hd, e1, z1⟩ := (I.nodes p _ hp).sdict
        obtain ⟨ep, hd⟩ := hd.dictAt
        have hkl : kvs.length = ss.length := by rw [← hss, ← e1]; simp
        refine call_function_entry kind_sorted plain_sorted entry_sorted (args_sorted1 _) ?_
        unfold Builtin.«sorted»
        refine wpAny_bind (m := checkCount "sorted" 1 1 _) (wpAny_pure ?_)
        refine wpAny_bind (kdu_collect (A := A.in1) (kdl_dict (knd := strKind C.prog C.w) (kvs := kvs) (ep := ep) (I.notMods hp rfl)) hh hd (by rw [hkl]; unfold sizeLine; omega) fun h' tk acc hk hacc => ?_)
        have hal : acc.toList.length = ss.length := by rw [Array.length_toList, hacc.1, hkl]
        have hS : StrsAre acc.toList ss := by
          refine strsAre_of ?_
          apply List.ext_getElem?
          intro i
          rw [List.getElem?_map, List.getElem?_map]
          cases q : acc.toList[i]? with
          | none =>
            have : ss[i]? = none := by rw [List.getElem?_eq_none_iff] at q ⊢; omega
            rw [this]; rfl
          | some v =>
            obtain ⟨k, x, hkx, hkv⟩ := hacc.2 i v (by rw [← Array.getElem?_toList]; exact q)
            obtain ⟨t, rfl⟩ := Value.isStrOf_shape (show Value.isStrOf k v = true from hkv)
            rw [← hss, ← e1]
            simp [hkx, toV]
        refine wpAny_bind (wpAny_newList ?_ (by rw [hal]; unfold sizeLine; omega))
        have hoL : (h'.push (seqObj "list" acc.toList.toArray 0)).get? h'.objs.size = some (seqObj "list" acc.toList.toArray 0) := Heap.get?_push_size _ rfl
        refine wpAny_bind (wpAny_holding (wpAny_call_entry slot_list_sort ⟨_, hoL, rfl⟩ entry_list_sort (list_sort_treeK strKind_oneLt hoL hS.keysOf (fun v₁ v₂ rest e => keyKind_strs (by rw [← e]; exact hS)) (by omega) fun st' a1 a2 => ⟨_, rfl, ?_⟩) (args_list_sort _)))
        obtain ⟨ss', b1, b2, b3⟩ := sorted_out_str hS a1 a2
        refine wpAny_pure ⟨_, rfl, ?_⟩
        have hD : s.heap.get? h'.objs.size = none := by
          cases q : s.heap.get? h'.objs.size with
          | none => rfl
          | some o => exact absurd (Heap.lt_size (hk _ o q)) (Nat.lt_irrefl _)
        have hl' : ss'.length = ss.length := b2.length_eq
        obtain ⟨en, hat⟩ := sortedHeap_at (out := (arrOf st').map (·.2)) hoL
        refine ⟨_, I.come (n := .list (ss'.map V.str)) (a := h'.objs.size) (tk := tk) (fun b o eb => ?_) hD ⟨_, hat, by rw [List.length_map]; omega, _, _, rfl, strsAre_to b1⟩, hQ ss' b2 b3 _ (I.none_of_new hD) (I.notFz (I.none_of_new hD))⟩
        have hb := hk b o eb
        have hlt := Heap.lt_size hb
        rw [sortedHeap_old (Nat.ne_of_lt hlt) (by rw [Heap.size_push]; exact Nat.lt_succ_of_lt hlt)]
        exact Heap.get?_push_of_some _ hb
      · exact hss.elim
    · exact hss.elim
  · exact h.elim

end
end Mine

namespace Mine
open PySem PySem.Calls PySem.SeqAt PySem.W

/-- what a def's contract says: frozen things, arguments, what it may give, what it may raise, the heap -/
abbrev Tr := List Nat → List V → (V → AH → Prop) → (Value → AH → Prop) → AH → Prop

/-- what the walk of a block knows -/
structure Kx where
  C : Cx
  kd : Str → Option NameKind
  fz : List Nat
  d : Nat
  free : Bool
  gv : Str → Option V
  ct : Str → Option Tr

def GV (C : Cx) (x : Str) : Option Value := (C.mg x).or (C.mb x)

/-- a thing that a plain call may call -/
def Callee (C : Cx) (f : Value) : Prop :=
  ∀ (A : Around) (E : Value → Shared → Prop) (s : Shared) (Q : Keeper → Shared → Prop), (∀ b o, C.h₀.get? b = some o → s.heap.get? b = some o) → Q .frame s → Q .machine s → wpAny C.M A (keeperOf f) Q E s

structure KOk (K : Kx) : Prop where
  gv : ∀ x v, K.gv x = some v → ∃ cv, GV K.C x = some cv ∧ toV cv = v
  ct : ∀ x T, K.ct x = some T → ∃ f, GV K.C x = some f ∧ Callee K.C f ∧ ∀ fz vs Q X H, T fz vs Q X H → CallsTo K.C fz K.d K.free f vs Q X H
  dbg : K.kd "__debug__" = none
  cdi : K.kd "__classdict__" = none

def zcw (K : Kx) (ρ : Env') (x : Str) (Q : V → Prop) : Prop :=
  match K.kd x with
  | some .globalImplicit => (match K.gv x with | some v => Q v | none => False)
  | some .globalExplicit => False
  | some _ => (match ρ x with | some v => Q v | none => False)
  | none => False

/-- calls of what is no def of the text -/
def opCall (fz : List Nat) (f : V) (vs : List V) (Q : V → AH → Prop) (H : AH) : Prop :=
  match f with
  | .bi "sorted" => opSorted fz vs Q H
  | .bi id => opBi id vs Q H
  | .typ "range" => opRange fz vs Q H
  | .typ T => opTyp fz T vs Q H
  | _ => False

def zdk : V → Bool
  | .ref _ => false
  | _ => true

/-- built-ins that walk, and so want no exception at hand -/
def needFree : V → Bool
  | .bi "min" => true
  | .bi "sorted" => true
  | .bi "all" => true
  | _ => false

def noDebug (scope : Scope) : Bool := scope.names.all fun x => x.1 != ("__debug__" : Str) && x.1 != ("__classdict__" : Str)

def zde : Expr → Bool
  | .Starred _ _ => true
  | _ => false
def zdf : Expr → Bool
  | .Set _ _ _ => true
  | _ => false
def zdh : Expr → Bool
  | .Call (.Name _ _) [] [] _ => false
  | _ => true
def zdd : List Expr → Bool
  | [] => true
  | e :: r => !zde e && zdd r
def zdg : List Expr → Bool
  | [] => true
  | e :: r => !zdf e && zdg r

/-- a branch -/
def br (c : Bool) (A B : Prop) : Prop := if c = true then A else B
theorem zb {c : Bool} {A B : Prop} : br c A B = (if c = true then A else B) := (rfl)
theorem br_t {A B : Prop} (h : br true A B) : A := by rw [zb, if_pos rfl] at h; exact h
theorem br_f {A B : Prop} (h : br false A B) : B := by rw [zb, if_neg (by decide)] at h; exact h
theorem zc {p : Prop} [Decidable p] {A B : Prop} : (if p then A else B) = ((p → A) ∧ (¬ p → B)) := by
  split <;> simp_all

abbrev WE := Expr → (V → AH → Prop) → AH → Prop

def evs (we : WE) : List Expr → (List V → AH → Prop) → AH → Prop
  | [], Q, H => Q [] H
  | e :: r, Q, H => we e (fun v H₁ => evs we r (fun vs H₂ => Q (v :: vs) H₂) H₁) H

def bopE (we : WE) (op : BoolOp) : List Expr → (V → AH → Prop) → AH → Prop
  | [], _, _ => False
  | [e], Q, H => we e Q H
  | e :: r, Q, H => we e (fun v H₁ => opTruth v (fun b => match op with
      | .And => br b (bopE we op r Q H₁) (Q v H₁)
      | .Or => br b (Q v H₁) (bopE we op r Q H₁)) H₁) H

def cmpE (we : WE) : V → List CmpOp → List Expr → (Bool → AH → Prop) → AH → Prop
  | a, [op], [e], k, H => we e (fun b H₁ => opCmp op a b (fun r => k r H₁) H₁) H
  | a, op :: ops, e :: es, k, H => we e (fun b H₁ => opCmp op a b (fun r => br r (cmpE we b ops es k H₁) (k false H₁)) H₁) H
  | _, _, _, _, _ => False

def optE (we : WE) : Option Expr → (V → AH → Prop) → AH → Prop
  | none, Q, H => Q .none H
  | some e, Q, H => we e Q H

def bopT (wt : Expr → (Bool → AH → Prop) → AH → Prop) (op : BoolOp) : List Expr → (Bool → AH → Prop) → AH → Prop
  | [], k, H => k (op == .And) H
  | e :: r, k, H => wt e (fun b H₁ => match op with
      | .And => br b (bopT wt op r k H₁) (k false H₁)
      | .Or => br b (k true H₁) (bopT wt op r k H₁)) H

def Kx.comp (K : Kx) (scope : Scope) (v : V) : Kx := { K with kd := kdC scope K.kd, fz := srcOf v ++ K.fz }
def Kx.more (K : Kx) (v : V) : Kx := { K with fz := srcOf v ++ K.fz }

def compT (we : WE) (wt : Expr → (Bool → AH → Prop) → AH → Prop) (ifs : List Expr) (elt : Expr) (J : List V → AH → Prop) (ys : List V) (H : AH) : Prop :=
  match ifs with
  | [] => we elt (fun v H₁ => J (ys ++ [v]) H₁) H
  | [c] => wt c (fun b H₁ => br b (we elt (fun v H₂ => J (ys ++ [v]) H₂) H₁) (J ys H₁)) H
  | _ => False

mutual
def wpE : Nat → Kx → Env' → (Value → AH → Prop) → Expr → (V → AH → Prop) → AH → Prop
  | 0, _, _, _, _, _, _ => False
  | n + 1, K, ρ, X, e, Q, H =>
    match e with
    | .Constant c _ _ => (match c with | .none => Q .none H | .bool b => Q (.bool b) H | .int i => Q (.int i) H | .str s => Q (.str s) H | _ => False)
    | .Name x _ => zcw K ρ x (fun v => Q v H)
    | .BinOp l op r _ => wpE n K ρ X l (fun a H₁ => wpE n K ρ X r (fun b H₂ => opBin K.fz op a b Q H₂) H₁) H
    | .UnaryOp .Not x _ => wpE n K ρ X x (fun v H₁ => opTruth v (fun b => Q (.bool (!b)) H₁) H₁) H
    | .UnaryOp .USub x _ => wpE n K ρ X x (fun v H₁ => match v with | .int i => Q (.int (-i)) H₁ | _ => False) H
    | .BoolOp op es _ => bopE (wpE n K ρ X) op es Q H
    | .IfExp t a b _ => wpT n K ρ X t (fun c H₁ => br c (wpE n K ρ X a Q H₁) (wpE n K ρ X b Q H₁)) H
    | .Compare l ops es _ => zdg es = true ∧ wpE n K ρ X l (fun a H₁ => cmpE (wpE n K ρ X) a ops es (fun r H₂ => Q (.bool r) H₂) H₁) H
    | .Call (.Attribute o name ap) args kws p =>
      (ap.endLine == p.line && decide (args.length < 30) && kws.isEmpty && zdd args && zdh o) = true ∧
        wpE n K ρ X o (fun ov H₁ => opGet H₁ ov name fun id => evs (wpE n K ρ X) args (fun vs H₂ => opM K.fz id (ov :: vs) Q H₂) H₁) H
    | .Call (.Name f _) args kws _ => (kws.isEmpty && zdd args) = true ∧ K.kd f = some .globalImplicit ∧
      (match K.ct f with
      | some T => evs (wpE n K ρ X) args (fun vs H₁ => T K.fz vs Q X H₁) H
      | none => (match K.gv f with
        | some v => zdk v = true ∧ evs (wpE n K ρ X) args (fun vs H₁ => (K.free || !needFree v) = true ∧ opCall K.fz v vs Q H₁) H
        | none => False))
    | .List es _ => (zdd es && decide (es.length ≤ 1000)) = true ∧ evs (wpE n K ρ X) es (fun vs H₁ => made K.fz (.list vs) Q H₁) H
    | .Tuple es _ _ => (zdd es && decide (es.length ≤ 1000)) = true ∧ evs (wpE n K ρ X) es (fun vs H₁ => made K.fz (.tuple vs) Q H₁) H
    | .Dict [] [] _ => made K.fz (.sdict []) Q H
    | .Subscript v (.Slice lo hi none _) _ => wpE n K ρ X v (fun ov H₁ => optE (wpE n K ρ X) lo (fun l H₂ => optE (wpE n K ρ X) hi (fun u H₃ => opSlice K.fz ov l u Q H₃) H₂) H₁) H
    | .Subscript v i _ => wpE n K ρ X v (fun ov H₁ => wpE n K ρ X i (fun iv H₂ => opIdx ov iv (fun r => Q r H₂) H₂) H₁) H
    | .ListComp elt [⟨.Name x _, iter, ifs, 0⟩] scope _ =>
      (K.free && compOk scope K.kd x && noDebug scope && decide (ifs.length ≤ 1)) = true ∧ wpE n K ρ X iter (fun v H₁ => ∃ xs, ItemsV H₁ v xs ∧ xs.length ≤ sizeLine ∧ ∃ J : Nat → List V → AH → Prop, J 0 [] H₁ ∧
        (∀ k y ys H', xs[k]? = some y → J k ys H' → compT (wpE n (K.comp scope v) (upd (zdr scope K.kd ρ) x y) fun _ _ => False) (wpT n (K.comp scope v) (upd (zdr scope K.kd ρ) x y) fun _ _ => False) ifs elt (J (k + 1)) ys H') ∧
        ∀ ys H', ys.length ≤ xs.length → J xs.length ys H' → made K.fz (.list ys) Q H') H
    | _ => False

def wpT : Nat → Kx → Env' → (Value → AH → Prop) → Expr → (Bool → AH → Prop) → AH → Prop
  | 0, _, _, _, _, _, _ => False
  | n + 1, K, ρ, X, e, k, H =>
    match e with
    | .UnaryOp .Not x _ => wpT n K ρ X x (fun b H₁ => k (!b) H₁) H
    | .BoolOp op es _ => bopT (wpT n K ρ X) op es k H
    | .Compare l ops es _ => zdg es = true ∧ wpE n K ρ X l (fun a H₁ => cmpE (wpE n K ρ X) a ops es k H₁) H
    | .Name x p => wpE n K ρ X (.Name x p) (fun v H₁ => opTruth v (fun b => k b H₁) H₁) H
    | .Call f args kws p => wpE n K ρ X (.Call f args kws p) (fun v H₁ => opTruth v (fun b => k b H₁) H₁) H
    | .Subscript v i p => wpE n K ρ X (.Subscript v i p) (fun v H₁ => opTruth v (fun b => k b H₁) H₁) H
    | .Constant c i p => wpE n K ρ X (.Constant c i p) (fun v H₁ => opTruth v (fun b => k b H₁) H₁) H
    | _ => False
end
end Mine

namespace Mine
open PySem PySem.Calls PySem.SeqAt PySem.W PyProof.Rows

section
variable {n : Nat} {K : Kx} {ρ : Env'} {X : Value → AH → Prop} {Q : V → AH → Prop} {k : Bool → AH → Prop} {H : AH} {p q : Pos} {i : Nat}

theorem zd {c : Int} : wpE (n + 1) K ρ X (.Constant (.int c) i p) Q H = Q (.int c) H := (rfl)
theorem ze {c : Str} : wpE (n + 1) K ρ X (.Constant (.str c) i p) Q H = Q (.str c) H := (rfl)
theorem zg {c : Bool} : wpE (n + 1) K ρ X (.Constant (.bool c) i p) Q H = Q (.bool c) H := (rfl)
theorem zh : wpE (n + 1) K ρ X (.Constant .none i p) Q H = Q .none H := (rfl)
theorem zi {x : Str} : wpE (n + 1) K ρ X (.Name x p) Q H = zcw K ρ x (fun v => Q v H) := (rfl)
theorem zj {l r : Expr} {op : Operator} : wpE (n + 1) K ρ X (.BinOp l op r p) Q H = wpE n K ρ X l (fun a H₁ => wpE n K ρ X r (fun b H₂ => opBin K.fz op a b Q H₂) H₁) H := (rfl)
theorem zk {x : Expr} : wpE (n + 1) K ρ X (.UnaryOp .Not x p) Q H = wpE n K ρ X x (fun v H₁ => opTruth v (fun b => Q (.bool (!b)) H₁) H₁) H := (rfl)
def negV (v : V) (Q : V → AH → Prop) (H : AH) : Prop := match v with | .int i => Q (.int (-i)) H | _ => False
theorem zl {c : Int} : negV (.int c) Q H = Q (.int (-c)) H := (rfl)
theorem zn {x : Expr} : wpE (n + 1) K ρ X (.UnaryOp .USub x p) Q H = wpE n K ρ X x (fun v H₁ => negV v Q H₁) H := (rfl)
theorem zo {op : BoolOp} {es : List Expr} : wpE (n + 1) K ρ X (.BoolOp op es p) Q H = bopE (wpE n K ρ X) op es Q H := (rfl)
theorem zp {t a b : Expr} : wpE (n + 1) K ρ X (.IfExp t a b p) Q H = wpT n K ρ X t (fun c H₁ => br c (wpE n K ρ X a Q H₁) (wpE n K ρ X b Q H₁)) H := (rfl)
theorem zq {l : Expr} {ops : List CmpOp} {es : List Expr} : wpE (n + 1) K ρ X (.Compare l ops es p) Q H = (zdg es = true ∧ wpE n K ρ X l (fun a H₁ => cmpE (wpE n K ρ X) a ops es (fun r H₂ => Q (.bool r) H₂) H₁) H) := (rfl)
theorem zr {o : Expr} {name : Str} {args : List Expr} {kws : List Keyword} : wpE (n + 1) K ρ X (.Call (.Attribute o name q) args kws p) Q H = ((q.endLine == p.line && decide (args.length < 30) && kws.isEmpty && zdd args && zdh o) = true ∧
    wpE n K ρ X o (fun ov H₁ => opGet H₁ ov name fun id => evs (wpE n K ρ X) args (fun vs H₂ => opM K.fz id (ov :: vs) Q H₂) H₁) H) := (rfl)
def zt (K : Kx) (f : Str) (we : WE) (X : Value → AH → Prop) (args : List Expr) (Q : V → AH → Prop) (H : AH) : Prop :=
  match K.ct f with
  | some T => evs we args (fun vs H₁ => T K.fz vs Q X H₁) H
  | none => (match K.gv f with
    | some v => zdk v = true ∧ evs we args (fun vs H₁ => (K.free || !needFree v) = true ∧ opCall K.fz v vs Q H₁) H
    | none => False)
theorem zu {f : Str} {args : List Expr} {kws : List Keyword} : wpE (n + 1) K ρ X (.Call (.Name f q) args kws p) Q H = ((kws.isEmpty && zdd args) = true ∧ K.kd f = some .globalImplicit ∧ zt K f (wpE n K ρ X) X args Q H) := (rfl)
theorem zv {es : List Expr} : wpE (n + 1) K ρ X (.List es p) Q H = ((zdd es && decide (es.length ≤ 1000)) = true ∧ evs (wpE n K ρ X) es (fun vs H₁ => made K.fz (.list vs) Q H₁) H) := (rfl)
theorem zw {es : List Expr} : wpE (n + 1) K ρ X (.Tuple es i p) Q H = ((zdd es && decide (es.length ≤ 1000)) = true ∧ evs (wpE n K ρ X) es (fun vs H₁ => made K.fz (.tuple vs) Q H₁) H) := (rfl)
theorem zx : wpE (n + 1) K ρ X (.Dict [] [] p) Q H = made K.fz (.sdict []) Q H := (rfl)
theorem zy {v : Expr} {lo hi : Option Expr} : wpE (n + 1) K ρ X (.Subscript v (.Slice lo hi none q) p) Q H = wpE n K ρ X v (fun ov H₁ => optE (wpE n K ρ X) lo (fun l H₂ => optE (wpE n K ρ X) hi (fun u H₃ => opSlice K.fz ov l u Q H₃) H₂) H₁) H := (rfl)
theorem zz {v : Expr} {x : Str} : wpE (n + 1) K ρ X (.Subscript v (.Name x q) p) Q H = wpE n K ρ X v (fun ov H₁ => wpE n K ρ X (.Name x q) (fun iv H₂ => opIdx ov iv (fun r => Q r H₂) H₂) H₁) H := (rfl)
theorem zba {v : Expr} {c : Const} : wpE (n + 1) K ρ X (.Subscript v (.Constant c i q) p) Q H = wpE n K ρ X v (fun ov H₁ => wpE n K ρ X (.Constant c i q) (fun iv H₂ => opIdx ov iv (fun r => Q r H₂) H₂) H₁) H := (rfl)
theorem zbb {v l r : Expr} {op : Operator} : wpE (n + 1) K ρ X (.Subscript v (.BinOp l op r q) p) Q H = wpE n K ρ X v (fun ov H₁ => wpE n K ρ X (.BinOp l op r q) (fun iv H₂ => opIdx ov iv (fun r => Q r H₂) H₂) H₁) H := (rfl)
theorem zbc {v l r : Expr} : wpE (n + 1) K ρ X (.Subscript v (.Subscript l r q) p) Q H = wpE n K ρ X v (fun ov H₁ => wpE n K ρ X (.Subscript l r q) (fun iv H₂ => opIdx ov iv (fun r => Q r H₂) H₂) H₁) H := (rfl)
theorem zbd {v f : Expr} {as : List Expr} {kws : List Keyword} : wpE (n + 1) K ρ X (.Subscript v (.Call f as kws q) p) Q H = wpE n K ρ X v (fun ov H₁ => wpE n K ρ X (.Call f as kws q) (fun iv H₂ => opIdx ov iv (fun r => Q r H₂) H₂) H₁) H := (rfl)
theorem zbe {v x : Expr} {op : UnaryOp} : wpE (n + 1) K ρ X (.Subscript v (.UnaryOp op x q) p) Q H = wpE n K ρ X v (fun ov H₁ => wpE n K ρ X (.UnaryOp op x q) (fun iv H₂ => opIdx ov iv (fun r => Q r H₂) H₂) H₁) H := (rfl)
/-- a comprehension: what is to be shown of it -/
def compW (K : Kx) (ρ : Env') (we : V → V → WE) (wt : V → V → Expr → (Bool → AH → Prop) → AH → Prop) (ifs : List Expr) (elt : Expr) (Q : V → AH → Prop) (v : V) (H₁ : AH) : Prop :=
  ∃ xs, ItemsV H₁ v xs ∧ xs.length ≤ sizeLine ∧ ∃ J : Nat → List V → AH → Prop, J 0 [] H₁ ∧
    (∀ k y ys H', xs[k]? = some y → J k ys H' → compT (we v y) (wt v y) ifs elt (J (k + 1)) ys H') ∧ ∀ ys H', ys.length ≤ xs.length → J xs.length ys H' → made K.fz (.list ys) Q H'
theorem zbf {elt iter : Expr} {x : Str} {ifs : List Expr} {scope : Scope} : wpE (n + 1) K ρ X (.ListComp elt [⟨.Name x q, iter, ifs, 0⟩] scope p) Q H = ((K.free && compOk scope K.kd x && noDebug scope && decide (ifs.length ≤ 1)) = true ∧
    wpE n K ρ X iter (compW K ρ (fun v y => wpE n (K.comp scope v) (upd (zdr scope K.kd ρ) x y) fun _ _ => False) (fun v y => wpT n (K.comp scope v) (upd (zdr scope K.kd ρ) x y) fun _ _ => False) ifs elt Q) H) := (rfl)

theorem zbg {x : Expr} : wpT (n + 1) K ρ X (.UnaryOp .Not x p) k H = wpT n K ρ X x (fun b H₁ => k (!b) H₁) H := (rfl)
theorem zbh {op : BoolOp} {es : List Expr} : wpT (n + 1) K ρ X (.BoolOp op es p) k H = bopT (wpT n K ρ X) op es k H := (rfl)
theorem zbi {l : Expr} {ops : List CmpOp} {es : List Expr} : wpT (n + 1) K ρ X (.Compare l ops es p) k H = (zdg es = true ∧ wpE n K ρ X l (fun a H₁ => cmpE (wpE n K ρ X) a ops es k H₁) H) := (rfl)
theorem zbj {x : Str} : wpT (n + 1) K ρ X (.Name x p) k H = wpE n K ρ X (.Name x p) (fun v H₁ => opTruth v (fun b => k b H₁) H₁) H := (rfl)
theorem zbk {f : Expr} {args : List Expr} {kws : List Keyword} : wpT (n + 1) K ρ X (.Call f args kws p) k H = wpE n K ρ X (.Call f args kws p) (fun v H₁ => opTruth v (fun b => k b H₁) H₁) H := (rfl)
theorem zbl {v j : Expr} : wpT (n + 1) K ρ X (.Subscript v j p) k H = wpE n K ρ X (.Subscript v j p) (fun v H₁ => opTruth v (fun b => k b H₁) H₁) H := (rfl)
theorem zbm {c : Const} : wpT (n + 1) K ρ X (.Constant c i p) k H = wpE n K ρ X (.Constant c i p) (fun v H₁ => opTruth v (fun b => k b H₁) H₁) H := (rfl)

theorem zbn {we : WE} {Q : List V → AH → Prop} : evs we [] Q H = Q [] H := (rfl)
theorem zbo {we : WE} {e : Expr} {r : List Expr} {Q : List V → AH → Prop} : evs we (e :: r) Q H = we e (fun v H₁ => evs we r (fun vs H₂ => Q (v :: vs) H₂) H₁) H := (rfl)
theorem zbp {we : WE} {op : BoolOp} {e : Expr} : bopE we op [e] Q H = we e Q H := (rfl)
theorem zbq {we : WE} {e e' : Expr} {r : List Expr} : bopE we .And (e :: e' :: r) Q H = we e (fun v H₁ => opTruth v (fun b => br b (bopE we .And (e' :: r) Q H₁) (Q v H₁)) H₁) H := (rfl)
theorem zbr {we : WE} {e e' : Expr} {r : List Expr} : bopE we .Or (e :: e' :: r) Q H = we e (fun v H₁ => opTruth v (fun b => br b (Q v H₁) (bopE we .Or (e' :: r) Q H₁)) H₁) H := (rfl)
theorem zbs {wt : Expr → (Bool → AH → Prop) → AH → Prop} : bopT wt .And [] k H = k true H := (rfl)
theorem zbt {wt : Expr → (Bool → AH → Prop) → AH → Prop} : bopT wt .Or [] k H = k false H := (rfl)
theorem zbu {wt : Expr → (Bool → AH → Prop) → AH → Prop} {e : Expr} {r : List Expr} : bopT wt .And (e :: r) k H = wt e (fun b H₁ => br b (bopT wt .And r k H₁) (k false H₁)) H := (rfl)
theorem zbv {wt : Expr → (Bool → AH → Prop) → AH → Prop} {e : Expr} {r : List Expr} : bopT wt .Or (e :: r) k H = wt e (fun b H₁ => br b (k true H₁) (bopT wt .Or r k H₁)) H := (rfl)
theorem zbw {we : WE} {a : V} {op : CmpOp} {e : Expr} : cmpE we a [op] [e] k H = we e (fun b H₁ => opCmp op a b (fun r => k r H₁) H₁) H := (rfl)
theorem zbx {we : WE} {a : V} {op op' : CmpOp} {e e' : Expr} {ops : List CmpOp} {es : List Expr} : cmpE we a (op :: op' :: ops) (e :: e' :: es) k H = we e (fun b H₁ => opCmp op a b (fun r => br r (cmpE we b (op' :: ops) (e' :: es) k H₁) (k false H₁)) H₁) H := (rfl)
theorem zby {we : WE} : optE we none Q H = Q .none H := (rfl)
theorem zbz {we : WE} {e : Expr} : optE we (some e) Q H = we e Q H := (rfl)
theorem zca {we : WE} {wt : Expr → (Bool → AH → Prop) → AH → Prop} {elt : Expr} {J : List V → AH → Prop} {ys : List V} : compT we wt [] elt J ys H = we elt (fun v H₁ => J (ys ++ [v]) H₁) H := (rfl)
theorem zcb {we : WE} {wt : Expr → (Bool → AH → Prop) → AH → Prop} {c elt : Expr} {J : List V → AH → Prop} {ys : List V} : compT we wt [c] elt J ys H = wt c (fun b H₁ => br b (we elt (fun v H₂ => J (ys ++ [v]) H₂) H₁) (J ys H₁)) H := (rfl)
end

end Mine

namespace Mine
open PySem PySem.Calls PySem.SeqAt PySem.W

section
variable {C : Cx} {sn : Snap} {A : Around} {env : Env} {ρ : Str → Option V} {H : AH} {s : Shared} {E : Value → Shared → Prop} {fz : List Nat} {d : Nat} {we : WE} {pos : Pos}

theorem starEach_plain {e : Expr} {r : List Expr} (h : zde e = false) : starEach (e :: r) env = (false, eval e env) :: starEach r env := by
  cases e <;> first | rfl | (exact absurd h (by simp [zde]))

theorem plain_args : ∀ {es : List Expr}, zdd es = true → plainArgs (backTo pos (starEach es env)) ∧ (backTo pos (starEach es env)).map (·.2) = es.map fun e => eval e env
  | [], _ => ⟨fun x hx => by simp [starEach, backTo] at hx, rfl⟩
  | e :: r, h => by
    simp only [zdd, Bool.and_eq_true, Bool.not_eq_true'] at h
    obtain ⟨h1, h2⟩ := plain_args (es := r) h.2
    rw [starEach_plain h.1]
    refine ⟨fun x hx => ?_, ?_⟩
    · rcases List.mem_cons.mp (show x ∈ (false, eval e env) :: backTo pos (starEach r env) from hx) with rfl | hx
      · rfl
      · exact h1 x hx
    · show eval e env :: (backTo pos (starEach r env)).map (·.2) = _
      rw [h2]; rfl

theorem evs_sound (IH : ∀ e Q H, we e Q H → TM C sn A env ρ (eval e env) (fun v H' => Q (toV v) H') E H) : ∀ (es : List Expr) (Q : List V → AH → Prop) (H : AH), evs we es Q H →
    TMs C sn A env ρ E (es.map fun e => eval e env) (fun vs H' => Q (vs.map toV) H') H
  | [], Q, H, h => h
  | e :: r, Q, H, h => by
    show TM C sn A env ρ (eval e env) _ E H
    exact (IH e _ H h).mono fun v H₁ h₁ => evs_sound IH r _ H₁ h₁

theorem args_sound (IH : ∀ e Q H, we e Q H → TM C sn A env ρ (eval e env) (fun v H' => Q (toV v) H') E H) {es : List Expr} {Q : List V → AH → Prop} (hp : zdd es = true) (h : evs we es Q H) :
    plainArgs (backTo pos (starEach es env)) ∧ TMs C sn A env ρ E ((backTo pos (starEach es env)).map (·.2)) (fun vs H' => Q (vs.map toV) H') H := by
  obtain ⟨h1, h2⟩ := plain_args (pos := pos) (env := env) hp
  exact ⟨h1, by rw [h2]; exact evs_sound IH es Q H h⟩

theorem TMs.length {ts : List (Sem Value)} {Q : List Value → AH → Prop} (h : TMs C sn A env ρ E ts Q H) : TMs C sn A env ρ E ts (fun vs H' => vs.length = ts.length ∧ Q vs H') H := by
  induction ts generalizing Q H with
  | nil => exact ⟨rfl, h⟩
  | cons t r ih => exact TM.mono h fun v H₁ h₁ => (ih h₁).mono fun vs H₂ ⟨h1, h2⟩ => ⟨by simp [h1], h2⟩

theorem bopE_sound (IH : ∀ e Q H, we e Q H → TM C sn A env ρ (eval e env) (fun v H' => Q (toV v) H') E H) (op : BoolOp) : ∀ (es : List Expr) (Q : V → AH → Prop) (H : AH), bopE we op es Q H →
    TM C sn A env ρ (boolOp pos op (evalEach es env)) (fun v H' => Q (toV v) H') E H
  | [], _, _, h => h.elim
  | [e], Q, H, h => IH e Q H h
  | e :: e' :: r, Q, H, h => by
    have rest := bopE_sound IH op (e' :: r)
    show TM C sn A env ρ (do
      let v ← eval e env
      standAt pos
      let t ← holding [v] (truthy v)
      match op, t with
      | .And, false | .Or, true => pure v
      | _, _ => boolOp pos op (evalEach (e' :: r) env)) _ E H
    have h' : we e (fun v H₁ => opTruth v (fun b => match op with
      | .And => br b (bopE we op (e' :: r) Q H₁) (Q v H₁)
      | .Or => br b (Q v H₁) (bopE we op (e' :: r) Q H₁)) H₁) H := by
      cases op <;> exact h
    refine .bind ((IH e _ H h').mono fun v H₁ h₁ => .bind (.standAt (.bind (.holding ((TM.truthy h₁).mono fun b H₂ hb => ?_)))))
    obtain ⟨hb, rfl⟩ := hb
    cases op <;> cases b
    · exact .pure (br_f hb)
    · exact rest Q _ (br_t hb)
    · exact rest Q _ (br_f hb)
    · exact .pure (br_t hb)

theorem behind_notSet {op : CmpOp} {e : Expr} (h : zdf e = false) : behindInMarks op e = false := by
  cases e <;> first | rfl | (exact absurd h (by simp [zdf]))

theorem markedEach_plain : ∀ {ops : List CmpOp} {es : List Expr}, zdg es = true → markedEach ops es (evalEach es env) = evalEach es env
  | [], es, _ => by cases es <;> rfl
  | op :: ops, [], _ => by cases ops <;> rfl
  | op :: ops, e :: es, h => by
    simp only [zdg, Bool.and_eq_true, Bool.not_eq_true'] at h
    have ih := markedEach_plain (ops := ops) (es := es) h.2
    cases ops with
    | nil =>
      cases es with
      | nil => show [markedBehindIn op e (eval e env)] = _; rw [markedBehindIn_of_false (behind_notSet h.1)]; rfl
      | cons e' es => show eval e env :: markedEach [] (e' :: es) (evalEach (e' :: es) env) = _; rw [ih]; rfl
    | cons op' ops => show eval e env :: markedEach (op' :: ops) es (evalEach es env) = _; rw [ih]; rfl

theorem cmpE_sound (hr : Room A) (IH : ∀ e Q H, we e Q H → TM C sn A env ρ (eval e env) (fun v H' => Q (toV v) H') E H) : ∀ (ops : List CmpOp) (es : List Expr) (a : Value) (k : Bool → AH → Prop) (H : AH), cmpE we (toV a) ops es k H →
    TM C sn A env ρ (compareChain pos a ops (evalEach es env)) (fun v H' => ∃ r, v = .bool r ∧ k r H') E H ∧ TM C sn A env ρ (testChain pos a ops (evalEach es env)) (fun r H' => k r H') E H
  | [], [], _, _, _, h => h.elim
  | [], _ :: _, _, _, _, h => h.elim
  | [op], [], _, _, _, h => h.elim
  | _ :: _ :: _, [], _, _, _, h => h.elim
  | [op], [e], a, k, H, h => by
    have h : we e (fun b H₁ => opCmp op (toV a) b (fun r => k r H₁) H₁) H := h
    constructor
    · show TM C sn A env ρ (do let rv ← holding [a] (eval e env); standAt pos; operate [a, rv] (compareOp op a rv)) _ E H
      refine .bind (.holding ((IH e _ H h).mono fun b H₁ h₁ => .bind (.standAt (.operate ((TM.cmp hr h₁).mono fun v H₂ h₂ => ?_)))))
      obtain ⟨⟨r, rfl, hk⟩, rfl⟩ := h₂
      exact ⟨r, rfl, hk⟩
    · show TM C sn A env ρ (do let rv ← holding [a] (eval e env); standAt pos; let c ← operate [a, rv] (compareOp op a rv); holding [c] (truthy c)) _ E H
      refine .bind (.holding ((IH e _ H h).mono fun b H₁ h₁ => .bind (.standAt (.bind (.operate ((TM.cmp hr h₁).mono fun v H₂ h₂ => ?_))))))
      obtain ⟨⟨r, rfl, hk⟩, rfl⟩ := h₂
      exact .holding ((TM.truthy (v := .bool r) (k := fun b => k b H₂) hk).mono fun b H₃ ⟨h1, h2⟩ => by subst h2; exact h1)
  | [op], e :: e' :: es, a, k, H, h => by
    have h : we e (fun b H₁ => opCmp op (toV a) b (fun r => br r (cmpE we b [] (e' :: es) k H₁) (k false H₁)) H₁) H := h
    constructor
    · show TM C sn A env ρ (do
        let rv ← holding [a] (eval e env)
        standAt pos
        let c ← holding [a, rv] (compareOp op a rv)
        release [a, rv] [c]
        if ← holding [c, rv] (truthy c) then compareChain pos rv [] (evalEach (e' :: es) env) else pure c) _ E H
      refine .bind (.holding ((IH e _ H h).mono fun b H₁ h₁ => .bind (.standAt (.bind (.holding ((TM.cmp hr h₁).mono fun v H₂ h₂ => ?_))))))
      obtain ⟨⟨r, rfl, hk⟩, rfl⟩ := h₂
      refine .bind (.release (.bind (.holding ((TM.truthy (v := .bool r) (k := fun b => b = r) rfl).mono fun b' H₃ ⟨h1, h2⟩ => ?_))))
      subst h1; subst h2
      cases b'
      · exact .pure ⟨false, rfl, br_f hk⟩
      · exact (br_t hk).elim
    · show TM C sn A env ρ (do
        let rv ← holding [a] (eval e env)
        standAt pos
        let c ← holding [a, rv] (compareOp op a rv)
        release [a, rv] [c]
        if ← holding [c, rv] (truthy c) then testChain pos rv [] (evalEach (e' :: es) env) else pure false) _ E H
      refine .bind (.holding ((IH e _ H h).mono fun b H₁ h₁ => .bind (.standAt (.bind (.holding ((TM.cmp hr h₁).mono fun v H₂ h₂ => ?_))))))
      obtain ⟨⟨r, rfl, hk⟩, rfl⟩ := h₂
      refine .bind (.release (.bind (.holding ((TM.truthy (v := .bool r) (k := fun b => b = r) rfl).mono fun b' H₃ ⟨h1, h2⟩ => ?_))))
      subst h1; subst h2
      cases b'
      · exact .pure (br_f hk)
      · exact (br_t hk).elim
  | op :: op' :: ops, e :: es, a, k, H, h => by
    have h : we e (fun b H₁ => opCmp op (toV a) b (fun r => br r (cmpE we b (op' :: ops) es k H₁) (k false H₁)) H₁) H := h
    constructor
    · show TM C sn A env ρ (do
        let rv ← holding [a] (eval e env)
        standAt pos
        let c ← holding [a, rv] (compareOp op a rv)
        release [a, rv] [c]
        if ← holding [c, rv] (truthy c) then compareChain pos rv (op' :: ops) (evalEach es env) else pure c) _ E H
      refine .bind (.holding ((IH e _ H h).mono fun b H₁ h₁ => .bind (.standAt (.bind (.holding ((TM.cmp hr h₁).mono fun v H₂ h₂ => ?_))))))
      obtain ⟨⟨r, rfl, hk⟩, rfl⟩ := h₂
      refine .bind (.release (.bind (.holding ((TM.truthy (v := .bool r) (k := fun b => b = r) rfl).mono fun b' H₃ ⟨h1, h2⟩ => ?_))))
      subst h1; subst h2
      cases b'
      · exact .pure ⟨false, rfl, br_f hk⟩
      · exact (cmpE_sound hr IH (op' :: ops) es b k _ (br_t hk)).1
    · show TM C sn A env ρ (do
        let rv ← holding [a] (eval e env)
        standAt pos
        let c ← holding [a, rv] (compareOp op a rv)
        release [a, rv] [c]
        if ← holding [c, rv] (truthy c) then testChain pos rv (op' :: ops) (evalEach es env) else pure false) _ E H
      refine .bind (.holding ((IH e _ H h).mono fun b H₁ h₁ => .bind (.standAt (.bind (.holding ((TM.cmp hr h₁).mono fun v H₂ h₂ => ?_))))))
      obtain ⟨⟨r, rfl, hk⟩, rfl⟩ := h₂
      refine .bind (.release (.bind (.holding ((TM.truthy (v := .bool r) (k := fun b => b = r) rfl).mono fun b' H₃ ⟨h1, h2⟩ => ?_))))
      subst h1; subst h2
      cases b'
      · exact .pure (br_f hk)
      · exact (cmpE_sound hr IH (op' :: ops) es b k _ (br_t hk)).2

theorem bopT_sound {wt : Expr → (Bool → AH → Prop) → AH → Prop} (IH : ∀ e k H, wt e k H → TM C sn A env ρ (isTrue e env (eval e env)) k E H) (op : BoolOp) : ∀ (es : List Expr) (k : Bool → AH → Prop) (H : AH), bopT wt op es k H →
    TM C sn A env ρ (allTrue op es env) k E H
  | [], k, H, h => by rw [arm_allTrue_nil]; exact .pure h
  | e :: r, k, H, h => by
    have rest := bopT_sound IH op r
    rw [arm_allTrue_cons]
    refine .bind ((IH e _ H h).mono fun b H₁ h₁ => ?_)
    cases op <;> cases b
    · exact .pure (br_f h₁)
    · exact rest k H₁ (br_t h₁)
    · exact rest k H₁ (br_f h₁)
    · exact .pure (br_t h₁)

theorem GV.load {x : Str} {cv : Value} {Q : Value → AH → Prop} (hk : env.kindOf x = some .globalImplicit) (hv : GV C x = some cv) (h : Q cv H) : TM C sn A env ρ (loadName env x) Q E H := by
  unfold GV at hv
  cases hm : C.mg x with
  | some v => rw [hm] at hv; simp at hv; subst hv; exact TM.loadGlob hk hm h
  | none => rw [hm] at hv; simp at hv; exact TM.loadBi hk hm hv h

theorem tm_callWith {f : Value} {args : List (Bool × Sem Value)} {Q : Value → AH → Prop} (hc : Callee C f) (hp : plainArgs args)
    (h : TMs C sn A env ρ E (args.map (·.2)) (fun vs H' => TM C sn A env ρ (call f vs) Q E H') H) : TM C sn A env ρ (callWith pos f [] args []) Q E H := by
  have ha : args.any (·.1) = false := by rw [List.any_eq_false]; intro x hx; rw [hp x hx]; simp
  unfold callWith
  refine .bind (.holding (tm_evalArgs hp ?_))
  refine h.mono fun vs H' q => .bind (.standAt ?_)
  simp only [ha, List.any_nil, Bool.or_false, List.nil_append]
  have tail : ∀ {t : Sem Value}, TM C sn A env ρ t Q E H' → TM C sn A env ρ (t >>= fun r => PySem.holding [r] point >>= fun _ => pure r) Q E H' :=
    fun ht => .bind (ht.mono fun r _ hr => .bind (.holding (.point (.pure hr))))
  refine .bind ?_
  intro s I
  refine hc A E s _ I.base ⟨H', I, ?_⟩ ⟨H', I, ?_⟩
  · refine .ite ?_
    split
    · exact tail q
    · exact tail (by unfold callMarked; exact .keep q)
  · exact tail q

theorem Callee.func {a : Addr} {o : Obj} {fd : FuncData} (ho : C.h₀.get? a = some o) (hd : o.data = .func fd) : Callee C (.ref a) := by
  intro A E s Q hb h1 _
  unfold keeperOf
  refine wpAny_bind (wpAny_load (hb a o ho) ?_)
  rw [hd]; exact wpAny_pure h1
theorem Callee.other {f : Value} (hf : ∀ a, f ≠ .ref a) : Callee C f := by
  intro A E s Q _ _ h2
  have hk : keeperOf f = pure .machine := by cases f <;> first | rfl | exact absurd rfl (hf _)
  rw [hk]; exact wpAny_pure h2

theorem attributeBase_plain {o : Expr} {name : Str} {whole : Sem Value} (h : zdh o = true) : attributeBase o name env whole = whole := by
  unfold attributeBase
  split
  · exact absurd h (by simp [zdh])
  · rfl
end
end Mine

namespace Mine
open PySem PySem.Calls PySem.SeqAt PySem.W

theorem KOk.comp {K : Kx} (h : KOk K) {scope : Scope} (hn : noDebug scope = true) (v : V) : KOk (K.comp scope v) := by
  have none_ : ∀ x : Str, (∀ y ∈ scope.names, y.1 ≠ x) → kdC scope K.kd x = none := fun x hx => by
    unfold kdC
    rw [List.lookup_eq_none_iff]
    intro p hp
    obtain ⟨y, hy, rfl⟩ := List.mem_map.mp hp
    have := hx y hy
    split
    · simpa using fun e : x = y.1 => this e.symm
    · simpa using fun e : x = y.1 => this e.symm
  simp only [noDebug, List.all_eq_true, Bool.and_eq_true, bne_iff_ne] at hn
  exact ⟨h.gv, h.ct, none_ _ fun y hy => (hn y hy).1, none_ _ fun y hy => (hn y hy).2⟩

theorem KOk.more {K : Kx} (h : KOk K) (v : V) : KOk (K.more v) := ⟨h.gv, h.ct, h.dbg, h.cdi⟩

def SoundE (K : Kx) (ρ : Env') (X : Value → AH → Prop) (we : WE) : Prop :=
  ∀ e Q H, we e Q H → ∀ sn A env E, Good K.C K.fz K.d K.free sn A env → (∀ y, env.kindOf y = K.kd y) → Exits K.C sn env (fun cls ρ' H' => ρ' = ρ ∧ X cls H') E →
    TM K.C sn A env ρ (eval e env) (fun v H' => Q (toV v) H') E H
def SoundT (K : Kx) (ρ : Env') (X : Value → AH → Prop) (wt : Expr → (Bool → AH → Prop) → AH → Prop) : Prop :=
  ∀ e k H, wt e k H → ∀ sn A env E, Good K.C K.fz K.d K.free sn A env → (∀ y, env.kindOf y = K.kd y) → Exits K.C sn env (fun cls ρ' H' => ρ' = ρ ∧ X cls H') E →
    TM K.C sn A env ρ (isTrue e env (eval e env)) k E H

theorem notSet_of {n : Nat} {K : Kx} {ρ : Env'} {X : Value → AH → Prop} {iter : Expr} {Q : V → AH → Prop} {H : AH} (h : wpE n K ρ X iter Q H) (env : Env) : ∀ v, foldedSetIterable iter env v = pure v := by
  intro v
  cases iter <;> first
    | rfl
    | (cases n <;> exact h.elim)

theorem opCall_sound {C : Cx} {sn : Snap} {A : Around} {env : Env} {ρ : Env'} {E : Value → Shared → Prop} {f : Value} {vs : List Value} {Q : V → AH → Prop} {H : AH} (hm : needFree (toV f) = true → A.handled = none) (h : opCall sn.fz (toV f) (vs.map toV) Q H) :
    (∀ a, f ≠ .ref a) ∧ TM C sn A env ρ (call f vs) (fun v H' => Q (toV v) H') E H := by
  unfold opCall at h
  split at h
  · rename_i e
    have := toV_bi e; subst this
    exact ⟨fun a e => (nomatch e), tm_sorted (hm rfl) h⟩
  · rename_i e
    have := toV_bi e; subst this
    exact ⟨fun a e => (nomatch e), tm_bi (fun e' => hm (by rw [e']; rfl)) h⟩
  · rename_i e
    have := toV_typ e; subst this
    exact ⟨fun a e => (nomatch e), tm_range h⟩
  · rename_i T _ e
    have := toV_typ e; subst this
    exact ⟨fun a e => (nomatch e), tm_typ h⟩
  · exact h.elim

theorem name_sound {K : Kx} {sn : Snap} {A : Around} {env : Env} {ρ : Env'} {E : Value → Shared → Prop} {x : Str} {pos : Pos} {Q : V → AH → Prop} {H : AH} (ok : KOk K) (hkd : ∀ y, env.kindOf y = K.kd y)
    (h : zcw K ρ x (fun v => Q v H)) : TM K.C sn A env ρ (eval (.Name x pos) env) (fun v H' => Q (toV v) H') E H := by
  have hx : x ≠ ("__debug__" : Str) := by rintro rfl; unfold zcw at h; rw [ok.dbg] at h; exact h
  have hx2 : x ≠ ("__classdict__" : Str) := by rintro rfl; unfold zcw at h; rw [ok.cdi] at h; exact h
  have hxb : (x == ("__debug__" : Str)) = false := by simpa using hx
  have hxc : (x == ("__classdict__" : Str)) = false := by simpa using hx2
  rw [eval_Name env x pos hxb]
  refine .bind (.standAt ?_)
  unfold zcw at h
  split at h
  · rename_i hk
    split at h
    · rename_i v hv
      obtain ⟨cv, hg, rfl⟩ := ok.gv x v hv
      exact GV.load ((hkd x).trans hk) hg h
    · exact h.elim
  · exact h.elim
  · split at h
    · rename_i v hv
      exact TM.loadVar hv (fun cv e => by rw [e]; exact h) hxc
    · exact h.elim
  · exact h.elim

theorem compT_sound {K : Kx} {ρ : Env'} {we : WE} {wt : Expr → (Bool → AH → Prop) → AH → Prop} {ifs : List Expr} {elt : Expr} {J : List V → AH → Prop} {ys : List V} {H : AH}
    (hE : SoundE K ρ (fun _ _ => False) we) (hT : SoundT K ρ (fun _ _ => False) wt) (h : compT we wt ifs elt J ys H) (sn : Snap) (A : Around) (cenv : Env) (E : Value → Shared → Prop)
    (G : Good K.C K.fz K.d K.free sn A cenv) (hkd : ∀ y, cenv.kindOf y = K.kd y) : CompTurn K.C sn A cenv ρ ifs elt E J ys H := by
  have no : Exits K.C sn cenv (fun cls ρ' H' => ρ' = ρ ∧ False) E := fun _ _ _ _ _ h => h.2.elim
  unfold compT at h
  unfold CompTurn
  match ifs, h with
  | [], h => exact hE elt _ H h sn A cenv E G hkd no
  | [c], h =>
    refine (hT c _ H h sn A cenv E G hkd no).mono fun b H₁ h₁ => ?_
    cases b
    · exact br_f h₁
    · exact hE elt _ H₁ (br_t h₁) sn A cenv E G hkd no

theorem comp_shape {n : Nat} {K : Kx} {ρ : Env'} {X : Value → AH → Prop} {elt : Expr} {gens : List Comprehension} {scope : Scope} {pos : Pos} {Q : V → AH → Prop} {H : AH} (h : wpE (n + 1) K ρ X (.ListComp elt gens scope pos) Q H) :
    ∃ x px iter ifs, gens = [⟨.Name x px, iter, ifs, 0⟩] := by
  rcases gens with _ | ⟨⟨tgt, iter, ifs, ia⟩, _ | ⟨_, _⟩⟩
  · exact h.elim
  · cases tgt <;> try exact h.elim
    rcases ia with (_ | _) | _
    · exact ⟨_, _, _, _, rfl⟩
    · exact h.elim
    · exact h.elim
  · cases tgt <;> try exact h.elim
    rcases ia with (_ | _) | _ <;> exact h.elim

theorem wp_sound : ∀ (n : Nat), (∀ K ρ X, KOk K → SoundE K ρ X (wpE n K ρ X)) ∧ (∀ K ρ X, KOk K → SoundT K ρ X (wpT n K ρ X))
  | 0 => ⟨fun _ _ _ _ _ _ _ h => h.elim, fun _ _ _ _ _ _ _ h => h.elim⟩
  | n + 1 => by
    obtain ⟨ihE, ihT⟩ := wp_sound n
    constructor
    · intro K ρ X ok e Q H h sn A env E G hkd hE
      have IH : ∀ e Q H, wpE n K ρ X e Q H → TM K.C sn A env ρ (eval e env) (fun v H' => Q (toV v) H') E H := fun e Q H h => ihE K ρ X ok e Q H h sn A env E G hkd hE
      have IT : ∀ e k H, wpT n K ρ X e k H → TM K.C sn A env ρ (isTrue e env (eval e env)) k E H := fun e k H h => ihT K ρ X ok e k H h sn A env E G hkd hE
      have sub : ∀ (v i : Expr) (pos : Pos), wpE n K ρ X v (fun ov H₁ => wpE n K ρ X i (fun iv H₂ => opIdx ov iv (fun r => Q r H₂) H₂) H₁) H → TM K.C sn A env ρ (eval (.Subscript v i pos) env) (fun v H' => Q (toV v) H') E H := by
        intro v i pos h
        rw [eval_Subscript]
        refine .bind ((IH v _ H h).mono fun ov H₁ h₁ => .bind (.holding ((IH i _ H₁ h₁).mono fun iv H₂ h₂ => .bind (.standAt ?_))))
        exact (TM.idx (value := v) (slice := i) h₂).mono fun r H₃ ⟨hr, e⟩ => by subst e; exact hr
      cases e <;> try exact h.elim
      case Constant c k pos =>
        rw [eval_Constant]
        cases c with
        | none => exact .pure h
        | bool b => exact .pure h
        | int i => exact .mkInt fun t => h
        | str s => exact .mkText fun t => h
        | _ => exact h.elim
      case Name x pos =>
        exact name_sound ok hkd h
      case BinOp l op r pos =>
        rw [zj] at h
        rw [eval_BinOp]
        refine .bind ((IH l _ H h).mono fun a H₁ h₁ => .bind (.holding ((IH r _ H₁ h₁).mono fun b H₂ h₂ => .bind (.standAt (.operate (TM.bin (by rw [G.fz]; exact h₂)))))))
      case UnaryOp op x pos =>
        cases op <;> try exact h.elim
        case Not =>
          rw [zk] at h
          rw [arm_eval_UnaryOp]
          refine .bind ((IH x _ H h).mono fun v H₁ h₁ => .bind (.standAt (.holding ?_)))
          show TM K.C sn A env ρ (unaryOp .Not v) _ E H₁
          unfold unaryOp
          refine .holding ?_
          show TM K.C sn A env ρ (do return Value.bool (!(← truthy v))) _ E H₁
          exact .bind ((TM.truthy h₁).mono fun b H₂ ⟨hb, e⟩ => by subst e; exact .pure hb)
        case USub =>
          rw [zn] at h
          rw [arm_eval_UnaryOp]
          refine .bind ((IH x _ H h).mono fun v H₁ h₁ => .bind (.standAt (.holding ?_)))
          unfold negV at h₁
          split at h₁
          · rename_i i e
            obtain ⟨t, rfl⟩ := toV_int e
            intro s I
            exact PyProof.Rows.neg_int ⟨H₁, I.toks _, h₁⟩
          · exact h₁.elim
      case BoolOp op es pos =>
        rw [zo] at h
        rw [arm_eval_BoolOp]
        exact bopE_sound IH op es Q H h
      case IfExp t a b pos =>
        rw [zp] at h
        rw [arm_eval_IfExp]
        refine .bind ((IT t _ H h).mono fun c H₁ h₁ => ?_)
        cases c
        · exact IH b Q H₁ (br_f h₁)
        · exact IH a Q H₁ (br_t h₁)
      case Compare l ops es pos =>
        rw [zq] at h
        rw [arm_eval_Compare, markedEach_plain h.1]
        refine .bind ((IH l _ H h.2).mono fun a H₁ h₁ => ((cmpE_sound G.room IH ops es a _ H₁ h₁).1).mono fun v H₂ ⟨r, e, hk⟩ => ?_)
        subst e; exact hk
      case Call func args kws p =>
        cases func <;> try exact h.elim
        case Attribute o name ap =>
          rw [zr] at h
          obtain ⟨hb, h⟩ := h
          simp only [Bool.and_eq_true, beq_iff_eq, decide_eq_true_eq, List.isEmpty_iff] at hb
          obtain ⟨⟨⟨⟨hl, hn⟩, rfl⟩, hpl⟩, hpb⟩ := hb
          rw [arm_eval_Call, attributeBase_plain hpb]
          refine .bind ((IH o _ H h).mono fun ov H₁ h₁ => .bind (.standAt ?_))
          obtain ⟨hpa, _⟩ := plain_args (pos := p) (env := env) hpl
          have hform : methodCallForm (args.length + ([] : List Keyword).length) (backTo p (starEach args env)) (backToKw p (keywordEach [] env)) = true := by
            have h1 : (backTo p (starEach args env)).all (fun x => !x.1) = true := List.all_eq_true.mpr fun x hx => by rw [hpa x hx]; rfl
            unfold methodCallForm
            rw [h1]
            simp [keywordEach, backToKw]
            omega
          have hpos : methodCallPos true o env ap p = pure p := by unfold methodCallPos; simp [hl]
          unfold methodCall
          rw [hform, hpos]
          refine .bind (.holding ((tm_getM h₁).mono fun r H₂ hr => ?_))
          obtain ⟨id, rfl, hk, rfl⟩ := hr
          refine .bind (.pure ?_)
          obtain ⟨_, hts⟩ := args_sound (pos := p) IH hpl hk
          refine tm_callWith_other (fun a e => by cases e) hpa (hts.mono fun vs H₃ h₃ => ?_)
          exact tm_meth G.room (by rw [G.fz]; exact h₃)
        case Name f fp =>
          rw [zu] at h
          obtain ⟨hb, hk, h⟩ := h
          simp only [Bool.and_eq_true, List.isEmpty_iff] at hb
          obtain ⟨rfl, hpl⟩ := hb
          show TM K.C sn A env ρ (do callWith p (← eval (.Name f fp) env) [] (backTo p (starEach args env)) (backToKw p (keywordEach [] env))) _ E H
          have hf : f ≠ ("__debug__" : Str) := by rintro rfl; rw [ok.dbg] at hk; cases hk
          have hfb : (f == ("__debug__" : Str)) = false := by simpa using hf
          rw [eval_Name env f fp hfb]
          refine .bind (.bind (.standAt ?_))
          unfold zt at h
          split at h
          · rename_i T hT
            obtain ⟨fv, hg, hc, hT⟩ := ok.ct f T hT
            refine GV.load ((hkd f).trans hk) hg ?_
            obtain ⟨hpa, hts⟩ := args_sound (pos := p) IH hpl h
            exact tm_callWith hc hpa (hts.mono fun vs H₁ h₁ => hT _ _ Q X H₁ h₁ sn A env ρ E vs rfl G hE)
          · split at h
            · rename_i v hv
              obtain ⟨fv, hg, rfl⟩ := ok.gv f v hv
              refine GV.load ((hkd f).trans hk) hg ?_
              obtain ⟨hnr, h⟩ := h
              have hr : ∀ a, fv ≠ .ref a := fun a e => by rw [e] at hnr; cases hnr
              obtain ⟨hpa, hts⟩ := args_sound (pos := p) IH hpl h
              refine tm_callWith (Callee.other hr) hpa (hts.mono fun vs H₁ h₁ => ?_)
              refine (opCall_sound (fun e => G.hd ?_) (by rw [G.fz]; exact h₁.2)).2
              have := h₁.1
              simpa [e] using this
            · exact h.elim
      case List es pos =>
        rw [zv] at h
        obtain ⟨hb, h⟩ := h
        simp only [Bool.and_eq_true, decide_eq_true_eq] at hb
        rw [arm_eval_List]
        refine .bind (.standAt ?_)
        obtain ⟨hpa, hts⟩ := args_sound (pos := pos) IH hb.1 h
        refine tm_seqDisplay (mk := .list) (fun vs hz => ⟨by simpa using hz, _, _, rfl, by simp⟩) ((tm_spliced hpa hts.length).mono fun vs H₁ h₁ => ⟨?_, by rw [G.fz]; exact h₁.2⟩)
        have := h₁.1
        rw [(plain_args hb.1).2] at this
        rw [this, List.length_map]
        exact Nat.le_trans hb.2 (by unfold sizeLine; decide)
      case Tuple es k pos =>
        rw [zw] at h
        obtain ⟨hb, h⟩ := h
        simp only [Bool.and_eq_true, decide_eq_true_eq] at hb
        rw [arm_eval_Tuple]
        refine .bind (.standAt ?_)
        obtain ⟨hpa, hts⟩ := args_sound (pos := pos) IH hb.1 h
        refine tm_seqDisplay (mk := .tuple) (fun vs hz => ⟨by simpa using hz, rfl, rfl, _, _, rfl, by simp⟩) ((tm_spliced hpa hts.length).mono fun vs H₁ h₁ => ⟨?_, by rw [G.fz]; exact h₁.2⟩)
        have := h₁.1
        rw [(plain_args hb.1).2] at this
        rw [this, List.length_map]
        exact Nat.le_trans hb.2 (by unfold sizeLine; decide)
      case Dict ks vs pos =>
        cases ks with
        | nil =>
          cases vs with
          | nil =>
            rw [zx] at h
            intro s I
            have hD := get_size s.heap
            refine wpAny_Dict_empty ⟨_, I.come (n := .sdict []) (tk := s.toks) (fun b o e => Heap.get?_push_of_some _ e) hD ⟨_, Heap.get?_push_size _ rfl, by simp, [], ?_, rfl⟩, h _ (I.none_of_new hD) (by rw [← G.fz]; exact I.notFz (I.none_of_new hD))⟩
            exact ⟨#[], 0, ⟨rfl, rfl, rfl⟩, rfl, fun _ h => by simp at h, .nil, List.nodup_nil⟩
          | cons _ _ => exact h.elim
        | cons _ _ => exact h.elim
      case Subscript v i pos =>
        cases i <;> try exact sub _ _ _ h
        case Slice lo hi st sp =>
          cases st with
          | some _ => exact sub _ _ _ h
          | none =>
            rw [zy] at h
            have opt : ∀ (x : Option Expr) Q H, optE (wpE n K ρ X) x Q H → TM K.C sn A env ρ (evalPart x env) (fun v H' => Q (toV v) H') E H := by
              intro x Q H h
              cases x with
              | none => rw [evalPart_none]; exact .pure h
              | some e => rw [evalPart_some]; exact IH e Q H h
            rw [eval_Subscript]
            refine .bind ((IH v _ H h).mono fun ov H₁ h₁ => ?_)
            have := tm_slice (value := v) (pos := pos) (pp := sp) (o := ov) (Q := Q) ((opt lo _ H₁ h₁).mono fun l H₂ h₂ => (opt hi _ H₂ h₂).mono fun u H₃ h₃ => by rw [G.fz]; exact h₃)
            intro s I
            exact wpAny_bind (wpAny_holding (this s I))
      case ListComp elt gens scope pos =>
        obtain ⟨x, px, iter, ifs, rfl⟩ := comp_shape h
        rw [zbf] at h
        obtain ⟨hb, h⟩ := h
        simp only [Bool.and_eq_true] at hb
        obtain ⟨⟨⟨hfr, hok⟩, hnd⟩, hif⟩ := hb
        have G' : Good K.C K.fz K.d true sn A env := ⟨G.fz, fun _ => G.hd hfr, G.depth, G.units, G.frs⟩
        have hif : ifs.length ≤ 1 := by simpa using hif
        refine tm_comp G' hkd hok hif (notSet_of h env) ((IH iter _ H h).mono fun v H₁ h₁ => ?_)
        obtain ⟨xs, hx, hz, J, j0, turn, fin⟩ := h₁
        refine ⟨xs, hx, hz, J, j0, fun k y ys H' hy hJ sn' cenv E' Gc hkc => ?_, fin⟩
        exact compT_sound (ihE _ _ _ (ok.comp hnd _)) (ihT _ _ _ (ok.comp hnd _)) (turn k y ys H' hy hJ) sn' A cenv E' ⟨Gc.fz, fun _ => Gc.hd rfl, Gc.depth, Gc.units, Gc.frs⟩ hkc
    · intro K ρ X ok e k H h sn A env E G hkd hE
      have IH : ∀ e Q H, wpE n K ρ X e Q H → TM K.C sn A env ρ (eval e env) (fun v H' => Q (toV v) H') E H := fun e Q H h => ihE K ρ X ok e Q H h sn A env E G hkd hE
      have IT : ∀ e k H, wpT n K ρ X e k H → TM K.C sn A env ρ (isTrue e env (eval e env)) k E H := fun e k H h => ihT K ρ X ok e k H h sn A env E G hkd hE
      have val : ∀ e : Expr, wpE n K ρ X e (fun v H₁ => opTruth v (fun b => k b H₁) H₁) H → isTrue e env (eval e env) = (do let v ← eval e env; standAt e.pos; holding [v] (truthy v)) → TM K.C sn A env ρ (isTrue e env (eval e env)) k E H := by
        intro e h he
        rw [he]
        exact .bind ((IH e _ H h).mono fun v H₁ h₁ => .bind (.standAt (.holding ((TM.truthy h₁).mono fun b H₂ ⟨hb, e⟩ => by subst e; exact hb))))
      cases e <;> try exact h.elim
      case UnaryOp op x pos =>
        cases op <;> try exact h.elim
        rw [zbg] at h
        rw [arm_isTrue_UnaryOp]
        exact .bind ((IT x _ H h).mono fun b H₁ h₁ => .pure h₁)
      case BoolOp op es pos =>
        rw [zbh] at h
        rw [arm_isTrue_BoolOp]
        exact bopT_sound IT op es k H h
      case Compare l ops es pos =>
        rw [zbi] at h
        rw [arm_isTrue_Compare, markedEach_plain h.1]
        exact .bind ((IH l _ H h.2).mono fun a H₁ h₁ => (cmpE_sound G.room IH ops es a _ H₁ h₁).2)
      case Name => exact val _ h rfl
      case Call => exact val _ h rfl
      case Subscript => exact val _ h rfl
      case Constant => exact val _ h rfl
end Mine

namespace Mine
open PySem PySem.Calls PySem.SeqAt PySem.W

abbrev Post := Flw → Env' → AH → Prop

/-- what follows a suite's statement -/
def thenS (f : Env' → AH → Prop) (R : Post) : Post
  | .next => f
  | .brk => R .brk
  | .cont => R .cont
  | .ret v => R (.ret v)

def seqs (ws : Stmt → Post → Env' → AH → Prop) : List Stmt → Post → Env' → AH → Prop
  | [], R, ρ, H => R .next ρ H
  | st :: r, R, ρ, H => ws st (thenS (seqs ws r R) R) ρ H

def zdj (kd : Str → Option NameKind) (x : Str) : Bool := kd x == some .local || kd x == some .cell

def zdi : Expr → Bool
  | .ListComp _ _ _ _ => true | .SetComp _ _ _ _ => true | .DictComp _ _ _ _ _ => true
  | _ => false

def wpS : Nat → Kx → Exc → Stmt → Post → Env' → AH → Prop
  | 0, _, _, _, _, _, _ => False
  | n + 1, K, X, st, R, ρ, H =>
    match st with
    | .Return none _ => R (.ret .none) ρ H
    | .Return (some e) _ => wpE n K ρ (fun cls H => X cls ρ H) e (fun v H₁ => R (.ret v) ρ H₁) H
    | .Assign [.Name x _] v _ => zdi v = false ∧ zdj K.kd x = true ∧ wpE n K ρ (fun cls H => X cls ρ H) v (fun u H₁ => R .next (upd ρ x u) H₁) H
    | .Assign [.Subscript o i _] v _ => zdi v = false ∧ wpE n K ρ (fun cls H => X cls ρ H) v (fun u H₁ => wpE n K ρ (fun cls H => X cls ρ H) o (fun ov H₂ => wpE n K ρ (fun cls H => X cls ρ H) i (fun iv H₃ => opSet K.fz ov iv u (fun H₄ => R .next ρ H₄) H₃) H₂) H₁) H
    | .Expr e _ => zdi e = false ∧ wpE n K ρ (fun cls H => X cls ρ H) e (fun _ H₁ => R .next ρ H₁) H
    | .If t b o _ => wpT n K ρ (fun cls H => X cls ρ H) t (fun c H₁ => br c (seqs (wpS n K X) b R ρ H₁) (seqs (wpS n K X) o R ρ H₁)) H
    | .For (.Name x _) iter body [] _ => (K.free && zdj K.kd x) = true ∧ wpE n K ρ (fun cls H => X cls ρ H) iter (fun v H₁ => ∃ xs, ItemsV H₁ v xs ∧ ∃ J : Nat → Env' → AH → Prop, J 0 ρ H₁ ∧
        (∀ k y ρ' H', xs[k]? = some y → J k ρ' H' → seqs (wpS n (K.more v) X) body (turnEnd R (J (k + 1))) (upd ρ' x y) H') ∧ ∀ ρ' H', J xs.length ρ' H' → R .next ρ' H') H
    | .Pass _ => R .next ρ H
    | .Break _ => R .brk ρ H
    | .Continue _ => R .cont ρ H
    | _ => False

/-- the rest of a suite, not unfolded -/
def seqsL (ws : Stmt → Post → Env' → AH → Prop) (ss : List Stmt) (R : Post) (ρ : Env') (H : AH) : Prop := seqs ws ss R ρ H
theorem seqsL_nil {ws : Stmt → Post → Env' → AH → Prop} {R : Post} {ρ : Env'} {H : AH} (h : R .next ρ H) : seqsL ws [] R ρ H := h
theorem seqsL_cons {ws : Stmt → Post → Env' → AH → Prop} {st : Stmt} {r : List Stmt} {R : Post} {ρ : Env'} {H : AH} (h : ws st (thenS (seqsL ws r R) R) ρ H) : seqsL ws (st :: r) R ρ H := h
section
variable {n : Nat} {K : Kx} {ρ : Env'} {X : Exc} {R : Post} {H : AH} {p q : Pos}
theorem zcc : wpS (n + 1) K X (.Return none p) R ρ H = R (.ret .none) ρ H := (rfl)
theorem zcd {e : Expr} : wpS (n + 1) K X (.Return (some e) p) R ρ H = wpE n K ρ (fun cls H => X cls ρ H) e (fun v H₁ => R (.ret v) ρ H₁) H := (rfl)
theorem zce {x : Str} {v : Expr} : wpS (n + 1) K X (.Assign [.Name x q] v p) R ρ H = (zdi v = false ∧ zdj K.kd x = true ∧ wpE n K ρ (fun cls H => X cls ρ H) v (fun u H₁ => R .next (upd ρ x u) H₁) H) := (rfl)
theorem zcf {o i v : Expr} : wpS (n + 1) K X (.Assign [.Subscript o i q] v p) R ρ H = (zdi v = false ∧ wpE n K ρ (fun cls H => X cls ρ H) v (fun u H₁ => wpE n K ρ (fun cls H => X cls ρ H) o (fun ov H₂ => wpE n K ρ (fun cls H => X cls ρ H) i (fun iv H₃ => opSet K.fz ov iv u (fun H₄ => R .next ρ H₄) H₃) H₂) H₁) H) := (rfl)
theorem zcg {e : Expr} : wpS (n + 1) K X (.Expr e p) R ρ H = (zdi e = false ∧ wpE n K ρ (fun cls H => X cls ρ H) e (fun _ H₁ => R .next ρ H₁) H) := (rfl)
theorem zch {t : Expr} {b o : List Stmt} : wpS (n + 1) K X (.If t b o p) R ρ H = wpT n K ρ (fun cls H => X cls ρ H) t (fun c H₁ => br c (seqs (wpS n K X) b R ρ H₁) (seqs (wpS n K X) o R ρ H₁)) H := (rfl)
/-- a for: what is to be shown of it -/
def forW (ρ : Env') (ws : V → List Stmt → Post → Env' → AH → Prop) (x : Str) (body : List Stmt) (R : Post) (v : V) (H₁ : AH) : Prop :=
  ∃ xs, ItemsV H₁ v xs ∧ ∃ J : Nat → Env' → AH → Prop, J 0 ρ H₁ ∧ (∀ k y ρ' H', xs[k]? = some y → J k ρ' H' → ws v body (turnEnd R (J (k + 1))) (upd ρ' x y) H') ∧ ∀ ρ' H', J xs.length ρ' H' → R .next ρ' H'
theorem zci {x : Str} {iter : Expr} {body : List Stmt} : wpS (n + 1) K X (.For (.Name x q) iter body [] p) R ρ H = ((K.free && zdj K.kd x) = true ∧ wpE n K ρ (fun cls H => X cls ρ H) iter (forW ρ (fun v => seqsL (wpS n (K.more v) X)) x body R) H) := (rfl)
theorem zcj : wpS (n + 1) K X (.Pass p) R ρ H = R .next ρ H := (rfl)
theorem zck : wpS (n + 1) K X (.Break p) R ρ H = R .brk ρ H := (rfl)
theorem zcl : wpS (n + 1) K X (.Continue p) R ρ H = R .cont ρ H := (rfl)
theorem zcm {ws : Stmt → Post → Env' → AH → Prop} : seqs ws [] R ρ H = R .next ρ H := (rfl)
theorem zcn {ws : Stmt → Post → Env' → AH → Prop} {st : Stmt} {r : List Stmt} : seqs ws (st :: r) R ρ H = ws st (thenS (seqs ws r R) R) ρ H := (rfl)
theorem zco {f : Env' → AH → Prop} : thenS f R .next ρ H = f ρ H := (rfl)
theorem zcp {f : Env' → AH → Prop} {v : V} : thenS f R (.ret v) ρ H = R (.ret v) ρ H := (rfl)
theorem zcq {f : Env' → AH → Prop} : thenS f R .brk ρ H = R .brk ρ H := (rfl)
theorem zcr {f : Env' → AH → Prop} : thenS f R .cont ρ H = R .cont ρ H := (rfl)
theorem zcs {J : Env' → AH → Prop} : turnEnd R J .next ρ H = J ρ H := (rfl)
theorem zct {J : Env' → AH → Prop} : turnEnd R J .cont ρ H = J ρ H := (rfl)
theorem zcu {J : Env' → AH → Prop} : turnEnd R J .brk ρ H = R .next ρ H := (rfl)
theorem zcv {J : Env' → AH → Prop} {v : V} : turnEnd R J (.ret v) ρ H = R (.ret v) ρ H := (rfl)
end
def SoundS (K : Kx) (X : Exc) (ws : Stmt → Post → Env' → AH → Prop) : Prop :=
  ∀ st R ρ H, ws st R ρ H → ∀ sn A env E, Good K.C K.fz K.d K.free sn A env → Stk K.C sn A env → (∀ y, env.kindOf y = K.kd y) → Exits K.C sn env X E →
    TR K.C sn A env (exec st env) (fun f ρ' H' => R (toF f) ρ' H') E ρ H

theorem seqs_sound {K : Kx} {X : Exc} {ws : Stmt → Post → Env' → AH → Prop} (IH : SoundS K X ws) : ∀ (ss : List Stmt) (R : Post) (ρ : Env') (H : AH), seqs ws ss R ρ H → ∀ sn A env E, Good K.C K.fz K.d K.free sn A env → Stk K.C sn A env → (∀ y, env.kindOf y = K.kd y) → Exits K.C sn env X E →
    TR K.C sn A env (execs ss env) (fun f ρ' H' => R (toF f) ρ' H') E ρ H
  | [], R, ρ, H, h, sn, A, env, E, _, _, _, _ => by
    rw [execs_nil]; exact .pure h
  | st :: r, R, ρ, H, h, sn, A, env, E, G, S, hkd, hE => by
    rw [execs_cons]
    refine .bind ((IH st _ ρ H h sn A env E G S hkd hE).mono fun f ρ' H' hf => ?_)
    cases f with
    | next => exact seqs_sound IH r R ρ' H' hf sn A env E G S hkd hE
    | brk => exact .pure hf
    | cont => exact .pure hf
    | ret v => exact .pure hf

theorem Exits.at {C : Cx} {sn : Snap} {env : Env} {X : Exc} {E : Value → Shared → Prop} (hE : Exits C sn env X E) (ρ : Env') : Exits C sn env (fun cls ρ' H' => ρ' = ρ ∧ X cls ρ H') E := by
  rintro cls ρ' H' e s ⟨rfl, hx⟩ F
  exact hE cls ρ' H' e s hx F

theorem noComp_swap {env : Env} {v : Expr} {t : Option Expr} {line : Nat} (h : zdi v = false) : swapsWith v t line env = pure false := by
  unfold swapsWith
  cases v <;> first | rfl | (exact absurd h (by simp [zdi]))

theorem assign_shape {n : Nat} {K : Kx} {X : Exc} {ts : List Expr} {v : Expr} {pos : Pos} {R : Post} {ρ : Env'} {H : AH} (h : wpS (n + 1) K X (.Assign ts v pos) R ρ H) :
    ∃ tg, ts = [tg] ∧ ((∃ x px, tg = .Name x px) ∨ ∃ o i p, tg = .Subscript o i p) := by
  rcases ts with _ | ⟨tg, _ | ⟨_, _⟩⟩
  · exact h.elim
  · cases tg <;> try exact h.elim
    · exact ⟨_, rfl, .inr ⟨_, _, _, rfl⟩⟩
    · exact ⟨_, rfl, .inl ⟨_, _, rfl⟩⟩
  · cases tg <;> exact h.elim

theorem wpS_sound : ∀ (n : Nat) (K : Kx) (X : Exc), KOk K → SoundS K X (wpS n K X)
  | 0, _, _, _ => fun _ _ _ _ h => h.elim
  | n + 1, K, X, ok => by
    have IH := wpS_sound n
    intro st R ρ H h sn A env E G S hkd hE
    have ev : ∀ e ρ Q H, wpE n K ρ (fun cls H => X cls ρ H) e Q H → TM K.C sn A env ρ (eval e env) (fun v H' => Q (toV v) H') E H := fun e ρ Q H h => (wp_sound n).1 K ρ _ ok e Q H h sn A env E G hkd (hE.at ρ)
    have et : ∀ e ρ k H, wpT n K ρ (fun cls H => X cls ρ H) e k H → ∀ E, Exits K.C sn env X E → TM K.C sn A env ρ (isTrue e env (eval e env)) k E H := fun e ρ k H h E hE => (wp_sound n).2 K ρ _ ok e k H h sn A env E G hkd (hE.at ρ)
    have st_ : ∀ x, zdj K.kd x = true → env.kindOf x = some .local ∨ env.kindOf x = some .cell := fun x hx => by
      simp only [zdj, Bool.or_eq_true, beq_iff_eq] at hx; rw [hkd]; exact hx
    cases st <;> try exact h.elim
    case Return v pos =>
      cases v with
      | none =>
        rw [exec_Return_none]
        exact .bind (.of (.standAt (.pure h)))
      | some e =>
        rw [zcd] at h
        rw [exec_Return_some]
        exact .bind (.of (.standAt (.bind (.of ((ev e ρ _ H h).mono fun v H₁ h₁ => .pure h₁)))))
    case Assign ts v pos =>
      obtain ⟨tg, rfl, htg⟩ := assign_shape h
      rcases htg with ⟨x, px, rfl⟩ | ⟨o, i, pos', rfl⟩
      · rw [zce] at h
        obtain ⟨hc, hx, h⟩ := h
        intro s I
        rw [exec_Assign_Name (hs := noComp_swap hc)]
        refine (TR.bind (.of (.standAt (.bind (.of ((ev v ρ _ H h).mono fun u H₁ h₁ => .bind (.of (.standAt (.bind ?_)))))))) : TR K.C sn A env _ _ E ρ H) s I
        refine TR.bindVar (st_ x hx) ?_
        exact .pure h₁
      · rw [zcf] at h
        obtain ⟨hc, h⟩ := h
        intro s I
        refine wpAny_Assign_Subscript (wpAny_mono (ev v ρ _ H h s I) (fun u s₁ h₁ => ?_) fun _ _ e => e) (noComp_swap hc)
        obtain ⟨H₁, I₁, h₁⟩ := h₁
        refine wpAny_mono (ev o ρ _ H₁ h₁ s₁ I₁) (fun ov s₂ h₂ => ?_) fun _ _ e => e
        obtain ⟨H₂, I₂, h₂⟩ := h₂
        refine wpAny_mono (ev i ρ _ H₂ h₂ s₂ I₂) (fun iv s₃ h₃ => ?_) fun _ _ e => e
        obtain ⟨H₃, I₃, h₃⟩ := h₃
        refine wpAny_mono (tr_setItem (Q := fun H₄ => R .next ρ H₄) (by rw [G.fz]; exact h₃) s₃ I₃) (fun _ s₄ h₄ => ?_) fun _ _ e => e
        obtain ⟨H₄, I₄, h₄⟩ := h₄
        exact ⟨ρ, H₄, I₄, h₄⟩
    case Expr e pos =>
      rw [zcg] at h
      obtain ⟨hc, h⟩ := h
      intro s I
      refine wpAny_Expr_any (wpAny_mono (ev e ρ _ H h s I) (fun v s₁ h₁ => ?_) fun _ _ e => e) (by unfold interactive; rw [I.ok.kind]; rfl) (noComp_swap hc)
      obtain ⟨H₁, I₁, h₁⟩ := h₁
      exact ⟨ρ, H₁, I₁, h₁⟩
    case If t b o pos =>
      rw [zch] at h
      rw [exec_If]
      refine .bind (.of (.standAt (.bind (.of ((et t ρ _ H h E hE).mono fun c H₁ h₁ => ?_)))))
      cases c
      · exact seqs_sound (IH K X ok) o R ρ H₁ (br_f h₁) sn A env E G S hkd hE
      · exact seqs_sound (IH K X ok) b R ρ H₁ (br_t h₁) sn A env E G S hkd hE
    case For tg iter body els pos =>
      cases tg <;> try exact h.elim
      case Name x px =>
        cases els with
        | cons _ _ => exact h.elim
        | nil =>
          rw [zci] at h
          obtain ⟨hb, h⟩ := h
          simp only [Bool.and_eq_true] at hb
          obtain ⟨hfr, hx⟩ := hb
          have G' : Good K.C K.fz K.d true sn A env := ⟨G.fz, fun _ => G.hd hfr, G.depth, G.units, G.frs⟩
          refine tr_for G' S hE (st_ x hx) (notSet_of h env) ((ev iter ρ _ H h).mono fun v H₁ h₁ => ?_)
          obtain ⟨xs, hxs, J, j0, turn, fin⟩ := h₁
          refine ⟨xs, hxs, J, j0, fun k y ρ' H' hy hJ sn' E' Gc Sc hEc => ?_, fin⟩
          exact seqs_sound (IH (K.more (toV v)) X (ok.more _)) body _ _ H' (turn k y ρ' H' hy hJ) sn' A env E' ⟨Gc.fz, fun _ => Gc.hd rfl, Gc.depth, Gc.units, Gc.frs⟩ Sc hkd hEc
    case Pass pos =>
      rw [exec_Pass]; exact .bind (.of (.standAt (.pure h)))
    case Break pos =>
      rw [arm_exec_Break]; exact .bind (.of (.standAt (.pure h)))
    case Continue pos =>
      rw [arm_exec_Continue]; exact .bind (.of (.standAt (.pure h)))

/-- a def meets its contract -/
theorem callsTo_wp {C : Cx} {a : Addr} {ps : List Str} {body : List Stmt} {scope : Scope} {fz : List Nat} {d n : Nat} {free : Bool} {gv : Str → Option V} {ct : Str → Option Tr} {vs : List V} {Q : V → AH → Prop} {X : Value → AH → Prop} {H : AH}
    (F : FnAt C a ps body scope) (ok : KOk ⟨C, zcx scope, fz, d, free, gv, ct⟩) (hs : scopeOk scope ps = true) (hl : vs.length = ps.length)
    (h : seqs (wpS n ⟨C, zcx scope, fz, d, free, gv, ct⟩ (fun cls _ H' => X cls H')) body (fun f _ H' => Q (match f with | .ret v => v | _ => .none) H') (zdc ps vs) H) :
    CallsTo C fz (d + 1) free (.ref a) vs Q X H := by
  refine callsTo_of F hs hl fun sn A env E G S hkd hE => ?_
  refine (seqs_sound (wpS_sound n _ _ ok) body _ _ H h sn A env E G S hkd hE).mono fun f ρ' H' hf => ?_
  cases f <;> exact hf
end Mine

namespace Mine
open PySem PySem.Calls PySem.SeqAt PySem.W PyProof.Rows

/-- the i-th statement of a program's top, a def -/
def fbody (p : Program) (i : Nat) : List Stmt := match p.main.body[i]? with | some (.FunctionDef _ _ b _ _ _ _ _ _ _) => b | _ => []
def fscope (p : Program) (i : Nat) : Scope := match p.main.body[i]? with | some (.FunctionDef _ _ _ _ _ _ s _ _ _) => s | _ => default
def fparams (p : Program) (i : Nat) : Arguments := match p.main.body[i]? with | some (.FunctionDef _ a _ _ _ _ _ _ _ _) => a | _ => default
def fname (p : Program) (i : Nat) : Str := match p.main.body[i]? with | some (.FunctionDef n _ _ _ _ _ _ _ _ _) => n | _ => default

theorem map_inj_of {α β : Type} {f : α → β} (hf : ∀ x y, f x = f y → x = y) : ∀ {l l' : List α}, l.map f = l'.map f → l = l'
  | [], [], _ => rfl
  | [], _ :: _, h => by cases h
  | _ :: _, [], h => by cases h
  | x :: l, y :: l', h => by
    rw [List.map_cons, List.map_cons] at h
    injection h with h1 h2
    rw [hf x y h1, map_inj_of hf h2]

theorem zcz {a b : String} : (Str.ofString a = Str.ofString b) = (a = b) := by
  apply propext
  constructor
  · intro h
    rw [Str.ofString_eq_toList, Str.ofString_eq_toList] at h
    injection h with h
    have h := congrArg Array.toList h
    simp only [] at h
    apply String.toList_inj.mp
    exact map_inj_of (fun x y e => Char.ext (UInt32.toNat_inj.mp e)) h
  · rintro rfl; rfl

theorem zcy {a b : String} : (Str.ofString a == Str.ofString b) = decide (a = b) := by
  by_cases h : a = b
  · subst h; simp
  · have : ¬ Str.ofString a = Str.ofString b := by rw [zcz]; exact h
    simp [h, this]

theorem zdb {ρ : Env'} {x : Str} {v : V} : upd ρ x v x = some v := by simp [upd]
theorem zda {ρ : Env'} {x y : String} {v : V} : upd ρ (Str.ofString x) v (Str.ofString y) = if y = x then some v else ρ (Str.ofString y) := by simp only [upd, zcz]

end Mine

namespace Mine
open PySem PySem.Calls PySem.SeqAt PySem.W PyProof.Rows

end Mine

namespace Mine
open PySem PySem.Calls PySem.SeqAt PySem.W PyProof.Rows

/-- nothing visible has gone or turned -/
def Ext (H H' : AH) : Prop := ∀ a n, H.get a = some n → H'.get a = some n
theorem Ext.refl (H : AH) : Ext H H := fun _ _ h => h
theorem Ext.trans {H H' H'' : AH} (h : Ext H H') (h' : Ext H' H'') : Ext H H'' := fun a n e => h' a n (h a n e)
theorem ne_of_get {H : AH} {p a : Nat} {n : Node} (hp : H.get p = some n) (ha : H.get a = none) : p ≠ a := by rintro rfl; rw [hp] at ha; cases ha
theorem Ext.set {H H' : AH} {a : Nat} {n : Node} (h : Ext H H') (ha : H.get a = none) : Ext H (H'.set a n) := fun b m e => by rw [AH.set_ne _ _ (ne_of_get e ha)]; exact h b m e
theorem Ext.new {H : AH} {a : Nat} {n : Node} (ha : H.get a = none) : Ext H (H.set a n) := (Ext.refl H).set ha
theorem Ext.none {H H' : AH} {a : Nat} (h : Ext H H') (ha : H'.get a = none) : H.get a = none := by
  cases q : H.get a with
  | none => rfl
  | some n => rw [h a n q] at ha; cases ha

/-- a new thing is handed out, other new things may lie about -/
def gives (fz : List Nat) (n : Node) (Q : V → AH → Prop) (H : AH) : Prop := ∀ H' a, Ext H H' → H.get a = none → a ∉ fz → H'.get a = some n → Q (.ref a) H'
/-- a plain value is handed out, new things may lie about -/
def givesV (v : V) (Q : V → AH → Prop) (H : AH) : Prop := ∀ H', Ext H H' → Q v H'

theorem kwl {α : Type} {x y : String} {v : α} {r : List (Str × α)} : List.lookup (Str.ofString x) ((Str.ofString y, v) :: r) = if x = y then some v else List.lookup (Str.ofString x) r := by
  rw [List.lookup_cons, zcy]
  by_cases h : x = y <;> simp [h]

theorem get_set {H : AH} {a b : Nat} {n : Node} : (H.set a n).get b = if b = a then some n else H.get b := (rfl)

section
variable {fz : List Nat} {Q : V → AH → Prop} {H : AH} {p q : Nat}
theorem C_len : opCall fz (.bi "len") [.ref p] Q H = (match H.get p with | some (.list xs) | some (.rlist xs) | some (.tuple xs) => Q (.int xs.length) H | some (.sdict es) => Q (.int es.length) H | some (.idict es) => Q (.int es.length) H | _ => False) := (rfl)
theorem zhx {x : Str} : opCall fz (.bi "len") [.str x] Q H = (x.length < 2 ^ 62 ∧ Q (.int x.length) H) := (rfl)
theorem C_isi {v : V} {T : String} : opCall fz (.bi "isinstance") [v, .typ T] Q H = (isiTypes.contains T = true ∧ (match kindV H v with | some K => Q (.bool (zdw K T)) H | none => False)) := (rfl)
theorem zhy {vs : List V} : opCall fz (.bi "sorted") vs Q H = opSorted fz vs Q H := (rfl)
theorem zhz {b : Int} : opCall fz (.typ "range") [.int b] Q H = made fz (.rng 0 b 1) Q H := (rfl)
theorem zia {a b : Int} : opCall fz (.typ "range") [.int a, .int b] Q H = made fz (.rng a b 1) Q H := (rfl)
theorem zib {a b c : Int} : opCall fz (.typ "range") [.int a, .int b, .int c] Q H = (DivOk c ∧ made fz (.rng a b c) Q H) := (rfl)
theorem C_dict : opCall fz (.typ "dict") [.ref p] Q H = (match H.get p with | some (.sdict es) => es.length ≤ sizeLine ∧ made fz (.sdict es) Q H | some (.idict es) => es.length ≤ sizeLine ∧ made fz (.idict es) Q H | _ => False) := (rfl)
theorem zic : needFree (.bi "len") = false := (rfl)
theorem zid : needFree (.bi "isinstance") = false := (rfl)
theorem zie : needFree (.bi "min") = true := (rfl)
theorem zif : needFree (.bi "sorted") = true := (rfl)
theorem zig : needFree (.bi "all") = true := (rfl)
theorem zih {T : String} : needFree (.typ T) = false := (rfl)

def getK (T : String) (name : Str) (k : String → Prop) : Prop := match methId T name with | some id => k id | none => False
theorem G_ref {name : Str} {k : String → Prop} : opGet H (.ref p) name k = (match H.get p with | some (.list _) => getK "list" name k | some (.sdict _) => getK "dict" name k | some (.idict _) => getK "dict" name k | _ => False) := (rfl)
theorem zii {x : Str} {name : Str} {k : String → Prop} : opGet H (.str x) name k = getK "str" name k := (rfl)
theorem zij {k : String → Prop} : getK "list" (Str.ofString "append") k = k "list.append" := (rfl)
theorem zik {k : String → Prop} : getK "list" (Str.ofString "extend") k = k "list.extend" := (rfl)
theorem zil {k : String → Prop} : getK "list" (Str.ofString "clear") k = k "list.clear" := (rfl)
theorem zim {k : String → Prop} : getK "list" (Str.ofString "index") k = k "list.index" := (rfl)
theorem zin {k : String → Prop} : getK "dict" (Str.ofString "get") k = k "dict.get" := (rfl)
theorem zio {k : String → Prop} : getK "dict" (Str.ofString "update") k = k "dict.update" := (rfl)
theorem ziq {k : String → Prop} : getK "dict" (Str.ofString "clear") k = k "dict.clear" := (rfl)
theorem zir {k : String → Prop} : getK "str" (Str.ofString "join") k = k "str.join" := (rfl)
theorem M_append {x : V} : opM fz "list.append" [.ref p, x] Q H = (match H.get p with | some (.list xs) => p ∉ fz ∧ xs.length ≤ sizeLine ∧ Q .none (H.set p (.list (xs ++ [x]))) | _ => False) := (rfl)
theorem M_join {x : Str} : opM fz "str.join" [.str x, .ref p] Q H = (match H.get p with
    | some (.list xs) => ∃ ss : List Str, xs = ss.map V.str ∧ JoinOk x ss = true ∧ Q (.str (Txt.join x ss)) H
    | _ => False) := (rfl)
end
end Mine

namespace Mine
open PySem PySem.Calls PySem.SeqAt PySem.W PyProof.Rows

theorem take_flatMap {α β : Type} (g : α → List β) {xs : List α} {k : Nat} {y : α} (h : xs[k]? = some y) : (xs.take (k + 1)).flatMap g = (xs.take k).flatMap g ++ g y := by
  rw [List.take_add_one, h]; simp

/-- a comprehension that turns nothing: each item gives none or one -/
theorem compW_flat {K : Kx} {ρ : Env'} {we : V → V → WE} {wt : V → V → Expr → (Bool → AH → Prop) → AH → Prop} {ifs : List Expr} {elt : Expr} {Q : V → AH → Prop} {v : V} {H : AH} (xs : List V) (g : V → List V)
    (hx : ItemsV H v xs) (hz : xs.length ≤ sizeLine) (turn : ∀ (k : Nat) y ys H', xs[k]? = some y → Ext H H' → compT (we v y) (wt v y) ifs elt (fun zs H'' => zs = ys ++ g y ∧ Ext H H'') ys H')
    (fin : ∀ H', Ext H H' → made K.fz (.list (xs.flatMap g)) Q H') : compW K ρ we wt ifs elt Q v H := by
  refine ⟨xs, hx, hz, fun k ys H' => ys = (xs.take k).flatMap g ∧ Ext H H', ⟨by simp, Ext.refl H⟩, fun k y ys H' hy hJ => ?_, fun ys H' _ hJ => ?_⟩
  · obtain ⟨rfl, he⟩ := hJ
    have := turn k y ((xs.take k).flatMap g) H' hy he
    show compT (we v y) (wt v y) ifs elt (fun zs H' => zs = (xs.take (k + 1)).flatMap g ∧ Ext H H') _ H'
    rw [take_flatMap g hy]
    exact this
  · obtain ⟨rfl, he⟩ := hJ
    rw [List.take_length]
    exact fin H' he

/-- what is behind a statement, shown once -/
theorem seqsL_split {ws : Stmt → Post → Env' → AH → Prop} {st : Stmt} {r : List Stmt} {R : Post} {ρ : Env'} {H : AH} (P : Env' → AH → Prop) (hrest : ∀ ρ' H', P ρ' H' → seqsL ws r R ρ' H')
    (hst : (∀ ρ' H', P ρ' H' → seqsL ws r R ρ' H') → ws st (thenS (seqsL ws r R) R) ρ H) : seqsL ws (st :: r) R ρ H := hst hrest

/-- a comprehension without a test -/
theorem compW_map {K : Kx} {ρ : Env'} {we : V → V → WE} {wt : V → V → Expr → (Bool → AH → Prop) → AH → Prop} {ifs : List Expr} {elt : Expr} {Q : V → AH → Prop} {v : V} {H : AH} (xs : List V) (f : V → V)
    (hx : ItemsV H v xs) (hz : xs.length ≤ sizeLine) (turn : ∀ (k : Nat) y ys H', xs[k]? = some y → Ext H H' → compT (we v y) (wt v y) ifs elt (fun zs H'' => zs = ys ++ [f y] ∧ Ext H H'') ys H')
    (fin : ∀ H', Ext H H' → made K.fz (.list (xs.map f)) Q H') : compW K ρ we wt ifs elt Q v H :=
  compW_flat xs (fun y => [f y]) hx hz turn fun H' he => by
    have : ∀ l : List V, l.flatMap (fun y => [f y]) = l.map f := by
      intro l
      induction l with
      | nil => rfl
      | cons x r ih => rw [List.flatMap_cons, ih]; rfl
    rw [this]; exact fin H' he

def onInt (g : Int → V) : V → V
  | .int j => g j
  | _ => .none
theorem onInt_range (g : Int → V) (n : Nat) : ((List.range n).map fun i => V.int (i : Nat)).map (onInt g) = (List.range n).map fun i => g (i : Nat) := by
  rw [List.map_map]; rfl
theorem items_rng {H : AH} {p : Nat} {n : Nat} (h : H.get p = some (.rng 0 n 1)) (hn : n ≤ 2 ^ 60) : ItemsV H (.ref p) ((List.range n).map fun i => V.int (i : Nat)) := by
  unfold ItemsV
  simp only [h]
  refine ⟨by omega, ?_⟩
  unfold rngItems
  have : (Builtin.Range.rangeSize 0 n 1).toNat = n := by
    unfold Builtin.Range.rangeSize
    rw [if_pos (by omega)]
    split <;> omega
  rw [this]
  simp

theorem items_sdict {H : AH} {p : Nat} {es : List (Str × V)} (h : H.get p = some (.sdict es)) : ItemsV H (.ref p) (es.map fun e => V.str e.1) := by unfold ItemsV; simp only [h]

/-- a for over fixed items -/
theorem forW_of {ρ : Env'} {ws : V → List Stmt → Post → Env' → AH → Prop} {x : Str} {body : List Stmt} {R : Post} {v : V} {H : AH} (xs : List V) (J : Nat → Env' → AH → Prop) (hx : ItemsV H v xs) (j0 : J 0 ρ H)
    (turn : ∀ (k : Nat) y ρ' H', xs[k]? = some y → J k ρ' H' → ws v body (turnEnd R (J (k + 1))) (upd ρ' x y) H') (fin : ∀ ρ' H', J xs.length ρ' H' → R .next ρ' H') : forW ρ ws x body R v H := ⟨xs, hx, J, j0, turn, fin⟩

theorem range_get {n k : Nat} {y : V} (h : ((List.range n).map fun i => V.int (i : Nat))[k]? = some y) : k < n ∧ y = .int k := by
  rw [List.getElem?_map] at h
  cases q : (List.range n)[k]? with
  | none => rw [q] at h; cases h
  | some i =>
    rw [q] at h
    obtain ⟨hk, e⟩ := List.getElem?_eq_some_iff.mp q
    simp at hk e h
    subst e
    exact ⟨hk, h.symm⟩

/-- the script's ints -/
theorem ziv (xs : List Int) (k : Nat) : (xs.map V.int).getD k (.int 0) = .int (xs.getD k 0) := by
  simp only [List.getD, List.getElem?_map]
  cases xs[k]? <;> rfl
end Mine

namespace Mine
open PySem PySem.Calls PySem.SeqAt PySem.W PyProof.Rows

/-- a text of its signs -/
def tx (l : List Nat) : Str := ⟨l.toArray⟩
theorem tx_append (a b : List Nat) : tx a ++ tx b = tx (a ++ b) := by
  show Str.append (tx a) (tx b) = _
  simp [tx, Str.append]
theorem tx_length (a : List Nat) : (tx a).length = a.length := by simp [tx, Str.length]
theorem tx_inj {a b : List Nat} (h : tx a = tx b) : a = b := by
  have := congrArg (fun s : Str => s.cps.toList) h
  simpa [tx] using this
theorem foldl_rep (c : Nat) : ∀ (n : Nat) (acc : Array Nat), (List.replicate n #[c]).foldl (· ++ ·) acc = acc ++ (List.replicate n c).toArray
  | 0, acc => by simp
  | n + 1, acc => by
    rw [List.replicate_succ, List.foldl_cons, foldl_rep c n]
    apply Array.ext'
    simp [List.replicate_succ]
theorem rep_one (c : Nat) (n : Int) : strRep ⟨#[c]⟩ n = tx (List.replicate n.toNat c) := by
  unfold strRep Txt.mul
  split
  · rename_i h
    have : n.toNat = 0 := by omega
    rw [this]; rfl
  · split
    · rename_i h1 h2
      have : n = 1 := by
        simp [Str.length] at h2; exact h2
      subst this; rfl
    · rw [foldl_rep]; simp [tx]
theorem mulOk_one (c : Nat) {n : Int} (h : n < 1000) (h0 : -1000 < n) : MulOk ⟨#[c]⟩ n := by
  unfold MulOk
  refine ⟨by simp; omega, fun h1 h2 => ?_, fun h1 h2 => ?_⟩
  · simp only [Str.length]
    have h3 : (1000 : Int) ≤ (2 ^ 63 - 1) / n := by
      rw [Int.le_ediv_iff_mul_le (by omega)]
      omega
    show ¬ ((1 : Int) > (2 ^ 63 - 1) / n)
    omega
  · simp [Str.length, Builtin.Str.tooLong, sizeLine]
    omega
theorem join_tx : ∀ (l : List Nat), Txt.join (Str.ofString "") (l.map fun c => (⟨#[c]⟩ : Str)) = tx l := by
  intro l
  unfold Txt.join
  rw [StrLaws.glued_eq_join]
  induction l with
  | nil => rfl
  | cons c r ih =>
    cases r with
    | nil => rfl
    | cons d r =>
      have : Str.join (Str.ofString "") (((c :: d :: r) : List Nat).map fun c => (⟨#[c]⟩ : Str)) = (⟨#[c]⟩ : Str) ++ Str.ofString "" ++ Str.join (Str.ofString "") ((d :: r).map fun c => (⟨#[c]⟩ : Str)) := rfl
      rw [this, ih]
      show tx [c] ++ tx [] ++ tx (d :: r) = _
      rw [tx_append, tx_append]; rfl
theorem joinOk_tx (l : List Nat) (h : l.length ≤ 1000) : JoinOk (Str.ofString "") (l.map fun c => (⟨#[c]⟩ : Str)) = true := by
  have : ∀ (l : List Nat) (a : Nat), (l.map fun c => (⟨#[c]⟩ : Str)).foldl (fun x (y : Str) => x + y.length + (Str.ofString "").length) a = a + l.length := by
    intro l
    induction l with
    | nil => intro a; rfl
    | cons c r ih => intro a; rw [List.map_cons, List.foldl_cons, ih]; simp [Str.length]; have : (Str.ofString "").cps.size = 0 := rfl; omega
  unfold JoinOk
  rw [← Array.foldl_toList, List.toList_toArray, this]
  simp [Builtin.Str.tooLong, sizeLine]
  omega

/-- the letters -/
def abc : Str := "abcdefghijklmnopqrstuvwxyz"
def ltr (i : Int) : Nat := 97 + (i.fmod 26).toNat
theorem fmod26 (i : Int) : 0 ≤ i.fmod 26 ∧ i.fmod 26 < 26 := ⟨Int.fmod_nonneg_of_pos _ (by decide), Int.fmod_lt_of_pos _ (by decide)⟩
theorem zdq (i : Int) : abc.cps[(i.fmod 26).toNat]? = some (ltr i) := by
  obtain ⟨h1, h2⟩ := fmod26 i
  unfold ltr
  generalize hj : (i.fmod 26).toNat = j
  have hj' : j < 26 := by omega
  have : ∀ j : Fin 26, abc.cps[j.val]? = some (97 + j.val) := by decide +kernel
  exact this ⟨j, hj'⟩

theorem zds {H : AH} : kindV H .none = some "NoneType" := (rfl)
theorem zdt {H : AH} {b : Bool} : kindV H (.bool b) = some "bool" := (rfl)
theorem zdu {H : AH} {n : Int} : kindV H (.int n) = some "int" := (rfl)
theorem zdv {H : AH} {x : Str} : kindV H (.str x) = some "str" := (rfl)
theorem ic1 : isiTypes.contains "str" = true := (rfl)
theorem ic2 : isiTypes.contains "int" = true := (rfl)
theorem ic3 : isiTypes.contains "bool" = true := (rfl)
theorem ic4 : isiTypes.contains "tuple" = true := (rfl)
theorem ic5 : isiTypes.contains "list" = true := (rfl)
theorem ic6 : isiTypes.contains "dict" = true := (rfl)
theorem p60 : Builtin.Int.intTooBig (((Builtin.Int.intBits 10 : Nat) : Int) * 60) = false := (rfl)
theorem p50 : Builtin.Int.intTooBig (((Builtin.Int.intBits 10 : Nat) : Int) * 50) = false := (rfl)

theorem nk1 : (NameKind.local == NameKind.free) = false := (rfl)
theorem nk2 : (NameKind.globalImplicit == NameKind.free) = false := (rfl)
theorem nk3 : (NameKind.cell == NameKind.free) = false := (rfl)
theorem nk4 : (NameKind.free == NameKind.free) = true := (rfl)
theorem nk5 : (some NameKind.cell == some NameKind.cell) = true := (rfl)

/-- side conditions at written numbers -/
theorem zdl {y : Int} (h1 : y ≠ 0) (h2 : -4611686018427387904 < y) (h3 : y < 4611686018427387904) : DivOk y = True :=
  eq_true (DivOk.of h1 (Nat.lt_trans (show y.natAbs < 4611686018427387904 by omega) (by decide)))
theorem zdm {a b : Int} (h1 : 0 < b) : (0 ≤ a.fmod b) = True := eq_true (Int.fmod_nonneg_of_pos _ h1)
theorem zdn {a b : Int} (h1 : 0 < b) (h2 : b ≤ 4611686018427387904) : (a.fmod b < 2 ^ 62) = True :=
  eq_true (Int.lt_of_lt_of_le (Int.fmod_lt_of_pos _ h1) (by omega))
theorem zdo {a b : Int} (h1 : -18446744073709551616 < b) (h2 : b < 18446744073709551616) : IntMulOk a b = True := eq_true (mulOk_right (by omega) (by omega))
theorem zdp {a b : Int} (h1 : -18446744073709551616 < a) (h2 : a < 18446744073709551616) : IntMulOk a b = True := eq_true (mulOk_left (by omega) (by omega))
end Mine

namespace Mine
open PySem PySem.Calls PySem.SeqAt PySem.W PyProof.Rows

section
variable {a b c d e f g : V} {r : List V}
theorem pk0 : pick (a :: r) 0 = some a := (rfl)
theorem pk1 : pick (a :: b :: r) 1 = some b := (rfl)
theorem pk2 : pick (a :: b :: c :: r) 2 = some c := (rfl)
theorem pk3 : pick (a :: b :: c :: d :: r) 3 = some d := (rfl)
theorem pk4 : pick (a :: b :: c :: d :: e :: r) 4 = some e := (rfl)
theorem pk5 : pick (a :: b :: c :: d :: e :: f :: r) 5 = some f := (rfl)
theorem pk6 : pick (a :: b :: c :: d :: e :: f :: g :: r) 6 = some g := (rfl)
end

/-! dicts of texts to ints -/
abbrev DI := List (Str × Int)
def dI (es : DI) : List (Str × V) := es.map fun p => (p.1, V.int p.2)
def gI (es : DI) (k : Str) : Option Int := (es.find? fun p => p.1 = k).map (·.2)
def pI (es : DI) (k : Str) (n : Int) : DI := if es.any (fun p => p.1 = k) then es.map (fun p => if p.1 = k then (p.1, n) else p) else es ++ [(k, n)]
def keys (es : DI) : List Str := es.map (·.1)

theorem dget_dI (es : DI) (k : Str) : dget (dI es) k = (gI es k).map V.int := by
  unfold dget dI gI
  induction es with
  | nil => rfl
  | cons p r ih =>
    rw [List.map_cons, List.find?_cons, List.find?_cons]
    by_cases h : p.1 = k
    · simp [h]
    · simp only [h, decide_false]; exact ih
theorem dput_dI (es : DI) (k : Str) (n : Int) : dput (dI es) k (.int n) = dI (pI es k n) := by
  unfold dput pI dI
  have : (es.map fun p => (p.1, V.int p.2)).any (fun p => p.1 = k) = es.any (fun p => p.1 = k) := by rw [List.any_map]; rfl
  rw [this]
  split
  · rw [List.map_map, List.map_map]
    apply List.map_congr_left
    intro p _
    simp only [Function.comp]
    split <;> rfl
  · simp
theorem dI_length (es : DI) : (dI es).length = es.length := by simp [dI]
theorem keys_length (es : DI) : (keys es).length = es.length := by simp [keys]
theorem gI_some {es : DI} {k : Str} (h : k ∈ keys es) : ∃ n, gI es k = some n := by
  unfold keys at h
  unfold gI
  obtain ⟨p, hp, rfl⟩ := List.mem_map.mp h
  cases q : es.find? fun x => x.1 = p.1 with
  | none => have := List.find?_eq_none.mp q p hp; simp at this
  | some x => exact ⟨x.2, rfl⟩
theorem gI_none {es : DI} {k : Str} (h : k ∉ keys es) : gI es k = none := by
  unfold gI
  rw [Option.map_eq_none_iff, List.find?_eq_none]
  intro p hp
  simp only [decide_eq_true_eq]
  rintro rfl
  exact h (List.mem_map.mpr ⟨p, hp, rfl⟩)
theorem gI_of_mem {es : DI} (nd : (keys es).Nodup) {p : Str × Int} (h : p ∈ es) : gI es p.1 = some p.2 := by
  induction es with
  | nil => cases h
  | cons q r ih =>
    unfold keys at nd
    rw [List.map_cons, List.nodup_cons] at nd
    unfold gI
    rw [List.find?_cons]
    rcases List.mem_cons.mp h with rfl | h
    · simp
    · have : q.1 ≠ p.1 := fun e => nd.1 (e ▸ List.mem_map.mpr ⟨p, h, rfl⟩)
      simp only [this, decide_false]
      exact ih nd.2 h
theorem gI_put {es : DI} {k j : Str} {n : Int} : gI (pI es k n) j = if j = k then some n else gI es j := by
  unfold pI
  split
  · rename_i h
    unfold gI
    induction es with
    | nil => simp at h
    | cons p r ih =>
      rw [List.map_cons, List.find?_cons, List.find?_cons]
      by_cases hp : p.1 = k
      · by_cases hj : j = k
        · subst hj; simp [hp]
        · have h1 : ¬ k = j := fun e => hj e.symm
          simp only [hp, if_true, h1, decide_false, hj, if_false]
          by_cases hr : r.any (fun p => p.1 = k) = true
          · have := ih hr; simp only [hj, if_false] at this; exact this
          · have hid : r.map (fun p => if p.1 = k then (p.1, n) else p) = r := by
              have : ∀ x ∈ r, (if x.1 = k then (x.1, n) else x) = x := fun x hx => by
                rw [if_neg]
                intro e
                exact hr (List.any_eq_true.mpr ⟨x, hx, by simp [e]⟩)
              exact (List.map_congr_left this).trans (List.map_id _)
            rw [hid]
      · simp only [hp, if_false]
        have hr : r.any (fun p => p.1 = k) = true := by simpa [hp] using h
        by_cases hj : p.1 = j
        · have hjk : ¬ j = k := fun e => hp (hj.trans e)
          simp [hj, hjk]
        · simp only [hj, decide_false]; exact ih hr
  · rename_i h
    have hk : k ∉ keys es := fun hm => h (by
      obtain ⟨p, hp, e⟩ := List.mem_map.mp hm
      exact List.any_eq_true.mpr ⟨p, hp, by simp [e]⟩)
    unfold gI
    rw [List.find?_append]
    by_cases hj : j = k
    · subst hj
      have : es.find? (fun p => p.1 = j) = none := by
        rw [List.find?_eq_none]
        intro p hp
        simp only [decide_eq_true_eq]
        rintro rfl
        exact hk (List.mem_map.mpr ⟨p, hp, rfl⟩)
      simp [this]
    · have h1 : ¬ k = j := fun e => hj e.symm
      simp [hj, h1]
theorem keys_put {es : DI} {k : Str} {n : Int} : keys (pI es k n) = if k ∈ keys es then keys es else keys es ++ [k] := by
  unfold pI
  by_cases h : es.any (fun p => p.1 = k) = true
  · rw [if_pos h]
    have hm : k ∈ keys es := by
      obtain ⟨p, hp, e⟩ := List.any_eq_true.mp h
      simp only [decide_eq_true_eq] at e
      exact List.mem_map.mpr ⟨p, hp, e⟩
    rw [if_pos hm]
    unfold keys
    rw [List.map_map]
    apply List.map_congr_left
    intro p _
    simp only [Function.comp]
    split <;> rfl
  · rw [if_neg h]
    have hm : k ∉ keys es := fun hm => h (by
      obtain ⟨p, hp, e⟩ := List.mem_map.mp hm
      exact List.any_eq_true.mpr ⟨p, hp, by simp [e]⟩)
    rw [if_neg hm]
    simp [keys]
theorem put_new {es : DI} {k : Str} {n : Int} (h : k ∉ keys es) : pI es k n = es ++ [(k, n)] := by
  unfold pI
  rw [if_neg]
  intro h'
  obtain ⟨p, hp, e⟩ := List.any_eq_true.mp h'
  simp only [decide_eq_true_eq] at e
  exact h (List.mem_map.mpr ⟨p, hp, e⟩)

theorem not_before {es : DI} (nd : (keys es).Nodup) {k : Nat} {p : Str × Int} (h : es[k]? = some p) : p.1 ∉ keys (es.take k) := by
  intro hm
  have hk : (keys es)[k]? = some p.1 := by unfold keys; rw [List.getElem?_map, h]; rfl
  have ht : keys (es.take k) = (keys es).take k := by unfold keys; rw [List.map_take]
  rw [ht] at hm
  obtain ⟨i, hi, e⟩ := List.mem_iff_getElem.mp hm
  rw [List.length_take] at hi
  rw [List.getElem_take] at e
  have hi' : i < (keys es).length := by omega
  have : (keys es)[i]? = (keys es)[k]? := by rw [hk, List.getElem?_eq_getElem hi', e]
  have := (List.getElem?_inj hi' nd).mp this
  omega

theorem dSc_dI (es fs : DI) : dSc (dI es) (dI fs) := by
  intro p hp w hw
  obtain ⟨q, hq, rfl⟩ := List.mem_map.mp hp
  rw [dget_dI] at hw
  obtain ⟨n, _, rfl⟩ := Option.map_eq_some_iff.mp hw
  rfl
theorem dEq_dI (es fs : DI) : dEq (dI es) (dI fs) = (es.length == fs.length && es.all fun p => gI fs p.1 == some p.2) := by
  unfold dEq
  rw [dI_length, dI_length]
  congr 1
  unfold dI
  rw [List.all_map]
  congr 1
  funext p
  simp only [Function.comp]
  rw [show List.map (fun p : Str × Int => (p.1, V.int p.2)) fs = dI fs from rfl, dget_dI]
  cases gI fs p.1 with
  | none => rfl
  | some m =>
    simp only [Option.map_some, scEq, Option.getD_some]
    by_cases h : p.2 = m
    · subst h; simp
    · have : ¬ m = p.2 := fun e => h e.symm
      rw [beq_eq_false_iff_ne.mpr h]
      simp [this]
theorem dEq_self {es : DI} (nd : (keys es).Nodup) : dEq (dI es) (dI es) = true := by
  rw [dEq_dI]
  simp only [beq_self_eq_true, Bool.true_and, List.all_eq_true, beq_iff_eq]
  exact fun p hp => gI_of_mem nd hp

/-- membership in a list of texts -/
theorem opIn_strs {H : AH} {p : Nat} {ss : List Str} {k : Str} {Q : Bool → Prop} (hp : H.get p = some (.list (ss.map V.str))) (h : Q (decide (k ∈ ss))) : opIn (.str k) (.ref p) Q H := by
  unfold opIn
  simp only [hp]
  refine ⟨fun v => decide (v = .str k), fun y hy => ?_, ?_⟩
  · obtain ⟨s, hs, rfl⟩ := List.mem_map.mp hy
    refine ⟨0, .sc ?_, Nat.zero_le _⟩
    simp only [scEq, V.str.injEq, Option.some.injEq]
    exact Bool.beq_eq_decide_eq s k
  · have : (ss.map V.str).any (fun v => decide (v = .str k)) = decide (k ∈ ss) := by
      rw [Bool.eq_iff_iff]
      simp only [List.any_map, List.any_eq_true, Function.comp, decide_eq_true_eq, V.str.injEq]
      constructor
      · rintro ⟨x, hx, rfl⟩; exact hx
      · intro hx; exact ⟨k, hx, rfl⟩
    rw [this]; exact h
end Mine

namespace Mine
open PySem PySem.Calls PySem.SeqAt PySem.W PyProof.Rows

/-- the steps -/
inductive Stp where
  | add (x : Str) (n : Int) | drop (a : Str) | name (a x : Str) | shift (a : Str) (n : Int) | turn (a : Str) | part (a x y : Str) (s : Int) | join (a b x : Str) (s : Int)

def Stp.vs : Stp → List V
  | .add x n => [.str "add", .str x, .int n]
  | .drop a => [.str "drop", .str a]
  | .name a x => [.str "name", .str a, .str x]
  | .shift a n => [.str "shift", .str a, .int n]
  | .turn a => [.str "turn", .str a]
  | .part a x y s => [.str "part", .str a, .str x, .str y, .int s]
  | .join a b x s => [.str "join", .str a, .str b, .str x, .int s]
def Stp.goes : Stp → List Str
  | .add _ _ => []
  | .drop a => [a]
  | .name a _ => [a]
  | .shift a _ => [a]
  | .turn a => [a]
  | .part a _ _ _ => [a]
  | .join a b _ _ => [a, b]
def Stp.comes : Stp → List Str
  | .add x _ => [x]
  | .drop _ => []
  | .name _ x => [x]
  | .shift a _ => [a]
  | .turn a => [a]
  | .part _ x y _ => [x, y]
  | .join _ _ x _ => [x]
def Stp.sizeOk : Stp → Prop
  | .part _ _ _ s => 2 ≤ s ∧ s ≤ 1000000
  | .join _ _ _ s => 2 ≤ s ∧ s ≤ 1000000
  | _ => True

def mkStp (kind : Int) (a b x y : Str) (s n : Int) : Stp :=
  if kind = 0 then .add x n else if kind = 1 then .drop a else if kind = 2 then .name a x else if kind = 3 then .shift a n else if kind = 4 then .turn a else if kind = 5 then .part a x y s else .join a b x s

def val (es : DI) (a : Str) : Int := (gI es a).getD 0
def stay (es : DI) (g : List Str) : DI := es.filter fun p => decide (p.1 ∉ g)
def fwd (st : Stp) (es : DI) (own : Int) : DI :=
  match st with
  | .add x _ => pI (stay es []) x own
  | .drop a => stay es [a]
  | .name a x => pI (stay es [a]) x (val es a)
  | .shift a n => pI (stay es [a]) a (val es a + n)
  | .turn a => pI (stay es [a]) a (0 - val es a)
  | .part a x y s => pI (pI (stay es [a]) x ((val es a).fdiv s)) y ((val es a).fmod s)
  | .join a b x s => pI (stay es [a, b]) x (val es a * s + val es b)

/-- the step fits the names -/
structure Fits (st : Stp) (ns : List Str) : Prop where
  nd : ns.Nodup
  goes : ∀ a ∈ st.goes, a ∈ ns
  comes : ∀ x ∈ st.comes, x ∈ ns → x ∈ st.goes
  cnd : st.comes.Nodup
  gnd : st.goes.Nodup
  size : st.sizeOk

theorem keys_stay (es : DI) (g : List Str) : keys (stay es g) = (keys es).filter fun k => decide (k ∉ g) := by
  unfold keys stay
  rw [List.filter_map]; rfl
theorem gI_stay (es : DI) (g : List Str) (k : Str) : gI (stay es g) k = if k ∈ g then none else gI es k := by
  unfold gI stay
  rw [List.find?_filter]
  split
  · rename_i h
    rw [Option.map_eq_none_iff, List.find?_eq_none]
    rintro p _
    simp only [Bool.and_eq_true, decide_eq_true_eq, not_and]
    rintro h1 rfl
    exact h1 h
  · rename_i h
    congr 1
    apply congrFun
    apply congrArg
    funext p
    by_cases hp : p.1 = k
    · subst hp; simp [h]
    · simp [hp]

theorem not_stay {es : DI} {g : List Str} {x : Str} (h : x ∈ keys es → x ∈ g) : x ∉ keys (stay es g) := by
  rw [keys_stay, List.mem_filter]
  rintro ⟨h1, h2⟩
  simp only [decide_eq_true_eq] at h2
  exact h2 (h h1)

theorem keys_fwd {st : Stp} {es : DI} {own : Int} (f : Fits st (keys es)) : keys (fwd st es own) = ((keys es).filter fun k => decide (k ∉ st.goes)) ++ st.comes := by
  have hc := f.comes
  have hn := f.cnd
  cases st <;> simp only [fwd, Stp.goes, Stp.comes] at hc hn ⊢
  · rw [keys_put, if_neg (not_stay (hc _ (by simp))), keys_stay]; rfl
  · rw [keys_stay]; simp
  · rw [keys_put, if_neg (not_stay (hc _ (by simp))), keys_stay]; rfl
  · rw [keys_put, if_neg (not_stay (hc _ (by simp))), keys_stay]; rfl
  · rw [keys_put, if_neg (not_stay (hc _ (by simp))), keys_stay]; rfl
  · rename_i a x y s
    have hx := not_stay (es := es) (hc x (by simp))
    have hy := not_stay (es := es) (hc y (by simp))
    have hxy : y ≠ x := by simp at hn; exact fun e => hn e.symm
    rw [keys_put, keys_put, if_neg hx, if_neg (by rw [List.mem_append, not_or]; exact ⟨hy, by simpa using hxy⟩), keys_stay]
    simp
  · rw [keys_put, if_neg (not_stay (hc _ (by simp))), keys_stay]; rfl

end Mine

namespace Mine
open PySem PySem.Calls PySem.SeqAt PySem.W PyProof.Rows

/-! the operations at known things: no case is opened before its things are known -/
/-- what is known goes on, what is not known is False -/
def mt {α : Type} (o : Option α) (Q : α → Prop) : Prop := match o with | some a => Q a | none => False
def listO : Option Node → Option (List V)
  | some (.list xs) => some xs
  | _ => none
def seqO : Option Node → Option (List V)
  | some (.list xs) => some xs | some (.rlist xs) => some xs
  | _ => none
def seqT : Option Node → Option (List V)
  | some (.list xs) => some xs | some (.rlist xs) => some xs | some (.tuple xs) => some xs
  | _ => none
def addV : Option Node → Option Node → Option (Prop × Node)
  | some (.list xs), some (.list ys) => some (xs.length + ys.length ≤ sizeLine, .list (xs ++ ys))
  | some (.tuple xs), some (.tuple ys) => some ((xs ≠ [] ∧ ys ≠ []) ∧ xs.length + ys.length ≤ sizeLine, .tuple (xs ++ ys))
  | _, _ => none
def truthV : Option Node → Option Bool
  | some (.list xs) => some (!xs.isEmpty) | some (.rlist xs) => some (!xs.isEmpty) | some (.sdict es) => some (!es.isEmpty)
  | _ => none
def eqM : Option Node → Option Node → Option (Prop × Bool)
  | some (.sdict es), some (.sdict fs) => some (dSc es fs, dEq es fs)
  | some (.idict es), some (.idict fs) => some (dSc es fs, dEq es fs)
  | _, _ => none
def idxV (n : Option Node) (k : Int) : Option V := match n with
  | some (.list xs) => pick xs k | some (.rlist xs) => pick xs k | some (.tuple xs) => pick xs k | some (.idict es) => dget es k
  | _ => none
def idxS (n : Option Node) (k : Str) : Option V := match n with
  | some (.sdict es) => dget es k
  | _ => none
def setV (n : Option Node) (i v : V) : Option (Prop × Node) := match n, i with
  | some (.list xs), .int k => some ((0 ≤ k ∧ k < xs.length), .list (xs.set k.toNat v))
  | some (.sdict es), .str k => some (es.length ≤ sizeLine, .sdict (dput es k v))
  | some (.sdict []), .int k => some (True, .idict [(k, v)])
  | some (.idict es), .int k => some (es.length ≤ sizeLine, .idict (dput es k v))
  | _, _ => none
def lenV : Option Node → Option Int
  | some (.list xs) => some xs.length | some (.rlist xs) => some xs.length | some (.tuple xs) => some xs.length | some (.sdict es) => some es.length | some (.idict es) => some es.length
  | _ => none
def dictV : Option Node → Option (Nat × Node)
  | some (.sdict es) => some (es.length, .sdict es) | some (.idict es) => some (es.length, .idict es)
  | _ => none
def kN : Option Node → Option String
  | some (.list _) => some "list" | some (.rlist _) => some "list" | some (.tuple _) => some "tuple" | some (.sdict _) => some "dict" | some (.idict _) => some "dict"
  | _ => none
def tyN : Option Node → Option String
  | some (.list _) => some "list" | some (.sdict _) => some "dict" | some (.idict _) => some "dict"
  | _ => none
section
variable {fz : List Nat} {Q : V → AH → Prop} {H : AH} {k : Bool → Prop} {R : V → Prop} {S : AH → Prop} {p q : Nat} {x y i j : Int} {s t : Str} {b c : Bool} {v u : V} {xs ys : List V} {es fs : List (Str × V)} {is js : List (Int × V)}

theorem zgh : listO (some (.list xs)) = some xs := (rfl)
theorem zgi : seqO (some (.list xs)) = some xs := (rfl)
theorem zgj : seqO (some (.rlist xs)) = some xs := (rfl)
theorem zgk : seqT (some (.list xs)) = some xs := (rfl)
theorem zgl : seqT (some (.rlist xs)) = some xs := (rfl)
theorem zgm : seqT (some (.tuple xs)) = some xs := (rfl)
theorem zgn : addV (some (.list xs)) (some (.list ys)) = some (xs.length + ys.length ≤ sizeLine, .list (xs ++ ys)) := (rfl)
theorem zgo : addV (some (.tuple xs)) (some (.tuple ys)) = some ((xs ≠ [] ∧ ys ≠ []) ∧ xs.length + ys.length ≤ sizeLine, .tuple (xs ++ ys)) := (rfl)
theorem zgp : truthV (some (.list xs)) = some (!xs.isEmpty) := (rfl)
theorem zgq : truthV (some (.rlist xs)) = some (!xs.isEmpty) := (rfl)
theorem zgr : truthV (some (.sdict es)) = some (!es.isEmpty) := (rfl)
theorem zgs : eqM (some (.sdict es)) (some (.sdict fs)) = some (dSc es fs, dEq es fs) := (rfl)
theorem zgt : eqM (some (.idict is)) (some (.idict js)) = some (dSc is js, dEq is js) := (rfl)
theorem zgu : eqM (some (.list xs)) (some (.list ys)) = none := (rfl)
theorem zgv : eqM (some (.tuple xs)) (some (.tuple ys)) = none := (rfl)
theorem zgw : idxV (some (.list xs)) i = pick xs i := (rfl)
theorem zgx : idxV (some (.rlist xs)) i = pick xs i := (rfl)
theorem zgy : idxV (some (.tuple xs)) i = pick xs i := (rfl)
theorem zgz : idxV (some (.idict is)) i = dget is i := (rfl)
theorem zha : idxS (some (.sdict es)) s = dget es s := (rfl)
theorem zhb : setV (some (.list xs)) (.int i) v = some ((0 ≤ i ∧ i < xs.length), .list (xs.set i.toNat v)) := (rfl)
theorem zhc : setV (some (.sdict es)) (.str s) v = some (es.length ≤ sizeLine, .sdict (dput es s v)) := by cases es <;> rfl
theorem zhd : setV (some (.sdict [])) (.int i) v = some (True, .idict [(i, v)]) := (rfl)
theorem zhe : setV (some (.idict is)) (.int i) v = some (is.length ≤ sizeLine, .idict (dput is i v)) := (rfl)
theorem zhf : lenV (some (.list xs)) = some (xs.length : Int) := (rfl)
theorem zhg : lenV (some (.rlist xs)) = some (xs.length : Int) := (rfl)
theorem zhh : lenV (some (.tuple xs)) = some (xs.length : Int) := (rfl)
theorem zhi : lenV (some (.sdict es)) = some (es.length : Int) := (rfl)
theorem zhj : lenV (some (.idict is)) = some (is.length : Int) := (rfl)
theorem zhk : dictV (some (.sdict es)) = some (es.length, .sdict es) := (rfl)
theorem zhl : dictV (some (.idict is)) = some (is.length, .idict is) := (rfl)
theorem zhn : kN (some (.list xs)) = some "list" := (rfl)
theorem zho : kN (some (.rlist xs)) = some "list" := (rfl)
theorem zhp : kN (some (.tuple xs)) = some "tuple" := (rfl)
theorem zhq : kN (some (.sdict es)) = some "dict" := (rfl)
theorem zhr : kN (some (.idict is)) = some "dict" := (rfl)
theorem zhs : tyN (some (.list xs)) = some "list" := (rfl)
theorem zht : tyN (some (.sdict es)) = some "dict" := (rfl)
theorem zhu : tyN (some (.idict is)) = some "dict" := (rfl)
theorem zdx : opBin fz .Add (.int x) (.int y) Q H = Q (.int (x + y)) H := (rfl)
theorem zdy : opBin fz .Sub (.int x) (.int y) Q H = Q (.int (x - y)) H := (rfl)
theorem zdz : opBin fz .Mult (.int x) (.int y) Q H = (IntMulOk x y ∧ Q (.int (x * y)) H) := (rfl)
theorem zea : opBin fz .FloorDiv (.int x) (.int y) Q H = (DivOk y ∧ Q (.int (x.fdiv y)) H) := (rfl)
theorem zeb : opBin fz .Mod (.int x) (.int y) Q H = (y ≠ 0 ∧ Q (.int (x.fmod y)) H) := (rfl)
theorem zec : opBin fz .Pow (.int x) (.int y) Q H = ((2 ≤ x ∧ 1 ≤ y ∧ Builtin.Int.intTooBig (((Builtin.Int.intBits x : Nat) : Int) * y) = false) ∧ Q (.int (x ^ y.toNat)) H) := (rfl)
theorem zed : opBin fz .Add (.str s) (.str t) Q H = (s.length + t.length ≤ sizeLine ∧ Q (.str (s ++ t)) H) := (rfl)
theorem zee : opBin fz .Mult (.str s) (.int y) Q H = (MulOk s y ∧ Q (.str (strRep s y)) H) := (rfl)
theorem zef : opBin fz .Add (.ref p) (.ref q) Q H = mt (addV (H.get p) (H.get q)) (fun r => r.1 ∧ made fz r.2 Q H) := by
  unfold opBin mt addV
  try dsimp only
  rcases H.get p with _ | (_ | _ | _ | _ | _ | _ | _ | _) <;> try rfl
  all_goals rcases H.get q with _ | (_ | _ | _ | _ | _ | _ | _ | _) <;> try rfl
  simp only [and_assoc]

theorem zeg : opTruth (.bool b) k H = k b := (rfl)
theorem zeh : opTruth .none k H = k false := (rfl)
theorem zei : opTruth (.int i) k H = k (i != 0) := (rfl)
theorem zej : opTruth (.ref p) k H = mt (truthV (H.get p)) k := by
  unfold opTruth mt truthV
  try dsimp only
  rcases H.get p with _ | (_ | _ | _ | _ | _ | _ | _ | _) <;> rfl

theorem zek : opCmp .Eq v u k H = opEq2 v u k H := (rfl)
theorem zel : opCmp .NotEq v u k H = opEq2 v u (fun r => k (!r)) H := (rfl)
theorem zem : opCmp .In v u k H = opIn v u k H := (rfl)
theorem zen : opCmp .NotIn v u k H = opIn v u (fun r => k (!r)) H := (rfl)
theorem zeo : opCmp .Lt (.int x) (.int y) k H = k (decide (x < y)) := (rfl)
theorem zep : opCmp .LtE (.int x) (.int y) k H = k (decide (x ≤ y)) := (rfl)
theorem zeq : opCmp .Gt (.int x) (.int y) k H = k (decide (x > y)) := (rfl)
theorem zer : opCmp .GtE (.int x) (.int y) k H = k (decide (x ≥ y)) := (rfl)
theorem zes : opCmp .Is .none .none k H = k true := (rfl)
theorem zet : opCmp .Is (.int x) .none k H = k false := (rfl)
theorem zeu : opCmp .Is (.str s) .none k H = k false := (rfl)
theorem zev : opCmp .Is (.bool b) .none k H = k false := (rfl)
theorem zew : opCmp .Is (.ref p) .none k H = k false := (rfl)
theorem zex : opCmp .IsNot .none .none k H = k false := (rfl)
theorem zey : opCmp .IsNot (.int x) .none k H = k true := (rfl)
theorem zez : opCmp .IsNot (.str s) .none k H = k true := (rfl)
theorem zfa : opCmp .IsNot (.bool b) .none k H = k true := (rfl)
theorem zfb : opCmp .IsNot (.ref p) .none k H = k true := (rfl)

theorem zfc : opEq2 (.int x) (.int y) k H = k (x == y) := (rfl)
theorem zfd : opEq2 (.str s) (.str t) k H = k (s == t) := (rfl)
theorem zfe : opEq2 (.bool b) (.bool c) k H = k (b == c) := (rfl)
theorem zff : opEq2 (.bool b) (.int y) k H = k ((if b then 1 else 0) == y) := (rfl)
theorem zfg : opEq2 (.int x) (.bool c) k H = k (x == (if c then 1 else 0)) := (rfl)
theorem zfh : opEq2 (.int x) (.str t) k H = k false := (rfl)
theorem zfi : opEq2 (.str s) (.int y) k H = k false := (rfl)
theorem zfj : opEq2 (.str s) .none k H = k false := (rfl)
theorem zfk : opEq2 .none (.str s) k H = k false := (rfl)
theorem zfl : opEq2 .none .none k H = k true := (rfl)
theorem zfm : opEq2 .none (.int x) k H = k false := (rfl)
theorem zfn : opEq2 (.int x) .none k H = k false := (rfl)
theorem zfo : opEq2 (.bool b) (.str s) k H = k false := (rfl)
theorem zfp : opEq2 (.str s) (.bool b) k H = k false := (rfl)
theorem zfq : opEq2 (.bool b) .none k H = k false := (rfl)
theorem zfr : opEq2 .none (.bool b) k H = k false := (rfl)
def mtE (o : Option (Prop × Bool)) (k : Bool → Prop) (E : Prop) : Prop := match o with | some r => r.1 ∧ k r.2 | none => E
theorem zfs : opEq2 (.ref p) (.ref q) k H = mtE (eqM (H.get p) (H.get q)) k (opEq (.ref p) (.ref q) k H) := by
  unfold opEq2 mtE eqM
  try dsimp only
  rcases H.get p with _ | (_ | _ | _ | _ | _ | _ | _ | _) <;> try rfl
  all_goals rcases H.get q with _ | (_ | _ | _ | _ | _ | _ | _ | _) <;> rfl
theorem zft : opIdx (.ref p) (.int i) R H = mt (idxV (H.get p) i) R := by
  unfold opIdx mt idxV
  try dsimp only
  rcases H.get p with _ | (_ | _ | _ | _ | _ | _ | _ | _) <;> first | rfl | (dsimp only; split <;> simp_all)
theorem zfu : opIdx (.ref p) (.str s) R H = mt (idxS (H.get p) s) R := by
  unfold opIdx mt idxS
  try dsimp only
  rcases H.get p with _ | (_ | _ | _ | _ | _ | _ | _ | _) <;> first | rfl | (dsimp only; split <;> simp_all)
theorem zfv : opIdx (.str s) (.int i) R H = (0 ≤ i ∧ i < 2 ^ 62 ∧ mt s.cps[i.toNat]? (fun c => R (.str ⟨#[c]⟩))) := by
  unfold opIdx mt; dsimp only; cases s.cps[i.toNat]? <;> rfl

def slK (fz : List Nat) (xs : List V) (lo hi : V) (Q : V → AH → Prop) (H : AH) : Prop := match lo, hi with
      | .none, .int b => 0 ≤ b ∧ made fz (.list (xs.take b.toNat)) Q H
      | .int a, .none => 0 ≤ a ∧ made fz (.list (xs.drop a.toNat)) Q H
      | .int a, .int b => 0 ≤ a ∧ a ≤ b ∧ b ≤ xs.length ∧ made fz (.list ((xs.drop a.toNat).take (b - a).toNat)) Q H
      | _, _ => False
theorem zfx : slK fz xs .none (.int i) Q H = (0 ≤ i ∧ made fz (.list (xs.take i.toNat)) Q H) := (rfl)
theorem zfy : slK fz xs (.int i) .none Q H = (0 ≤ i ∧ made fz (.list (xs.drop i.toNat)) Q H) := (rfl)
theorem zfz : slK fz xs (.int i) (.int j) Q H = (0 ≤ i ∧ i ≤ j ∧ j ≤ xs.length ∧ made fz (.list ((xs.drop i.toNat).take (j - i).toNat)) Q H) := (rfl)
theorem zfw : opSlice fz (.ref p) v u Q H = mt (seqO (H.get p)) (fun xs => xs.length ≤ sizeLine ∧ slK fz xs v u Q H) := by
  unfold opSlice mt seqO slK
  try dsimp only
  rcases H.get p with _ | (_ | _ | _ | _ | _ | _ | _ | _) <;> rfl

theorem zga : opSet fz (.ref p) u v S H = mt (setV (H.get p) u v) (fun r => p ∉ fz ∧ r.1 ∧ S (H.set p r.2)) := by
  unfold opSet mt setV
  try dsimp only
  rcases H.get p with _ | (_ | _ | _ | es | _ | _ | _ | _) <;> try (cases u <;> rfl)
  cases es <;> cases u <;> first | rfl | simp

theorem zgb : opCall fz (.bi "len") [.ref p] Q H = mt (lenV (H.get p)) (fun n => Q (.int n) H) := by
  rw [C_len]; unfold mt lenV
  try dsimp only
  rcases H.get p with _ | (_ | _ | _ | _ | _ | _ | _ | _) <;> rfl
theorem zgc : opCall fz (.typ "dict") [.ref p] Q H = mt (dictV (H.get p)) (fun r => r.1 ≤ sizeLine ∧ made fz r.2 Q H) := by
  rw [C_dict]; unfold mt dictV
  try dsimp only
  rcases H.get p with _ | (_ | _ | _ | _ | _ | _ | _ | _) <;> rfl
theorem zhm : kindV H (.ref p) = kN (H.get p) := (rfl)
theorem zgd {T : String} : opCall fz (.bi "isinstance") [v, .typ T] Q H = (isiTypes.contains T = true ∧ mt (kindV H v) (fun K => Q (.bool (zdw K T)) H)) := by
  rw [C_isi]; unfold mt; cases kindV H v <;> rfl

theorem zge {name : Str} {g : String → Prop} : opGet H (.ref p) name g = mt (tyN (H.get p)) (fun T => getK T name g) := by
  rw [G_ref]; unfold mt tyN
  try dsimp only
  rcases H.get p with _ | (_ | _ | _ | _ | _ | _ | _ | _) <;> rfl
theorem zgf : opM fz "list.append" [.ref p, v] Q H = mt (listO (H.get p)) (fun xs => p ∉ fz ∧ xs.length ≤ sizeLine ∧ Q .none (H.set p (.list (xs ++ [v])))) := by
  rw [M_append]; unfold mt listO
  try dsimp only
  rcases H.get p with _ | (_ | _ | _ | _ | _ | _ | _ | _) <;> rfl
theorem zgg : opM fz "str.join" [.str s, .ref p] Q H = mt (listO (H.get p)) (fun xs => ∃ ss : List Str, xs = ss.map V.str ∧ JoinOk s ss = true ∧ Q (.str (Txt.join s ss)) H) := by
  rw [M_join]; unfold mt listO
  try dsimp only
  rcases H.get p with _ | (_ | _ | _ | _ | _ | _ | _ | _) <;> rfl

/-! names -/
def nameV (k : Option NameKind) (g l : Option V) : Option V := match k with
  | some .globalImplicit => g
  | some .globalExplicit => none
  | some _ => l
  | none => none
variable {K : Kx} {ρ : Env'} {z : Str} {g l : Option V}
theorem zhv : srcOf (.ref p) = [p] := (rfl)
theorem zhw : srcOf (.str s) = [] := (rfl)
end

theorem set_set (H : AH) (a : Nat) (n m : Node) : (H.set a n).set a m = H.set a m := by
  unfold AH.set; congr 1; funext b; by_cases h : b = a <;> simp [h]
theorem pI_length (es : DI) (k : Str) (n : Int) : (pI es k n).length ≤ es.length + 1 := by
  unfold pI; split <;> simp
theorem pick_nat (xs : List V) (k : Nat) : pick xs (k : Int) = xs[k]? := by
  unfold pick; rw [if_pos (Int.natCast_nonneg _), Int.toNat_natCast]
theorem pick_strs {xs : List Str} {k : Nat} {x : Str} (h : xs[k]? = some x) : pick (xs.map V.str) (k : Int) = some (.str x) := by
  rw [pick_nat, List.getElem?_map, h]; rfl

structure Box (p : Prop) : Prop where
  out : p
theorem seqsL_heap {ws : Stmt → Post → Env' → AH → Prop} {st : Stmt} {r : List Stmt} {R : Post} {ρ : Env'} {H : AH} (P : AH → Prop)
    (hst : Box (∀ H', P H' → seqsL ws r R ρ H') → ws st (thenS (seqsL ws r R) R) ρ H) (hrest : ∀ H', P H' → seqsL ws r R ρ H') : seqsL ws (st :: r) R ρ H := hst ⟨hrest⟩
theorem made_of {fz : List Nat} {n : Node} {Q : V → AH → Prop} {H : AH} (h : ∀ H' a, Ext H H' → H.get a = none → a ∉ fz → H'.get a = some n → Q (.ref a) H') : made fz n Q H :=
  fun a ha hf => h _ a (Ext.new ha) ha hf (AH.set_self ..)
end Mine

namespace Mine
open PySem PySem.Calls PySem.SeqAt PySem.W PyProof.Rows

/-- the call of a def from outside: nothing visible but what is only read -/
def TopTo (C : Cx) (d : Nat) (f : Value) (vs : List V) (Q : V → Prop) (H : AH) : Prop :=
  ∀ (A : Around) (s : Shared) (cvs : List Value) (E : Value → Shared → Prop), cvs.map toV = vs → s.heap = C.h₀ → s.gens = C.gens → s.os = C.os → (∀ a n, H.get a = some n → NodeAt C C.h₀ a n ∧ n.isRO = true) →
    A.frames = some [] → A.handled = none → A.depth + d < recursionLimit → A.units + 3 * d + 300 < cLine →
    wpAny C.M A (call f cvs) (fun v s' => Q (toV v) ∧ (∀ b o, C.h₀.get? b = some o → s'.heap.get? b = some o) ∧ s'.gens = C.gens ∧ s'.os = C.os) E s

theorem topTo_of {C : Cx} {a : Addr} {ps : List Str} {body : List Stmt} {scope : Scope} {d : Nat} {vs : List V} {Q : V → Prop} {H : AH}
    (F : FnAt C a ps body scope) (hs : scopeOk scope ps = true) (hl : vs.length = ps.length)
    (h : ∀ sn A env E, Good C [] d true sn A env → Stk C sn A env → (∀ x, env.kindOf x = zcx scope x) → Exits C sn env (fun _ _ _ => False) E →
      TR C sn A env (execs body env) (fun f _ H' => Q (match f with | .ret v => toV v | _ => .none)) E (zdc ps vs) H) :
    TopTo C (d + 1) (.ref a) vs Q H := by
  intro A s cvs E hcv hh hgens hos hnodes hfr hhd hdep hun
  obtain ⟨o, fd, ho, hd, hb, rfl, hg, hbi, hcl, hcd, hba⟩ := F
  simp only [scopeOk, Bool.and_eq_true, beq_iff_eq, Bool.not_eq_true', List.all_eq_true, bne_iff_ne, Bool.or_eq_true] at hs
  obtain ⟨⟨⟨⟨⟨⟨hk, hgen⟩, hco⟩, nd1⟩, nd2⟩, hfree⟩, hps⟩ := hs
  have nd1 := nodupS_iff nd1
  have nd2 := nodupS_iff nd2
  have hlen : cvs.length = ps.length := by rw [← hl, ← hcv]; simp
  have base : ∀ b o, C.h₀.get? b = some o → s.heap.get? b = some o := fun b o e => by rw [hh]; exact e
  have fresh : ∀ b, s.heap.objs.size ≤ b → s.heap.get? b = none := fun b hb => by
    cases q : s.heap.get? b with
    | none => rfl
    | some o => exact absurd (Heap.lt_size q) (Nat.not_lt.mpr hb)
  have hkeys : ∀ x ∈ ps.zip cvs, x.1 ∈ ps := fun x hx => (List.of_mem_zip hx).1
  have hmap : (ps.zip cvs).map (·.1) = ps := by rw [← List.unzip_fst]; simp [List.unzip_zip, hlen]
  refine wpAny_call (codeAny_call_cells (by omega) (base a o ho) hd (C.nolim.keeps base) (hcd.keeps base) hb (hba cvs hlen) hcl (fun x hx => ?_) (fun s₁ X₁ => ?_) hco hgen hk)
  · rcases hps x.1 (hkeys x hx) with q | q
    · exact .inl q
    · exact .inr ⟨q, cellsFrom_some _ _ _ _ (.inl q)⟩
  have EL : (callEnvC fd s.heap.objs.size a).locals = s.heap.objs.size := rfl
  have EC : (callEnvC fd s.heap.objs.size a).cells = cellsFrom (s.heap.objs.size + 1) fd.scope.names [] := rfl
  generalize hev : callEnvC fd s.heap.objs.size a = env' at X₁ ⊢
  have EK : ∀ x, env'.kindOf x = zcx fd.scope x := fun x => by subst hev; rfl
  rw [hev] at EL EC
  obtain ⟨h₁, tk, rfl, hkeep⟩ := X₁.done
  have own : ∀ b ∈ ownOf env', s.heap.get? b = none := fun b hb => by
    rcases List.mem_cons.mp hb with rfl | hb
    · exact fresh _ (by rw [EL]; exact Nat.le_refl _)
    · obtain ⟨p, hp, rfl⟩ := List.mem_map.mp hb
      have := X₁.above p.1 p.2 hp
      rw [EL] at this
      exact fresh _ (Nat.le_of_lt this)
  have ckeys : (env'.cells.map (·.1)).Nodup := by rw [EC]; exact cellsFrom_keys _ _ _ nd1 List.nodup_nil (by simp)
  have ok : EnvOk env' := by
    refine ⟨by subst hev; exact hk, by subst hev; exact hg, by subst hev; exact hbi, ?_, fun x hx => ?_⟩
    · unfold ownOf
      refine List.nodup_cons.mpr ⟨fun hm => ?_, ?_⟩
      · obtain ⟨p, hp, e⟩ := List.mem_map.mp hm
        have := X₁.above p.1 p.2 hp
        rw [e] at this; exact Nat.lt_irrefl _ this
      · exact List.pairwise_map.mpr X₁.apart
    · rw [EK] at hx
      rcases hx with hx | hx
      · rw [EC]; exact Option.isSome_iff_exists.mp (cellsFrom_some _ _ _ _ (.inl hx))
      · exact absurd rfl (hfree _ (mem_of_lookup hx))
  have hnone : ∀ b, s.heap.get? b = none → H.get b = none := fun b hb => by
    cases q : H.get b with
    | none => rfl
    | some n =>
      obtain ⟨o, ho, _⟩ := (hnodes b n q).1
      rw [hh, ho] at hb; cases hb
  have J : Inv C ⟨s.heap, H, [], []⟩ env' (zdc ps vs) H { s with heap := h₁, toks := tk } := by
    refine ⟨ok, fun b o e => hkeep b o (base b o e), fun b n e => (hnodes b n e).1.at (fun o ho => hkeep b o (base b o ho)), fun b n e r => (by rw [(hnodes b n e).2] at r; cases r), fun b o e e1 _ => ⟨e1, by rw [show ({ s with heap := h₁, toks := tk } : Shared).heap.get? b = some o from hkeep b o e]; exact Kept.refl o⟩,
      fun b hb => ⟨hnone b (own b hb), ?_⟩, ⟨_, X₁.toInCall.ns, fun x v e => ?_⟩, fun p hp => ⟨_, X₁.cell p.1 p.2 (lookup_of_mem ckeys hp)⟩, hgens, hos, fun b hb o e => ?_, fun b hb => ?_, fun b o e => ⟨o, hkeep b o e⟩⟩
    · cases q : C.h₀.get? b with
      | none => rfl
      | some o => have := base b o q; rw [own b hb] at this; cases this
    · unfold zdc at e
      rw [← hcv, lookup_zip_map] at e
      obtain ⟨cv, hcv1, rfl⟩ := Option.map_eq_some_iff.mp e
      refine ⟨cv, ?_, rfl⟩
      have hxp : x ∈ ps := hkeys _ (mem_of_lookup hcv1)
      obtain ⟨g1, g2⟩ := bind_get env'.kindOf (ps.zip cvs) (fun _ => none) (fun _ => none) x cv (by rw [hmap]; exact nd2) hcv1
      rcases hps x hxp with q | q
      · have : env'.kindOf x = some .local := (EK x).trans q
        exact .inl ⟨this, g1 this⟩
      · have hq : env'.kindOf x = some .cell := (EK x).trans q
        obtain ⟨c, hc⟩ := ok.cell x (.inl hq)
        refine .inr ⟨.inl hq, c, hc, ?_⟩
        have := X₁.cell x c hc
        rwa [g2 (by rw [hq]; decide)] at this
    · rw [own b hb] at e; cases e
    · cases hb
  have S : Stk C ⟨s.heap, H, [], []⟩ (A.deeper env') env' := ⟨by subst hev; rfl, [], by simp [Around.deeper, hfr], by simp⟩
  have G' : Good C [] d true ⟨s.heap, H, [], []⟩ (A.deeper env') env' := ⟨rfl, fun _ => hhd, by simp only [Around.deeper]; omega, by simp only [Around.deeper]; omega, S.frs ok.kind⟩
  refine wpAny_mono (h _ _ env' _ G' S EK (fun cls ρ' H' e s' hx _ => hx.elim) _ J) (fun f s' hf => ?_) fun _ _ e => e
  obtain ⟨ρ', H', J', q⟩ := hf
  have fin : (∀ b o, C.h₀.get? b = some o → s'.heap.get? b = some o) ∧ s'.gens = C.gens ∧ s'.os = C.os := ⟨J'.base, J'.gens, J'.os⟩
  cases f <;> exact ⟨q, fin⟩

theorem topTo_wp {C : Cx} {a : Addr} {ps : List Str} {body : List Stmt} {scope : Scope} {d n : Nat} {gv : Str → Option V} {ct : Str → Option Tr} {vs : List V} {Q : V → Prop} {H : AH}
    (F : FnAt C a ps body scope) (ok : KOk ⟨C, zcx scope, [], d, true, gv, ct⟩) (hs : scopeOk scope ps = true) (hl : vs.length = ps.length)
    (h : seqs (wpS n ⟨C, zcx scope, [], d, true, gv, ct⟩ (fun _ _ _ => False)) body (fun f _ _ => Q (match f with | .ret v => v | _ => .none)) (zdc ps vs) H) :
    TopTo C (d + 1) (.ref a) vs Q H := by
  refine topTo_of F hs hl fun sn A env E G S hkd hE => ?_
  refine (seqs_sound (wpS_sound n _ _ ok) body _ _ H h sn A env E G S hkd hE).mono fun f ρ' H' hf => ?_
  cases f <;> exact hf
end Mine

namespace Mine
open PySem PySem.Calls PySem.SeqAt PySem.W PyProof.Rows

theorem zip_lookup_some : ∀ (ps : List Str) (vals : List Value), vals.length = ps.length → ∀ n ∈ ps, ((ps.zip vals).lookup n).isNone = false
  | [], _, _, n, hn => by cases hn
  | p :: ps, [], h, _, _ => by simp at h
  | p :: ps, v :: vals, h, n, hn => by
    rw [List.zip_cons_cons, List.lookup_cons]
    split
    · rfl
    · rename_i hne
      rcases List.mem_cons.mp hn with rfl | hn
      · simp at hne
      · exact zip_lookup_some ps vals (by simpa using h) n hn

theorem fm_congr {α β : Type} {f g : α → Option β} : ∀ {l : List α}, (∀ x ∈ l, f x = g x) → l.filterMap f = l.filterMap g
  | [], _ => rfl
  | a :: r, h => by
    rw [List.filterMap_cons, List.filterMap_cons, h a (List.mem_cons_self ..), fm_congr fun x hx => h x (List.mem_cons_of_mem _ hx)]

theorem zip_filterMap : ∀ (ps : List Str) (vals : List Value), vals.length = ps.length → ps.Nodup → ps.filterMap (fun n => ((ps.zip vals).lookup n).map (fun x => (n, x))) = ps.zip vals
  | [], _, _, _ => rfl
  | p :: ps, [], h, _ => by simp at h
  | p :: ps, v :: vals, h, nd => by
    rw [List.nodup_cons] at nd
    rw [List.filterMap_cons, List.zip_cons_cons]
    simp only [List.lookup_cons, beq_self_eq_true, Option.map_some]
    congr 1
    refine (fm_congr fun n hn => ?_).trans (zip_filterMap ps vals (by simpa using h) nd.2)
    have : (n == p) = false := by simp only [beq_eq_false_iff_ne]; rintro rfl; exact nd.1 hn
    rw [this]

def plainP (p : Arguments) (ps : List Str) : Prop := p.posonlyargs = [] ∧ p.args.map (·.arg) = ps ∧ p.vararg = none ∧ p.kwonlyargs = [] ∧ p.kwarg = none

theorem bind_plain {fd : FuncData} {ps : List Str} (hp : plainP fd.params ps) (hd : fd.defaults = .none) (nd : ps.Nodup) (vals : List Value) (hl : vals.length = ps.length) : bindArgs fd ⟨vals, []⟩ = pure (ps.zip vals) := by
  obtain ⟨h1, h2, h3, h4, h5⟩ := hp
  have hm : ps.filter (fun n => ((ps.zip vals).lookup n).isNone) = [] := by
    rw [List.filter_eq_nil_iff]
    intro n hn
    rw [zip_lookup_some ps vals hl n hn]; decide
  unfold bindArgs
  have hs : seqItems? fd.defaults = pure none := by rw [hd]; rfl
  simp [h1, h2, h3, h4, h5, hs, hl, hm, zip_filterMap ps vals hl nd]

/-- a def that the top has made -/
theorem fnAt_top {C : Cx} {p : Program} {loose : List Str} {mean : ExcName → Option Value} (T : Top p loose mean C.mg C.mb C.h₀) {x : Str} {ps : List Str} {body : List Stmt} {scope : Scope}
    (hr : ∃ d ∈ recsOf p, d.name = x ∧ plainP d.params ps ∧ d.body = body ∧ d.scope = scope) (nd : ps.Nodup) : ∃ a, C.mg x = some (.ref a) ∧ GV C x = some (.ref a) ∧ Callee C (.ref a) ∧ FnAt C a ps body scope := by
  obtain ⟨d, hd, rfl, hp, rfl, rfl⟩ := hr
  obtain ⟨a, o, pm, code, doc, h1, h2, h3, h4⟩ := T.fn d hd
  refine ⟨a, h1, by unfold GV; rw [h1]; rfl, Callee.func h2 h3, o, _, h2, h3, rfl, rfl, rfl, rfl, rfl, h4, fun vals hl => bind_plain hp rfl nd vals hl⟩

theorem gv_builtin {C : Cx} {p : Program} {loose : List Str} {mean : ExcName → Option Value} (T : Top p loose mean C.mg C.mb C.h₀) {x : Str} {v : V} {cv : Value} (hb : bootBuiltins x = some cv) (hv : toV cv = v)
    (h1 : x ∉ startupNames) (h2 : x ∉ loose) (h3 : x ∉ (recsOf p).map (·.name)) (h4 : x ∉ (litsOf p).map (·.1)) (h5 : x ∉ (clssOf p loose).map (·.name)) (h6 : x ≠ "__name__") : ∃ cv, GV C x = some cv ∧ toV cv = v := by
  refine ⟨cv, ?_, hv⟩
  unfold GV
  rw [T.free x h1 h2 h3 h4 h5, T.builtins x h6, hb]; rfl

/-- the surroundings at a law's call -/
def cxOf (prog : Program) (w : World) (s : Shared) {p : Program} {loose : List Str} {mean : ExcName → Option Value} {mg mb : Str → Option Value} (T : Top p loose mean mg mb s.heap) (hi : importsNone p = true) : Cx :=
  ⟨prog, w, s.heap, mg, mb, s.gens, s.os, T.g, T.b, T.nolimit, by obtain ⟨mm, ⟨o, _, _, ho, _⟩, _⟩ := (T.seer hi).mods; exact ⟨o, ho⟩⟩

theorem intsAre_map : ∀ {vs : List Value} {xs : List Int}, IntsAre vs xs → vs.map toV = xs.map V.int := by
  intro vs xs h
  induction h with
  | nil => rfl
  | cons i t _ ih => rw [List.map_cons, List.map_cons, ih]; rfl
end Mine

namespace Mine
open PySem PySem.Calls PySem.SeqAt PySem.W PyProof.Rows

def recs (p : Program) : List (Str × Arguments × List Stmt × Scope) := (recsOf p).map fun d => (d.name, d.params, d.body, d.scope)
def rowRecs (p : Program) (is : List Nat) : List (Str × Arguments × List Stmt × Scope) := is.map fun i => (fname p i, fparams p i, fbody p i, fscope p i)
theorem rec_mem {p q : Program} {is : List Nat} (h : recs p = rowRecs q is) {i : Nat} (hi : i ∈ is) : ∃ d ∈ recsOf p, d.name = fname q i ∧ d.params = fparams q i ∧ d.body = fbody q i ∧ d.scope = fscope q i := by
  have hm : (fname q i, fparams q i, fbody q i, fscope q i) ∈ recs p := by rw [h]; exact List.mem_map.mpr ⟨i, hi, rfl⟩
  obtain ⟨d, hd, e⟩ := List.mem_map.mp hm
  simp only [Prod.mk.injEq] at e
  exact ⟨d, hd, e.1, e.2.1, e.2.2.1, e.2.2.2⟩

def freeOk (p : Program) (loose xs : List Str) : Bool := xs.all fun x => !startupNames.contains x && !loose.contains x && !((recsOf p).map (·.name)).contains x && !((litsOf p).map (·.1)).contains x && !((clssOf p loose).map (·.name)).contains x && x != ("__name__" : Str)
theorem gv_free {C : Cx} {p : Program} {loose : List Str} {mean : ExcName → Option Value} (T : Top p loose mean C.mg C.mb C.h₀) {xs : List Str} (hf : freeOk p loose xs = true) {x : Str} (hx : x ∈ xs) {v : V} {cv : Value} (hb : bootBuiltins x = some cv) (hv : toV cv = v) :
    ∃ cv, GV C x = some cv ∧ toV cv = v := by
  have h := List.all_eq_true.mp hf x hx
  simp only [Bool.and_eq_true, Bool.not_eq_true', List.contains_eq_mem, decide_eq_false_iff_not, bne_iff_ne] at h
  obtain ⟨⟨⟨⟨⟨h1, h2⟩, h3⟩, h4⟩, h5⟩, h6⟩ := h
  exact gv_builtin T hb hv h1 h2 h3 h4 h5 h6

theorem fnAt_row {C : Cx} {p q : Program} {loose : List Str} {mean : ExcName → Option Value} (T : Top p loose mean C.mg C.mb C.h₀) {is : List Nat} (h : recs p = rowRecs q is) (i : Nat) (x : Str) (ps : List Str) (hi : i ∈ is)
    (hx : fname q i = x) (hp : plainP (fparams q i) ps) (nd : nodupS ps = true) : ∃ a, C.mg x = some (.ref a) ∧ GV C x = some (.ref a) ∧ Callee C (.ref a) ∧ FnAt C a ps (fbody q i) (fscope q i) := by
  obtain ⟨d, hd, e1, e2, e3, e4⟩ := rec_mem h hi
  exact fnAt_top T ⟨d, hd, e1.trans hx, by rw [e2]; exact hp, e3, e4⟩ (nodupS_iff nd)

theorem well_dict {P : Params} {h : Heap} {a : Addr} {l : List PyData} (x : Well P h (.ref a) (ofPy (.list l))) : ∀ o, h.get? a = some o → o.dict = none := by
  unfold ofPy at x
  cases x with
  | list h1 _ => intro o ho; rw [h1] at ho; cases ho; rfl

/-- what a law's call needs, out of a walk of its body -/
theorem law_entry {prog p : Program} {w : World} {s : Shared} {loose : List Str} {mean mean' : ExcName → Option Value} {mg mb : Str → Option Value} (T : Top p loose mean mg mb s.heap) (hi : importsNone p = true) {fa lst : Addr} {vals : List Value} {scr : List Int} {d : Nat}
    {c : ClaimW} {cl : Str → Option Addr} {args : List WData} (hg : s.gens = #[]) (hm : mg "law" = some (.ref fa)) (hL : s.heap.IsList lst vals.toArray) (hI : IntsAre vals scr) (hz : ¬ (63 : Int) < (scr.length : Int)) (hd : d ≤ 20)
    (hro : ∀ o, s.heap.get? lst = some o → o.dict = none)
    (hlaw : ∃ a, mg "law" = some (.ref a) ∧ ∀ l H, AH.get H l = some (.rlist (scr.map V.int)) → TopTo (cxOf prog w s T hi) d (.ref a) [.ref l] (fun v => v = .bool true) H)
    (hpost : (∀ cls, c.raises args cls = false) ∧ c.post args (.bool true) args = true ∧ ∀ h', ReadsW c.records cl h' (.bool true) (.bool true) []) :
    wpAny (model prog w) callerA (call (.ref fa) [.ref lst]) (fun v s' => GoodWG c cl mean' args s (.ok (.ret v)) s') (fun e s' => GoodWG c cl mean' args s (.error e) s') s := by
  obtain ⟨a, ha, hT⟩ := hlaw
  rw [hm] at ha
  cases ha
  have hnode : NodeAt (cxOf prog w s T hi) s.heap lst (.rlist (scr.map V.int)) := by
    obtain ⟨o, ho, hc, n, hs⟩ := hL
    have hmap := intsAre_map hI
    refine ⟨o, ho, ?_, hc, hro o ho, vals.toArray, n, hs, by simpa using hmap⟩
    rw [List.length_map]; omega
  have h := hT lst ⟨fun b => if b = lst then some (.rlist (scr.map V.int)) else none⟩ (by simp) callerA s [.ref lst] (fun e s' => GoodWG c cl mean' args s (.error e) s') rfl rfl rfl rfl (fun b n e => by
    simp only at e
    split at e
    · rename_i hb
      subst hb
      injection e with e
      subst e
      exact ⟨hnode, rfl⟩
    · cases e) rfl rfl (by have : recursionLimit = 1000 := rfl; simp only [callerA, claimMargin]; omega) (by simp only [callerA, cLine]; omega)
  refine wpAny_mono h (fun v s' hv => ?_) fun _ _ e => e
  obtain ⟨hv, h1, h2, h3⟩ := hv
  have := toV_bool hv
  subst this
  exact GoodW.toG ⟨.inl ⟨.bool true, .bool true, [], rfl, hpost.1, hpost.2.2 _, hpost.2.1, fun _ => ⟨List.nodup_nil, by simp⟩⟩, h1, h3, h2.trans hg⟩
end Mine

namespace Mine
open PySem PySem.Calls PySem.SeqAt PySem.W PyProof.Rows

/-- what a table of names says -/
def tabAll {α : Type} (f : Str → Option α) : List (Str × α) → Prop
  | [] => True
  | (x, a) :: r => f x = some a ∧ tabAll f r
def noneAll {α : Type} (f : Str → Option α) : List Str → Prop
  | [] => True
  | x :: r => f x = none ∧ noneAll f r
theorem tab_congr {α : Type} {f g : Str → Option α} : ∀ {l : List (Str × α)}, (∀ x ∈ l.map (·.1), f x = g x) → tabAll f l → tabAll g l
  | [], _, _ => trivial
  | (x, a) :: r, h, t => ⟨(h x (by simp)) ▸ t.1, tab_congr (fun y hy => h y (by simp at hy ⊢; exact .inr hy)) t.2⟩
theorem tab_of {α : Type} : ∀ (l : List (Str × α)), (l.map (·.1)).Nodup → tabAll (fun x => l.lookup x) l
  | [], _ => trivial
  | (x, a) :: r, nd => by
    rw [List.map_cons, List.nodup_cons] at nd
    refine ⟨by simp, tab_congr (fun y hy => ?_) (tab_of r nd.2)⟩
    have : (y == x) = false := by simp only [beq_eq_false_iff_ne]; rintro rfl; exact nd.1 hy
    simp [List.lookup_cons, this]
theorem none_of {α : Type} {f : Str → Option α} : ∀ {l : List Str}, (∀ x ∈ l, f x = none) → noneAll f l
  | [], _ => trivial
  | x :: r, h => ⟨h x (by simp), none_of fun y hy => h y (by simp [hy])⟩

/-- the names that are still needed -/
theorem seqsL_env {ws : Stmt → Post → Env' → AH → Prop} {r : List Stmt} {R : Post} {ρ : Env'} {H : AH} (L : List (Str × V)) (hL : tabAll ρ L) (h : ∀ ρ', tabAll ρ' L → seqsL ws r R ρ' H) : seqsL ws r R ρ H := h ρ hL

/-- built-ins and contracts by table -/
structure GenT (C : Cx) (d : Nat) (gvT : List (Str × V)) (ctT : List (Str × Tr)) (free : Bool) : Prop where
  gv : ∀ p ∈ gvT, ∃ cv, GV C p.1 = some cv ∧ toV cv = p.2
  ct : ∀ p ∈ ctT, ∃ f, GV C p.1 = some f ∧ Callee C f ∧ ∀ fz vs Q X H, p.2 fz vs Q X H → CallsTo C fz d free f vs Q X H

/-- the keys of the tables are all different -/
def tabsOk (gvT : List (Str × V)) (ctT : List (Str × Tr)) : Bool := nodupS (ctT.map (·.1) ++ gvT.map (·.1))

theorem GenT.ok {C : Cx} {d : Nat} {gvT : List (Str × V)} {ctT : List (Str × Tr)} {free : Bool} (G : GenT C d gvT ctT free) {kd : Str → Option NameKind} {fz : List Nat} (h1 : kd "__debug__" = none) (h2 : kd "__classdict__" = none) :
    KOk ⟨C, kd, fz, d, free, fun x => gvT.lookup x, fun x => ctT.lookup x⟩ :=
  ⟨fun x v h => G.gv (x, v) (mem_of_lookup h), fun x T h => G.ct (x, T) (mem_of_lookup h), h1, h2⟩

section
variable {C : Cx} {a : Addr} {ps : List Str} {body : List Stmt} {scope : Scope} {fz : List Nat} {d n : Nat} {free : Bool} {gvT : List (Str × V)} {ctT : List (Str × Tr)} {vs : List V} {H : AH}

theorem tabs_say (hs : scopeOk scope ps = true) (ht : tabsOk gvT ctT = true) (hl : vs.length = ps.length) :
    tabAll (zcx scope) scope.names ∧ tabAll (fun x => gvT.lookup x) gvT ∧ tabAll (fun x => ctT.lookup x) ctT ∧ noneAll (fun x => ctT.lookup x) (gvT.map (·.1)) ∧ tabAll (zdc ps vs) (ps.zip vs) := by
  simp only [scopeOk, Bool.and_eq_true] at hs
  have nd := List.nodup_append.mp (nodupS_iff ht)
  refine ⟨tab_of _ (nodupS_iff hs.1.1.1.2), tab_of _ nd.2.1, tab_of _ nd.1, none_of fun x hx => ?_, tab_of _ ?_⟩
  · rw [List.lookup_eq_none_iff]
    intro p hp
    have := nd.2.2 p.1 (List.mem_map.mpr ⟨p, hp, rfl⟩) x hx
    simpa using fun e : x = p.1 => this e.symm
  · have : (ps.zip vs).map (·.1) = ps := by rw [← List.unzip_fst]; simp [List.unzip_zip, hl]
    rw [this]; exact nodupS_iff hs.1.1.2

/-- a def meets its contract, its names by table -/
theorem callsTo_tab {Q : V → AH → Prop} {X : Value → AH → Prop} (F : FnAt C a ps body scope) (G : GenT C d gvT ctT free) (hs : scopeOk scope ps = true) (hl : vs.length = ps.length) (ht : tabsOk gvT ctT = true)
    (hd : zcx scope "__debug__" = none ∧ zcx scope "__classdict__" = none)
    (h : ∀ kd gv ct ρ, tabAll kd scope.names ∧ tabAll gv gvT ∧ tabAll ct ctT ∧ noneAll ct (gvT.map (·.1)) ∧ tabAll ρ (ps.zip vs) →
      seqsL (wpS n ⟨C, kd, fz, d, free, gv, ct⟩ (fun cls _ H' => X cls H')) body (fun f _ H' => Q (match f with | .ret v => v | _ => .none) H') ρ H) :
    CallsTo C fz (d + 1) free (.ref a) vs Q X H :=
  callsTo_wp (n := n) F (G.ok hd.1 hd.2) hs hl (h _ _ _ _ (tabs_say hs ht hl))

theorem topTo_tab {Q : V → Prop} (F : FnAt C a ps body scope) (G : GenT C d gvT ctT true) (hs : scopeOk scope ps = true) (hl : vs.length = ps.length) (ht : tabsOk gvT ctT = true)
    (hd : zcx scope "__debug__" = none ∧ zcx scope "__classdict__" = none)
    (h : ∀ kd gv ct ρ, tabAll kd scope.names ∧ tabAll gv gvT ∧ tabAll ct ctT ∧ noneAll ct (gvT.map (·.1)) ∧ tabAll ρ (ps.zip vs) →
      seqsL (wpS n ⟨C, kd, [], d, true, gv, ct⟩ (fun _ _ _ => False)) body (fun f _ _ => Q (match f with | .ret v => v | _ => .none)) ρ H) :
    TopTo C (d + 1) (.ref a) vs Q H :=
  topTo_wp (n := n) F (G.ok hd.1 hd.2) hs hl (h _ _ _ _ (tabs_say hs ht hl))
end
end Mine

namespace Mine
open PySem PySem.Calls PySem.SeqAt PySem.W PyProof.Rows

/-- the names that a comprehension takes from around it -/
def freesOf (scope : Scope) : List Str := scope.names.filterMap fun y => if y.2 = .free then some y.1 else none
def cellAll (kd : Str → Option NameKind) : List Str → Prop
  | [] => True
  | x :: r => kd x = some .cell ∧ cellAll kd r
theorem cellAll_mem {kd : Str → Option NameKind} : ∀ {l : List Str}, cellAll kd l → ∀ x ∈ l, kd x = some .cell
  | [], _, _, h => by cases h
  | y :: r, h, x, hx => by
    rcases List.mem_cons.mp hx with rfl | hx
    · exact h.1
    · exact cellAll_mem h.2 x hx
theorem compOk_of {scope : Scope} {kd : Str → Option NameKind} {x : Str} (h1 : compOk scope (fun _ => some .cell) x = true) (h2 : cellAll kd (freesOf scope)) : compOk scope kd x = true := by
  simp only [compOk, Bool.and_eq_true, List.all_eq_true, Bool.or_eq_true, bne_iff_ne, beq_iff_eq] at h1 ⊢
  refine ⟨h1.1, fun y hy => ⟨(h1.2 y hy).1, ?_⟩⟩
  by_cases hf : y.2 = .free
  · exact .inr (cellAll_mem h2 y.1 (List.mem_filterMap.mpr ⟨y, hy, by simp [hf]⟩))
  · exact .inl hf

def rlO : Option Node → Option (List V)
  | some (.rlist xs) => some xs
  | _ => none
theorem zit {xs : List V} : rlO (some (.rlist xs)) = some xs := (rfl)

/-! contracts -/
def T_cell : Tr := fun _ vs Q _ H => ∃ l k, vs = [.ref l, .int k] ∧ mt (rlO (H.get l)) (fun ys => 0 ≤ k ∧ Q (ys.getD k.toNat (.int 0)) H)
theorem zis {fz : List Nat} {l : Nat} {k : Int} {Q : V → AH → Prop} {X : Value → AH → Prop} {H : AH} : T_cell fz [.ref l, .int k] Q X H = mt (rlO (H.get l)) (fun ys => 0 ≤ k ∧ Q (ys.getD k.toNat (.int 0)) H) := by
  apply propext
  constructor
  · rintro ⟨l, k, e, h⟩; cases e; exact h
  · exact fun h => ⟨l, k, rfl, h⟩
theorem mt_out {α : Type} {o : Option α} {Q : α → Prop} (h : mt o Q) : ∃ a, o = some a ∧ Q a := by
  cases o with
  | none => exact h.elim
  | some a => exact ⟨a, rfl, h⟩
theorem rlO_out {o : Option Node} {xs : List V} (h : rlO o = some xs) : o = some (.rlist xs) := by
  unfold rlO at h
  split at h
  · injection h with h; rw [h]
  · cases h

def wordL (c : Int) (k : Int) : List Nat :=
  if c.fmod 2 = 1 then (List.range (1 + k.fmod 8).toNat).map fun j => ltr (c.fdiv 2 + k.fdiv 8 * 3 + (j : Nat))
  else List.replicate ((c.fdiv 52).fmod 8).toNat (ltr (c.fdiv 2)) ++ [ltr (c.fdiv 416 + 7 * k)] ++ List.replicate ((c.fdiv 416).fmod (8 - (c.fdiv 52).fmod 8)).toNat (ltr (c.fdiv 2))
def poolOf (c : Int) : List Str := (List.range 26).map fun k => tx (wordL c (k : Nat))
def T_pool : Tr := fun fz vs Q _ H => ∃ c, vs = [.int c] ∧ gives fz (.list ((poolOf c).map V.str)) Q H
def T_number : Tr := fun _ vs Q _ H => (∃ c, vs = [.int c]) ∧ ∀ n : Int, Q (.int n) H
theorem ziu {fz : List Nat} {k : Int} {Q : V → AH → Prop} {X : Value → AH → Prop} {H : AH} : T_number fz [.int k] Q X H = ∀ n : Int, Q (.int n) H :=
  propext ⟨fun h => h.2, fun h => ⟨⟨k, rfl⟩, h⟩⟩
def T_begun : Tr := fun fz vs Q _ H => ∃ (p : Nat) (st : Stp), vs = [.ref p] ∧ H.get p = some (.tuple st.vs) ∧ made fz (.list (st.goes.map V.str)) Q H
def T_brought : Tr := fun fz vs Q _ H => ∃ (p : Nat) (st : Stp), vs = [.ref p] ∧ H.get p = some (.tuple st.vs) ∧ made fz (.list (st.comes.map V.str)) Q H
def T_staying : Tr := fun fz vs Q _ H => ∃ (r g : Nat) (es : DI) (ss : List Str), vs = [.ref r, .ref g] ∧ H.get r = some (.sdict (dI es)) ∧ H.get g = some (.list (ss.map V.str)) ∧ (keys es).Nodup ∧ es.length ≤ 1000 ∧ gives fz (.sdict (dI (stay es ss))) Q H
def T_forth : Tr := fun fz vs Q _ H => ∃ (p r : Nat) (own : Int) (st : Stp) (es : DI), vs = [.ref p, .ref r, .int own] ∧ H.get p = some (.tuple st.vs) ∧ H.get r = some (.sdict (dI es)) ∧ Fits st (keys es) ∧ es.length ≤ 1000 ∧ gives fz (.sdict (dI (fwd st es own))) Q H

/-! the pool's words are all different -/
theorem ltr_inj {a b : Int} (h : ltr a = ltr b) : a % 26 = b % 26 := by
  obtain ⟨h1, h2⟩ := fmod26 a
  obtain ⟨h3, h4⟩ := fmod26 b
  unfold ltr at h
  rw [Int.fmod_eq_emod_of_nonneg _ (by decide)] at *
  rw [Int.fmod_eq_emod_of_nonneg _ (by decide)] at *
  omega

theorem word_ne {c : Int} {i j : Nat} (hij : i < j) (hj : j < 26) : tx (wordL c (i : Nat)) ≠ tx (wordL c (j : Nat)) := by
  intro h
  have h := tx_inj h
  unfold wordL at h
  by_cases hc : c.fmod 2 = 1
  · rw [if_pos hc, if_pos hc] at h
    have hl := congrArg List.length h
    simp only [List.length_map, List.length_range] at hl
    have e1 : (i : Int).fmod 8 = (i : Int) % 8 := Int.fmod_eq_emod_of_nonneg _ (by decide)
    have e2 : (j : Int).fmod 8 = (j : Int) % 8 := Int.fmod_eq_emod_of_nonneg _ (by decide)
    have e3 : (i : Int).fdiv 8 = (i : Int) / 8 := Int.fdiv_eq_ediv_of_nonneg _ (by decide)
    have e4 : (j : Int).fdiv 8 = (j : Int) / 8 := Int.fdiv_eq_ediv_of_nonneg _ (by decide)
    rw [e1, e2] at hl h
    rw [e3, e4] at h
    have h0 := congrArg (fun l => l[0]?) h
    simp only [List.getElem?_map] at h0
    rw [List.getElem?_range (by omega), List.getElem?_range (by omega)] at h0
    simp only [Option.map_some, Option.some.injEq] at h0
    have := ltr_inj h0
    omega
  · rw [if_neg hc, if_neg hc] at h
    have h1 := List.append_cancel_right h
    have h2 := List.append_cancel_left h1
    injection h2 with h3
    have := ltr_inj h3
    omega

theorem pool_nodup (c : Int) : (poolOf c).Nodup := by
  unfold poolOf
  show List.Pairwise _ _
  rw [List.pairwise_map]
  refine List.Pairwise.imp_of_mem (fun {a b} ha hb h => ?_) (List.pairwise_lt_range (n := 26))
  exact word_ne h (List.mem_range.mp hb)
theorem pool_length (c : Int) : (poolOf c).length = 26 := by simp [poolOf]

theorem get_beyond {P : List Str} {m k : Nat} (nd : P.Nodup) (hm : m ≤ k) (hk : k < P.length) : ∃ x, pick (P.map V.str) (k : Int) = some (.str x) ∧ P[k]? = some x ∧ x ∉ P.take m := by
  have hx : P[k]? = some P[k] := List.getElem?_eq_getElem hk
  refine ⟨P[k], pick_strs hx, hx, fun hm => ?_⟩
  obtain ⟨i, hi, e⟩ := List.mem_iff_getElem.mp hm
  rw [List.getElem_take] at e
  rw [List.length_take] at hi
  have hi' : i < P.length := by omega
  have h2 : P[i]? = P[k]? := by rw [List.getElem?_eq_getElem hi', hx, e]
  have := (List.getElem?_inj hi' nd).mp h2
  omega
theorem get_apart {P : List Str} {i j : Nat} {x y : Str} (nd : P.Nodup) (hx : P[i]? = some x) (hy : P[j]? = some y) (h : i ≠ j) : x ≠ y := by
  rintro rfl
  obtain ⟨hi, _⟩ := List.getElem?_eq_some_iff.mp hx
  exact h ((List.getElem?_inj hi nd).mp (hx.trans hy.symm))
theorem not_in_take {ns : List Str} {k : Nat} {x : Str} (nd : ns.Nodup) (h : ns[k]? = some x) : x ∉ ns.take k := fun hm => by
  obtain ⟨i, hi, e⟩ := List.mem_iff_getElem.mp hm
  rw [List.length_take] at hi
  rw [List.getElem_take] at e
  have hi' : i < ns.length := by omega
  have h2 : ns[i]? = ns[k]? := by rw [List.getElem?_eq_getElem hi', h, e]
  have := (List.getElem?_inj hi' nd).mp h2
  omega
theorem rot_two {ns : List Str} {t : Nat} (nd : ns.Nodup) (h : 2 ≤ ns.length) : ∃ A B r, ns.drop t ++ ns.take t = A :: B :: r ∧ (A ∈ ns ∧ B ∈ ns ∧ A ≠ B) := by
  have hp : (ns.drop t ++ ns.take t).Perm ns := (List.perm_append_comm).trans (by rw [List.take_append_drop])
  have hl := hp.length_eq
  match hq : ns.drop t ++ ns.take t, hl with
  | [], hl => simp at hl; omega
  | [_], hl => simp at hl; omega
  | A :: B :: r, _ =>
    rw [hq] at hp
    refine ⟨A, B, r, rfl, hp.mem_iff.mp (by simp), hp.mem_iff.mp (by simp), ?_⟩
    have := hp.nodup_iff.mpr nd
    simp at this
    exact this.1.1
theorem fmod10 (i : Int) : 0 ≤ i.fmod 10 ∧ i.fmod 10 < 10 := ⟨Int.fmod_nonneg_of_pos _ (by decide), Int.fmod_lt_of_pos _ (by decide)⟩
theorem fwd_nodup {st : Stp} {es : DI} {own : Int} (ft : Fits st (keys es)) : (keys (fwd st es own)).Nodup := by
  rw [keys_fwd ft, List.nodup_append]
  refine ⟨ft.nd.sublist (List.filter_sublist ..), ft.cnd, fun a ha b hb e => ?_⟩
  subst e
  obtain ⟨h1, h2⟩ := List.mem_filter.mp ha
  simp only [decide_eq_true_eq] at h2
  exact h2 (ft.comes _ hb h1)
end Mine

namespace Mine
open PySem PySem.Calls PySem.SeqAt PySem.W PyProof.Rows

theorem fits_of {ns : List Str} {A B x y P13 P14 : Str} {kind sz n : Int} (nd : ns.Nodup) (hA : A ∈ ns) (hB : B ∈ ns) (hAB : A ≠ B) (q13 : P13 ∉ ns) (q14 : P14 ∉ ns) (hz : 2 ≤ sz ∧ sz ≤ 1000000) (h0 : 0 ≤ kind) (h7 : kind < 7)
    (hx : x = P13 ∨ (kind ≠ 0 ∧ x = A) ∨ (kind = 6 ∧ x = B)) (hy : y = P14 ∨ y = A) (hxy : kind = 5 → x ≠ y) : Fits (mkStp kind A B x y sz n) ns := by
  have hk : kind = 0 ∨ kind = 1 ∨ kind = 2 ∨ kind = 3 ∨ kind = 4 ∨ kind = 5 ∨ kind = 6 := by omega
  have hx' : x ∈ ns → kind ≠ 0 ∧ (x = A ∨ (kind = 6 ∧ x = B)) := fun hm => by
    rcases hx with rfl | ⟨h1, h2⟩ | ⟨h1, h2⟩
    · exact absurd hm q13
    · exact ⟨h1, .inl h2⟩
    · exact ⟨by omega, .inr ⟨h1, h2⟩⟩
  have hy' : y ∈ ns → y = A := fun hm => by
    rcases hy with rfl | h
    · exact absurd hm q14
    · exact h
  rcases hk with rfl | rfl | rfl | rfl | rfl | rfl | rfl <;> refine ⟨nd, ?_, ?_, ?_, ?_, ?_⟩ <;> simp [mkStp, Stp.goes, Stp.comes, Stp.sizeOk, hA, hB, hAB, hz] <;> simp at hx' hxy
  · exact hx'
  · exact hx'
  · exact ⟨hx', hy'⟩
  · exact hxy
  · exact hx'

theorem val_put {es : DI} {k j : Str} {n : Int} : val (pI es k n) j = if j = k then n else val es j := by
  unfold val; rw [gI_put]; split <;> rfl
theorem gI_val {es : DI} {k : Str} (h : k ∈ keys es) : gI es k = some (val es k) := by
  obtain ⟨n, hn⟩ := gI_some h; unfold val; rw [hn]; rfl
theorem mem_of_gI {es : DI} {k : Str} {n : Int} (h : gI es k = some n) : k ∈ keys es := by
  by_cases hm : k ∈ keys es
  · exact hm
  · rw [gI_none hm] at h; cases h
theorem put_nodup {es : DI} {k : Str} {n : Int} (h : (keys es).Nodup) : (keys (pI es k n)).Nodup := by
  rw [keys_put]
  split
  · exact h
  · rename_i hk
    rw [List.nodup_append]
    exact ⟨h, by simp, fun a ha b hb e => by simp at hb; subst hb; subst e; exact hk ha⟩
theorem stay_nodup {es : DI} {g : List Str} (h : (keys es).Nodup) : (keys (stay es g)).Nodup := by
  rw [keys_stay]; exact h.sublist (List.filter_sublist ..)
theorem mem_put {es : DI} {k j : Str} {n : Int} : j ∈ keys (pI es k n) ↔ j = k ∨ j ∈ keys es := by
  rw [keys_put]
  split
  · rename_i h
    constructor
    · exact .inr
    · rintro (rfl | h')
      · exact h
      · exact h'
  · simp [or_comm]
theorem dEq_of {es fs : DI} (h1 : (keys es).Nodup) (h2 : (keys fs).Nodup) (h : ∀ k, gI es k = gI fs k) : dEq (dI es) (dI fs) = true := by
  have hmem : ∀ k, k ∈ keys es ↔ k ∈ keys fs := fun k => by
    constructor
    · intro hk; obtain ⟨n, hn⟩ := gI_some hk; rw [h] at hn; exact mem_of_gI hn
    · intro hk; obtain ⟨n, hn⟩ := gI_some hk; rw [← h] at hn; exact mem_of_gI hn
  have hl : es.length = fs.length := by
    rw [← keys_length, ← keys_length]
    exact ((List.perm_ext_iff_of_nodup h1 h2).mpr hmem).length_eq
  rw [dEq_dI, hl]
  simp only [beq_self_eq_true, Bool.true_and, List.all_eq_true, beq_iff_eq]
  exact fun p hp => by rw [← h]; exact gI_of_mem h1 hp

/-! a step taken back -/
def bwd (st : Stp) (rd el : DI) : DI :=
  match st with
  | .add x _ => stay rd [x]
  | .drop a => pI (stay rd []) a (val el a)
  | .name a x => pI (stay rd [x]) a (val rd x)
  | .shift a n => pI (stay rd [a]) a (val rd a - n)
  | .turn a => pI (stay rd [a]) a (0 - val rd a)
  | .part a x y s => pI (stay rd [x, y]) a (val rd x * s + val rd y)
  | .join a b x s => pI (pI (stay rd [x]) a ((val rd x).fdiv s - (val el b).fdiv s)) b ((val rd x).fmod s + (val el b).fdiv s * s)
def Low (st : Stp) (rd : DI) : Prop :=
  match st with
  | .part _ _ y s => 0 ≤ val rd y ∧ val rd y < s
  | _ => True
def Agree (st : Stp) (m el : DI) : Prop :=
  match st with
  | .drop a => val m a = val el a
  | .join _ b _ s => (val m b).fdiv s = (val el b).fdiv s
  | _ => True

theorem fdm (x q s : Int) (h : 0 < s) (h0 : 0 ≤ x) (h1 : x < s) : (x + q * s).fdiv s = q := by
  rw [Int.fdiv_eq_ediv_of_nonneg _ (by omega), Int.add_mul_ediv_right _ _ (by omega), Int.ediv_eq_zero_of_lt h0 h1]; omega
theorem fdm2 (a b s : Int) (h : 0 < s) : (a * s + b).fdiv s = a + b.fdiv s ∧ (a * s + b).fmod s = b.fmod s := by
  have e : a * s + b = b + a * s := by omega
  rw [Int.fdiv_eq_ediv_of_nonneg _ (by omega), Int.fdiv_eq_ediv_of_nonneg _ (by omega), Int.fmod_eq_emod_of_nonneg _ (by omega), Int.fmod_eq_emod_of_nonneg _ (by omega), e, Int.add_mul_ediv_right _ _ (by omega), Int.add_mul_emod_self_right]
  exact ⟨by omega, rfl⟩
theorem fmd (a s : Int) : a.fdiv s * s + a.fmod s = a := by have := Int.mul_fdiv_add_fmod a s; rw [Int.mul_comm] at this; exact this

theorem bwd_same {st : Stp} {rd m el : DI} (h : Agree st m el) : bwd st rd m = bwd st rd el := by
  cases st <;> simp only [Agree] at h <;> simp only [bwd, h]
theorem agree_bwd {st : Stp} {rd el : DI} (hs : st.sizeOk) (hg : st.goes.Nodup) : Agree st (bwd st rd el) el := by
  cases st <;> simp only [Agree, bwd]
  · rw [val_put, if_pos rfl]
  · rename_i a b x s
    simp only [Stp.sizeOk] at hs
    rw [val_put, if_pos rfl]
    exact fdm _ _ _ (by omega) (Int.fmod_nonneg_of_pos _ (by omega)) (Int.fmod_lt_of_pos _ (by omega))
theorem bwd_nodup {st : Stp} {rd el : DI} (h : (keys rd).Nodup) : (keys (bwd st rd el)).Nodup := by
  cases st <;> simp only [bwd] <;> first | exact stay_nodup h | exact put_nodup (stay_nodup h) | exact put_nodup (put_nodup (stay_nodup h))
theorem bwd_length {st : Stp} {rd el : DI} : (bwd st rd el).length ≤ rd.length + 2 := by
  have h0 : ∀ g, (stay rd g).length ≤ rd.length := fun g => List.length_filter_le ..
  have h1 : ∀ g k n, (pI (stay rd g) k n).length ≤ rd.length + 1 := fun g k n => Nat.le_trans (pI_length ..) (Nat.add_le_add_right (h0 g) 1)
  cases st <;> simp only [bwd]
  · exact Nat.le_trans (h0 _) (by omega)
  · exact Nat.le_trans (h1 _ _ _) (by omega)
  · exact Nat.le_trans (h1 _ _ _) (by omega)
  · exact Nat.le_trans (h1 _ _ _) (by omega)
  · exact Nat.le_trans (h1 _ _ _) (by omega)
  · exact Nat.le_trans (h1 _ _ _) (by omega)
  · exact Nat.le_trans (pI_length ..) (Nat.add_le_add_right (h1 _ _ _) 1)
theorem goes_bwd {st : Stp} {rd el : DI} : ∀ a ∈ st.goes, a ∈ keys (bwd st rd el) := by
  cases st <;> simp [Stp.goes, bwd, mem_put]

/-- there and back -/
theorem bwd_fwd {st : Stp} {el m : DI} {n : Int} (ft : Fits st (keys el)) (ag : Agree st m el) (k : Str) : gI (bwd st (fwd st el n) m) k = gI el k := by
  have hc := ft.comes
  have hg := ft.goes
  have hn := ft.cnd
  have hgn := ft.gnd
  have hs := ft.size
  cases st <;> simp only [Stp.goes, Stp.comes, Stp.sizeOk, Agree, List.mem_cons, List.not_mem_nil, or_false, forall_eq, forall_eq_or_imp] at hc hg hn hgn hs ag <;> simp only [bwd, fwd]
  · rename_i x c
    rw [gI_stay, gI_put, gI_stay]
    by_cases hk : k = x
    · subst hk; simp [gI_none (fun hm => hc hm)]
    · simp [hk]
  · rename_i a
    rw [gI_put, gI_stay, gI_stay, ag]
    by_cases hk : k = a
    · subst hk; simp [gI_val hg]
    · simp [hk]
  · rename_i a x
    rw [gI_put, gI_stay, gI_put, gI_stay, val_put, if_pos rfl]
    by_cases hk : k = a
    · subst hk; simp [gI_val hg]
    · by_cases hx : k = x
      · subst hx; simp [hk, gI_none (fun hm => hk (hc hm))]
      · simp [hk, hx]
  · rename_i a c
    rw [gI_put, gI_stay, gI_put, gI_stay, val_put, if_pos rfl]
    by_cases hk : k = a
    · subst hk; simp [gI_val hg]
    · simp [hk]
  · rename_i a
    rw [gI_put, gI_stay, gI_put, gI_stay, val_put, if_pos rfl]
    by_cases hk : k = a
    · subst hk; simp [gI_val hg]
    · simp [hk]
  · rename_i a x y s
    have hxy : x ≠ y := by simpa using hn
    rw [gI_put, gI_stay, gI_put, gI_put, gI_stay, val_put, if_neg hxy, val_put, if_pos rfl, val_put, if_pos rfl, fmd]
    by_cases hk : k = a
    · subst hk; simp [gI_val hg]
    · by_cases hx : k = x
      · subst hx; simp [hk, gI_none (fun hm => hk (hc.1 hm))]
      · by_cases hy : k = y
        · subst hy; simp [hk, hx, gI_none (fun hm => hk (hc.2 hm))]
        · simp [hk, hx, hy]
  · rename_i a b x s
    have hab : a ≠ b := by simpa using hgn
    have h2 := fdm2 (val el a) (val el b) s (by omega)
    rw [gI_put, gI_put, gI_stay, gI_put, gI_stay, val_put, if_pos rfl, h2.1, h2.2, ag]
    by_cases hb : k = b
    · subst hb
      have := fmd (val el k) s
      simp [gI_val hg.2]; omega
    · by_cases ha : k = a
      · subst ha; simp [hb, gI_val hg.1]
      · by_cases hx : k = x
        · subst hx; simp [ha, hb, gI_none (fun hm => (hc hm).elim ha hb)]
        · simp [ha, hb, hx]
end Mine

namespace Mine
theorem ziw : type_of% @List.lookup_nil := @List.lookup_nil
theorem zix : type_of% @List.zip_cons_cons := @List.zip_cons_cons
theorem ziy : type_of% @List.zip_nil_left := @List.zip_nil_left
theorem ziz : type_of% @decide_eq_true_eq := @decide_eq_true_eq
theorem zja : type_of% @decide_eq_false_iff_not := @decide_eq_false_iff_not
theorem zjb : type_of% @ne_eq := @ne_eq
theorem zjc : type_of% @not_false_eq_true := @not_false_eq_true
theorem zjd : type_of% @not_true_eq_false := @not_true_eq_false
theorem zje : type_of% @Int.toNat_natCast := @Int.toNat_natCast
theorem zjf : type_of% @List.map_cons := @List.map_cons
theorem zjg : type_of% @List.map_nil := @List.map_nil
theorem zjh : type_of% @Option.some.injEq := @Option.some.injEq
theorem zji : type_of% @List.cons_append := @List.cons_append
theorem zjj : type_of% @List.nil_append := @List.nil_append
theorem zjk : type_of% @List.singleton_append := @List.singleton_append
theorem zjl : type_of% @beq_iff_eq := @beq_iff_eq
theorem zjm : type_of% @beq_eq_false_iff_ne := @beq_eq_false_iff_ne
theorem zjn : type_of% @Bool.and_eq_true := @Bool.and_eq_true
theorem zjo : type_of% @Bool.not_true := @Bool.not_true
theorem zjp : type_of% @Bool.not_false := @Bool.not_false
theorem zjq : type_of% @Bool.not_eq_true' := @Bool.not_eq_true'
theorem zjr : type_of% @Bool.not_eq_false' := @Bool.not_eq_false'
theorem zjs : type_of% @Bool.true_and := @Bool.true_and
theorem zjt : type_of% @Bool.and_true := @Bool.and_true
theorem zju : type_of% @Bool.false_and := @Bool.false_and
theorem zjv : type_of% @Bool.and_false := @Bool.and_false
theorem zjw : type_of% @Bool.or_true := @Bool.or_true
theorem zjx : type_of% @Bool.true_or := @Bool.true_or
theorem zjy : type_of% @Bool.or_false := @Bool.or_false
theorem zjz : type_of% @Bool.false_or := @Bool.false_or
theorem zka : type_of% @List.isEmpty_nil := @List.isEmpty_nil
theorem zkb : type_of% @List.isEmpty_cons := @List.isEmpty_cons
theorem zkc : type_of% @true_and := @true_and
theorem zkd : type_of% @and_true := @and_true
theorem zke : type_of% @false_and := @false_and
theorem zkf : type_of% @and_false := @and_false
theorem zkg : type_of% @and_self := @and_self
theorem zkh : type_of% @forall_const := @forall_const
theorem zki : type_of% @if_true := @if_true
theorem zkj : type_of% @if_false := @if_false
theorem zkk : type_of% @List.length_cons := @List.length_cons
theorem zkl : type_of% @List.length_nil := @List.length_nil
theorem zkm : type_of% @beq_self_eq_true := @beq_self_eq_true
theorem zkn : type_of% @decide_true := @decide_true
theorem zko : type_of% @decide_false := @decide_false
theorem zkp : type_of% @ite_true := @ite_true
theorem zkq : type_of% @ite_false := @ite_false
theorem zkr : type_of% @implies_true := @implies_true
theorem zks : type_of% @false_implies := @false_implies
open PySem PySem.Calls PySem.SeqAt PySem.W PyProof.Rows PySem.Challenge

set_option maxRecDepth 100000
set_option maxHeartbeats 4000000
set_option linter.unusedSimpArgs false
set_option linter.unusedVariables false

abbrev pw := pw_uf040039_05
def gvB : List (Str × V) := [("len", .bi "len"), ("range", .typ "range"), ("isinstance", .bi "isinstance"), ("sorted", .bi "sorted"), ("dict", .typ "dict")]
def ctF : List (Str × Tr) := [("staying_of", T_staying), ("begun_from", T_begun)]


theorem ok_cell {C : Cx} {a : Addr} {fz : List Nat} {d : Nat} {vs : List V} {Q : V → AH → Prop} {X : Value → AH → Prop} {H : AH} (F : FnAt C a ["_law_script", "_law_k"] (fbody pw 10) (fscope pw 10))
    (G : GenT C d gvB [] true) (h : T_cell fz vs Q X H) : CallsTo C fz (d + 1) true (.ref a) vs Q X H := by
  obtain ⟨l, k, rfl, h⟩ := h
  refine callsTo_tab (n := 60) F G rfl rfl rfl ⟨rfl, rfl⟩ ?_
  intro kd gv ct ρ hT
  generalize hb : fbody pw 10 = b
  conv at hb => lhs; whnf
  subst hb
  generalize hb : (fscope pw 10).names = b at hT
  conv at hb => lhs; whnf
  subst hb
  simp only [tabAll, noneAll, gvB, List.map_cons, List.map_nil, List.zip_cons_cons, List.zip_nil_left, List.zip_nil_right, and_true, true_and] at hT
  obtain ⟨ys, hl, hk, h⟩ := mt_out h
  replace hl := rlO_out hl
  refine seqsL_cons ?_
  (simp (maxSteps := 1000000) (implicitDefEqProofs := false) only [↓zb, ↓reduceIte, zc, ↓zd, ↓ze, ↓zg, ↓zh, ↓zi, ↓zj, ↓zk, ↓zl, ↓zn, ↓zo, ↓zp, ↓zq, ↓zr, ↓zt, ↓zu, ↓zv, ↓zw, ↓zx, ↓zy, ↓zz, ↓zba, ↓zbb, ↓zbc, ↓zbd, ↓zbe, ↓zbf, ↓zbg, ↓zbh, ↓zbi, ↓zbj, ↓zbk, ↓zbl, ↓zbm, ↓zbn, ↓zbo, ↓zbp, ↓zbq, ↓zbr, ↓zbs, ↓zbt, ↓zbu, ↓zbv, ↓zbw, ↓zbx, ↓zby, ↓zbz, ↓zca, ↓zcb, ↓zcc, ↓zcd, ↓zce, ↓zcf, ↓zcg, ↓zch, ↓zci, ↓zcj, ↓zck, ↓zcl, ↓zcm, ↓zcn, ↓zco, ↓zcp, ↓zcq, ↓zcr, ↓zcs, ↓zct, ↓zcu, ↓zcv, ↓zcw, ↓mt, zcx, kwl, ziw, zcy, zcz, zda, zdb, zdc, zix, ziy, ziz, zja, zdd, zde, zdf, zdg, zdh, zdi, zdj, zdk, zdl, zdm, zdn, zdo, zdp, zdq, zjb, Int.reduceEq, Int.reduceNe, zjc, zjd, Nat.reduceEqDiff, Int.reduceLT, Int.reduceLE, Int.reduceNeg, Int.reduceToNat, zje, kdC, zdr, zjf, zjg, nk1, nk2, nk3, nk4, nk5, zjh, zds, zdt, zdu, zdv, ic1, ic2, ic3, ic4, ic5, ic6, zdw, String.reduceBEq, p60, p50, AH.set_self, AH.set_ne, Kx.more, Kx.comp, zji, zjj, zjk, ↓zdx, ↓zdy, ↓zdz, ↓zea, ↓zeb, ↓zec, ↓zed, ↓zee, ↓zef, ↓zeg, ↓zeh, ↓zei, ↓zej, ↓zek, ↓zel, ↓zem, ↓zen, ↓zeo, ↓zep, ↓zeq, ↓zer, ↓zes, ↓zet, ↓zeu, ↓zev, ↓zew, ↓zex, ↓zey, ↓zez, ↓zfa, ↓zfb, ↓zfc, ↓zfd, ↓zfe, ↓zff, ↓zfg, ↓zfh, ↓zfi, ↓zfj, ↓zfk, ↓zfl, ↓zfm, ↓zfn, ↓zfo, ↓zfp, ↓zfq, ↓zfr, ↓zfs, ↓mtE, ↓zft, ↓zfu, ↓zfv, ↓zfw, ↓zfx, ↓zfy, ↓zfz, ↓zga, ↓zgb, ↓zgc, ↓zgd, ↓zge, ↓zgf, ↓zgg, zgh, zgi, zgj, zgk, zgl, zgm, zgn, zgo, zgp, zgq, zgr, zgs, zgt, zgu, zgv, zgw, zgx, zgy, zgz, zha, zhb, zhc, zhd, zhe, zhf, zhg, zhh, zhi, zhj, zhk, zhl, zhm, zhn, zho, zhp, zhq, zhr, zhs, zht, zhu, zhv, zhw, ↓zhx, ↓zhy, ↓zhz, ↓zia, ↓zib, zic, zid, zie, zif, zig, zih, ↓zii, ↓zij, ↓zik, ↓zil, ↓zim, ↓zin, ↓zio, ↓ziq, ↓zir, pk0, pk1, pk2, pk3, pk4, pk5, pk6, zjl, zjm, zjn, zjo, zjp, zjq, zjr, zjs, zjt, zju, zjv, zjw, zjx, zjy, zjz, zka, zkb, zkc, zkd, zke, zkf, zkg, zkh, zki, zkj, reduceCtorEq, zkk, zkl, zkm, zkn, zko, String.reduceEq, Nat.reduceAdd, Nat.reduceLeDiff, Nat.reduceLT, zkp, zkq, zkr, zks, ↓zis, zit, ↓ziu, ziv, *])
  refine ⟨fun hlt => ?_, fun hge => ?_⟩
  · unfold pick
    rw [if_pos hk]
    have hlt' : k.toNat < ys.length := by omega
    rw [List.getElem?_eq_getElem hlt']
    simpa [List.getD, hlt'] using h
  · refine seqsL_cons ?_
    (simp (maxSteps := 1000000) (implicitDefEqProofs := false) only [↓zb, ↓reduceIte, zc, ↓zd, ↓ze, ↓zg, ↓zh, ↓zi, ↓zj, ↓zk, ↓zl, ↓zn, ↓zo, ↓zp, ↓zq, ↓zr, ↓zt, ↓zu, ↓zv, ↓zw, ↓zx, ↓zy, ↓zz, ↓zba, ↓zbb, ↓zbc, ↓zbd, ↓zbe, ↓zbf, ↓zbg, ↓zbh, ↓zbi, ↓zbj, ↓zbk, ↓zbl, ↓zbm, ↓zbn, ↓zbo, ↓zbp, ↓zbq, ↓zbr, ↓zbs, ↓zbt, ↓zbu, ↓zbv, ↓zbw, ↓zbx, ↓zby, ↓zbz, ↓zca, ↓zcb, ↓zcc, ↓zcd, ↓zce, ↓zcf, ↓zcg, ↓zch, ↓zci, ↓zcj, ↓zck, ↓zcl, ↓zcm, ↓zcn, ↓zco, ↓zcp, ↓zcq, ↓zcr, ↓zcs, ↓zct, ↓zcu, ↓zcv, ↓zcw, ↓mt, zcx, kwl, ziw, zcy, zcz, zda, zdb, zdc, zix, ziy, ziz, zja, zdd, zde, zdf, zdg, zdh, zdi, zdj, zdk, zdl, zdm, zdn, zdo, zdp, zdq, zjb, Int.reduceEq, Int.reduceNe, zjc, zjd, Nat.reduceEqDiff, Int.reduceLT, Int.reduceLE, Int.reduceNeg, Int.reduceToNat, zje, kdC, zdr, zjf, zjg, nk1, nk2, nk3, nk4, nk5, zjh, zds, zdt, zdu, zdv, ic1, ic2, ic3, ic4, ic5, ic6, zdw, String.reduceBEq, p60, p50, AH.set_self, AH.set_ne, Kx.more, Kx.comp, zji, zjj, zjk, ↓zdx, ↓zdy, ↓zdz, ↓zea, ↓zeb, ↓zec, ↓zed, ↓zee, ↓zef, ↓zeg, ↓zeh, ↓zei, ↓zej, ↓zek, ↓zel, ↓zem, ↓zen, ↓zeo, ↓zep, ↓zeq, ↓zer, ↓zes, ↓zet, ↓zeu, ↓zev, ↓zew, ↓zex, ↓zey, ↓zez, ↓zfa, ↓zfb, ↓zfc, ↓zfd, ↓zfe, ↓zff, ↓zfg, ↓zfh, ↓zfi, ↓zfj, ↓zfk, ↓zfl, ↓zfm, ↓zfn, ↓zfo, ↓zfp, ↓zfq, ↓zfr, ↓zfs, ↓mtE, ↓zft, ↓zfu, ↓zfv, ↓zfw, ↓zfx, ↓zfy, ↓zfz, ↓zga, ↓zgb, ↓zgc, ↓zgd, ↓zge, ↓zgf, ↓zgg, zgh, zgi, zgj, zgk, zgl, zgm, zgn, zgo, zgp, zgq, zgr, zgs, zgt, zgu, zgv, zgw, zgx, zgy, zgz, zha, zhb, zhc, zhd, zhe, zhf, zhg, zhh, zhi, zhj, zhk, zhl, zhm, zhn, zho, zhp, zhq, zhr, zhs, zht, zhu, zhv, zhw, ↓zhx, ↓zhy, ↓zhz, ↓zia, ↓zib, zic, zid, zie, zif, zig, zih, ↓zii, ↓zij, ↓zik, ↓zil, ↓zim, ↓zin, ↓zio, ↓ziq, ↓zir, pk0, pk1, pk2, pk3, pk4, pk5, pk6, zjl, zjm, zjn, zjo, zjp, zjq, zjr, zjs, zjt, zju, zjv, zjw, zjx, zjy, zjz, zka, zkb, zkc, zkd, zke, zkf, zkg, zkh, zki, zkj, reduceCtorEq, zkk, zkl, zkm, zkn, zko, String.reduceEq, Nat.reduceAdd, Nat.reduceLeDiff, Nat.reduceLT, zkp, zkq, zkr, zks, ↓zis, zit, ↓ziu, ziv, *])
    have hge' : ys.length ≤ k.toNat := by omega
    simpa [List.getD, hge'] using h

theorem ok_pool {C : Cx} {a : Addr} {fz : List Nat} {d : Nat} {vs : List V} {Q : V → AH → Prop} {X : Value → AH → Prop} {H : AH} (F : FnAt C a ["_law_cell"] (fbody pw 11) (fscope pw 11))
    (G : GenT C d gvB [] true) (h : T_pool fz vs Q X H) : CallsTo C fz (d + 1) true (.ref a) vs Q X H := by
  obtain ⟨c, rfl, h⟩ := h
  refine callsTo_tab (n := 60) F G rfl rfl rfl ⟨rfl, rfl⟩ ?_
  intro kd gv ct ρ hT
  generalize hb : fbody pw 11 = b
  conv at hb => lhs; whnf
  subst hb
  generalize hb : (fscope pw 11).names = b at hT
  conv at hb => lhs; whnf
  subst hb
  simp only [tabAll, noneAll, gvB, List.map_cons, List.map_nil, List.zip_cons_cons, List.zip_nil_left, List.zip_nil_right, and_true, true_and] at hT
  refine seqsL_cons ?_
  (simp (maxSteps := 1000000) (implicitDefEqProofs := false) only [↓zb, ↓reduceIte, zc, ↓zd, ↓ze, ↓zg, ↓zh, ↓zi, ↓zj, ↓zk, ↓zl, ↓zn, ↓zo, ↓zp, ↓zq, ↓zr, ↓zt, ↓zu, ↓zv, ↓zw, ↓zx, ↓zy, ↓zz, ↓zba, ↓zbb, ↓zbc, ↓zbd, ↓zbe, ↓zbf, ↓zbg, ↓zbh, ↓zbi, ↓zbj, ↓zbk, ↓zbl, ↓zbm, ↓zbn, ↓zbo, ↓zbp, ↓zbq, ↓zbr, ↓zbs, ↓zbt, ↓zbu, ↓zbv, ↓zbw, ↓zbx, ↓zby, ↓zbz, ↓zca, ↓zcb, ↓zcc, ↓zcd, ↓zce, ↓zcf, ↓zcg, ↓zch, ↓zci, ↓zcj, ↓zck, ↓zcl, ↓zcm, ↓zcn, ↓zco, ↓zcp, ↓zcq, ↓zcr, ↓zcs, ↓zct, ↓zcu, ↓zcv, ↓zcw, ↓mt, zcx, kwl, ziw, zcy, zcz, zda, zdb, zdc, zix, ziy, ziz, zja, zdd, zde, zdf, zdg, zdh, zdi, zdj, zdk, zdl, zdm, zdn, zdo, zdp, zdq, zjb, Int.reduceEq, Int.reduceNe, zjc, zjd, Nat.reduceEqDiff, Int.reduceLT, Int.reduceLE, Int.reduceNeg, Int.reduceToNat, zje, kdC, zdr, zjf, zjg, nk1, nk2, nk3, nk4, nk5, zjh, zds, zdt, zdu, zdv, ic1, ic2, ic3, ic4, ic5, ic6, zdw, String.reduceBEq, p60, p50, AH.set_self, AH.set_ne, Kx.more, Kx.comp, zji, zjj, zjk, ↓zdx, ↓zdy, ↓zdz, ↓zea, ↓zeb, ↓zec, ↓zed, ↓zee, ↓zef, ↓zeg, ↓zeh, ↓zei, ↓zej, ↓zek, ↓zel, ↓zem, ↓zen, ↓zeo, ↓zep, ↓zeq, ↓zer, ↓zes, ↓zet, ↓zeu, ↓zev, ↓zew, ↓zex, ↓zey, ↓zez, ↓zfa, ↓zfb, ↓zfc, ↓zfd, ↓zfe, ↓zff, ↓zfg, ↓zfh, ↓zfi, ↓zfj, ↓zfk, ↓zfl, ↓zfm, ↓zfn, ↓zfo, ↓zfp, ↓zfq, ↓zfr, ↓zfs, ↓mtE, ↓zft, ↓zfu, ↓zfv, ↓zfw, ↓zfx, ↓zfy, ↓zfz, ↓zga, ↓zgb, ↓zgc, ↓zgd, ↓zge, ↓zgf, ↓zgg, zgh, zgi, zgj, zgk, zgl, zgm, zgn, zgo, zgp, zgq, zgr, zgs, zgt, zgu, zgv, zgw, zgx, zgy, zgz, zha, zhb, zhc, zhd, zhe, zhf, zhg, zhh, zhi, zhj, zhk, zhl, zhm, zhn, zho, zhp, zhq, zhr, zhs, zht, zhu, zhv, zhw, ↓zhx, ↓zhy, ↓zhz, ↓zia, ↓zib, zic, zid, zie, zif, zig, zih, ↓zii, ↓zij, ↓zik, ↓zil, ↓zim, ↓zin, ↓zio, ↓ziq, ↓zir, pk0, pk1, pk2, pk3, pk4, pk5, pk6, zjl, zjm, zjn, zjo, zjp, zjq, zjr, zjs, zjt, zju, zjv, zjw, zjx, zjy, zjz, zka, zkb, zkc, zkd, zke, zkf, zkg, zkh, zki, zkj, reduceCtorEq, zkk, zkl, zkm, zkn, zko, String.reduceEq, Nat.reduceAdd, Nat.reduceLeDiff, Nat.reduceLT, zkp, zkq, zkr, zks, ↓zis, zit, ↓ziu, ziv, *])
  refine seqsL_cons ?_
  (simp (maxSteps := 1000000) (implicitDefEqProofs := false) only [↓zb, ↓reduceIte, zc, ↓zd, ↓ze, ↓zg, ↓zh, ↓zi, ↓zj, ↓zk, ↓zl, ↓zn, ↓zo, ↓zp, ↓zq, ↓zr, ↓zt, ↓zu, ↓zv, ↓zw, ↓zx, ↓zy, ↓zz, ↓zba, ↓zbb, ↓zbc, ↓zbd, ↓zbe, ↓zbf, ↓zbg, ↓zbh, ↓zbi, ↓zbj, ↓zbk, ↓zbl, ↓zbm, ↓zbn, ↓zbo, ↓zbp, ↓zbq, ↓zbr, ↓zbs, ↓zbt, ↓zbu, ↓zbv, ↓zbw, ↓zbx, ↓zby, ↓zbz, ↓zca, ↓zcb, ↓zcc, ↓zcd, ↓zce, ↓zcf, ↓zcg, ↓zch, ↓zci, ↓zcj, ↓zck, ↓zcl, ↓zcm, ↓zcn, ↓zco, ↓zcp, ↓zcq, ↓zcr, ↓zcs, ↓zct, ↓zcu, ↓zcv, ↓zcw, ↓mt, zcx, kwl, ziw, zcy, zcz, zda, zdb, zdc, zix, ziy, ziz, zja, zdd, zde, zdf, zdg, zdh, zdi, zdj, zdk, zdl, zdm, zdn, zdo, zdp, zdq, zjb, Int.reduceEq, Int.reduceNe, zjc, zjd, Nat.reduceEqDiff, Int.reduceLT, Int.reduceLE, Int.reduceNeg, Int.reduceToNat, zje, kdC, zdr, zjf, zjg, nk1, nk2, nk3, nk4, nk5, zjh, zds, zdt, zdu, zdv, ic1, ic2, ic3, ic4, ic5, ic6, zdw, String.reduceBEq, p60, p50, AH.set_self, AH.set_ne, Kx.more, Kx.comp, zji, zjj, zjk, ↓zdx, ↓zdy, ↓zdz, ↓zea, ↓zeb, ↓zec, ↓zed, ↓zee, ↓zef, ↓zeg, ↓zeh, ↓zei, ↓zej, ↓zek, ↓zel, ↓zem, ↓zen, ↓zeo, ↓zep, ↓zeq, ↓zer, ↓zes, ↓zet, ↓zeu, ↓zev, ↓zew, ↓zex, ↓zey, ↓zez, ↓zfa, ↓zfb, ↓zfc, ↓zfd, ↓zfe, ↓zff, ↓zfg, ↓zfh, ↓zfi, ↓zfj, ↓zfk, ↓zfl, ↓zfm, ↓zfn, ↓zfo, ↓zfp, ↓zfq, ↓zfr, ↓zfs, ↓mtE, ↓zft, ↓zfu, ↓zfv, ↓zfw, ↓zfx, ↓zfy, ↓zfz, ↓zga, ↓zgb, ↓zgc, ↓zgd, ↓zge, ↓zgf, ↓zgg, zgh, zgi, zgj, zgk, zgl, zgm, zgn, zgo, zgp, zgq, zgr, zgs, zgt, zgu, zgv, zgw, zgx, zgy, zgz, zha, zhb, zhc, zhd, zhe, zhf, zhg, zhh, zhi, zhj, zhk, zhl, zhm, zhn, zho, zhp, zhq, zhr, zhs, zht, zhu, zhv, zhw, ↓zhx, ↓zhy, ↓zhz, ↓zia, ↓zib, zic, zid, zie, zif, zig, zih, ↓zii, ↓zij, ↓zik, ↓zil, ↓zim, ↓zin, ↓zio, ↓ziq, ↓zir, pk0, pk1, pk2, pk3, pk4, pk5, pk6, zjl, zjm, zjn, zjo, zjp, zjq, zjr, zjs, zjt, zju, zjv, zjw, zjx, zjy, zjz, zka, zkb, zkc, zkd, zke, zkf, zkg, zkh, zki, zkj, reduceCtorEq, zkk, zkl, zkm, zkn, zko, String.reduceEq, Nat.reduceAdd, Nat.reduceLeDiff, Nat.reduceLT, zkp, zkq, zkr, zks, ↓zis, zit, ↓ziu, ziv, *])
  intro f hf hff
  refine seqsL_cons ?_
  (simp (maxSteps := 1000000) (implicitDefEqProofs := false) only [↓zb, ↓reduceIte, zc, ↓zd, ↓ze, ↓zg, ↓zh, ↓zi, ↓zj, ↓zk, ↓zl, ↓zn, ↓zo, ↓zp, ↓zq, ↓zr, ↓zt, ↓zu, ↓zv, ↓zw, ↓zx, ↓zy, ↓zz, ↓zba, ↓zbb, ↓zbc, ↓zbd, ↓zbe, ↓zbf, ↓zbg, ↓zbh, ↓zbi, ↓zbj, ↓zbk, ↓zbl, ↓zbm, ↓zbn, ↓zbo, ↓zbp, ↓zbq, ↓zbr, ↓zbs, ↓zbt, ↓zbu, ↓zbv, ↓zbw, ↓zbx, ↓zby, ↓zbz, ↓zca, ↓zcb, ↓zcc, ↓zcd, ↓zce, ↓zcf, ↓zcg, ↓zch, ↓zci, ↓zcj, ↓zck, ↓zcl, ↓zcm, ↓zcn, ↓zco, ↓zcp, ↓zcq, ↓zcr, ↓zcs, ↓zct, ↓zcu, ↓zcv, ↓zcw, ↓mt, zcx, kwl, ziw, zcy, zcz, zda, zdb, zdc, zix, ziy, ziz, zja, zdd, zde, zdf, zdg, zdh, zdi, zdj, zdk, zdl, zdm, zdn, zdo, zdp, zdq, zjb, Int.reduceEq, Int.reduceNe, zjc, zjd, Nat.reduceEqDiff, Int.reduceLT, Int.reduceLE, Int.reduceNeg, Int.reduceToNat, zje, kdC, zdr, zjf, zjg, nk1, nk2, nk3, nk4, nk5, zjh, zds, zdt, zdu, zdv, ic1, ic2, ic3, ic4, ic5, ic6, zdw, String.reduceBEq, p60, p50, AH.set_self, AH.set_ne, Kx.more, Kx.comp, zji, zjj, zjk, ↓zdx, ↓zdy, ↓zdz, ↓zea, ↓zeb, ↓zec, ↓zed, ↓zee, ↓zef, ↓zeg, ↓zeh, ↓zei, ↓zej, ↓zek, ↓zel, ↓zem, ↓zen, ↓zeo, ↓zep, ↓zeq, ↓zer, ↓zes, ↓zet, ↓zeu, ↓zev, ↓zew, ↓zex, ↓zey, ↓zez, ↓zfa, ↓zfb, ↓zfc, ↓zfd, ↓zfe, ↓zff, ↓zfg, ↓zfh, ↓zfi, ↓zfj, ↓zfk, ↓zfl, ↓zfm, ↓zfn, ↓zfo, ↓zfp, ↓zfq, ↓zfr, ↓zfs, ↓mtE, ↓zft, ↓zfu, ↓zfv, ↓zfw, ↓zfx, ↓zfy, ↓zfz, ↓zga, ↓zgb, ↓zgc, ↓zgd, ↓zge, ↓zgf, ↓zgg, zgh, zgi, zgj, zgk, zgl, zgm, zgn, zgo, zgp, zgq, zgr, zgs, zgt, zgu, zgv, zgw, zgx, zgy, zgz, zha, zhb, zhc, zhd, zhe, zhf, zhg, zhh, zhi, zhj, zhk, zhl, zhm, zhn, zho, zhp, zhq, zhr, zhs, zht, zhu, zhv, zhw, ↓zhx, ↓zhy, ↓zhz, ↓zia, ↓zib, zic, zid, zie, zif, zig, zih, ↓zii, ↓zij, ↓zik, ↓zil, ↓zim, ↓zin, ↓zio, ↓ziq, ↓zir, pk0, pk1, pk2, pk3, pk4, pk5, pk6, zjl, zjm, zjn, zjo, zjp, zjq, zjr, zjs, zjt, zju, zjv, zjw, zjx, zjy, zjz, zka, zkb, zkc, zkd, zke, zkf, zkg, zkh, zki, zkj, reduceCtorEq, zkk, zkl, zkm, zkn, zko, String.reduceEq, Nat.reduceAdd, Nat.reduceLeDiff, Nat.reduceLT, zkp, zkq, zkr, zks, ↓zis, zit, ↓ziu, ziv, *])
  intro r hr hrf
  have hfr : r ≠ f := by rintro rfl; rw [AH.set_self] at hr; cases hr
  have hr0 : H.get r = none := by rw [AH.set_ne _ _ hfr] at hr; exact hr
  refine forW_of _ (fun k ρ' H' => ρ' "_law_cell" = some (.int c) ∧ ρ' "_law_signs" = some (.str abc) ∧ ρ' "_law_found" = some (.ref f) ∧ Ext H H' ∧ H'.get f = some (.list ((List.range k).map fun k => V.str (tx (wordL c (k : Nat)))))) (items_rng (n := 26) (by simp [get_set]) (by decide)) ⟨?_, ?_, ?_, ?_, ?_⟩ ?_ ?_
  · (simp (maxSteps := 1000000) (implicitDefEqProofs := false) only [↓zb, ↓reduceIte, zc, ↓zd, ↓ze, ↓zg, ↓zh, ↓zi, ↓zj, ↓zk, ↓zl, ↓zn, ↓zo, ↓zp, ↓zq, ↓zr, ↓zt, ↓zu, ↓zv, ↓zw, ↓zx, ↓zy, ↓zz, ↓zba, ↓zbb, ↓zbc, ↓zbd, ↓zbe, ↓zbf, ↓zbg, ↓zbh, ↓zbi, ↓zbj, ↓zbk, ↓zbl, ↓zbm, ↓zbn, ↓zbo, ↓zbp, ↓zbq, ↓zbr, ↓zbs, ↓zbt, ↓zbu, ↓zbv, ↓zbw, ↓zbx, ↓zby, ↓zbz, ↓zca, ↓zcb, ↓zcc, ↓zcd, ↓zce, ↓zcf, ↓zcg, ↓zch, ↓zci, ↓zcj, ↓zck, ↓zcl, ↓zcm, ↓zcn, ↓zco, ↓zcp, ↓zcq, ↓zcr, ↓zcs, ↓zct, ↓zcu, ↓zcv, ↓zcw, ↓mt, zcx, kwl, ziw, zcy, zcz, zda, zdb, zdc, zix, ziy, ziz, zja, zdd, zde, zdf, zdg, zdh, zdi, zdj, zdk, zdl, zdm, zdn, zdo, zdp, zdq, zjb, Int.reduceEq, Int.reduceNe, zjc, zjd, Nat.reduceEqDiff, Int.reduceLT, Int.reduceLE, Int.reduceNeg, Int.reduceToNat, zje, kdC, zdr, zjf, zjg, nk1, nk2, nk3, nk4, nk5, zjh, zds, zdt, zdu, zdv, ic1, ic2, ic3, ic4, ic5, ic6, zdw, String.reduceBEq, p60, p50, AH.set_self, AH.set_ne, Kx.more, Kx.comp, zji, zjj, zjk, ↓zdx, ↓zdy, ↓zdz, ↓zea, ↓zeb, ↓zec, ↓zed, ↓zee, ↓zef, ↓zeg, ↓zeh, ↓zei, ↓zej, ↓zek, ↓zel, ↓zem, ↓zen, ↓zeo, ↓zep, ↓zeq, ↓zer, ↓zes, ↓zet, ↓zeu, ↓zev, ↓zew, ↓zex, ↓zey, ↓zez, ↓zfa, ↓zfb, ↓zfc, ↓zfd, ↓zfe, ↓zff, ↓zfg, ↓zfh, ↓zfi, ↓zfj, ↓zfk, ↓zfl, ↓zfm, ↓zfn, ↓zfo, ↓zfp, ↓zfq, ↓zfr, ↓zfs, ↓mtE, ↓zft, ↓zfu, ↓zfv, ↓zfw, ↓zfx, ↓zfy, ↓zfz, ↓zga, ↓zgb, ↓zgc, ↓zgd, ↓zge, ↓zgf, ↓zgg, zgh, zgi, zgj, zgk, zgl, zgm, zgn, zgo, zgp, zgq, zgr, zgs, zgt, zgu, zgv, zgw, zgx, zgy, zgz, zha, zhb, zhc, zhd, zhe, zhf, zhg, zhh, zhi, zhj, zhk, zhl, zhm, zhn, zho, zhp, zhq, zhr, zhs, zht, zhu, zhv, zhw, ↓zhx, ↓zhy, ↓zhz, ↓zia, ↓zib, zic, zid, zie, zif, zig, zih, ↓zii, ↓zij, ↓zik, ↓zil, ↓zim, ↓zin, ↓zio, ↓ziq, ↓zir, pk0, pk1, pk2, pk3, pk4, pk5, pk6, zjl, zjm, zjn, zjo, zjp, zjq, zjr, zjs, zjt, zju, zjv, zjw, zjx, zjy, zjz, zka, zkb, zkc, zkd, zke, zkf, zkg, zkh, zki, zkj, reduceCtorEq, zkk, zkl, zkm, zkn, zko, String.reduceEq, Nat.reduceAdd, Nat.reduceLeDiff, Nat.reduceLT, zkp, zkq, zkr, zks, ↓zis, zit, ↓ziu, ziv, *])
  · (simp (maxSteps := 1000000) (implicitDefEqProofs := false) only [↓zb, ↓reduceIte, zc, ↓zd, ↓ze, ↓zg, ↓zh, ↓zi, ↓zj, ↓zk, ↓zl, ↓zn, ↓zo, ↓zp, ↓zq, ↓zr, ↓zt, ↓zu, ↓zv, ↓zw, ↓zx, ↓zy, ↓zz, ↓zba, ↓zbb, ↓zbc, ↓zbd, ↓zbe, ↓zbf, ↓zbg, ↓zbh, ↓zbi, ↓zbj, ↓zbk, ↓zbl, ↓zbm, ↓zbn, ↓zbo, ↓zbp, ↓zbq, ↓zbr, ↓zbs, ↓zbt, ↓zbu, ↓zbv, ↓zbw, ↓zbx, ↓zby, ↓zbz, ↓zca, ↓zcb, ↓zcc, ↓zcd, ↓zce, ↓zcf, ↓zcg, ↓zch, ↓zci, ↓zcj, ↓zck, ↓zcl, ↓zcm, ↓zcn, ↓zco, ↓zcp, ↓zcq, ↓zcr, ↓zcs, ↓zct, ↓zcu, ↓zcv, ↓zcw, ↓mt, zcx, kwl, ziw, zcy, zcz, zda, zdb, zdc, zix, ziy, ziz, zja, zdd, zde, zdf, zdg, zdh, zdi, zdj, zdk, zdl, zdm, zdn, zdo, zdp, zdq, zjb, Int.reduceEq, Int.reduceNe, zjc, zjd, Nat.reduceEqDiff, Int.reduceLT, Int.reduceLE, Int.reduceNeg, Int.reduceToNat, zje, kdC, zdr, zjf, zjg, nk1, nk2, nk3, nk4, nk5, zjh, zds, zdt, zdu, zdv, ic1, ic2, ic3, ic4, ic5, ic6, zdw, String.reduceBEq, p60, p50, AH.set_self, AH.set_ne, Kx.more, Kx.comp, zji, zjj, zjk, ↓zdx, ↓zdy, ↓zdz, ↓zea, ↓zeb, ↓zec, ↓zed, ↓zee, ↓zef, ↓zeg, ↓zeh, ↓zei, ↓zej, ↓zek, ↓zel, ↓zem, ↓zen, ↓zeo, ↓zep, ↓zeq, ↓zer, ↓zes, ↓zet, ↓zeu, ↓zev, ↓zew, ↓zex, ↓zey, ↓zez, ↓zfa, ↓zfb, ↓zfc, ↓zfd, ↓zfe, ↓zff, ↓zfg, ↓zfh, ↓zfi, ↓zfj, ↓zfk, ↓zfl, ↓zfm, ↓zfn, ↓zfo, ↓zfp, ↓zfq, ↓zfr, ↓zfs, ↓mtE, ↓zft, ↓zfu, ↓zfv, ↓zfw, ↓zfx, ↓zfy, ↓zfz, ↓zga, ↓zgb, ↓zgc, ↓zgd, ↓zge, ↓zgf, ↓zgg, zgh, zgi, zgj, zgk, zgl, zgm, zgn, zgo, zgp, zgq, zgr, zgs, zgt, zgu, zgv, zgw, zgx, zgy, zgz, zha, zhb, zhc, zhd, zhe, zhf, zhg, zhh, zhi, zhj, zhk, zhl, zhm, zhn, zho, zhp, zhq, zhr, zhs, zht, zhu, zhv, zhw, ↓zhx, ↓zhy, ↓zhz, ↓zia, ↓zib, zic, zid, zie, zif, zig, zih, ↓zii, ↓zij, ↓zik, ↓zil, ↓zim, ↓zin, ↓zio, ↓ziq, ↓zir, pk0, pk1, pk2, pk3, pk4, pk5, pk6, zjl, zjm, zjn, zjo, zjp, zjq, zjr, zjs, zjt, zju, zjv, zjw, zjx, zjy, zjz, zka, zkb, zkc, zkd, zke, zkf, zkg, zkh, zki, zkj, reduceCtorEq, zkk, zkl, zkm, zkn, zko, String.reduceEq, Nat.reduceAdd, Nat.reduceLeDiff, Nat.reduceLT, zkp, zkq, zkr, zks, ↓zis, zit, ↓ziu, ziv, *]); rfl
  · (simp (maxSteps := 1000000) (implicitDefEqProofs := false) only [↓zb, ↓reduceIte, zc, ↓zd, ↓ze, ↓zg, ↓zh, ↓zi, ↓zj, ↓zk, ↓zl, ↓zn, ↓zo, ↓zp, ↓zq, ↓zr, ↓zt, ↓zu, ↓zv, ↓zw, ↓zx, ↓zy, ↓zz, ↓zba, ↓zbb, ↓zbc, ↓zbd, ↓zbe, ↓zbf, ↓zbg, ↓zbh, ↓zbi, ↓zbj, ↓zbk, ↓zbl, ↓zbm, ↓zbn, ↓zbo, ↓zbp, ↓zbq, ↓zbr, ↓zbs, ↓zbt, ↓zbu, ↓zbv, ↓zbw, ↓zbx, ↓zby, ↓zbz, ↓zca, ↓zcb, ↓zcc, ↓zcd, ↓zce, ↓zcf, ↓zcg, ↓zch, ↓zci, ↓zcj, ↓zck, ↓zcl, ↓zcm, ↓zcn, ↓zco, ↓zcp, ↓zcq, ↓zcr, ↓zcs, ↓zct, ↓zcu, ↓zcv, ↓zcw, ↓mt, zcx, kwl, ziw, zcy, zcz, zda, zdb, zdc, zix, ziy, ziz, zja, zdd, zde, zdf, zdg, zdh, zdi, zdj, zdk, zdl, zdm, zdn, zdo, zdp, zdq, zjb, Int.reduceEq, Int.reduceNe, zjc, zjd, Nat.reduceEqDiff, Int.reduceLT, Int.reduceLE, Int.reduceNeg, Int.reduceToNat, zje, kdC, zdr, zjf, zjg, nk1, nk2, nk3, nk4, nk5, zjh, zds, zdt, zdu, zdv, ic1, ic2, ic3, ic4, ic5, ic6, zdw, String.reduceBEq, p60, p50, AH.set_self, AH.set_ne, Kx.more, Kx.comp, zji, zjj, zjk, ↓zdx, ↓zdy, ↓zdz, ↓zea, ↓zeb, ↓zec, ↓zed, ↓zee, ↓zef, ↓zeg, ↓zeh, ↓zei, ↓zej, ↓zek, ↓zel, ↓zem, ↓zen, ↓zeo, ↓zep, ↓zeq, ↓zer, ↓zes, ↓zet, ↓zeu, ↓zev, ↓zew, ↓zex, ↓zey, ↓zez, ↓zfa, ↓zfb, ↓zfc, ↓zfd, ↓zfe, ↓zff, ↓zfg, ↓zfh, ↓zfi, ↓zfj, ↓zfk, ↓zfl, ↓zfm, ↓zfn, ↓zfo, ↓zfp, ↓zfq, ↓zfr, ↓zfs, ↓mtE, ↓zft, ↓zfu, ↓zfv, ↓zfw, ↓zfx, ↓zfy, ↓zfz, ↓zga, ↓zgb, ↓zgc, ↓zgd, ↓zge, ↓zgf, ↓zgg, zgh, zgi, zgj, zgk, zgl, zgm, zgn, zgo, zgp, zgq, zgr, zgs, zgt, zgu, zgv, zgw, zgx, zgy, zgz, zha, zhb, zhc, zhd, zhe, zhf, zhg, zhh, zhi, zhj, zhk, zhl, zhm, zhn, zho, zhp, zhq, zhr, zhs, zht, zhu, zhv, zhw, ↓zhx, ↓zhy, ↓zhz, ↓zia, ↓zib, zic, zid, zie, zif, zig, zih, ↓zii, ↓zij, ↓zik, ↓zil, ↓zim, ↓zin, ↓zio, ↓ziq, ↓zir, pk0, pk1, pk2, pk3, pk4, pk5, pk6, zjl, zjm, zjn, zjo, zjp, zjq, zjr, zjs, zjt, zju, zjv, zjw, zjx, zjy, zjz, zka, zkb, zkc, zkd, zke, zkf, zkg, zkh, zki, zkj, reduceCtorEq, zkk, zkl, zkm, zkn, zko, String.reduceEq, Nat.reduceAdd, Nat.reduceLeDiff, Nat.reduceLT, zkp, zkq, zkr, zks, ↓zis, zit, ↓ziu, ziv, *])
  · exact (Ext.new hf).trans (Ext.new hr)
  · simp [get_set, hfr.symm]
  · rintro k y ρ' H' hy ⟨h1, h2, h3, h4, h5⟩
    obtain ⟨hk, rfl⟩ := range_get hy
    clear hy h
    refine seqsL_cons ?_
    (simp (maxSteps := 1000000) (implicitDefEqProofs := false) only [↓zb, ↓reduceIte, zc, ↓zd, ↓ze, ↓zg, ↓zh, ↓zi, ↓zj, ↓zk, ↓zl, ↓zn, ↓zo, ↓zp, ↓zq, ↓zr, ↓zt, ↓zu, ↓zv, ↓zw, ↓zx, ↓zy, ↓zz, ↓zba, ↓zbb, ↓zbc, ↓zbd, ↓zbe, ↓zbf, ↓zbg, ↓zbh, ↓zbi, ↓zbj, ↓zbk, ↓zbl, ↓zbm, ↓zbn, ↓zbo, ↓zbp, ↓zbq, ↓zbr, ↓zbs, ↓zbt, ↓zbu, ↓zbv, ↓zbw, ↓zbx, ↓zby, ↓zbz, ↓zca, ↓zcb, ↓zcc, ↓zcd, ↓zce, ↓zcf, ↓zcg, ↓zch, ↓zci, ↓zcj, ↓zck, ↓zcl, ↓zcm, ↓zcn, ↓zco, ↓zcp, ↓zcq, ↓zcr, ↓zcs, ↓zct, ↓zcu, ↓zcv, ↓zcw, ↓mt, zcx, kwl, ziw, zcy, zcz, zda, zdb, zdc, zix, ziy, ziz, zja, zdd, zde, zdf, zdg, zdh, zdi, zdj, zdk, zdl, zdm, zdn, zdo, zdp, zdq, zjb, Int.reduceEq, Int.reduceNe, zjc, zjd, Nat.reduceEqDiff, Int.reduceLT, Int.reduceLE, Int.reduceNeg, Int.reduceToNat, zje, kdC, zdr, zjf, zjg, nk1, nk2, nk3, nk4, nk5, zjh, zds, zdt, zdu, zdv, ic1, ic2, ic3, ic4, ic5, ic6, zdw, String.reduceBEq, p60, p50, AH.set_self, AH.set_ne, Kx.more, Kx.comp, zji, zjj, zjk, ↓zdx, ↓zdy, ↓zdz, ↓zea, ↓zeb, ↓zec, ↓zed, ↓zee, ↓zef, ↓zeg, ↓zeh, ↓zei, ↓zej, ↓zek, ↓zel, ↓zem, ↓zen, ↓zeo, ↓zep, ↓zeq, ↓zer, ↓zes, ↓zet, ↓zeu, ↓zev, ↓zew, ↓zex, ↓zey, ↓zez, ↓zfa, ↓zfb, ↓zfc, ↓zfd, ↓zfe, ↓zff, ↓zfg, ↓zfh, ↓zfi, ↓zfj, ↓zfk, ↓zfl, ↓zfm, ↓zfn, ↓zfo, ↓zfp, ↓zfq, ↓zfr, ↓zfs, ↓mtE, ↓zft, ↓zfu, ↓zfv, ↓zfw, ↓zfx, ↓zfy, ↓zfz, ↓zga, ↓zgb, ↓zgc, ↓zgd, ↓zge, ↓zgf, ↓zgg, zgh, zgi, zgj, zgk, zgl, zgm, zgn, zgo, zgp, zgq, zgr, zgs, zgt, zgu, zgv, zgw, zgx, zgy, zgz, zha, zhb, zhc, zhd, zhe, zhf, zhg, zhh, zhi, zhj, zhk, zhl, zhm, zhn, zho, zhp, zhq, zhr, zhs, zht, zhu, zhv, zhw, ↓zhx, ↓zhy, ↓zhz, ↓zia, ↓zib, zic, zid, zie, zif, zig, zih, ↓zii, ↓zij, ↓zik, ↓zil, ↓zim, ↓zin, ↓zio, ↓ziq, ↓zir, pk0, pk1, pk2, pk3, pk4, pk5, pk6, zjl, zjm, zjn, zjo, zjp, zjq, zjr, zjs, zjt, zju, zjv, zjw, zjx, zjy, zjz, zka, zkb, zkc, zkd, zke, zkf, zkg, zkh, zki, zkj, reduceCtorEq, zkk, zkl, zkm, zkn, zko, String.reduceEq, Nat.reduceAdd, Nat.reduceLeDiff, Nat.reduceLT, zkp, zkq, zkr, zks, ↓zis, zit, ↓ziu, ziv, *])
    refine seqsL_cons ?_
    (simp (maxSteps := 1000000) (implicitDefEqProofs := false) only [↓zb, ↓reduceIte, zc, ↓zd, ↓ze, ↓zg, ↓zh, ↓zi, ↓zj, ↓zk, ↓zl, ↓zn, ↓zo, ↓zp, ↓zq, ↓zr, ↓zt, ↓zu, ↓zv, ↓zw, ↓zx, ↓zy, ↓zz, ↓zba, ↓zbb, ↓zbc, ↓zbd, ↓zbe, ↓zbf, ↓zbg, ↓zbh, ↓zbi, ↓zbj, ↓zbk, ↓zbl, ↓zbm, ↓zbn, ↓zbo, ↓zbp, ↓zbq, ↓zbr, ↓zbs, ↓zbt, ↓zbu, ↓zbv, ↓zbw, ↓zbx, ↓zby, ↓zbz, ↓zca, ↓zcb, ↓zcc, ↓zcd, ↓zce, ↓zcf, ↓zcg, ↓zch, ↓zci, ↓zcj, ↓zck, ↓zcl, ↓zcm, ↓zcn, ↓zco, ↓zcp, ↓zcq, ↓zcr, ↓zcs, ↓zct, ↓zcu, ↓zcv, ↓zcw, ↓mt, zcx, kwl, ziw, zcy, zcz, zda, zdb, zdc, zix, ziy, ziz, zja, zdd, zde, zdf, zdg, zdh, zdi, zdj, zdk, zdl, zdm, zdn, zdo, zdp, zdq, zjb, Int.reduceEq, Int.reduceNe, zjc, zjd, Nat.reduceEqDiff, Int.reduceLT, Int.reduceLE, Int.reduceNeg, Int.reduceToNat, zje, kdC, zdr, zjf, zjg, nk1, nk2, nk3, nk4, nk5, zjh, zds, zdt, zdu, zdv, ic1, ic2, ic3, ic4, ic5, ic6, zdw, String.reduceBEq, p60, p50, AH.set_self, AH.set_ne, Kx.more, Kx.comp, zji, zjj, zjk, ↓zdx, ↓zdy, ↓zdz, ↓zea, ↓zeb, ↓zec, ↓zed, ↓zee, ↓zef, ↓zeg, ↓zeh, ↓zei, ↓zej, ↓zek, ↓zel, ↓zem, ↓zen, ↓zeo, ↓zep, ↓zeq, ↓zer, ↓zes, ↓zet, ↓zeu, ↓zev, ↓zew, ↓zex, ↓zey, ↓zez, ↓zfa, ↓zfb, ↓zfc, ↓zfd, ↓zfe, ↓zff, ↓zfg, ↓zfh, ↓zfi, ↓zfj, ↓zfk, ↓zfl, ↓zfm, ↓zfn, ↓zfo, ↓zfp, ↓zfq, ↓zfr, ↓zfs, ↓mtE, ↓zft, ↓zfu, ↓zfv, ↓zfw, ↓zfx, ↓zfy, ↓zfz, ↓zga, ↓zgb, ↓zgc, ↓zgd, ↓zge, ↓zgf, ↓zgg, zgh, zgi, zgj, zgk, zgl, zgm, zgn, zgo, zgp, zgq, zgr, zgs, zgt, zgu, zgv, zgw, zgx, zgy, zgz, zha, zhb, zhc, zhd, zhe, zhf, zhg, zhh, zhi, zhj, zhk, zhl, zhm, zhn, zho, zhp, zhq, zhr, zhs, zht, zhu, zhv, zhw, ↓zhx, ↓zhy, ↓zhz, ↓zia, ↓zib, zic, zid, zie, zif, zig, zih, ↓zii, ↓zij, ↓zik, ↓zil, ↓zim, ↓zin, ↓zio, ↓ziq, ↓zir, pk0, pk1, pk2, pk3, pk4, pk5, pk6, zjl, zjm, zjn, zjo, zjp, zjq, zjr, zjs, zjt, zju, zjv, zjw, zjx, zjy, zjz, zka, zkb, zkc, zkd, zke, zkf, zkg, zkh, zki, zkj, reduceCtorEq, zkk, zkl, zkm, zkn, zko, String.reduceEq, Nat.reduceAdd, Nat.reduceLeDiff, Nat.reduceLT, zkp, zkq, zkr, zks, ↓zis, zit, ↓ziu, ziv, *])
    refine seqsL_cons ?_
    (simp (maxSteps := 1000000) (implicitDefEqProofs := false) only [↓zb, ↓reduceIte, zc, ↓zd, ↓ze, ↓zg, ↓zh, ↓zi, ↓zj, ↓zk, ↓zl, ↓zn, ↓zo, ↓zp, ↓zq, ↓zr, ↓zt, ↓zu, ↓zv, ↓zw, ↓zx, ↓zy, ↓zz, ↓zba, ↓zbb, ↓zbc, ↓zbd, ↓zbe, ↓zbf, ↓zbg, ↓zbh, ↓zbi, ↓zbj, ↓zbk, ↓zbl, ↓zbm, ↓zbn, ↓zbo, ↓zbp, ↓zbq, ↓zbr, ↓zbs, ↓zbt, ↓zbu, ↓zbv, ↓zbw, ↓zbx, ↓zby, ↓zbz, ↓zca, ↓zcb, ↓zcc, ↓zcd, ↓zce, ↓zcf, ↓zcg, ↓zch, ↓zci, ↓zcj, ↓zck, ↓zcl, ↓zcm, ↓zcn, ↓zco, ↓zcp, ↓zcq, ↓zcr, ↓zcs, ↓zct, ↓zcu, ↓zcv, ↓zcw, ↓mt, zcx, kwl, ziw, zcy, zcz, zda, zdb, zdc, zix, ziy, ziz, zja, zdd, zde, zdf, zdg, zdh, zdi, zdj, zdk, zdl, zdm, zdn, zdo, zdp, zdq, zjb, Int.reduceEq, Int.reduceNe, zjc, zjd, Nat.reduceEqDiff, Int.reduceLT, Int.reduceLE, Int.reduceNeg, Int.reduceToNat, zje, kdC, zdr, zjf, zjg, nk1, nk2, nk3, nk4, nk5, zjh, zds, zdt, zdu, zdv, ic1, ic2, ic3, ic4, ic5, ic6, zdw, String.reduceBEq, p60, p50, AH.set_self, AH.set_ne, Kx.more, Kx.comp, zji, zjj, zjk, ↓zdx, ↓zdy, ↓zdz, ↓zea, ↓zeb, ↓zec, ↓zed, ↓zee, ↓zef, ↓zeg, ↓zeh, ↓zei, ↓zej, ↓zek, ↓zel, ↓zem, ↓zen, ↓zeo, ↓zep, ↓zeq, ↓zer, ↓zes, ↓zet, ↓zeu, ↓zev, ↓zew, ↓zex, ↓zey, ↓zez, ↓zfa, ↓zfb, ↓zfc, ↓zfd, ↓zfe, ↓zff, ↓zfg, ↓zfh, ↓zfi, ↓zfj, ↓zfk, ↓zfl, ↓zfm, ↓zfn, ↓zfo, ↓zfp, ↓zfq, ↓zfr, ↓zfs, ↓mtE, ↓zft, ↓zfu, ↓zfv, ↓zfw, ↓zfx, ↓zfy, ↓zfz, ↓zga, ↓zgb, ↓zgc, ↓zgd, ↓zge, ↓zgf, ↓zgg, zgh, zgi, zgj, zgk, zgl, zgm, zgn, zgo, zgp, zgq, zgr, zgs, zgt, zgu, zgv, zgw, zgx, zgy, zgz, zha, zhb, zhc, zhd, zhe, zhf, zhg, zhh, zhi, zhj, zhk, zhl, zhm, zhn, zho, zhp, zhq, zhr, zhs, zht, zhu, zhv, zhw, ↓zhx, ↓zhy, ↓zhz, ↓zia, ↓zib, zic, zid, zie, zif, zig, zih, ↓zii, ↓zij, ↓zik, ↓zil, ↓zim, ↓zin, ↓zio, ↓ziq, ↓zir, pk0, pk1, pk2, pk3, pk4, pk5, pk6, zjl, zjm, zjn, zjo, zjp, zjq, zjr, zjs, zjt, zju, zjv, zjw, zjx, zjy, zjz, zka, zkb, zkc, zkd, zke, zkf, zkg, zkh, zki, zkj, reduceCtorEq, zkk, zkl, zkm, zkn, zko, String.reduceEq, Nat.reduceAdd, Nat.reduceLeDiff, Nat.reduceLT, zkp, zkq, zkr, zks, ↓zis, zit, ↓ziu, ziv, *])
    have ha0 : 0 ≤ (c.fdiv 52).fmod 8 := Int.fmod_nonneg_of_pos _ (by decide)
    have ha8 : (c.fdiv 52).fmod 8 < 8 := Int.fmod_lt_of_pos _ (by decide)
    have hb0 : 0 ≤ (c.fdiv 416).fmod (8 - (c.fdiv 52).fmod 8) := Int.fmod_nonneg_of_pos _ (by omega)
    have hb8 : (c.fdiv 416).fmod (8 - (c.fdiv 52).fmod 8) < 8 := Int.lt_of_lt_of_le (Int.fmod_lt_of_pos _ (by omega)) (by omega)
    rw [rep_one]
    refine ⟨mulOk_one _ (by omega) (by omega), ?_, ?_⟩
    · rw [tx_length]; simp [Str.length, sizeLine]; omega
    refine seqsL_cons ?_
    (simp (maxSteps := 1000000) (implicitDefEqProofs := false) only [↓zb, ↓reduceIte, zc, ↓zd, ↓ze, ↓zg, ↓zh, ↓zi, ↓zj, ↓zk, ↓zl, ↓zn, ↓zo, ↓zp, ↓zq, ↓zr, ↓zt, ↓zu, ↓zv, ↓zw, ↓zx, ↓zy, ↓zz, ↓zba, ↓zbb, ↓zbc, ↓zbd, ↓zbe, ↓zbf, ↓zbg, ↓zbh, ↓zbi, ↓zbj, ↓zbk, ↓zbl, ↓zbm, ↓zbn, ↓zbo, ↓zbp, ↓zbq, ↓zbr, ↓zbs, ↓zbt, ↓zbu, ↓zbv, ↓zbw, ↓zbx, ↓zby, ↓zbz, ↓zca, ↓zcb, ↓zcc, ↓zcd, ↓zce, ↓zcf, ↓zcg, ↓zch, ↓zci, ↓zcj, ↓zck, ↓zcl, ↓zcm, ↓zcn, ↓zco, ↓zcp, ↓zcq, ↓zcr, ↓zcs, ↓zct, ↓zcu, ↓zcv, ↓zcw, ↓mt, zcx, kwl, ziw, zcy, zcz, zda, zdb, zdc, zix, ziy, ziz, zja, zdd, zde, zdf, zdg, zdh, zdi, zdj, zdk, zdl, zdm, zdn, zdo, zdp, zdq, zjb, Int.reduceEq, Int.reduceNe, zjc, zjd, Nat.reduceEqDiff, Int.reduceLT, Int.reduceLE, Int.reduceNeg, Int.reduceToNat, zje, kdC, zdr, zjf, zjg, nk1, nk2, nk3, nk4, nk5, zjh, zds, zdt, zdu, zdv, ic1, ic2, ic3, ic4, ic5, ic6, zdw, String.reduceBEq, p60, p50, AH.set_self, AH.set_ne, Kx.more, Kx.comp, zji, zjj, zjk, ↓zdx, ↓zdy, ↓zdz, ↓zea, ↓zeb, ↓zec, ↓zed, ↓zee, ↓zef, ↓zeg, ↓zeh, ↓zei, ↓zej, ↓zek, ↓zel, ↓zem, ↓zen, ↓zeo, ↓zep, ↓zeq, ↓zer, ↓zes, ↓zet, ↓zeu, ↓zev, ↓zew, ↓zex, ↓zey, ↓zez, ↓zfa, ↓zfb, ↓zfc, ↓zfd, ↓zfe, ↓zff, ↓zfg, ↓zfh, ↓zfi, ↓zfj, ↓zfk, ↓zfl, ↓zfm, ↓zfn, ↓zfo, ↓zfp, ↓zfq, ↓zfr, ↓zfs, ↓mtE, ↓zft, ↓zfu, ↓zfv, ↓zfw, ↓zfx, ↓zfy, ↓zfz, ↓zga, ↓zgb, ↓zgc, ↓zgd, ↓zge, ↓zgf, ↓zgg, zgh, zgi, zgj, zgk, zgl, zgm, zgn, zgo, zgp, zgq, zgr, zgs, zgt, zgu, zgv, zgw, zgx, zgy, zgz, zha, zhb, zhc, zhd, zhe, zhf, zhg, zhh, zhi, zhj, zhk, zhl, zhm, zhn, zho, zhp, zhq, zhr, zhs, zht, zhu, zhv, zhw, ↓zhx, ↓zhy, ↓zhz, ↓zia, ↓zib, zic, zid, zie, zif, zig, zih, ↓zii, ↓zij, ↓zik, ↓zil, ↓zim, ↓zin, ↓zio, ↓ziq, ↓zir, pk0, pk1, pk2, pk3, pk4, pk5, pk6, zjl, zjm, zjn, zjo, zjp, zjq, zjr, zjs, zjt, zju, zjv, zjw, zjx, zjy, zjz, zka, zkb, zkc, zkd, zke, zkf, zkg, zkh, zki, zkj, reduceCtorEq, zkk, zkl, zkm, zkn, zko, String.reduceEq, Nat.reduceAdd, Nat.reduceLeDiff, Nat.reduceLT, zkp, zkq, zkr, zks, ↓zis, zit, ↓ziu, ziv, *])
    rw [rep_one]
    refine ⟨?_, ?_, ?_, ?_⟩
    · omega
    · exact mulOk_one _ (by omega) (by omega)
    · show ((tx (List.replicate ((c.fdiv 52).fmod 8).toNat (ltr (c.fdiv 2))) ++ tx [ltr (c.fdiv 416 + 7 * (k : Int))])).length + (tx _).length ≤ sizeLine
      rw [tx_append, tx_length, tx_length]
      simp [sizeLine]
      omega
    have hfr' : f ≠ r := Ne.symm hfr
    refine seqsL_split (fun ρ'' H'' => Ext H' H'' ∧ ρ'' "_law_cell" = some (.int c) ∧ ρ'' "_law_signs" = some (.str abc) ∧ ρ'' "_law_found" = some (.ref f) ∧ ρ'' "_law_word" = some (.str (tx (wordL c (k : Nat))))) ?_ ?_
    · rintro ρ'' H₃ ⟨hH', g1, g2, g3, g4⟩
      have h5' := hH' _ _ h5
      have e1 : Ext H (H₃.set f (.list (((List.range k).map fun k => V.str (tx (wordL c (k : Nat)))) ++ [.str (tx (wordL c (k : Nat)))]))) := (h4.trans hH').set hf
      clear h1 h2 h3
      refine seqsL_cons ?_
      (simp (maxSteps := 1000000) (implicitDefEqProofs := false) only [↓zb, ↓reduceIte, zc, ↓zd, ↓ze, ↓zg, ↓zh, ↓zi, ↓zj, ↓zk, ↓zl, ↓zn, ↓zo, ↓zp, ↓zq, ↓zr, ↓zt, ↓zu, ↓zv, ↓zw, ↓zx, ↓zy, ↓zz, ↓zba, ↓zbb, ↓zbc, ↓zbd, ↓zbe, ↓zbf, ↓zbg, ↓zbh, ↓zbi, ↓zbj, ↓zbk, ↓zbl, ↓zbm, ↓zbn, ↓zbo, ↓zbp, ↓zbq, ↓zbr, ↓zbs, ↓zbt, ↓zbu, ↓zbv, ↓zbw, ↓zbx, ↓zby, ↓zbz, ↓zca, ↓zcb, ↓zcc, ↓zcd, ↓zce, ↓zcf, ↓zcg, ↓zch, ↓zci, ↓zcj, ↓zck, ↓zcl, ↓zcm, ↓zcn, ↓zco, ↓zcp, ↓zcq, ↓zcr, ↓zcs, ↓zct, ↓zcu, ↓zcv, ↓zcw, ↓mt, zcx, kwl, ziw, zcy, zcz, zda, zdb, zdc, zix, ziy, ziz, zja, zdd, zde, zdf, zdg, zdh, zdi, zdj, zdk, zdl, zdm, zdn, zdo, zdp, zdq, zjb, Int.reduceEq, Int.reduceNe, zjc, zjd, Nat.reduceEqDiff, Int.reduceLT, Int.reduceLE, Int.reduceNeg, Int.reduceToNat, zje, kdC, zdr, zjf, zjg, nk1, nk2, nk3, nk4, nk5, zjh, zds, zdt, zdu, zdv, ic1, ic2, ic3, ic4, ic5, ic6, zdw, String.reduceBEq, p60, p50, AH.set_self, AH.set_ne, Kx.more, Kx.comp, zji, zjj, zjk, ↓zdx, ↓zdy, ↓zdz, ↓zea, ↓zeb, ↓zec, ↓zed, ↓zee, ↓zef, ↓zeg, ↓zeh, ↓zei, ↓zej, ↓zek, ↓zel, ↓zem, ↓zen, ↓zeo, ↓zep, ↓zeq, ↓zer, ↓zes, ↓zet, ↓zeu, ↓zev, ↓zew, ↓zex, ↓zey, ↓zez, ↓zfa, ↓zfb, ↓zfc, ↓zfd, ↓zfe, ↓zff, ↓zfg, ↓zfh, ↓zfi, ↓zfj, ↓zfk, ↓zfl, ↓zfm, ↓zfn, ↓zfo, ↓zfp, ↓zfq, ↓zfr, ↓zfs, ↓mtE, ↓zft, ↓zfu, ↓zfv, ↓zfw, ↓zfx, ↓zfy, ↓zfz, ↓zga, ↓zgb, ↓zgc, ↓zgd, ↓zge, ↓zgf, ↓zgg, zgh, zgi, zgj, zgk, zgl, zgm, zgn, zgo, zgp, zgq, zgr, zgs, zgt, zgu, zgv, zgw, zgx, zgy, zgz, zha, zhb, zhc, zhd, zhe, zhf, zhg, zhh, zhi, zhj, zhk, zhl, zhm, zhn, zho, zhp, zhq, zhr, zhs, zht, zhu, zhv, zhw, ↓zhx, ↓zhy, ↓zhz, ↓zia, ↓zib, zic, zid, zie, zif, zig, zih, ↓zii, ↓zij, ↓zik, ↓zil, ↓zim, ↓zin, ↓zio, ↓ziq, ↓zir, pk0, pk1, pk2, pk3, pk4, pk5, pk6, zjl, zjm, zjn, zjo, zjp, zjq, zjr, zjs, zjt, zju, zjv, zjw, zjx, zjy, zjz, zka, zkb, zkc, zkd, zke, zkf, zkg, zkh, zki, zkj, reduceCtorEq, zkk, zkl, zkm, zkn, zko, String.reduceEq, Nat.reduceAdd, Nat.reduceLeDiff, Nat.reduceLT, zkp, zkq, zkr, zks, ↓zis, zit, ↓ziu, ziv, *])
      refine ⟨by simp [hfr', hff], by simp [sizeLine]; omega, seqsL_nil ?_⟩
      rw [List.range_succ, List.map_append]
      (simp (maxSteps := 1000000) (implicitDefEqProofs := false) only [↓zb, ↓reduceIte, zc, ↓zd, ↓ze, ↓zg, ↓zh, ↓zi, ↓zj, ↓zk, ↓zl, ↓zn, ↓zo, ↓zp, ↓zq, ↓zr, ↓zt, ↓zu, ↓zv, ↓zw, ↓zx, ↓zy, ↓zz, ↓zba, ↓zbb, ↓zbc, ↓zbd, ↓zbe, ↓zbf, ↓zbg, ↓zbh, ↓zbi, ↓zbj, ↓zbk, ↓zbl, ↓zbm, ↓zbn, ↓zbo, ↓zbp, ↓zbq, ↓zbr, ↓zbs, ↓zbt, ↓zbu, ↓zbv, ↓zbw, ↓zbx, ↓zby, ↓zbz, ↓zca, ↓zcb, ↓zcc, ↓zcd, ↓zce, ↓zcf, ↓zcg, ↓zch, ↓zci, ↓zcj, ↓zck, ↓zcl, ↓zcm, ↓zcn, ↓zco, ↓zcp, ↓zcq, ↓zcr, ↓zcs, ↓zct, ↓zcu, ↓zcv, ↓zcw, ↓mt, zcx, kwl, ziw, zcy, zcz, zda, zdb, zdc, zix, ziy, ziz, zja, zdd, zde, zdf, zdg, zdh, zdi, zdj, zdk, zdl, zdm, zdn, zdo, zdp, zdq, zjb, Int.reduceEq, Int.reduceNe, zjc, zjd, Nat.reduceEqDiff, Int.reduceLT, Int.reduceLE, Int.reduceNeg, Int.reduceToNat, zje, kdC, zdr, zjf, zjg, nk1, nk2, nk3, nk4, nk5, zjh, zds, zdt, zdu, zdv, ic1, ic2, ic3, ic4, ic5, ic6, zdw, String.reduceBEq, p60, p50, AH.set_self, AH.set_ne, Kx.more, Kx.comp, zji, zjj, zjk, ↓zdx, ↓zdy, ↓zdz, ↓zea, ↓zeb, ↓zec, ↓zed, ↓zee, ↓zef, ↓zeg, ↓zeh, ↓zei, ↓zej, ↓zek, ↓zel, ↓zem, ↓zen, ↓zeo, ↓zep, ↓zeq, ↓zer, ↓zes, ↓zet, ↓zeu, ↓zev, ↓zew, ↓zex, ↓zey, ↓zez, ↓zfa, ↓zfb, ↓zfc, ↓zfd, ↓zfe, ↓zff, ↓zfg, ↓zfh, ↓zfi, ↓zfj, ↓zfk, ↓zfl, ↓zfm, ↓zfn, ↓zfo, ↓zfp, ↓zfq, ↓zfr, ↓zfs, ↓mtE, ↓zft, ↓zfu, ↓zfv, ↓zfw, ↓zfx, ↓zfy, ↓zfz, ↓zga, ↓zgb, ↓zgc, ↓zgd, ↓zge, ↓zgf, ↓zgg, zgh, zgi, zgj, zgk, zgl, zgm, zgn, zgo, zgp, zgq, zgr, zgs, zgt, zgu, zgv, zgw, zgx, zgy, zgz, zha, zhb, zhc, zhd, zhe, zhf, zhg, zhh, zhi, zhj, zhk, zhl, zhm, zhn, zho, zhp, zhq, zhr, zhs, zht, zhu, zhv, zhw, ↓zhx, ↓zhy, ↓zhz, ↓zia, ↓zib, zic, zid, zie, zif, zig, zih, ↓zii, ↓zij, ↓zik, ↓zil, ↓zim, ↓zin, ↓zio, ↓ziq, ↓zir, pk0, pk1, pk2, pk3, pk4, pk5, pk6, zjl, zjm, zjn, zjo, zjp, zjq, zjr, zjs, zjt, zju, zjv, zjw, zjx, zjy, zjz, zka, zkb, zkc, zkd, zke, zkf, zkg, zkh, zki, zkj, reduceCtorEq, zkk, zkl, zkm, zkn, zko, String.reduceEq, Nat.reduceAdd, Nat.reduceLeDiff, Nat.reduceLT, zkp, zkq, zkr, zks, ↓zis, zit, ↓ziu, ziv, *])
    intro rest
    replace rest := Box.mk rest
    (simp (maxSteps := 1000000) (implicitDefEqProofs := false) only [↓zb, ↓reduceIte, zc, ↓zd, ↓ze, ↓zg, ↓zh, ↓zi, ↓zj, ↓zk, ↓zl, ↓zn, ↓zo, ↓zp, ↓zq, ↓zr, ↓zt, ↓zu, ↓zv, ↓zw, ↓zx, ↓zy, ↓zz, ↓zba, ↓zbb, ↓zbc, ↓zbd, ↓zbe, ↓zbf, ↓zbg, ↓zbh, ↓zbi, ↓zbj, ↓zbk, ↓zbl, ↓zbm, ↓zbn, ↓zbo, ↓zbp, ↓zbq, ↓zbr, ↓zbs, ↓zbt, ↓zbu, ↓zbv, ↓zbw, ↓zbx, ↓zby, ↓zbz, ↓zca, ↓zcb, ↓zcc, ↓zcd, ↓zce, ↓zcf, ↓zcg, ↓zch, ↓zci, ↓zcj, ↓zck, ↓zcl, ↓zcm, ↓zcn, ↓zco, ↓zcp, ↓zcq, ↓zcr, ↓zcs, ↓zct, ↓zcu, ↓zcv, ↓zcw, ↓mt, zcx, kwl, ziw, zcy, zcz, zda, zdb, zdc, zix, ziy, ziz, zja, zdd, zde, zdf, zdg, zdh, zdi, zdj, zdk, zdl, zdm, zdn, zdo, zdp, zdq, zjb, Int.reduceEq, Int.reduceNe, zjc, zjd, Nat.reduceEqDiff, Int.reduceLT, Int.reduceLE, Int.reduceNeg, Int.reduceToNat, zje, kdC, zdr, zjf, zjg, nk1, nk2, nk3, nk4, nk5, zjh, zds, zdt, zdu, zdv, ic1, ic2, ic3, ic4, ic5, ic6, zdw, String.reduceBEq, p60, p50, AH.set_self, AH.set_ne, Kx.more, Kx.comp, zji, zjj, zjk, ↓zdx, ↓zdy, ↓zdz, ↓zea, ↓zeb, ↓zec, ↓zed, ↓zee, ↓zef, ↓zeg, ↓zeh, ↓zei, ↓zej, ↓zek, ↓zel, ↓zem, ↓zen, ↓zeo, ↓zep, ↓zeq, ↓zer, ↓zes, ↓zet, ↓zeu, ↓zev, ↓zew, ↓zex, ↓zey, ↓zez, ↓zfa, ↓zfb, ↓zfc, ↓zfd, ↓zfe, ↓zff, ↓zfg, ↓zfh, ↓zfi, ↓zfj, ↓zfk, ↓zfl, ↓zfm, ↓zfn, ↓zfo, ↓zfp, ↓zfq, ↓zfr, ↓zfs, ↓mtE, ↓zft, ↓zfu, ↓zfv, ↓zfw, ↓zfx, ↓zfy, ↓zfz, ↓zga, ↓zgb, ↓zgc, ↓zgd, ↓zge, ↓zgf, ↓zgg, zgh, zgi, zgj, zgk, zgl, zgm, zgn, zgo, zgp, zgq, zgr, zgs, zgt, zgu, zgv, zgw, zgx, zgy, zgz, zha, zhb, zhc, zhd, zhe, zhf, zhg, zhh, zhi, zhj, zhk, zhl, zhm, zhn, zho, zhp, zhq, zhr, zhs, zht, zhu, zhv, zhw, ↓zhx, ↓zhy, ↓zhz, ↓zia, ↓zib, zic, zid, zie, zif, zig, zih, ↓zii, ↓zij, ↓zik, ↓zil, ↓zim, ↓zin, ↓zio, ↓ziq, ↓zir, pk0, pk1, pk2, pk3, pk4, pk5, pk6, zjl, zjm, zjn, zjo, zjp, zjq, zjr, zjs, zjt, zju, zjv, zjw, zjx, zjy, zjz, zka, zkb, zkc, zkd, zke, zkf, zkg, zkh, zki, zkj, reduceCtorEq, zkk, zkl, zkm, zkn, zko, String.reduceEq, Nat.reduceAdd, Nat.reduceLeDiff, Nat.reduceLT, zkp, zkq, zkr, zks, ↓zis, zit, ↓ziu, ziv, *])
    refine ⟨fun hodd => ⟨⟨compOk_of rfl (by change kd "_law_first" = some .cell ∧ kd "_law_signs" = some .cell ∧ True; (simp (maxSteps := 1000000) (implicitDefEqProofs := false) only [↓zb, ↓reduceIte, zc, ↓zd, ↓ze, ↓zg, ↓zh, ↓zi, ↓zj, ↓zk, ↓zl, ↓zn, ↓zo, ↓zp, ↓zq, ↓zr, ↓zt, ↓zu, ↓zv, ↓zw, ↓zx, ↓zy, ↓zz, ↓zba, ↓zbb, ↓zbc, ↓zbd, ↓zbe, ↓zbf, ↓zbg, ↓zbh, ↓zbi, ↓zbj, ↓zbk, ↓zbl, ↓zbm, ↓zbn, ↓zbo, ↓zbp, ↓zbq, ↓zbr, ↓zbs, ↓zbt, ↓zbu, ↓zbv, ↓zbw, ↓zbx, ↓zby, ↓zbz, ↓zca, ↓zcb, ↓zcc, ↓zcd, ↓zce, ↓zcf, ↓zcg, ↓zch, ↓zci, ↓zcj, ↓zck, ↓zcl, ↓zcm, ↓zcn, ↓zco, ↓zcp, ↓zcq, ↓zcr, ↓zcs, ↓zct, ↓zcu, ↓zcv, ↓zcw, ↓mt, zcx, kwl, ziw, zcy, zcz, zda, zdb, zdc, zix, ziy, ziz, zja, zdd, zde, zdf, zdg, zdh, zdi, zdj, zdk, zdl, zdm, zdn, zdo, zdp, zdq, zjb, Int.reduceEq, Int.reduceNe, zjc, zjd, Nat.reduceEqDiff, Int.reduceLT, Int.reduceLE, Int.reduceNeg, Int.reduceToNat, zje, kdC, zdr, zjf, zjg, nk1, nk2, nk3, nk4, nk5, zjh, zds, zdt, zdu, zdv, ic1, ic2, ic3, ic4, ic5, ic6, zdw, String.reduceBEq, p60, p50, AH.set_self, AH.set_ne, Kx.more, Kx.comp, zji, zjj, zjk, ↓zdx, ↓zdy, ↓zdz, ↓zea, ↓zeb, ↓zec, ↓zed, ↓zee, ↓zef, ↓zeg, ↓zeh, ↓zei, ↓zej, ↓zek, ↓zel, ↓zem, ↓zen, ↓zeo, ↓zep, ↓zeq, ↓zer, ↓zes, ↓zet, ↓zeu, ↓zev, ↓zew, ↓zex, ↓zey, ↓zez, ↓zfa, ↓zfb, ↓zfc, ↓zfd, ↓zfe, ↓zff, ↓zfg, ↓zfh, ↓zfi, ↓zfj, ↓zfk, ↓zfl, ↓zfm, ↓zfn, ↓zfo, ↓zfp, ↓zfq, ↓zfr, ↓zfs, ↓mtE, ↓zft, ↓zfu, ↓zfv, ↓zfw, ↓zfx, ↓zfy, ↓zfz, ↓zga, ↓zgb, ↓zgc, ↓zgd, ↓zge, ↓zgf, ↓zgg, zgh, zgi, zgj, zgk, zgl, zgm, zgn, zgo, zgp, zgq, zgr, zgs, zgt, zgu, zgv, zgw, zgx, zgy, zgz, zha, zhb, zhc, zhd, zhe, zhf, zhg, zhh, zhi, zhj, zhk, zhl, zhm, zhn, zho, zhp, zhq, zhr, zhs, zht, zhu, zhv, zhw, ↓zhx, ↓zhy, ↓zhz, ↓zia, ↓zib, zic, zid, zie, zif, zig, zih, ↓zii, ↓zij, ↓zik, ↓zil, ↓zim, ↓zin, ↓zio, ↓ziq, ↓zir, pk0, pk1, pk2, pk3, pk4, pk5, pk6, zjl, zjm, zjn, zjo, zjp, zjq, zjr, zjs, zjt, zju, zjv, zjw, zjx, zjy, zjz, zka, zkb, zkc, zkd, zke, zkf, zkg, zkh, zki, zkj, reduceCtorEq, zkk, zkl, zkm, zkn, zko, String.reduceEq, Nat.reduceAdd, Nat.reduceLeDiff, Nat.reduceLT, zkp, zkq, zkr, zks, ↓zis, zit, ↓ziu, ziv, *])), rfl⟩, ?_⟩, fun heven => ?_⟩
    · intro q hq hqf
      have hk0 : 0 ≤ (k : Int).fmod 8 := Int.fmod_nonneg_of_pos _ (by decide)
      have hk8 : (k : Int).fmod 8 < 8 := Int.fmod_lt_of_pos _ (by decide)
      obtain ⟨n, hn⟩ := Int.eq_ofNat_of_zero_le (show 0 ≤ 1 + (k : Int).fmod 8 by omega)
      refine compW_map ((List.range n).map fun i => V.int (i : Nat)) (onInt fun j => V.str ⟨#[ltr (c.fdiv 2 + (k : Int).fdiv 8 * 3 + j)]⟩) (items_rng (by rw [AH.set_self, hn]) (by omega)) (by simp [sizeLine]; omega) ?_ ?_
      · intro j y ys H₂ hy he
        obtain ⟨hj, rfl⟩ := range_get hy
        (simp (maxSteps := 1000000) (implicitDefEqProofs := false) only [↓zb, ↓reduceIte, zc, ↓zd, ↓ze, ↓zg, ↓zh, ↓zi, ↓zj, ↓zk, ↓zl, ↓zn, ↓zo, ↓zp, ↓zq, ↓zr, ↓zt, ↓zu, ↓zv, ↓zw, ↓zx, ↓zy, ↓zz, ↓zba, ↓zbb, ↓zbc, ↓zbd, ↓zbe, ↓zbf, ↓zbg, ↓zbh, ↓zbi, ↓zbj, ↓zbk, ↓zbl, ↓zbm, ↓zbn, ↓zbo, ↓zbp, ↓zbq, ↓zbr, ↓zbs, ↓zbt, ↓zbu, ↓zbv, ↓zbw, ↓zbx, ↓zby, ↓zbz, ↓zca, ↓zcb, ↓zcc, ↓zcd, ↓zce, ↓zcf, ↓zcg, ↓zch, ↓zci, ↓zcj, ↓zck, ↓zcl, ↓zcm, ↓zcn, ↓zco, ↓zcp, ↓zcq, ↓zcr, ↓zcs, ↓zct, ↓zcu, ↓zcv, ↓zcw, ↓mt, zcx, kwl, ziw, zcy, zcz, zda, zdb, zdc, zix, ziy, ziz, zja, zdd, zde, zdf, zdg, zdh, zdi, zdj, zdk, zdl, zdm, zdn, zdo, zdp, zdq, zjb, Int.reduceEq, Int.reduceNe, zjc, zjd, Nat.reduceEqDiff, Int.reduceLT, Int.reduceLE, Int.reduceNeg, Int.reduceToNat, zje, kdC, zdr, zjf, zjg, nk1, nk2, nk3, nk4, nk5, zjh, zds, zdt, zdu, zdv, ic1, ic2, ic3, ic4, ic5, ic6, zdw, String.reduceBEq, p60, p50, AH.set_self, AH.set_ne, Kx.more, Kx.comp, zji, zjj, zjk, ↓zdx, ↓zdy, ↓zdz, ↓zea, ↓zeb, ↓zec, ↓zed, ↓zee, ↓zef, ↓zeg, ↓zeh, ↓zei, ↓zej, ↓zek, ↓zel, ↓zem, ↓zen, ↓zeo, ↓zep, ↓zeq, ↓zer, ↓zes, ↓zet, ↓zeu, ↓zev, ↓zew, ↓zex, ↓zey, ↓zez, ↓zfa, ↓zfb, ↓zfc, ↓zfd, ↓zfe, ↓zff, ↓zfg, ↓zfh, ↓zfi, ↓zfj, ↓zfk, ↓zfl, ↓zfm, ↓zfn, ↓zfo, ↓zfp, ↓zfq, ↓zfr, ↓zfs, ↓mtE, ↓zft, ↓zfu, ↓zfv, ↓zfw, ↓zfx, ↓zfy, ↓zfz, ↓zga, ↓zgb, ↓zgc, ↓zgd, ↓zge, ↓zgf, ↓zgg, zgh, zgi, zgj, zgk, zgl, zgm, zgn, zgo, zgp, zgq, zgr, zgs, zgt, zgu, zgv, zgw, zgx, zgy, zgz, zha, zhb, zhc, zhd, zhe, zhf, zhg, zhh, zhi, zhj, zhk, zhl, zhm, zhn, zho, zhp, zhq, zhr, zhs, zht, zhu, zhv, zhw, ↓zhx, ↓zhy, ↓zhz, ↓zia, ↓zib, zic, zid, zie, zif, zig, zih, ↓zii, ↓zij, ↓zik, ↓zil, ↓zim, ↓zin, ↓zio, ↓ziq, ↓zir, pk0, pk1, pk2, pk3, pk4, pk5, pk6, zjl, zjm, zjn, zjo, zjp, zjq, zjr, zjs, zjt, zju, zjv, zjw, zjx, zjy, zjz, zka, zkb, zkc, zkd, zke, zkf, zkg, zkh, zki, zkj, reduceCtorEq, zkk, zkl, zkm, zkn, zko, String.reduceEq, Nat.reduceAdd, Nat.reduceLeDiff, Nat.reduceLT, zkp, zkq, zkr, zks, ↓zis, zit, ↓ziu, ziv, *])
        refine ⟨rfl, ?_⟩
        rw [← hn]; exact he
      · intro H₂ he z hz hzf
        rw [onInt_range]
        (simp (maxSteps := 1000000) (implicitDefEqProofs := false) only [↓zb, ↓reduceIte, zc, ↓zd, ↓ze, ↓zg, ↓zh, ↓zi, ↓zj, ↓zk, ↓zl, ↓zn, ↓zo, ↓zp, ↓zq, ↓zr, ↓zt, ↓zu, ↓zv, ↓zw, ↓zx, ↓zy, ↓zz, ↓zba, ↓zbb, ↓zbc, ↓zbd, ↓zbe, ↓zbf, ↓zbg, ↓zbh, ↓zbi, ↓zbj, ↓zbk, ↓zbl, ↓zbm, ↓zbn, ↓zbo, ↓zbp, ↓zbq, ↓zbr, ↓zbs, ↓zbt, ↓zbu, ↓zbv, ↓zbw, ↓zbx, ↓zby, ↓zbz, ↓zca, ↓zcb, ↓zcc, ↓zcd, ↓zce, ↓zcf, ↓zcg, ↓zch, ↓zci, ↓zcj, ↓zck, ↓zcl, ↓zcm, ↓zcn, ↓zco, ↓zcp, ↓zcq, ↓zcr, ↓zcs, ↓zct, ↓zcu, ↓zcv, ↓zcw, ↓mt, zcx, kwl, ziw, zcy, zcz, zda, zdb, zdc, zix, ziy, ziz, zja, zdd, zde, zdf, zdg, zdh, zdi, zdj, zdk, zdl, zdm, zdn, zdo, zdp, zdq, zjb, Int.reduceEq, Int.reduceNe, zjc, zjd, Nat.reduceEqDiff, Int.reduceLT, Int.reduceLE, Int.reduceNeg, Int.reduceToNat, zje, kdC, zdr, zjf, zjg, nk1, nk2, nk3, nk4, nk5, zjh, zds, zdt, zdu, zdv, ic1, ic2, ic3, ic4, ic5, ic6, zdw, String.reduceBEq, p60, p50, AH.set_self, AH.set_ne, Kx.more, Kx.comp, zji, zjj, zjk, ↓zdx, ↓zdy, ↓zdz, ↓zea, ↓zeb, ↓zec, ↓zed, ↓zee, ↓zef, ↓zeg, ↓zeh, ↓zei, ↓zej, ↓zek, ↓zel, ↓zem, ↓zen, ↓zeo, ↓zep, ↓zeq, ↓zer, ↓zes, ↓zet, ↓zeu, ↓zev, ↓zew, ↓zex, ↓zey, ↓zez, ↓zfa, ↓zfb, ↓zfc, ↓zfd, ↓zfe, ↓zff, ↓zfg, ↓zfh, ↓zfi, ↓zfj, ↓zfk, ↓zfl, ↓zfm, ↓zfn, ↓zfo, ↓zfp, ↓zfq, ↓zfr, ↓zfs, ↓mtE, ↓zft, ↓zfu, ↓zfv, ↓zfw, ↓zfx, ↓zfy, ↓zfz, ↓zga, ↓zgb, ↓zgc, ↓zgd, ↓zge, ↓zgf, ↓zgg, zgh, zgi, zgj, zgk, zgl, zgm, zgn, zgo, zgp, zgq, zgr, zgs, zgt, zgu, zgv, zgw, zgx, zgy, zgz, zha, zhb, zhc, zhd, zhe, zhf, zhg, zhh, zhi, zhj, zhk, zhl, zhm, zhn, zho, zhp, zhq, zhr, zhs, zht, zhu, zhv, zhw, ↓zhx, ↓zhy, ↓zhz, ↓zia, ↓zib, zic, zid, zie, zif, zig, zih, ↓zii, ↓zij, ↓zik, ↓zil, ↓zim, ↓zin, ↓zio, ↓ziq, ↓zir, pk0, pk1, pk2, pk3, pk4, pk5, pk6, zjl, zjm, zjn, zjo, zjp, zjq, zjr, zjs, zjt, zju, zjv, zjw, zjx, zjy, zjz, zka, zkb, zkc, zkd, zke, zkf, zkg, zkh, zki, zkj, reduceCtorEq, zkk, zkl, zkm, zkn, zko, String.reduceEq, Nat.reduceAdd, Nat.reduceLeDiff, Nat.reduceLT, zkp, zkq, zkr, zks, ↓zis, zit, ↓ziu, ziv, *])
        refine ⟨((List.range n).map fun i => ltr (c.fdiv 2 + (k : Int).fdiv 8 * 3 + (i : Nat))).map fun c => (⟨#[c]⟩ : Str), ?_, joinOk_tx _ ?_, ?_⟩
        · simp
        · simp; omega
        rw [join_tx]
        have hw : wordL c (k : Nat) = (List.range n).map fun i => ltr (c.fdiv 2 + (k : Int).fdiv 8 * 3 + (i : Nat)) := by
          unfold wordL; rw [if_pos hodd, hn]; rfl
        rw [← hw]
        have hH' : Ext H' (H₂.set z (.list ((List.range n).map fun i => V.str ⟨#[ltr (c.fdiv 2 + (k : Int).fdiv 8 * 3 + (i : Nat))]⟩))) := ((Ext.new hq).trans he).trans (Ext.new hz)
        refine rest.out _ _ ⟨hH', ?_⟩
        (simp (maxSteps := 1000000) (implicitDefEqProofs := false) only [↓zb, ↓reduceIte, zc, ↓zd, ↓ze, ↓zg, ↓zh, ↓zi, ↓zj, ↓zk, ↓zl, ↓zn, ↓zo, ↓zp, ↓zq, ↓zr, ↓zt, ↓zu, ↓zv, ↓zw, ↓zx, ↓zy, ↓zz, ↓zba, ↓zbb, ↓zbc, ↓zbd, ↓zbe, ↓zbf, ↓zbg, ↓zbh, ↓zbi, ↓zbj, ↓zbk, ↓zbl, ↓zbm, ↓zbn, ↓zbo, ↓zbp, ↓zbq, ↓zbr, ↓zbs, ↓zbt, ↓zbu, ↓zbv, ↓zbw, ↓zbx, ↓zby, ↓zbz, ↓zca, ↓zcb, ↓zcc, ↓zcd, ↓zce, ↓zcf, ↓zcg, ↓zch, ↓zci, ↓zcj, ↓zck, ↓zcl, ↓zcm, ↓zcn, ↓zco, ↓zcp, ↓zcq, ↓zcr, ↓zcs, ↓zct, ↓zcu, ↓zcv, ↓zcw, ↓mt, zcx, kwl, ziw, zcy, zcz, zda, zdb, zdc, zix, ziy, ziz, zja, zdd, zde, zdf, zdg, zdh, zdi, zdj, zdk, zdl, zdm, zdn, zdo, zdp, zdq, zjb, Int.reduceEq, Int.reduceNe, zjc, zjd, Nat.reduceEqDiff, Int.reduceLT, Int.reduceLE, Int.reduceNeg, Int.reduceToNat, zje, kdC, zdr, zjf, zjg, nk1, nk2, nk3, nk4, nk5, zjh, zds, zdt, zdu, zdv, ic1, ic2, ic3, ic4, ic5, ic6, zdw, String.reduceBEq, p60, p50, AH.set_self, AH.set_ne, Kx.more, Kx.comp, zji, zjj, zjk, ↓zdx, ↓zdy, ↓zdz, ↓zea, ↓zeb, ↓zec, ↓zed, ↓zee, ↓zef, ↓zeg, ↓zeh, ↓zei, ↓zej, ↓zek, ↓zel, ↓zem, ↓zen, ↓zeo, ↓zep, ↓zeq, ↓zer, ↓zes, ↓zet, ↓zeu, ↓zev, ↓zew, ↓zex, ↓zey, ↓zez, ↓zfa, ↓zfb, ↓zfc, ↓zfd, ↓zfe, ↓zff, ↓zfg, ↓zfh, ↓zfi, ↓zfj, ↓zfk, ↓zfl, ↓zfm, ↓zfn, ↓zfo, ↓zfp, ↓zfq, ↓zfr, ↓zfs, ↓mtE, ↓zft, ↓zfu, ↓zfv, ↓zfw, ↓zfx, ↓zfy, ↓zfz, ↓zga, ↓zgb, ↓zgc, ↓zgd, ↓zge, ↓zgf, ↓zgg, zgh, zgi, zgj, zgk, zgl, zgm, zgn, zgo, zgp, zgq, zgr, zgs, zgt, zgu, zgv, zgw, zgx, zgy, zgz, zha, zhb, zhc, zhd, zhe, zhf, zhg, zhh, zhi, zhj, zhk, zhl, zhm, zhn, zho, zhp, zhq, zhr, zhs, zht, zhu, zhv, zhw, ↓zhx, ↓zhy, ↓zhz, ↓zia, ↓zib, zic, zid, zie, zif, zig, zih, ↓zii, ↓zij, ↓zik, ↓zil, ↓zim, ↓zin, ↓zio, ↓ziq, ↓zir, pk0, pk1, pk2, pk3, pk4, pk5, pk6, zjl, zjm, zjn, zjo, zjp, zjq, zjr, zjs, zjt, zju, zjv, zjw, zjx, zjy, zjz, zka, zkb, zkc, zkd, zke, zkf, zkg, zkh, zki, zkj, reduceCtorEq, zkk, zkl, zkm, zkn, zko, String.reduceEq, Nat.reduceAdd, Nat.reduceLeDiff, Nat.reduceLT, zkp, zkq, zkr, zks, ↓zis, zit, ↓ziu, ziv, *])
    · refine rest.out _ _ ⟨Ext.refl _, ?_⟩
      have hw : wordL c (k : Nat) = List.replicate ((c.fdiv 52).fmod 8).toNat (ltr (c.fdiv 2)) ++ [ltr (c.fdiv 416 + 7 * (k : Int))] ++ List.replicate ((c.fdiv 416).fmod (8 - (c.fdiv 52).fmod 8)).toNat (ltr (c.fdiv 2)) := by
        unfold wordL; rw [if_neg heven]
      rw [hw, ← tx_append, ← tx_append]
      (simp (maxSteps := 1000000) (implicitDefEqProofs := false) only [↓zb, ↓reduceIte, zc, ↓zd, ↓ze, ↓zg, ↓zh, ↓zi, ↓zj, ↓zk, ↓zl, ↓zn, ↓zo, ↓zp, ↓zq, ↓zr, ↓zt, ↓zu, ↓zv, ↓zw, ↓zx, ↓zy, ↓zz, ↓zba, ↓zbb, ↓zbc, ↓zbd, ↓zbe, ↓zbf, ↓zbg, ↓zbh, ↓zbi, ↓zbj, ↓zbk, ↓zbl, ↓zbm, ↓zbn, ↓zbo, ↓zbp, ↓zbq, ↓zbr, ↓zbs, ↓zbt, ↓zbu, ↓zbv, ↓zbw, ↓zbx, ↓zby, ↓zbz, ↓zca, ↓zcb, ↓zcc, ↓zcd, ↓zce, ↓zcf, ↓zcg, ↓zch, ↓zci, ↓zcj, ↓zck, ↓zcl, ↓zcm, ↓zcn, ↓zco, ↓zcp, ↓zcq, ↓zcr, ↓zcs, ↓zct, ↓zcu, ↓zcv, ↓zcw, ↓mt, zcx, kwl, ziw, zcy, zcz, zda, zdb, zdc, zix, ziy, ziz, zja, zdd, zde, zdf, zdg, zdh, zdi, zdj, zdk, zdl, zdm, zdn, zdo, zdp, zdq, zjb, Int.reduceEq, Int.reduceNe, zjc, zjd, Nat.reduceEqDiff, Int.reduceLT, Int.reduceLE, Int.reduceNeg, Int.reduceToNat, zje, kdC, zdr, zjf, zjg, nk1, nk2, nk3, nk4, nk5, zjh, zds, zdt, zdu, zdv, ic1, ic2, ic3, ic4, ic5, ic6, zdw, String.reduceBEq, p60, p50, AH.set_self, AH.set_ne, Kx.more, Kx.comp, zji, zjj, zjk, ↓zdx, ↓zdy, ↓zdz, ↓zea, ↓zeb, ↓zec, ↓zed, ↓zee, ↓zef, ↓zeg, ↓zeh, ↓zei, ↓zej, ↓zek, ↓zel, ↓zem, ↓zen, ↓zeo, ↓zep, ↓zeq, ↓zer, ↓zes, ↓zet, ↓zeu, ↓zev, ↓zew, ↓zex, ↓zey, ↓zez, ↓zfa, ↓zfb, ↓zfc, ↓zfd, ↓zfe, ↓zff, ↓zfg, ↓zfh, ↓zfi, ↓zfj, ↓zfk, ↓zfl, ↓zfm, ↓zfn, ↓zfo, ↓zfp, ↓zfq, ↓zfr, ↓zfs, ↓mtE, ↓zft, ↓zfu, ↓zfv, ↓zfw, ↓zfx, ↓zfy, ↓zfz, ↓zga, ↓zgb, ↓zgc, ↓zgd, ↓zge, ↓zgf, ↓zgg, zgh, zgi, zgj, zgk, zgl, zgm, zgn, zgo, zgp, zgq, zgr, zgs, zgt, zgu, zgv, zgw, zgx, zgy, zgz, zha, zhb, zhc, zhd, zhe, zhf, zhg, zhh, zhi, zhj, zhk, zhl, zhm, zhn, zho, zhp, zhq, zhr, zhs, zht, zhu, zhv, zhw, ↓zhx, ↓zhy, ↓zhz, ↓zia, ↓zib, zic, zid, zie, zif, zig, zih, ↓zii, ↓zij, ↓zik, ↓zil, ↓zim, ↓zin, ↓zio, ↓ziq, ↓zir, pk0, pk1, pk2, pk3, pk4, pk5, pk6, zjl, zjm, zjn, zjo, zjp, zjq, zjr, zjs, zjt, zju, zjv, zjw, zjx, zjy, zjz, zka, zkb, zkc, zkd, zke, zkf, zkg, zkh, zki, zkj, reduceCtorEq, zkk, zkl, zkm, zkn, zko, String.reduceEq, Nat.reduceAdd, Nat.reduceLeDiff, Nat.reduceLT, zkp, zkq, zkr, zks, ↓zis, zit, ↓ziu, ziv, *])
      rfl
  · rintro ρ' H' ⟨h1, h2, h3, h4, h5⟩
    refine seqsL_cons ?_
    simp only [List.length_map, List.length_range] at h5
    (simp (maxSteps := 1000000) (implicitDefEqProofs := false) only [↓zb, ↓reduceIte, zc, ↓zd, ↓ze, ↓zg, ↓zh, ↓zi, ↓zj, ↓zk, ↓zl, ↓zn, ↓zo, ↓zp, ↓zq, ↓zr, ↓zt, ↓zu, ↓zv, ↓zw, ↓zx, ↓zy, ↓zz, ↓zba, ↓zbb, ↓zbc, ↓zbd, ↓zbe, ↓zbf, ↓zbg, ↓zbh, ↓zbi, ↓zbj, ↓zbk, ↓zbl, ↓zbm, ↓zbn, ↓zbo, ↓zbp, ↓zbq, ↓zbr, ↓zbs, ↓zbt, ↓zbu, ↓zbv, ↓zbw, ↓zbx, ↓zby, ↓zbz, ↓zca, ↓zcb, ↓zcc, ↓zcd, ↓zce, ↓zcf, ↓zcg, ↓zch, ↓zci, ↓zcj, ↓zck, ↓zcl, ↓zcm, ↓zcn, ↓zco, ↓zcp, ↓zcq, ↓zcr, ↓zcs, ↓zct, ↓zcu, ↓zcv, ↓zcw, ↓mt, zcx, kwl, ziw, zcy, zcz, zda, zdb, zdc, zix, ziy, ziz, zja, zdd, zde, zdf, zdg, zdh, zdi, zdj, zdk, zdl, zdm, zdn, zdo, zdp, zdq, zjb, Int.reduceEq, Int.reduceNe, zjc, zjd, Nat.reduceEqDiff, Int.reduceLT, Int.reduceLE, Int.reduceNeg, Int.reduceToNat, zje, kdC, zdr, zjf, zjg, nk1, nk2, nk3, nk4, nk5, zjh, zds, zdt, zdu, zdv, ic1, ic2, ic3, ic4, ic5, ic6, zdw, String.reduceBEq, p60, p50, AH.set_self, AH.set_ne, Kx.more, Kx.comp, zji, zjj, zjk, ↓zdx, ↓zdy, ↓zdz, ↓zea, ↓zeb, ↓zec, ↓zed, ↓zee, ↓zef, ↓zeg, ↓zeh, ↓zei, ↓zej, ↓zek, ↓zel, ↓zem, ↓zen, ↓zeo, ↓zep, ↓zeq, ↓zer, ↓zes, ↓zet, ↓zeu, ↓zev, ↓zew, ↓zex, ↓zey, ↓zez, ↓zfa, ↓zfb, ↓zfc, ↓zfd, ↓zfe, ↓zff, ↓zfg, ↓zfh, ↓zfi, ↓zfj, ↓zfk, ↓zfl, ↓zfm, ↓zfn, ↓zfo, ↓zfp, ↓zfq, ↓zfr, ↓zfs, ↓mtE, ↓zft, ↓zfu, ↓zfv, ↓zfw, ↓zfx, ↓zfy, ↓zfz, ↓zga, ↓zgb, ↓zgc, ↓zgd, ↓zge, ↓zgf, ↓zgg, zgh, zgi, zgj, zgk, zgl, zgm, zgn, zgo, zgp, zgq, zgr, zgs, zgt, zgu, zgv, zgw, zgx, zgy, zgz, zha, zhb, zhc, zhd, zhe, zhf, zhg, zhh, zhi, zhj, zhk, zhl, zhm, zhn, zho, zhp, zhq, zhr, zhs, zht, zhu, zhv, zhw, ↓zhx, ↓zhy, ↓zhz, ↓zia, ↓zib, zic, zid, zie, zif, zig, zih, ↓zii, ↓zij, ↓zik, ↓zil, ↓zim, ↓zin, ↓zio, ↓ziq, ↓zir, pk0, pk1, pk2, pk3, pk4, pk5, pk6, zjl, zjm, zjn, zjo, zjp, zjq, zjr, zjs, zjt, zju, zjv, zjw, zjx, zjy, zjz, zka, zkb, zkc, zkd, zke, zkf, zkg, zkh, zki, zkj, reduceCtorEq, zkk, zkl, zkm, zkn, zko, String.reduceEq, Nat.reduceAdd, Nat.reduceLeDiff, Nat.reduceLT, zkp, zkq, zkr, zks, ↓zis, zit, ↓ziu, ziv, *])
    exact h H' f h4 hf hff (by rw [h5]; simp [poolOf])

theorem ok_number {C : Cx} {a : Addr} {fz : List Nat} {d : Nat} {vs : List V} {Q : V → AH → Prop} {X : Value → AH → Prop} {H : AH} (F : FnAt C a ["_law_cell"] (fbody pw 12) (fscope pw 12))
    (G : GenT C d gvB [] true) (h : T_number fz vs Q X H) : CallsTo C fz (d + 1) true (.ref a) vs Q X H := by
  obtain ⟨⟨c, rfl⟩, h⟩ := h
  refine callsTo_tab (n := 60) F G rfl rfl rfl ⟨rfl, rfl⟩ ?_
  intro kd gv ct ρ hT
  generalize hb : fbody pw 12 = b
  conv at hb => lhs; whnf
  subst hb
  generalize hb : (fscope pw 12).names = b at hT
  conv at hb => lhs; whnf
  subst hb
  simp only [tabAll, noneAll, gvB, List.map_cons, List.map_nil, List.zip_cons_cons, List.zip_nil_left, List.zip_nil_right, and_true, true_and] at hT
  replace h := Box.mk h
  refine seqsL_cons ?_
  (simp (maxSteps := 1000000) (implicitDefEqProofs := false) only [↓zb, ↓reduceIte, zc, ↓zd, ↓ze, ↓zg, ↓zh, ↓zi, ↓zj, ↓zk, ↓zl, ↓zn, ↓zo, ↓zp, ↓zq, ↓zr, ↓zt, ↓zu, ↓zv, ↓zw, ↓zx, ↓zy, ↓zz, ↓zba, ↓zbb, ↓zbc, ↓zbd, ↓zbe, ↓zbf, ↓zbg, ↓zbh, ↓zbi, ↓zbj, ↓zbk, ↓zbl, ↓zbm, ↓zbn, ↓zbo, ↓zbp, ↓zbq, ↓zbr, ↓zbs, ↓zbt, ↓zbu, ↓zbv, ↓zbw, ↓zbx, ↓zby, ↓zbz, ↓zca, ↓zcb, ↓zcc, ↓zcd, ↓zce, ↓zcf, ↓zcg, ↓zch, ↓zci, ↓zcj, ↓zck, ↓zcl, ↓zcm, ↓zcn, ↓zco, ↓zcp, ↓zcq, ↓zcr, ↓zcs, ↓zct, ↓zcu, ↓zcv, ↓zcw, ↓mt, zcx, kwl, ziw, zcy, zcz, zda, zdb, zdc, zix, ziy, ziz, zja, zdd, zde, zdf, zdg, zdh, zdi, zdj, zdk, zdl, zdm, zdn, zdo, zdp, zdq, zjb, Int.reduceEq, Int.reduceNe, zjc, zjd, Nat.reduceEqDiff, Int.reduceLT, Int.reduceLE, Int.reduceNeg, Int.reduceToNat, zje, kdC, zdr, zjf, zjg, nk1, nk2, nk3, nk4, nk5, zjh, zds, zdt, zdu, zdv, ic1, ic2, ic3, ic4, ic5, ic6, zdw, String.reduceBEq, p60, p50, AH.set_self, AH.set_ne, Kx.more, Kx.comp, zji, zjj, zjk, ↓zdx, ↓zdy, ↓zdz, ↓zea, ↓zeb, ↓zec, ↓zed, ↓zee, ↓zef, ↓zeg, ↓zeh, ↓zei, ↓zej, ↓zek, ↓zel, ↓zem, ↓zen, ↓zeo, ↓zep, ↓zeq, ↓zer, ↓zes, ↓zet, ↓zeu, ↓zev, ↓zew, ↓zex, ↓zey, ↓zez, ↓zfa, ↓zfb, ↓zfc, ↓zfd, ↓zfe, ↓zff, ↓zfg, ↓zfh, ↓zfi, ↓zfj, ↓zfk, ↓zfl, ↓zfm, ↓zfn, ↓zfo, ↓zfp, ↓zfq, ↓zfr, ↓zfs, ↓mtE, ↓zft, ↓zfu, ↓zfv, ↓zfw, ↓zfx, ↓zfy, ↓zfz, ↓zga, ↓zgb, ↓zgc, ↓zgd, ↓zge, ↓zgf, ↓zgg, zgh, zgi, zgj, zgk, zgl, zgm, zgn, zgo, zgp, zgq, zgr, zgs, zgt, zgu, zgv, zgw, zgx, zgy, zgz, zha, zhb, zhc, zhd, zhe, zhf, zhg, zhh, zhi, zhj, zhk, zhl, zhm, zhn, zho, zhp, zhq, zhr, zhs, zht, zhu, zhv, zhw, ↓zhx, ↓zhy, ↓zhz, ↓zia, ↓zib, zic, zid, zie, zif, zig, zih, ↓zii, ↓zij, ↓zik, ↓zil, ↓zim, ↓zin, ↓zio, ↓ziq, ↓zir, pk0, pk1, pk2, pk3, pk4, pk5, pk6, zjl, zjm, zjn, zjo, zjp, zjq, zjr, zjs, zjt, zju, zjv, zjw, zjx, zjy, zjz, zka, zkb, zkc, zkd, zke, zkf, zkg, zkh, zki, zkj, reduceCtorEq, zkk, zkl, zkm, zkn, zko, String.reduceEq, Nat.reduceAdd, Nat.reduceLeDiff, Nat.reduceLT, zkp, zkq, zkr, zks, ↓zis, zit, ↓ziu, ziv, *])
  refine ⟨fun _ => h.out _, fun _ => seqsL_cons ?_⟩
  (simp (maxSteps := 1000000) (implicitDefEqProofs := false) only [↓zb, ↓reduceIte, zc, ↓zd, ↓ze, ↓zg, ↓zh, ↓zi, ↓zj, ↓zk, ↓zl, ↓zn, ↓zo, ↓zp, ↓zq, ↓zr, ↓zt, ↓zu, ↓zv, ↓zw, ↓zx, ↓zy, ↓zz, ↓zba, ↓zbb, ↓zbc, ↓zbd, ↓zbe, ↓zbf, ↓zbg, ↓zbh, ↓zbi, ↓zbj, ↓zbk, ↓zbl, ↓zbm, ↓zbn, ↓zbo, ↓zbp, ↓zbq, ↓zbr, ↓zbs, ↓zbt, ↓zbu, ↓zbv, ↓zbw, ↓zbx, ↓zby, ↓zbz, ↓zca, ↓zcb, ↓zcc, ↓zcd, ↓zce, ↓zcf, ↓zcg, ↓zch, ↓zci, ↓zcj, ↓zck, ↓zcl, ↓zcm, ↓zcn, ↓zco, ↓zcp, ↓zcq, ↓zcr, ↓zcs, ↓zct, ↓zcu, ↓zcv, ↓zcw, ↓mt, zcx, kwl, ziw, zcy, zcz, zda, zdb, zdc, zix, ziy, ziz, zja, zdd, zde, zdf, zdg, zdh, zdi, zdj, zdk, zdl, zdm, zdn, zdo, zdp, zdq, zjb, Int.reduceEq, Int.reduceNe, zjc, zjd, Nat.reduceEqDiff, Int.reduceLT, Int.reduceLE, Int.reduceNeg, Int.reduceToNat, zje, kdC, zdr, zjf, zjg, nk1, nk2, nk3, nk4, nk5, zjh, zds, zdt, zdu, zdv, ic1, ic2, ic3, ic4, ic5, ic6, zdw, String.reduceBEq, p60, p50, AH.set_self, AH.set_ne, Kx.more, Kx.comp, zji, zjj, zjk, ↓zdx, ↓zdy, ↓zdz, ↓zea, ↓zeb, ↓zec, ↓zed, ↓zee, ↓zef, ↓zeg, ↓zeh, ↓zei, ↓zej, ↓zek, ↓zel, ↓zem, ↓zen, ↓zeo, ↓zep, ↓zeq, ↓zer, ↓zes, ↓zet, ↓zeu, ↓zev, ↓zew, ↓zex, ↓zey, ↓zez, ↓zfa, ↓zfb, ↓zfc, ↓zfd, ↓zfe, ↓zff, ↓zfg, ↓zfh, ↓zfi, ↓zfj, ↓zfk, ↓zfl, ↓zfm, ↓zfn, ↓zfo, ↓zfp, ↓zfq, ↓zfr, ↓zfs, ↓mtE, ↓zft, ↓zfu, ↓zfv, ↓zfw, ↓zfx, ↓zfy, ↓zfz, ↓zga, ↓zgb, ↓zgc, ↓zgd, ↓zge, ↓zgf, ↓zgg, zgh, zgi, zgj, zgk, zgl, zgm, zgn, zgo, zgp, zgq, zgr, zgs, zgt, zgu, zgv, zgw, zgx, zgy, zgz, zha, zhb, zhc, zhd, zhe, zhf, zhg, zhh, zhi, zhj, zhk, zhl, zhm, zhn, zho, zhp, zhq, zhr, zhs, zht, zhu, zhv, zhw, ↓zhx, ↓zhy, ↓zhz, ↓zia, ↓zib, zic, zid, zie, zif, zig, zih, ↓zii, ↓zij, ↓zik, ↓zil, ↓zim, ↓zin, ↓zio, ↓ziq, ↓zir, pk0, pk1, pk2, pk3, pk4, pk5, pk6, zjl, zjm, zjn, zjo, zjp, zjq, zjr, zjs, zjt, zju, zjv, zjw, zjx, zjy, zjz, zka, zkb, zkc, zkd, zke, zkf, zkg, zkh, zki, zkj, reduceCtorEq, zkk, zkl, zkm, zkn, zko, String.reduceEq, Nat.reduceAdd, Nat.reduceLeDiff, Nat.reduceLT, zkp, zkq, zkr, zks, ↓zis, zit, ↓ziu, ziv, *])
  refine ⟨fun _ => ⟨by decide, h.out _⟩, fun _ => seqsL_cons ?_⟩
  (simp (maxSteps := 1000000) (implicitDefEqProofs := false) only [↓zb, ↓reduceIte, zc, ↓zd, ↓ze, ↓zg, ↓zh, ↓zi, ↓zj, ↓zk, ↓zl, ↓zn, ↓zo, ↓zp, ↓zq, ↓zr, ↓zt, ↓zu, ↓zv, ↓zw, ↓zx, ↓zy, ↓zz, ↓zba, ↓zbb, ↓zbc, ↓zbd, ↓zbe, ↓zbf, ↓zbg, ↓zbh, ↓zbi, ↓zbj, ↓zbk, ↓zbl, ↓zbm, ↓zbn, ↓zbo, ↓zbp, ↓zbq, ↓zbr, ↓zbs, ↓zbt, ↓zbu, ↓zbv, ↓zbw, ↓zbx, ↓zby, ↓zbz, ↓zca, ↓zcb, ↓zcc, ↓zcd, ↓zce, ↓zcf, ↓zcg, ↓zch, ↓zci, ↓zcj, ↓zck, ↓zcl, ↓zcm, ↓zcn, ↓zco, ↓zcp, ↓zcq, ↓zcr, ↓zcs, ↓zct, ↓zcu, ↓zcv, ↓zcw, ↓mt, zcx, kwl, ziw, zcy, zcz, zda, zdb, zdc, zix, ziy, ziz, zja, zdd, zde, zdf, zdg, zdh, zdi, zdj, zdk, zdl, zdm, zdn, zdo, zdp, zdq, zjb, Int.reduceEq, Int.reduceNe, zjc, zjd, Nat.reduceEqDiff, Int.reduceLT, Int.reduceLE, Int.reduceNeg, Int.reduceToNat, zje, kdC, zdr, zjf, zjg, nk1, nk2, nk3, nk4, nk5, zjh, zds, zdt, zdu, zdv, ic1, ic2, ic3, ic4, ic5, ic6, zdw, String.reduceBEq, p60, p50, AH.set_self, AH.set_ne, Kx.more, Kx.comp, zji, zjj, zjk, ↓zdx, ↓zdy, ↓zdz, ↓zea, ↓zeb, ↓zec, ↓zed, ↓zee, ↓zef, ↓zeg, ↓zeh, ↓zei, ↓zej, ↓zek, ↓zel, ↓zem, ↓zen, ↓zeo, ↓zep, ↓zeq, ↓zer, ↓zes, ↓zet, ↓zeu, ↓zev, ↓zew, ↓zex, ↓zey, ↓zez, ↓zfa, ↓zfb, ↓zfc, ↓zfd, ↓zfe, ↓zff, ↓zfg, ↓zfh, ↓zfi, ↓zfj, ↓zfk, ↓zfl, ↓zfm, ↓zfn, ↓zfo, ↓zfp, ↓zfq, ↓zfr, ↓zfs, ↓mtE, ↓zft, ↓zfu, ↓zfv, ↓zfw, ↓zfx, ↓zfy, ↓zfz, ↓zga, ↓zgb, ↓zgc, ↓zgd, ↓zge, ↓zgf, ↓zgg, zgh, zgi, zgj, zgk, zgl, zgm, zgn, zgo, zgp, zgq, zgr, zgs, zgt, zgu, zgv, zgw, zgx, zgy, zgz, zha, zhb, zhc, zhd, zhe, zhf, zhg, zhh, zhi, zhj, zhk, zhl, zhm, zhn, zho, zhp, zhq, zhr, zhs, zht, zhu, zhv, zhw, ↓zhx, ↓zhy, ↓zhz, ↓zia, ↓zib, zic, zid, zie, zif, zig, zih, ↓zii, ↓zij, ↓zik, ↓zil, ↓zim, ↓zin, ↓zio, ↓ziq, ↓zir, pk0, pk1, pk2, pk3, pk4, pk5, pk6, zjl, zjm, zjn, zjo, zjp, zjq, zjr, zjs, zjt, zju, zjv, zjw, zjx, zjy, zjz, zka, zkb, zkc, zkd, zke, zkf, zkg, zkh, zki, zkj, reduceCtorEq, zkk, zkl, zkm, zkn, zko, String.reduceEq, Nat.reduceAdd, Nat.reduceLeDiff, Nat.reduceLT, zkp, zkq, zkr, zks, ↓zis, zit, ↓ziu, ziv, *])
  exact ⟨by decide, h.out _⟩

theorem ok_begun {C : Cx} {a : Addr} {fz : List Nat} {d : Nat} {vs : List V} {Q : V → AH → Prop} {X : Value → AH → Prop} {H : AH} (F : FnAt C a ["step"] (fbody pw 4) (fscope pw 4))
    (G : GenT C d gvB [] true) (h : T_begun fz vs Q X H) : CallsTo C fz (d + 1) true (.ref a) vs Q X H := by
  obtain ⟨p, st, rfl, hp, h⟩ := h
  refine callsTo_tab (n := 60) F G rfl rfl rfl ⟨rfl, rfl⟩ ?_
  intro kd gv ct ρ hT
  generalize hb : fbody pw 4 = b
  conv at hb => lhs; whnf
  subst hb
  generalize hb : (fscope pw 4).names = b at hT
  conv at hb => lhs; whnf
  subst hb
  simp only [tabAll, noneAll, gvB, List.map_cons, List.map_nil, List.zip_cons_cons, List.zip_nil_left, List.zip_nil_right, and_true, true_and] at hT
  cases st <;> simp only [Stp.vs, Stp.goes, List.map_cons, List.map_nil] at hp h
  all_goals
    refine seqsL_cons ?_
    (simp (maxSteps := 1000000) (implicitDefEqProofs := false) only [↓zb, ↓reduceIte, zc, ↓zd, ↓ze, ↓zg, ↓zh, ↓zi, ↓zj, ↓zk, ↓zl, ↓zn, ↓zo, ↓zp, ↓zq, ↓zr, ↓zt, ↓zu, ↓zv, ↓zw, ↓zx, ↓zy, ↓zz, ↓zba, ↓zbb, ↓zbc, ↓zbd, ↓zbe, ↓zbf, ↓zbg, ↓zbh, ↓zbi, ↓zbj, ↓zbk, ↓zbl, ↓zbm, ↓zbn, ↓zbo, ↓zbp, ↓zbq, ↓zbr, ↓zbs, ↓zbt, ↓zbu, ↓zbv, ↓zbw, ↓zbx, ↓zby, ↓zbz, ↓zca, ↓zcb, ↓zcc, ↓zcd, ↓zce, ↓zcf, ↓zcg, ↓zch, ↓zci, ↓zcj, ↓zck, ↓zcl, ↓zcm, ↓zcn, ↓zco, ↓zcp, ↓zcq, ↓zcr, ↓zcs, ↓zct, ↓zcu, ↓zcv, ↓zcw, ↓mt, zcx, kwl, ziw, zcy, zcz, zda, zdb, zdc, zix, ziy, ziz, zja, zdd, zde, zdf, zdg, zdh, zdi, zdj, zdk, zdl, zdm, zdn, zdo, zdp, zdq, zjb, Int.reduceEq, Int.reduceNe, zjc, zjd, Nat.reduceEqDiff, Int.reduceLT, Int.reduceLE, Int.reduceNeg, Int.reduceToNat, zje, kdC, zdr, zjf, zjg, nk1, nk2, nk3, nk4, nk5, zjh, zds, zdt, zdu, zdv, ic1, ic2, ic3, ic4, ic5, ic6, zdw, String.reduceBEq, p60, p50, AH.set_self, AH.set_ne, Kx.more, Kx.comp, zji, zjj, zjk, ↓zdx, ↓zdy, ↓zdz, ↓zea, ↓zeb, ↓zec, ↓zed, ↓zee, ↓zef, ↓zeg, ↓zeh, ↓zei, ↓zej, ↓zek, ↓zel, ↓zem, ↓zen, ↓zeo, ↓zep, ↓zeq, ↓zer, ↓zes, ↓zet, ↓zeu, ↓zev, ↓zew, ↓zex, ↓zey, ↓zez, ↓zfa, ↓zfb, ↓zfc, ↓zfd, ↓zfe, ↓zff, ↓zfg, ↓zfh, ↓zfi, ↓zfj, ↓zfk, ↓zfl, ↓zfm, ↓zfn, ↓zfo, ↓zfp, ↓zfq, ↓zfr, ↓zfs, ↓mtE, ↓zft, ↓zfu, ↓zfv, ↓zfw, ↓zfx, ↓zfy, ↓zfz, ↓zga, ↓zgb, ↓zgc, ↓zgd, ↓zge, ↓zgf, ↓zgg, zgh, zgi, zgj, zgk, zgl, zgm, zgn, zgo, zgp, zgq, zgr, zgs, zgt, zgu, zgv, zgw, zgx, zgy, zgz, zha, zhb, zhc, zhd, zhe, zhf, zhg, zhh, zhi, zhj, zhk, zhl, zhm, zhn, zho, zhp, zhq, zhr, zhs, zht, zhu, zhv, zhw, ↓zhx, ↓zhy, ↓zhz, ↓zia, ↓zib, zic, zid, zie, zif, zig, zih, ↓zii, ↓zij, ↓zik, ↓zil, ↓zim, ↓zin, ↓zio, ↓ziq, ↓zir, pk0, pk1, pk2, pk3, pk4, pk5, pk6, zjl, zjm, zjn, zjo, zjp, zjq, zjr, zjs, zjt, zju, zjv, zjw, zjx, zjy, zjz, zka, zkb, zkc, zkd, zke, zkf, zkg, zkh, zki, zkj, reduceCtorEq, zkk, zkl, zkm, zkn, zko, String.reduceEq, Nat.reduceAdd, Nat.reduceLeDiff, Nat.reduceLT, zkp, zkq, zkr, zks, ↓zis, zit, ↓ziu, ziv, *])
  all_goals first | exact h | skip
  all_goals
    refine seqsL_cons ?_
    (simp (maxSteps := 1000000) (implicitDefEqProofs := false) only [↓zb, ↓reduceIte, zc, ↓zd, ↓ze, ↓zg, ↓zh, ↓zi, ↓zj, ↓zk, ↓zl, ↓zn, ↓zo, ↓zp, ↓zq, ↓zr, ↓zt, ↓zu, ↓zv, ↓zw, ↓zx, ↓zy, ↓zz, ↓zba, ↓zbb, ↓zbc, ↓zbd, ↓zbe, ↓zbf, ↓zbg, ↓zbh, ↓zbi, ↓zbj, ↓zbk, ↓zbl, ↓zbm, ↓zbn, ↓zbo, ↓zbp, ↓zbq, ↓zbr, ↓zbs, ↓zbt, ↓zbu, ↓zbv, ↓zbw, ↓zbx, ↓zby, ↓zbz, ↓zca, ↓zcb, ↓zcc, ↓zcd, ↓zce, ↓zcf, ↓zcg, ↓zch, ↓zci, ↓zcj, ↓zck, ↓zcl, ↓zcm, ↓zcn, ↓zco, ↓zcp, ↓zcq, ↓zcr, ↓zcs, ↓zct, ↓zcu, ↓zcv, ↓zcw, ↓mt, zcx, kwl, ziw, zcy, zcz, zda, zdb, zdc, zix, ziy, ziz, zja, zdd, zde, zdf, zdg, zdh, zdi, zdj, zdk, zdl, zdm, zdn, zdo, zdp, zdq, zjb, Int.reduceEq, Int.reduceNe, zjc, zjd, Nat.reduceEqDiff, Int.reduceLT, Int.reduceLE, Int.reduceNeg, Int.reduceToNat, zje, kdC, zdr, zjf, zjg, nk1, nk2, nk3, nk4, nk5, zjh, zds, zdt, zdu, zdv, ic1, ic2, ic3, ic4, ic5, ic6, zdw, String.reduceBEq, p60, p50, AH.set_self, AH.set_ne, Kx.more, Kx.comp, zji, zjj, zjk, ↓zdx, ↓zdy, ↓zdz, ↓zea, ↓zeb, ↓zec, ↓zed, ↓zee, ↓zef, ↓zeg, ↓zeh, ↓zei, ↓zej, ↓zek, ↓zel, ↓zem, ↓zen, ↓zeo, ↓zep, ↓zeq, ↓zer, ↓zes, ↓zet, ↓zeu, ↓zev, ↓zew, ↓zex, ↓zey, ↓zez, ↓zfa, ↓zfb, ↓zfc, ↓zfd, ↓zfe, ↓zff, ↓zfg, ↓zfh, ↓zfi, ↓zfj, ↓zfk, ↓zfl, ↓zfm, ↓zfn, ↓zfo, ↓zfp, ↓zfq, ↓zfr, ↓zfs, ↓mtE, ↓zft, ↓zfu, ↓zfv, ↓zfw, ↓zfx, ↓zfy, ↓zfz, ↓zga, ↓zgb, ↓zgc, ↓zgd, ↓zge, ↓zgf, ↓zgg, zgh, zgi, zgj, zgk, zgl, zgm, zgn, zgo, zgp, zgq, zgr, zgs, zgt, zgu, zgv, zgw, zgx, zgy, zgz, zha, zhb, zhc, zhd, zhe, zhf, zhg, zhh, zhi, zhj, zhk, zhl, zhm, zhn, zho, zhp, zhq, zhr, zhs, zht, zhu, zhv, zhw, ↓zhx, ↓zhy, ↓zhz, ↓zia, ↓zib, zic, zid, zie, zif, zig, zih, ↓zii, ↓zij, ↓zik, ↓zil, ↓zim, ↓zin, ↓zio, ↓ziq, ↓zir, pk0, pk1, pk2, pk3, pk4, pk5, pk6, zjl, zjm, zjn, zjo, zjp, zjq, zjr, zjs, zjt, zju, zjv, zjw, zjx, zjy, zjz, zka, zkb, zkc, zkd, zke, zkf, zkg, zkh, zki, zkj, reduceCtorEq, zkk, zkl, zkm, zkn, zko, String.reduceEq, Nat.reduceAdd, Nat.reduceLeDiff, Nat.reduceLT, zkp, zkq, zkr, zks, ↓zis, zit, ↓ziu, ziv, *])
  all_goals first | exact h | skip
  all_goals
    refine seqsL_cons ?_
    (simp (maxSteps := 1000000) (implicitDefEqProofs := false) only [↓zb, ↓reduceIte, zc, ↓zd, ↓ze, ↓zg, ↓zh, ↓zi, ↓zj, ↓zk, ↓zl, ↓zn, ↓zo, ↓zp, ↓zq, ↓zr, ↓zt, ↓zu, ↓zv, ↓zw, ↓zx, ↓zy, ↓zz, ↓zba, ↓zbb, ↓zbc, ↓zbd, ↓zbe, ↓zbf, ↓zbg, ↓zbh, ↓zbi, ↓zbj, ↓zbk, ↓zbl, ↓zbm, ↓zbn, ↓zbo, ↓zbp, ↓zbq, ↓zbr, ↓zbs, ↓zbt, ↓zbu, ↓zbv, ↓zbw, ↓zbx, ↓zby, ↓zbz, ↓zca, ↓zcb, ↓zcc, ↓zcd, ↓zce, ↓zcf, ↓zcg, ↓zch, ↓zci, ↓zcj, ↓zck, ↓zcl, ↓zcm, ↓zcn, ↓zco, ↓zcp, ↓zcq, ↓zcr, ↓zcs, ↓zct, ↓zcu, ↓zcv, ↓zcw, ↓mt, zcx, kwl, ziw, zcy, zcz, zda, zdb, zdc, zix, ziy, ziz, zja, zdd, zde, zdf, zdg, zdh, zdi, zdj, zdk, zdl, zdm, zdn, zdo, zdp, zdq, zjb, Int.reduceEq, Int.reduceNe, zjc, zjd, Nat.reduceEqDiff, Int.reduceLT, Int.reduceLE, Int.reduceNeg, Int.reduceToNat, zje, kdC, zdr, zjf, zjg, nk1, nk2, nk3, nk4, nk5, zjh, zds, zdt, zdu, zdv, ic1, ic2, ic3, ic4, ic5, ic6, zdw, String.reduceBEq, p60, p50, AH.set_self, AH.set_ne, Kx.more, Kx.comp, zji, zjj, zjk, ↓zdx, ↓zdy, ↓zdz, ↓zea, ↓zeb, ↓zec, ↓zed, ↓zee, ↓zef, ↓zeg, ↓zeh, ↓zei, ↓zej, ↓zek, ↓zel, ↓zem, ↓zen, ↓zeo, ↓zep, ↓zeq, ↓zer, ↓zes, ↓zet, ↓zeu, ↓zev, ↓zew, ↓zex, ↓zey, ↓zez, ↓zfa, ↓zfb, ↓zfc, ↓zfd, ↓zfe, ↓zff, ↓zfg, ↓zfh, ↓zfi, ↓zfj, ↓zfk, ↓zfl, ↓zfm, ↓zfn, ↓zfo, ↓zfp, ↓zfq, ↓zfr, ↓zfs, ↓mtE, ↓zft, ↓zfu, ↓zfv, ↓zfw, ↓zfx, ↓zfy, ↓zfz, ↓zga, ↓zgb, ↓zgc, ↓zgd, ↓zge, ↓zgf, ↓zgg, zgh, zgi, zgj, zgk, zgl, zgm, zgn, zgo, zgp, zgq, zgr, zgs, zgt, zgu, zgv, zgw, zgx, zgy, zgz, zha, zhb, zhc, zhd, zhe, zhf, zhg, zhh, zhi, zhj, zhk, zhl, zhm, zhn, zho, zhp, zhq, zhr, zhs, zht, zhu, zhv, zhw, ↓zhx, ↓zhy, ↓zhz, ↓zia, ↓zib, zic, zid, zie, zif, zig, zih, ↓zii, ↓zij, ↓zik, ↓zil, ↓zim, ↓zin, ↓zio, ↓ziq, ↓zir, pk0, pk1, pk2, pk3, pk4, pk5, pk6, zjl, zjm, zjn, zjo, zjp, zjq, zjr, zjs, zjt, zju, zjv, zjw, zjx, zjy, zjz, zka, zkb, zkc, zkd, zke, zkf, zkg, zkh, zki, zkj, reduceCtorEq, zkk, zkl, zkm, zkn, zko, String.reduceEq, Nat.reduceAdd, Nat.reduceLeDiff, Nat.reduceLT, zkp, zkq, zkr, zks, ↓zis, zit, ↓ziu, ziv, *])
  all_goals first | exact h | skip

theorem ok_brought {C : Cx} {a : Addr} {fz : List Nat} {d : Nat} {vs : List V} {Q : V → AH → Prop} {X : Value → AH → Prop} {H : AH} (F : FnAt C a ["step"] (fbody pw 5) (fscope pw 5))
    (G : GenT C d gvB [] true) (h : T_brought fz vs Q X H) : CallsTo C fz (d + 1) true (.ref a) vs Q X H := by
  obtain ⟨p, st, rfl, hp, h⟩ := h
  refine callsTo_tab (n := 60) F G rfl rfl rfl ⟨rfl, rfl⟩ ?_
  intro kd gv ct ρ hT
  generalize hb : fbody pw 5 = b
  conv at hb => lhs; whnf
  subst hb
  generalize hb : (fscope pw 5).names = b at hT
  conv at hb => lhs; whnf
  subst hb
  simp only [tabAll, noneAll, gvB, List.map_cons, List.map_nil, List.zip_cons_cons, List.zip_nil_left, List.zip_nil_right, and_true, true_and] at hT
  cases st <;> simp only [Stp.vs, Stp.comes, List.map_cons, List.map_nil] at hp h
  all_goals
    refine seqsL_cons ?_
    (simp (maxSteps := 1000000) (implicitDefEqProofs := false) only [↓zb, ↓reduceIte, zc, ↓zd, ↓ze, ↓zg, ↓zh, ↓zi, ↓zj, ↓zk, ↓zl, ↓zn, ↓zo, ↓zp, ↓zq, ↓zr, ↓zt, ↓zu, ↓zv, ↓zw, ↓zx, ↓zy, ↓zz, ↓zba, ↓zbb, ↓zbc, ↓zbd, ↓zbe, ↓zbf, ↓zbg, ↓zbh, ↓zbi, ↓zbj, ↓zbk, ↓zbl, ↓zbm, ↓zbn, ↓zbo, ↓zbp, ↓zbq, ↓zbr, ↓zbs, ↓zbt, ↓zbu, ↓zbv, ↓zbw, ↓zbx, ↓zby, ↓zbz, ↓zca, ↓zcb, ↓zcc, ↓zcd, ↓zce, ↓zcf, ↓zcg, ↓zch, ↓zci, ↓zcj, ↓zck, ↓zcl, ↓zcm, ↓zcn, ↓zco, ↓zcp, ↓zcq, ↓zcr, ↓zcs, ↓zct, ↓zcu, ↓zcv, ↓zcw, ↓mt, zcx, kwl, ziw, zcy, zcz, zda, zdb, zdc, zix, ziy, ziz, zja, zdd, zde, zdf, zdg, zdh, zdi, zdj, zdk, zdl, zdm, zdn, zdo, zdp, zdq, zjb, Int.reduceEq, Int.reduceNe, zjc, zjd, Nat.reduceEqDiff, Int.reduceLT, Int.reduceLE, Int.reduceNeg, Int.reduceToNat, zje, kdC, zdr, zjf, zjg, nk1, nk2, nk3, nk4, nk5, zjh, zds, zdt, zdu, zdv, ic1, ic2, ic3, ic4, ic5, ic6, zdw, String.reduceBEq, p60, p50, AH.set_self, AH.set_ne, Kx.more, Kx.comp, zji, zjj, zjk, ↓zdx, ↓zdy, ↓zdz, ↓zea, ↓zeb, ↓zec, ↓zed, ↓zee, ↓zef, ↓zeg, ↓zeh, ↓zei, ↓zej, ↓zek, ↓zel, ↓zem, ↓zen, ↓zeo, ↓zep, ↓zeq, ↓zer, ↓zes, ↓zet, ↓zeu, ↓zev, ↓zew, ↓zex, ↓zey, ↓zez, ↓zfa, ↓zfb, ↓zfc, ↓zfd, ↓zfe, ↓zff, ↓zfg, ↓zfh, ↓zfi, ↓zfj, ↓zfk, ↓zfl, ↓zfm, ↓zfn, ↓zfo, ↓zfp, ↓zfq, ↓zfr, ↓zfs, ↓mtE, ↓zft, ↓zfu, ↓zfv, ↓zfw, ↓zfx, ↓zfy, ↓zfz, ↓zga, ↓zgb, ↓zgc, ↓zgd, ↓zge, ↓zgf, ↓zgg, zgh, zgi, zgj, zgk, zgl, zgm, zgn, zgo, zgp, zgq, zgr, zgs, zgt, zgu, zgv, zgw, zgx, zgy, zgz, zha, zhb, zhc, zhd, zhe, zhf, zhg, zhh, zhi, zhj, zhk, zhl, zhm, zhn, zho, zhp, zhq, zhr, zhs, zht, zhu, zhv, zhw, ↓zhx, ↓zhy, ↓zhz, ↓zia, ↓zib, zic, zid, zie, zif, zig, zih, ↓zii, ↓zij, ↓zik, ↓zil, ↓zim, ↓zin, ↓zio, ↓ziq, ↓zir, pk0, pk1, pk2, pk3, pk4, pk5, pk6, zjl, zjm, zjn, zjo, zjp, zjq, zjr, zjs, zjt, zju, zjv, zjw, zjx, zjy, zjz, zka, zkb, zkc, zkd, zke, zkf, zkg, zkh, zki, zkj, reduceCtorEq, zkk, zkl, zkm, zkn, zko, String.reduceEq, Nat.reduceAdd, Nat.reduceLeDiff, Nat.reduceLT, zkp, zkq, zkr, zks, ↓zis, zit, ↓ziu, ziv, *])
  all_goals first | exact h | skip
  all_goals
    refine seqsL_cons ?_
    (simp (maxSteps := 1000000) (implicitDefEqProofs := false) only [↓zb, ↓reduceIte, zc, ↓zd, ↓ze, ↓zg, ↓zh, ↓zi, ↓zj, ↓zk, ↓zl, ↓zn, ↓zo, ↓zp, ↓zq, ↓zr, ↓zt, ↓zu, ↓zv, ↓zw, ↓zx, ↓zy, ↓zz, ↓zba, ↓zbb, ↓zbc, ↓zbd, ↓zbe, ↓zbf, ↓zbg, ↓zbh, ↓zbi, ↓zbj, ↓zbk, ↓zbl, ↓zbm, ↓zbn, ↓zbo, ↓zbp, ↓zbq, ↓zbr, ↓zbs, ↓zbt, ↓zbu, ↓zbv, ↓zbw, ↓zbx, ↓zby, ↓zbz, ↓zca, ↓zcb, ↓zcc, ↓zcd, ↓zce, ↓zcf, ↓zcg, ↓zch, ↓zci, ↓zcj, ↓zck, ↓zcl, ↓zcm, ↓zcn, ↓zco, ↓zcp, ↓zcq, ↓zcr, ↓zcs, ↓zct, ↓zcu, ↓zcv, ↓zcw, ↓mt, zcx, kwl, ziw, zcy, zcz, zda, zdb, zdc, zix, ziy, ziz, zja, zdd, zde, zdf, zdg, zdh, zdi, zdj, zdk, zdl, zdm, zdn, zdo, zdp, zdq, zjb, Int.reduceEq, Int.reduceNe, zjc, zjd, Nat.reduceEqDiff, Int.reduceLT, Int.reduceLE, Int.reduceNeg, Int.reduceToNat, zje, kdC, zdr, zjf, zjg, nk1, nk2, nk3, nk4, nk5, zjh, zds, zdt, zdu, zdv, ic1, ic2, ic3, ic4, ic5, ic6, zdw, String.reduceBEq, p60, p50, AH.set_self, AH.set_ne, Kx.more, Kx.comp, zji, zjj, zjk, ↓zdx, ↓zdy, ↓zdz, ↓zea, ↓zeb, ↓zec, ↓zed, ↓zee, ↓zef, ↓zeg, ↓zeh, ↓zei, ↓zej, ↓zek, ↓zel, ↓zem, ↓zen, ↓zeo, ↓zep, ↓zeq, ↓zer, ↓zes, ↓zet, ↓zeu, ↓zev, ↓zew, ↓zex, ↓zey, ↓zez, ↓zfa, ↓zfb, ↓zfc, ↓zfd, ↓zfe, ↓zff, ↓zfg, ↓zfh, ↓zfi, ↓zfj, ↓zfk, ↓zfl, ↓zfm, ↓zfn, ↓zfo, ↓zfp, ↓zfq, ↓zfr, ↓zfs, ↓mtE, ↓zft, ↓zfu, ↓zfv, ↓zfw, ↓zfx, ↓zfy, ↓zfz, ↓zga, ↓zgb, ↓zgc, ↓zgd, ↓zge, ↓zgf, ↓zgg, zgh, zgi, zgj, zgk, zgl, zgm, zgn, zgo, zgp, zgq, zgr, zgs, zgt, zgu, zgv, zgw, zgx, zgy, zgz, zha, zhb, zhc, zhd, zhe, zhf, zhg, zhh, zhi, zhj, zhk, zhl, zhm, zhn, zho, zhp, zhq, zhr, zhs, zht, zhu, zhv, zhw, ↓zhx, ↓zhy, ↓zhz, ↓zia, ↓zib, zic, zid, zie, zif, zig, zih, ↓zii, ↓zij, ↓zik, ↓zil, ↓zim, ↓zin, ↓zio, ↓ziq, ↓zir, pk0, pk1, pk2, pk3, pk4, pk5, pk6, zjl, zjm, zjn, zjo, zjp, zjq, zjr, zjs, zjt, zju, zjv, zjw, zjx, zjy, zjz, zka, zkb, zkc, zkd, zke, zkf, zkg, zkh, zki, zkj, reduceCtorEq, zkk, zkl, zkm, zkn, zko, String.reduceEq, Nat.reduceAdd, Nat.reduceLeDiff, Nat.reduceLT, zkp, zkq, zkr, zks, ↓zis, zit, ↓ziu, ziv, *])
  all_goals first | exact h | skip
  all_goals
    refine seqsL_cons ?_
    (simp (maxSteps := 1000000) (implicitDefEqProofs := false) only [↓zb, ↓reduceIte, zc, ↓zd, ↓ze, ↓zg, ↓zh, ↓zi, ↓zj, ↓zk, ↓zl, ↓zn, ↓zo, ↓zp, ↓zq, ↓zr, ↓zt, ↓zu, ↓zv, ↓zw, ↓zx, ↓zy, ↓zz, ↓zba, ↓zbb, ↓zbc, ↓zbd, ↓zbe, ↓zbf, ↓zbg, ↓zbh, ↓zbi, ↓zbj, ↓zbk, ↓zbl, ↓zbm, ↓zbn, ↓zbo, ↓zbp, ↓zbq, ↓zbr, ↓zbs, ↓zbt, ↓zbu, ↓zbv, ↓zbw, ↓zbx, ↓zby, ↓zbz, ↓zca, ↓zcb, ↓zcc, ↓zcd, ↓zce, ↓zcf, ↓zcg, ↓zch, ↓zci, ↓zcj, ↓zck, ↓zcl, ↓zcm, ↓zcn, ↓zco, ↓zcp, ↓zcq, ↓zcr, ↓zcs, ↓zct, ↓zcu, ↓zcv, ↓zcw, ↓mt, zcx, kwl, ziw, zcy, zcz, zda, zdb, zdc, zix, ziy, ziz, zja, zdd, zde, zdf, zdg, zdh, zdi, zdj, zdk, zdl, zdm, zdn, zdo, zdp, zdq, zjb, Int.reduceEq, Int.reduceNe, zjc, zjd, Nat.reduceEqDiff, Int.reduceLT, Int.reduceLE, Int.reduceNeg, Int.reduceToNat, zje, kdC, zdr, zjf, zjg, nk1, nk2, nk3, nk4, nk5, zjh, zds, zdt, zdu, zdv, ic1, ic2, ic3, ic4, ic5, ic6, zdw, String.reduceBEq, p60, p50, AH.set_self, AH.set_ne, Kx.more, Kx.comp, zji, zjj, zjk, ↓zdx, ↓zdy, ↓zdz, ↓zea, ↓zeb, ↓zec, ↓zed, ↓zee, ↓zef, ↓zeg, ↓zeh, ↓zei, ↓zej, ↓zek, ↓zel, ↓zem, ↓zen, ↓zeo, ↓zep, ↓zeq, ↓zer, ↓zes, ↓zet, ↓zeu, ↓zev, ↓zew, ↓zex, ↓zey, ↓zez, ↓zfa, ↓zfb, ↓zfc, ↓zfd, ↓zfe, ↓zff, ↓zfg, ↓zfh, ↓zfi, ↓zfj, ↓zfk, ↓zfl, ↓zfm, ↓zfn, ↓zfo, ↓zfp, ↓zfq, ↓zfr, ↓zfs, ↓mtE, ↓zft, ↓zfu, ↓zfv, ↓zfw, ↓zfx, ↓zfy, ↓zfz, ↓zga, ↓zgb, ↓zgc, ↓zgd, ↓zge, ↓zgf, ↓zgg, zgh, zgi, zgj, zgk, zgl, zgm, zgn, zgo, zgp, zgq, zgr, zgs, zgt, zgu, zgv, zgw, zgx, zgy, zgz, zha, zhb, zhc, zhd, zhe, zhf, zhg, zhh, zhi, zhj, zhk, zhl, zhm, zhn, zho, zhp, zhq, zhr, zhs, zht, zhu, zhv, zhw, ↓zhx, ↓zhy, ↓zhz, ↓zia, ↓zib, zic, zid, zie, zif, zig, zih, ↓zii, ↓zij, ↓zik, ↓zil, ↓zim, ↓zin, ↓zio, ↓ziq, ↓zir, pk0, pk1, pk2, pk3, pk4, pk5, pk6, zjl, zjm, zjn, zjo, zjp, zjq, zjr, zjs, zjt, zju, zjv, zjw, zjx, zjy, zjz, zka, zkb, zkc, zkd, zke, zkf, zkg, zkh, zki, zkj, reduceCtorEq, zkk, zkl, zkm, zkn, zko, String.reduceEq, Nat.reduceAdd, Nat.reduceLeDiff, Nat.reduceLT, zkp, zkq, zkr, zks, ↓zis, zit, ↓ziu, ziv, *])
  all_goals first | exact h | skip
  all_goals
    refine seqsL_cons ?_
    (simp (maxSteps := 1000000) (implicitDefEqProofs := false) only [↓zb, ↓reduceIte, zc, ↓zd, ↓ze, ↓zg, ↓zh, ↓zi, ↓zj, ↓zk, ↓zl, ↓zn, ↓zo, ↓zp, ↓zq, ↓zr, ↓zt, ↓zu, ↓zv, ↓zw, ↓zx, ↓zy, ↓zz, ↓zba, ↓zbb, ↓zbc, ↓zbd, ↓zbe, ↓zbf, ↓zbg, ↓zbh, ↓zbi, ↓zbj, ↓zbk, ↓zbl, ↓zbm, ↓zbn, ↓zbo, ↓zbp, ↓zbq, ↓zbr, ↓zbs, ↓zbt, ↓zbu, ↓zbv, ↓zbw, ↓zbx, ↓zby, ↓zbz, ↓zca, ↓zcb, ↓zcc, ↓zcd, ↓zce, ↓zcf, ↓zcg, ↓zch, ↓zci, ↓zcj, ↓zck, ↓zcl, ↓zcm, ↓zcn, ↓zco, ↓zcp, ↓zcq, ↓zcr, ↓zcs, ↓zct, ↓zcu, ↓zcv, ↓zcw, ↓mt, zcx, kwl, ziw, zcy, zcz, zda, zdb, zdc, zix, ziy, ziz, zja, zdd, zde, zdf, zdg, zdh, zdi, zdj, zdk, zdl, zdm, zdn, zdo, zdp, zdq, zjb, Int.reduceEq, Int.reduceNe, zjc, zjd, Nat.reduceEqDiff, Int.reduceLT, Int.reduceLE, Int.reduceNeg, Int.reduceToNat, zje, kdC, zdr, zjf, zjg, nk1, nk2, nk3, nk4, nk5, zjh, zds, zdt, zdu, zdv, ic1, ic2, ic3, ic4, ic5, ic6, zdw, String.reduceBEq, p60, p50, AH.set_self, AH.set_ne, Kx.more, Kx.comp, zji, zjj, zjk, ↓zdx, ↓zdy, ↓zdz, ↓zea, ↓zeb, ↓zec, ↓zed, ↓zee, ↓zef, ↓zeg, ↓zeh, ↓zei, ↓zej, ↓zek, ↓zel, ↓zem, ↓zen, ↓zeo, ↓zep, ↓zeq, ↓zer, ↓zes, ↓zet, ↓zeu, ↓zev, ↓zew, ↓zex, ↓zey, ↓zez, ↓zfa, ↓zfb, ↓zfc, ↓zfd, ↓zfe, ↓zff, ↓zfg, ↓zfh, ↓zfi, ↓zfj, ↓zfk, ↓zfl, ↓zfm, ↓zfn, ↓zfo, ↓zfp, ↓zfq, ↓zfr, ↓zfs, ↓mtE, ↓zft, ↓zfu, ↓zfv, ↓zfw, ↓zfx, ↓zfy, ↓zfz, ↓zga, ↓zgb, ↓zgc, ↓zgd, ↓zge, ↓zgf, ↓zgg, zgh, zgi, zgj, zgk, zgl, zgm, zgn, zgo, zgp, zgq, zgr, zgs, zgt, zgu, zgv, zgw, zgx, zgy, zgz, zha, zhb, zhc, zhd, zhe, zhf, zhg, zhh, zhi, zhj, zhk, zhl, zhm, zhn, zho, zhp, zhq, zhr, zhs, zht, zhu, zhv, zhw, ↓zhx, ↓zhy, ↓zhz, ↓zia, ↓zib, zic, zid, zie, zif, zig, zih, ↓zii, ↓zij, ↓zik, ↓zil, ↓zim, ↓zin, ↓zio, ↓ziq, ↓zir, pk0, pk1, pk2, pk3, pk4, pk5, pk6, zjl, zjm, zjn, zjo, zjp, zjq, zjr, zjs, zjt, zju, zjv, zjw, zjx, zjy, zjz, zka, zkb, zkc, zkd, zke, zkf, zkg, zkh, zki, zkj, reduceCtorEq, zkk, zkl, zkm, zkn, zko, String.reduceEq, Nat.reduceAdd, Nat.reduceLeDiff, Nat.reduceLT, zkp, zkq, zkr, zks, ↓zis, zit, ↓ziu, ziv, *])
  all_goals first | exact h | skip
  all_goals
    refine seqsL_cons ?_
    (simp (maxSteps := 1000000) (implicitDefEqProofs := false) only [↓zb, ↓reduceIte, zc, ↓zd, ↓ze, ↓zg, ↓zh, ↓zi, ↓zj, ↓zk, ↓zl, ↓zn, ↓zo, ↓zp, ↓zq, ↓zr, ↓zt, ↓zu, ↓zv, ↓zw, ↓zx, ↓zy, ↓zz, ↓zba, ↓zbb, ↓zbc, ↓zbd, ↓zbe, ↓zbf, ↓zbg, ↓zbh, ↓zbi, ↓zbj, ↓zbk, ↓zbl, ↓zbm, ↓zbn, ↓zbo, ↓zbp, ↓zbq, ↓zbr, ↓zbs, ↓zbt, ↓zbu, ↓zbv, ↓zbw, ↓zbx, ↓zby, ↓zbz, ↓zca, ↓zcb, ↓zcc, ↓zcd, ↓zce, ↓zcf, ↓zcg, ↓zch, ↓zci, ↓zcj, ↓zck, ↓zcl, ↓zcm, ↓zcn, ↓zco, ↓zcp, ↓zcq, ↓zcr, ↓zcs, ↓zct, ↓zcu, ↓zcv, ↓zcw, ↓mt, zcx, kwl, ziw, zcy, zcz, zda, zdb, zdc, zix, ziy, ziz, zja, zdd, zde, zdf, zdg, zdh, zdi, zdj, zdk, zdl, zdm, zdn, zdo, zdp, zdq, zjb, Int.reduceEq, Int.reduceNe, zjc, zjd, Nat.reduceEqDiff, Int.reduceLT, Int.reduceLE, Int.reduceNeg, Int.reduceToNat, zje, kdC, zdr, zjf, zjg, nk1, nk2, nk3, nk4, nk5, zjh, zds, zdt, zdu, zdv, ic1, ic2, ic3, ic4, ic5, ic6, zdw, String.reduceBEq, p60, p50, AH.set_self, AH.set_ne, Kx.more, Kx.comp, zji, zjj, zjk, ↓zdx, ↓zdy, ↓zdz, ↓zea, ↓zeb, ↓zec, ↓zed, ↓zee, ↓zef, ↓zeg, ↓zeh, ↓zei, ↓zej, ↓zek, ↓zel, ↓zem, ↓zen, ↓zeo, ↓zep, ↓zeq, ↓zer, ↓zes, ↓zet, ↓zeu, ↓zev, ↓zew, ↓zex, ↓zey, ↓zez, ↓zfa, ↓zfb, ↓zfc, ↓zfd, ↓zfe, ↓zff, ↓zfg, ↓zfh, ↓zfi, ↓zfj, ↓zfk, ↓zfl, ↓zfm, ↓zfn, ↓zfo, ↓zfp, ↓zfq, ↓zfr, ↓zfs, ↓mtE, ↓zft, ↓zfu, ↓zfv, ↓zfw, ↓zfx, ↓zfy, ↓zfz, ↓zga, ↓zgb, ↓zgc, ↓zgd, ↓zge, ↓zgf, ↓zgg, zgh, zgi, zgj, zgk, zgl, zgm, zgn, zgo, zgp, zgq, zgr, zgs, zgt, zgu, zgv, zgw, zgx, zgy, zgz, zha, zhb, zhc, zhd, zhe, zhf, zhg, zhh, zhi, zhj, zhk, zhl, zhm, zhn, zho, zhp, zhq, zhr, zhs, zht, zhu, zhv, zhw, ↓zhx, ↓zhy, ↓zhz, ↓zia, ↓zib, zic, zid, zie, zif, zig, zih, ↓zii, ↓zij, ↓zik, ↓zil, ↓zim, ↓zin, ↓zio, ↓ziq, ↓zir, pk0, pk1, pk2, pk3, pk4, pk5, pk6, zjl, zjm, zjn, zjo, zjp, zjq, zjr, zjs, zjt, zju, zjv, zjw, zjx, zjy, zjz, zka, zkb, zkc, zkd, zke, zkf, zkg, zkh, zki, zkj, reduceCtorEq, zkk, zkl, zkm, zkn, zko, String.reduceEq, Nat.reduceAdd, Nat.reduceLeDiff, Nat.reduceLT, zkp, zkq, zkr, zks, ↓zis, zit, ↓ziu, ziv, *])
  all_goals first | exact h | skip

theorem ok_staying {C : Cx} {a : Addr} {fz : List Nat} {d : Nat} {vs : List V} {Q : V → AH → Prop} {X : Value → AH → Prop} {H : AH} (F : FnAt C a ["reading", "gone"] (fbody pw 6) (fscope pw 6))
    (G : GenT C d gvB [] true) (h : T_staying fz vs Q X H) : CallsTo C fz (d + 1) true (.ref a) vs Q X H := by
  obtain ⟨r, g, es, ss, rfl, hr, hg, nd, hz, h⟩ := h
  refine callsTo_tab (n := 60) F G rfl rfl rfl ⟨rfl, rfl⟩ ?_
  intro kd gv ct ρ hT
  generalize hb : fbody pw 6 = b
  conv at hb => lhs; whnf
  subst hb
  generalize hb : (fscope pw 6).names = b at hT
  conv at hb => lhs; whnf
  subst hb
  simp only [tabAll, noneAll, gvB, List.map_cons, List.map_nil, List.zip_cons_cons, List.zip_nil_left, List.zip_nil_right, and_true, true_and] at hT
  refine seqsL_cons ?_
  (simp (maxSteps := 1000000) (implicitDefEqProofs := false) only [↓zb, ↓reduceIte, zc, ↓zd, ↓ze, ↓zg, ↓zh, ↓zi, ↓zj, ↓zk, ↓zl, ↓zn, ↓zo, ↓zp, ↓zq, ↓zr, ↓zt, ↓zu, ↓zv, ↓zw, ↓zx, ↓zy, ↓zz, ↓zba, ↓zbb, ↓zbc, ↓zbd, ↓zbe, ↓zbf, ↓zbg, ↓zbh, ↓zbi, ↓zbj, ↓zbk, ↓zbl, ↓zbm, ↓zbn, ↓zbo, ↓zbp, ↓zbq, ↓zbr, ↓zbs, ↓zbt, ↓zbu, ↓zbv, ↓zbw, ↓zbx, ↓zby, ↓zbz, ↓zca, ↓zcb, ↓zcc, ↓zcd, ↓zce, ↓zcf, ↓zcg, ↓zch, ↓zci, ↓zcj, ↓zck, ↓zcl, ↓zcm, ↓zcn, ↓zco, ↓zcp, ↓zcq, ↓zcr, ↓zcs, ↓zct, ↓zcu, ↓zcv, ↓zcw, ↓mt, zcx, kwl, ziw, zcy, zcz, zda, zdb, zdc, zix, ziy, ziz, zja, zdd, zde, zdf, zdg, zdh, zdi, zdj, zdk, zdl, zdm, zdn, zdo, zdp, zdq, zjb, Int.reduceEq, Int.reduceNe, zjc, zjd, Nat.reduceEqDiff, Int.reduceLT, Int.reduceLE, Int.reduceNeg, Int.reduceToNat, zje, kdC, zdr, zjf, zjg, nk1, nk2, nk3, nk4, nk5, zjh, zds, zdt, zdu, zdv, ic1, ic2, ic3, ic4, ic5, ic6, zdw, String.reduceBEq, p60, p50, AH.set_self, AH.set_ne, Kx.more, Kx.comp, zji, zjj, zjk, ↓zdx, ↓zdy, ↓zdz, ↓zea, ↓zeb, ↓zec, ↓zed, ↓zee, ↓zef, ↓zeg, ↓zeh, ↓zei, ↓zej, ↓zek, ↓zel, ↓zem, ↓zen, ↓zeo, ↓zep, ↓zeq, ↓zer, ↓zes, ↓zet, ↓zeu, ↓zev, ↓zew, ↓zex, ↓zey, ↓zez, ↓zfa, ↓zfb, ↓zfc, ↓zfd, ↓zfe, ↓zff, ↓zfg, ↓zfh, ↓zfi, ↓zfj, ↓zfk, ↓zfl, ↓zfm, ↓zfn, ↓zfo, ↓zfp, ↓zfq, ↓zfr, ↓zfs, ↓mtE, ↓zft, ↓zfu, ↓zfv, ↓zfw, ↓zfx, ↓zfy, ↓zfz, ↓zga, ↓zgb, ↓zgc, ↓zgd, ↓zge, ↓zgf, ↓zgg, zgh, zgi, zgj, zgk, zgl, zgm, zgn, zgo, zgp, zgq, zgr, zgs, zgt, zgu, zgv, zgw, zgx, zgy, zgz, zha, zhb, zhc, zhd, zhe, zhf, zhg, zhh, zhi, zhj, zhk, zhl, zhm, zhn, zho, zhp, zhq, zhr, zhs, zht, zhu, zhv, zhw, ↓zhx, ↓zhy, ↓zhz, ↓zia, ↓zib, zic, zid, zie, zif, zig, zih, ↓zii, ↓zij, ↓zik, ↓zil, ↓zim, ↓zin, ↓zio, ↓ziq, ↓zir, pk0, pk1, pk2, pk3, pk4, pk5, pk6, zjl, zjm, zjn, zjo, zjp, zjq, zjr, zjs, zjt, zju, zjv, zjw, zjx, zjy, zjz, zka, zkb, zkc, zkd, zke, zkf, zkg, zkh, zki, zkj, reduceCtorEq, zkk, zkl, zkm, zkn, zko, String.reduceEq, Nat.reduceAdd, Nat.reduceLeDiff, Nat.reduceLT, zkp, zkq, zkr, zks, ↓zis, zit, ↓ziu, ziv, *])
  intro f hf hff
  refine seqsL_cons ?_
  (simp (maxSteps := 1000000) (implicitDefEqProofs := false) only [↓zb, ↓reduceIte, zc, ↓zd, ↓ze, ↓zg, ↓zh, ↓zi, ↓zj, ↓zk, ↓zl, ↓zn, ↓zo, ↓zp, ↓zq, ↓zr, ↓zt, ↓zu, ↓zv, ↓zw, ↓zx, ↓zy, ↓zz, ↓zba, ↓zbb, ↓zbc, ↓zbd, ↓zbe, ↓zbf, ↓zbg, ↓zbh, ↓zbi, ↓zbj, ↓zbk, ↓zbl, ↓zbm, ↓zbn, ↓zbo, ↓zbp, ↓zbq, ↓zbr, ↓zbs, ↓zbt, ↓zbu, ↓zbv, ↓zbw, ↓zbx, ↓zby, ↓zbz, ↓zca, ↓zcb, ↓zcc, ↓zcd, ↓zce, ↓zcf, ↓zcg, ↓zch, ↓zci, ↓zcj, ↓zck, ↓zcl, ↓zcm, ↓zcn, ↓zco, ↓zcp, ↓zcq, ↓zcr, ↓zcs, ↓zct, ↓zcu, ↓zcv, ↓zcw, ↓mt, zcx, kwl, ziw, zcy, zcz, zda, zdb, zdc, zix, ziy, ziz, zja, zdd, zde, zdf, zdg, zdh, zdi, zdj, zdk, zdl, zdm, zdn, zdo, zdp, zdq, zjb, Int.reduceEq, Int.reduceNe, zjc, zjd, Nat.reduceEqDiff, Int.reduceLT, Int.reduceLE, Int.reduceNeg, Int.reduceToNat, zje, kdC, zdr, zjf, zjg, nk1, nk2, nk3, nk4, nk5, zjh, zds, zdt, zdu, zdv, ic1, ic2, ic3, ic4, ic5, ic6, zdw, String.reduceBEq, p60, p50, AH.set_self, AH.set_ne, Kx.more, Kx.comp, zji, zjj, zjk, ↓zdx, ↓zdy, ↓zdz, ↓zea, ↓zeb, ↓zec, ↓zed, ↓zee, ↓zef, ↓zeg, ↓zeh, ↓zei, ↓zej, ↓zek, ↓zel, ↓zem, ↓zen, ↓zeo, ↓zep, ↓zeq, ↓zer, ↓zes, ↓zet, ↓zeu, ↓zev, ↓zew, ↓zex, ↓zey, ↓zez, ↓zfa, ↓zfb, ↓zfc, ↓zfd, ↓zfe, ↓zff, ↓zfg, ↓zfh, ↓zfi, ↓zfj, ↓zfk, ↓zfl, ↓zfm, ↓zfn, ↓zfo, ↓zfp, ↓zfq, ↓zfr, ↓zfs, ↓mtE, ↓zft, ↓zfu, ↓zfv, ↓zfw, ↓zfx, ↓zfy, ↓zfz, ↓zga, ↓zgb, ↓zgc, ↓zgd, ↓zge, ↓zgf, ↓zgg, zgh, zgi, zgj, zgk, zgl, zgm, zgn, zgo, zgp, zgq, zgr, zgs, zgt, zgu, zgv, zgw, zgx, zgy, zgz, zha, zhb, zhc, zhd, zhe, zhf, zhg, zhh, zhi, zhj, zhk, zhl, zhm, zhn, zho, zhp, zhq, zhr, zhs, zht, zhu, zhv, zhw, ↓zhx, ↓zhy, ↓zhz, ↓zia, ↓zib, zic, zid, zie, zif, zig, zih, ↓zii, ↓zij, ↓zik, ↓zil, ↓zim, ↓zin, ↓zio, ↓ziq, ↓zir, pk0, pk1, pk2, pk3, pk4, pk5, pk6, zjl, zjm, zjn, zjo, zjp, zjq, zjr, zjs, zjt, zju, zjv, zjw, zjx, zjy, zjz, zka, zkb, zkc, zkd, zke, zkf, zkg, zkh, zki, zkj, reduceCtorEq, zkk, zkl, zkm, zkn, zko, String.reduceEq, Nat.reduceAdd, Nat.reduceLeDiff, Nat.reduceLT, zkp, zkq, zkr, zks, ↓zis, zit, ↓ziu, ziv, *])
  have hrf : r ≠ f := ne_of_get hr hf
  have hgf : g ≠ f := ne_of_get hg hf
  refine forW_of _ (fun k ρ' H' => ρ' "reading" = some (.ref r) ∧ ρ' "gone" = some (.ref g) ∧ ρ' "found" = some (.ref f) ∧ Ext H H' ∧ H'.get f = some (.sdict (dI (stay (es.take k) ss)))) (items_sdict (es := dI es) (by simp [get_set, hrf, hr])) ⟨?_, ?_, ?_, ?_, ?_⟩ ?_ ?_
  · (simp (maxSteps := 1000000) (implicitDefEqProofs := false) only [↓zb, ↓reduceIte, zc, ↓zd, ↓ze, ↓zg, ↓zh, ↓zi, ↓zj, ↓zk, ↓zl, ↓zn, ↓zo, ↓zp, ↓zq, ↓zr, ↓zt, ↓zu, ↓zv, ↓zw, ↓zx, ↓zy, ↓zz, ↓zba, ↓zbb, ↓zbc, ↓zbd, ↓zbe, ↓zbf, ↓zbg, ↓zbh, ↓zbi, ↓zbj, ↓zbk, ↓zbl, ↓zbm, ↓zbn, ↓zbo, ↓zbp, ↓zbq, ↓zbr, ↓zbs, ↓zbt, ↓zbu, ↓zbv, ↓zbw, ↓zbx, ↓zby, ↓zbz, ↓zca, ↓zcb, ↓zcc, ↓zcd, ↓zce, ↓zcf, ↓zcg, ↓zch, ↓zci, ↓zcj, ↓zck, ↓zcl, ↓zcm, ↓zcn, ↓zco, ↓zcp, ↓zcq, ↓zcr, ↓zcs, ↓zct, ↓zcu, ↓zcv, ↓zcw, ↓mt, zcx, kwl, ziw, zcy, zcz, zda, zdb, zdc, zix, ziy, ziz, zja, zdd, zde, zdf, zdg, zdh, zdi, zdj, zdk, zdl, zdm, zdn, zdo, zdp, zdq, zjb, Int.reduceEq, Int.reduceNe, zjc, zjd, Nat.reduceEqDiff, Int.reduceLT, Int.reduceLE, Int.reduceNeg, Int.reduceToNat, zje, kdC, zdr, zjf, zjg, nk1, nk2, nk3, nk4, nk5, zjh, zds, zdt, zdu, zdv, ic1, ic2, ic3, ic4, ic5, ic6, zdw, String.reduceBEq, p60, p50, AH.set_self, AH.set_ne, Kx.more, Kx.comp, zji, zjj, zjk, ↓zdx, ↓zdy, ↓zdz, ↓zea, ↓zeb, ↓zec, ↓zed, ↓zee, ↓zef, ↓zeg, ↓zeh, ↓zei, ↓zej, ↓zek, ↓zel, ↓zem, ↓zen, ↓zeo, ↓zep, ↓zeq, ↓zer, ↓zes, ↓zet, ↓zeu, ↓zev, ↓zew, ↓zex, ↓zey, ↓zez, ↓zfa, ↓zfb, ↓zfc, ↓zfd, ↓zfe, ↓zff, ↓zfg, ↓zfh, ↓zfi, ↓zfj, ↓zfk, ↓zfl, ↓zfm, ↓zfn, ↓zfo, ↓zfp, ↓zfq, ↓zfr, ↓zfs, ↓mtE, ↓zft, ↓zfu, ↓zfv, ↓zfw, ↓zfx, ↓zfy, ↓zfz, ↓zga, ↓zgb, ↓zgc, ↓zgd, ↓zge, ↓zgf, ↓zgg, zgh, zgi, zgj, zgk, zgl, zgm, zgn, zgo, zgp, zgq, zgr, zgs, zgt, zgu, zgv, zgw, zgx, zgy, zgz, zha, zhb, zhc, zhd, zhe, zhf, zhg, zhh, zhi, zhj, zhk, zhl, zhm, zhn, zho, zhp, zhq, zhr, zhs, zht, zhu, zhv, zhw, ↓zhx, ↓zhy, ↓zhz, ↓zia, ↓zib, zic, zid, zie, zif, zig, zih, ↓zii, ↓zij, ↓zik, ↓zil, ↓zim, ↓zin, ↓zio, ↓ziq, ↓zir, pk0, pk1, pk2, pk3, pk4, pk5, pk6, zjl, zjm, zjn, zjo, zjp, zjq, zjr, zjs, zjt, zju, zjv, zjw, zjx, zjy, zjz, zka, zkb, zkc, zkd, zke, zkf, zkg, zkh, zki, zkj, reduceCtorEq, zkk, zkl, zkm, zkn, zko, String.reduceEq, Nat.reduceAdd, Nat.reduceLeDiff, Nat.reduceLT, zkp, zkq, zkr, zks, ↓zis, zit, ↓ziu, ziv, *])
  · (simp (maxSteps := 1000000) (implicitDefEqProofs := false) only [↓zb, ↓reduceIte, zc, ↓zd, ↓ze, ↓zg, ↓zh, ↓zi, ↓zj, ↓zk, ↓zl, ↓zn, ↓zo, ↓zp, ↓zq, ↓zr, ↓zt, ↓zu, ↓zv, ↓zw, ↓zx, ↓zy, ↓zz, ↓zba, ↓zbb, ↓zbc, ↓zbd, ↓zbe, ↓zbf, ↓zbg, ↓zbh, ↓zbi, ↓zbj, ↓zbk, ↓zbl, ↓zbm, ↓zbn, ↓zbo, ↓zbp, ↓zbq, ↓zbr, ↓zbs, ↓zbt, ↓zbu, ↓zbv, ↓zbw, ↓zbx, ↓zby, ↓zbz, ↓zca, ↓zcb, ↓zcc, ↓zcd, ↓zce, ↓zcf, ↓zcg, ↓zch, ↓zci, ↓zcj, ↓zck, ↓zcl, ↓zcm, ↓zcn, ↓zco, ↓zcp, ↓zcq, ↓zcr, ↓zcs, ↓zct, ↓zcu, ↓zcv, ↓zcw, ↓mt, zcx, kwl, ziw, zcy, zcz, zda, zdb, zdc, zix, ziy, ziz, zja, zdd, zde, zdf, zdg, zdh, zdi, zdj, zdk, zdl, zdm, zdn, zdo, zdp, zdq, zjb, Int.reduceEq, Int.reduceNe, zjc, zjd, Nat.reduceEqDiff, Int.reduceLT, Int.reduceLE, Int.reduceNeg, Int.reduceToNat, zje, kdC, zdr, zjf, zjg, nk1, nk2, nk3, nk4, nk5, zjh, zds, zdt, zdu, zdv, ic1, ic2, ic3, ic4, ic5, ic6, zdw, String.reduceBEq, p60, p50, AH.set_self, AH.set_ne, Kx.more, Kx.comp, zji, zjj, zjk, ↓zdx, ↓zdy, ↓zdz, ↓zea, ↓zeb, ↓zec, ↓zed, ↓zee, ↓zef, ↓zeg, ↓zeh, ↓zei, ↓zej, ↓zek, ↓zel, ↓zem, ↓zen, ↓zeo, ↓zep, ↓zeq, ↓zer, ↓zes, ↓zet, ↓zeu, ↓zev, ↓zew, ↓zex, ↓zey, ↓zez, ↓zfa, ↓zfb, ↓zfc, ↓zfd, ↓zfe, ↓zff, ↓zfg, ↓zfh, ↓zfi, ↓zfj, ↓zfk, ↓zfl, ↓zfm, ↓zfn, ↓zfo, ↓zfp, ↓zfq, ↓zfr, ↓zfs, ↓mtE, ↓zft, ↓zfu, ↓zfv, ↓zfw, ↓zfx, ↓zfy, ↓zfz, ↓zga, ↓zgb, ↓zgc, ↓zgd, ↓zge, ↓zgf, ↓zgg, zgh, zgi, zgj, zgk, zgl, zgm, zgn, zgo, zgp, zgq, zgr, zgs, zgt, zgu, zgv, zgw, zgx, zgy, zgz, zha, zhb, zhc, zhd, zhe, zhf, zhg, zhh, zhi, zhj, zhk, zhl, zhm, zhn, zho, zhp, zhq, zhr, zhs, zht, zhu, zhv, zhw, ↓zhx, ↓zhy, ↓zhz, ↓zia, ↓zib, zic, zid, zie, zif, zig, zih, ↓zii, ↓zij, ↓zik, ↓zil, ↓zim, ↓zin, ↓zio, ↓ziq, ↓zir, pk0, pk1, pk2, pk3, pk4, pk5, pk6, zjl, zjm, zjn, zjo, zjp, zjq, zjr, zjs, zjt, zju, zjv, zjw, zjx, zjy, zjz, zka, zkb, zkc, zkd, zke, zkf, zkg, zkh, zki, zkj, reduceCtorEq, zkk, zkl, zkm, zkn, zko, String.reduceEq, Nat.reduceAdd, Nat.reduceLeDiff, Nat.reduceLT, zkp, zkq, zkr, zks, ↓zis, zit, ↓ziu, ziv, *])
  · (simp (maxSteps := 1000000) (implicitDefEqProofs := false) only [↓zb, ↓reduceIte, zc, ↓zd, ↓ze, ↓zg, ↓zh, ↓zi, ↓zj, ↓zk, ↓zl, ↓zn, ↓zo, ↓zp, ↓zq, ↓zr, ↓zt, ↓zu, ↓zv, ↓zw, ↓zx, ↓zy, ↓zz, ↓zba, ↓zbb, ↓zbc, ↓zbd, ↓zbe, ↓zbf, ↓zbg, ↓zbh, ↓zbi, ↓zbj, ↓zbk, ↓zbl, ↓zbm, ↓zbn, ↓zbo, ↓zbp, ↓zbq, ↓zbr, ↓zbs, ↓zbt, ↓zbu, ↓zbv, ↓zbw, ↓zbx, ↓zby, ↓zbz, ↓zca, ↓zcb, ↓zcc, ↓zcd, ↓zce, ↓zcf, ↓zcg, ↓zch, ↓zci, ↓zcj, ↓zck, ↓zcl, ↓zcm, ↓zcn, ↓zco, ↓zcp, ↓zcq, ↓zcr, ↓zcs, ↓zct, ↓zcu, ↓zcv, ↓zcw, ↓mt, zcx, kwl, ziw, zcy, zcz, zda, zdb, zdc, zix, ziy, ziz, zja, zdd, zde, zdf, zdg, zdh, zdi, zdj, zdk, zdl, zdm, zdn, zdo, zdp, zdq, zjb, Int.reduceEq, Int.reduceNe, zjc, zjd, Nat.reduceEqDiff, Int.reduceLT, Int.reduceLE, Int.reduceNeg, Int.reduceToNat, zje, kdC, zdr, zjf, zjg, nk1, nk2, nk3, nk4, nk5, zjh, zds, zdt, zdu, zdv, ic1, ic2, ic3, ic4, ic5, ic6, zdw, String.reduceBEq, p60, p50, AH.set_self, AH.set_ne, Kx.more, Kx.comp, zji, zjj, zjk, ↓zdx, ↓zdy, ↓zdz, ↓zea, ↓zeb, ↓zec, ↓zed, ↓zee, ↓zef, ↓zeg, ↓zeh, ↓zei, ↓zej, ↓zek, ↓zel, ↓zem, ↓zen, ↓zeo, ↓zep, ↓zeq, ↓zer, ↓zes, ↓zet, ↓zeu, ↓zev, ↓zew, ↓zex, ↓zey, ↓zez, ↓zfa, ↓zfb, ↓zfc, ↓zfd, ↓zfe, ↓zff, ↓zfg, ↓zfh, ↓zfi, ↓zfj, ↓zfk, ↓zfl, ↓zfm, ↓zfn, ↓zfo, ↓zfp, ↓zfq, ↓zfr, ↓zfs, ↓mtE, ↓zft, ↓zfu, ↓zfv, ↓zfw, ↓zfx, ↓zfy, ↓zfz, ↓zga, ↓zgb, ↓zgc, ↓zgd, ↓zge, ↓zgf, ↓zgg, zgh, zgi, zgj, zgk, zgl, zgm, zgn, zgo, zgp, zgq, zgr, zgs, zgt, zgu, zgv, zgw, zgx, zgy, zgz, zha, zhb, zhc, zhd, zhe, zhf, zhg, zhh, zhi, zhj, zhk, zhl, zhm, zhn, zho, zhp, zhq, zhr, zhs, zht, zhu, zhv, zhw, ↓zhx, ↓zhy, ↓zhz, ↓zia, ↓zib, zic, zid, zie, zif, zig, zih, ↓zii, ↓zij, ↓zik, ↓zil, ↓zim, ↓zin, ↓zio, ↓ziq, ↓zir, pk0, pk1, pk2, pk3, pk4, pk5, pk6, zjl, zjm, zjn, zjo, zjp, zjq, zjr, zjs, zjt, zju, zjv, zjw, zjx, zjy, zjz, zka, zkb, zkc, zkd, zke, zkf, zkg, zkh, zki, zkj, reduceCtorEq, zkk, zkl, zkm, zkn, zko, String.reduceEq, Nat.reduceAdd, Nat.reduceLeDiff, Nat.reduceLT, zkp, zkq, zkr, zks, ↓zis, zit, ↓ziu, ziv, *])
  · exact Ext.new hf
  · simp [get_set, stay, dI]
  · rintro k y ρ' H' hy ⟨h1, h2, h3, h4, h5⟩
    have hr' := h4 _ _ hr
    have hg' := h4 _ _ hg
    have hy' : ∃ p : Str × Int, es[k]? = some p ∧ y = .str p.1 := by
      simp only [dI, List.map_map, List.getElem?_map] at hy
      obtain ⟨p, hp, e⟩ := Option.map_eq_some_iff.mp hy
      exact ⟨p, hp, e.symm⟩
    obtain ⟨p, hp, rfl⟩ := hy'
    clear hy h
    refine seqsL_cons ?_
    (simp (maxSteps := 1000000) (implicitDefEqProofs := false) only [↓zb, ↓reduceIte, zc, ↓zd, ↓ze, ↓zg, ↓zh, ↓zi, ↓zj, ↓zk, ↓zl, ↓zn, ↓zo, ↓zp, ↓zq, ↓zr, ↓zt, ↓zu, ↓zv, ↓zw, ↓zx, ↓zy, ↓zz, ↓zba, ↓zbb, ↓zbc, ↓zbd, ↓zbe, ↓zbf, ↓zbg, ↓zbh, ↓zbi, ↓zbj, ↓zbk, ↓zbl, ↓zbm, ↓zbn, ↓zbo, ↓zbp, ↓zbq, ↓zbr, ↓zbs, ↓zbt, ↓zbu, ↓zbv, ↓zbw, ↓zbx, ↓zby, ↓zbz, ↓zca, ↓zcb, ↓zcc, ↓zcd, ↓zce, ↓zcf, ↓zcg, ↓zch, ↓zci, ↓zcj, ↓zck, ↓zcl, ↓zcm, ↓zcn, ↓zco, ↓zcp, ↓zcq, ↓zcr, ↓zcs, ↓zct, ↓zcu, ↓zcv, ↓zcw, ↓mt, zcx, kwl, ziw, zcy, zcz, zda, zdb, zdc, zix, ziy, ziz, zja, zdd, zde, zdf, zdg, zdh, zdi, zdj, zdk, zdl, zdm, zdn, zdo, zdp, zdq, zjb, Int.reduceEq, Int.reduceNe, zjc, zjd, Nat.reduceEqDiff, Int.reduceLT, Int.reduceLE, Int.reduceNeg, Int.reduceToNat, zje, kdC, zdr, zjf, zjg, nk1, nk2, nk3, nk4, nk5, zjh, zds, zdt, zdu, zdv, ic1, ic2, ic3, ic4, ic5, ic6, zdw, String.reduceBEq, p60, p50, AH.set_self, AH.set_ne, Kx.more, Kx.comp, zji, zjj, zjk, ↓zdx, ↓zdy, ↓zdz, ↓zea, ↓zeb, ↓zec, ↓zed, ↓zee, ↓zef, ↓zeg, ↓zeh, ↓zei, ↓zej, ↓zek, ↓zel, ↓zem, ↓zen, ↓zeo, ↓zep, ↓zeq, ↓zer, ↓zes, ↓zet, ↓zeu, ↓zev, ↓zew, ↓zex, ↓zey, ↓zez, ↓zfa, ↓zfb, ↓zfc, ↓zfd, ↓zfe, ↓zff, ↓zfg, ↓zfh, ↓zfi, ↓zfj, ↓zfk, ↓zfl, ↓zfm, ↓zfn, ↓zfo, ↓zfp, ↓zfq, ↓zfr, ↓zfs, ↓mtE, ↓zft, ↓zfu, ↓zfv, ↓zfw, ↓zfx, ↓zfy, ↓zfz, ↓zga, ↓zgb, ↓zgc, ↓zgd, ↓zge, ↓zgf, ↓zgg, zgh, zgi, zgj, zgk, zgl, zgm, zgn, zgo, zgp, zgq, zgr, zgs, zgt, zgu, zgv, zgw, zgx, zgy, zgz, zha, zhb, zhc, zhd, zhe, zhf, zhg, zhh, zhi, zhj, zhk, zhl, zhm, zhn, zho, zhp, zhq, zhr, zhs, zht, zhu, zhv, zhw, ↓zhx, ↓zhy, ↓zhz, ↓zia, ↓zib, zic, zid, zie, zif, zig, zih, ↓zii, ↓zij, ↓zik, ↓zil, ↓zim, ↓zin, ↓zio, ↓ziq, ↓zir, pk0, pk1, pk2, pk3, pk4, pk5, pk6, zjl, zjm, zjn, zjo, zjp, zjq, zjr, zjs, zjt, zju, zjv, zjw, zjx, zjy, zjz, zka, zkb, zkc, zkd, zke, zkf, zkg, zkh, zki, zkj, reduceCtorEq, zkk, zkl, zkm, zkn, zko, String.reduceEq, Nat.reduceAdd, Nat.reduceLeDiff, Nat.reduceLT, zkp, zkq, zkr, zks, ↓zis, zit, ↓ziu, ziv, *])
    refine opIn_strs hg' ?_
    have hmem : p ∈ es := List.mem_of_getElem? hp
    have hget : dget (dI es) p.1 = some (.int p.2) := by rw [dget_dI, gI_of_mem nd hmem]; rfl
    have htake : es.take (k + 1) = es.take k ++ [p] := by rw [List.take_add_one, hp]; rfl
    have hlen : (stay (es.take k) ss).length ≤ 1000 := Nat.le_trans (List.length_filter_le ..) (Nat.le_trans (List.length_take_le' ..) hz)
    have hnk : p.1 ∉ keys (stay (es.take k) ss) := fun hm => not_before nd hp (by rw [keys_stay] at hm; exact (List.mem_filter.mp hm).1)
    refine ⟨fun hn => ?_, fun hy => ?_⟩
    · have hns : p.1 ∉ ss := by simpa using hn
      rw [hget]
      dsimp only
      rw [dput_dI, put_new hnk]
      refine ⟨by simp [hrf.symm, hff], by rw [dI_length]; exact Nat.le_trans hlen (by simp [sizeLine]), seqsL_nil ?_⟩
      have hst : stay (es.take (k + 1)) ss = stay (es.take k) ss ++ [p] := by rw [htake]; simp [stay, hns]
      have he : Ext H (H'.set f (.sdict (dI (stay (es.take k) ss ++ [p])))) := h4.set hf
      rw [hst]
      (simp (maxSteps := 1000000) (implicitDefEqProofs := false) only [↓zb, ↓reduceIte, zc, ↓zd, ↓ze, ↓zg, ↓zh, ↓zi, ↓zj, ↓zk, ↓zl, ↓zn, ↓zo, ↓zp, ↓zq, ↓zr, ↓zt, ↓zu, ↓zv, ↓zw, ↓zx, ↓zy, ↓zz, ↓zba, ↓zbb, ↓zbc, ↓zbd, ↓zbe, ↓zbf, ↓zbg, ↓zbh, ↓zbi, ↓zbj, ↓zbk, ↓zbl, ↓zbm, ↓zbn, ↓zbo, ↓zbp, ↓zbq, ↓zbr, ↓zbs, ↓zbt, ↓zbu, ↓zbv, ↓zbw, ↓zbx, ↓zby, ↓zbz, ↓zca, ↓zcb, ↓zcc, ↓zcd, ↓zce, ↓zcf, ↓zcg, ↓zch, ↓zci, ↓zcj, ↓zck, ↓zcl, ↓zcm, ↓zcn, ↓zco, ↓zcp, ↓zcq, ↓zcr, ↓zcs, ↓zct, ↓zcu, ↓zcv, ↓zcw, ↓mt, zcx, kwl, ziw, zcy, zcz, zda, zdb, zdc, zix, ziy, ziz, zja, zdd, zde, zdf, zdg, zdh, zdi, zdj, zdk, zdl, zdm, zdn, zdo, zdp, zdq, zjb, Int.reduceEq, Int.reduceNe, zjc, zjd, Nat.reduceEqDiff, Int.reduceLT, Int.reduceLE, Int.reduceNeg, Int.reduceToNat, zje, kdC, zdr, zjf, zjg, nk1, nk2, nk3, nk4, nk5, zjh, zds, zdt, zdu, zdv, ic1, ic2, ic3, ic4, ic5, ic6, zdw, String.reduceBEq, p60, p50, AH.set_self, AH.set_ne, Kx.more, Kx.comp, zji, zjj, zjk, ↓zdx, ↓zdy, ↓zdz, ↓zea, ↓zeb, ↓zec, ↓zed, ↓zee, ↓zef, ↓zeg, ↓zeh, ↓zei, ↓zej, ↓zek, ↓zel, ↓zem, ↓zen, ↓zeo, ↓zep, ↓zeq, ↓zer, ↓zes, ↓zet, ↓zeu, ↓zev, ↓zew, ↓zex, ↓zey, ↓zez, ↓zfa, ↓zfb, ↓zfc, ↓zfd, ↓zfe, ↓zff, ↓zfg, ↓zfh, ↓zfi, ↓zfj, ↓zfk, ↓zfl, ↓zfm, ↓zfn, ↓zfo, ↓zfp, ↓zfq, ↓zfr, ↓zfs, ↓mtE, ↓zft, ↓zfu, ↓zfv, ↓zfw, ↓zfx, ↓zfy, ↓zfz, ↓zga, ↓zgb, ↓zgc, ↓zgd, ↓zge, ↓zgf, ↓zgg, zgh, zgi, zgj, zgk, zgl, zgm, zgn, zgo, zgp, zgq, zgr, zgs, zgt, zgu, zgv, zgw, zgx, zgy, zgz, zha, zhb, zhc, zhd, zhe, zhf, zhg, zhh, zhi, zhj, zhk, zhl, zhm, zhn, zho, zhp, zhq, zhr, zhs, zht, zhu, zhv, zhw, ↓zhx, ↓zhy, ↓zhz, ↓zia, ↓zib, zic, zid, zie, zif, zig, zih, ↓zii, ↓zij, ↓zik, ↓zil, ↓zim, ↓zin, ↓zio, ↓ziq, ↓zir, pk0, pk1, pk2, pk3, pk4, pk5, pk6, zjl, zjm, zjn, zjo, zjp, zjq, zjr, zjs, zjt, zju, zjv, zjw, zjx, zjy, zjz, zka, zkb, zkc, zkd, zke, zkf, zkg, zkh, zki, zkj, reduceCtorEq, zkk, zkl, zkm, zkn, zko, String.reduceEq, Nat.reduceAdd, Nat.reduceLeDiff, Nat.reduceLT, zkp, zkq, zkr, zks, ↓zis, zit, ↓ziu, ziv, *])
    · have hns : p.1 ∈ ss := by simpa using hy
      have hst : stay (es.take (k + 1)) ss = stay (es.take k) ss := by rw [htake]; simp [stay, hns]
      refine seqsL_nil ?_
      rw [hst]
      (simp (maxSteps := 1000000) (implicitDefEqProofs := false) only [↓zb, ↓reduceIte, zc, ↓zd, ↓ze, ↓zg, ↓zh, ↓zi, ↓zj, ↓zk, ↓zl, ↓zn, ↓zo, ↓zp, ↓zq, ↓zr, ↓zt, ↓zu, ↓zv, ↓zw, ↓zx, ↓zy, ↓zz, ↓zba, ↓zbb, ↓zbc, ↓zbd, ↓zbe, ↓zbf, ↓zbg, ↓zbh, ↓zbi, ↓zbj, ↓zbk, ↓zbl, ↓zbm, ↓zbn, ↓zbo, ↓zbp, ↓zbq, ↓zbr, ↓zbs, ↓zbt, ↓zbu, ↓zbv, ↓zbw, ↓zbx, ↓zby, ↓zbz, ↓zca, ↓zcb, ↓zcc, ↓zcd, ↓zce, ↓zcf, ↓zcg, ↓zch, ↓zci, ↓zcj, ↓zck, ↓zcl, ↓zcm, ↓zcn, ↓zco, ↓zcp, ↓zcq, ↓zcr, ↓zcs, ↓zct, ↓zcu, ↓zcv, ↓zcw, ↓mt, zcx, kwl, ziw, zcy, zcz, zda, zdb, zdc, zix, ziy, ziz, zja, zdd, zde, zdf, zdg, zdh, zdi, zdj, zdk, zdl, zdm, zdn, zdo, zdp, zdq, zjb, Int.reduceEq, Int.reduceNe, zjc, zjd, Nat.reduceEqDiff, Int.reduceLT, Int.reduceLE, Int.reduceNeg, Int.reduceToNat, zje, kdC, zdr, zjf, zjg, nk1, nk2, nk3, nk4, nk5, zjh, zds, zdt, zdu, zdv, ic1, ic2, ic3, ic4, ic5, ic6, zdw, String.reduceBEq, p60, p50, AH.set_self, AH.set_ne, Kx.more, Kx.comp, zji, zjj, zjk, ↓zdx, ↓zdy, ↓zdz, ↓zea, ↓zeb, ↓zec, ↓zed, ↓zee, ↓zef, ↓zeg, ↓zeh, ↓zei, ↓zej, ↓zek, ↓zel, ↓zem, ↓zen, ↓zeo, ↓zep, ↓zeq, ↓zer, ↓zes, ↓zet, ↓zeu, ↓zev, ↓zew, ↓zex, ↓zey, ↓zez, ↓zfa, ↓zfb, ↓zfc, ↓zfd, ↓zfe, ↓zff, ↓zfg, ↓zfh, ↓zfi, ↓zfj, ↓zfk, ↓zfl, ↓zfm, ↓zfn, ↓zfo, ↓zfp, ↓zfq, ↓zfr, ↓zfs, ↓mtE, ↓zft, ↓zfu, ↓zfv, ↓zfw, ↓zfx, ↓zfy, ↓zfz, ↓zga, ↓zgb, ↓zgc, ↓zgd, ↓zge, ↓zgf, ↓zgg, zgh, zgi, zgj, zgk, zgl, zgm, zgn, zgo, zgp, zgq, zgr, zgs, zgt, zgu, zgv, zgw, zgx, zgy, zgz, zha, zhb, zhc, zhd, zhe, zhf, zhg, zhh, zhi, zhj, zhk, zhl, zhm, zhn, zho, zhp, zhq, zhr, zhs, zht, zhu, zhv, zhw, ↓zhx, ↓zhy, ↓zhz, ↓zia, ↓zib, zic, zid, zie, zif, zig, zih, ↓zii, ↓zij, ↓zik, ↓zil, ↓zim, ↓zin, ↓zio, ↓ziq, ↓zir, pk0, pk1, pk2, pk3, pk4, pk5, pk6, zjl, zjm, zjn, zjo, zjp, zjq, zjr, zjs, zjt, zju, zjv, zjw, zjx, zjy, zjz, zka, zkb, zkc, zkd, zke, zkf, zkg, zkh, zki, zkj, reduceCtorEq, zkk, zkl, zkm, zkn, zko, String.reduceEq, Nat.reduceAdd, Nat.reduceLeDiff, Nat.reduceLT, zkp, zkq, zkr, zks, ↓zis, zit, ↓ziu, ziv, *])
  · rintro ρ' H' ⟨h1, h2, h3, h4, h5⟩
    refine seqsL_cons ?_
    (simp (maxSteps := 1000000) (implicitDefEqProofs := false) only [↓zb, ↓reduceIte, zc, ↓zd, ↓ze, ↓zg, ↓zh, ↓zi, ↓zj, ↓zk, ↓zl, ↓zn, ↓zo, ↓zp, ↓zq, ↓zr, ↓zt, ↓zu, ↓zv, ↓zw, ↓zx, ↓zy, ↓zz, ↓zba, ↓zbb, ↓zbc, ↓zbd, ↓zbe, ↓zbf, ↓zbg, ↓zbh, ↓zbi, ↓zbj, ↓zbk, ↓zbl, ↓zbm, ↓zbn, ↓zbo, ↓zbp, ↓zbq, ↓zbr, ↓zbs, ↓zbt, ↓zbu, ↓zbv, ↓zbw, ↓zbx, ↓zby, ↓zbz, ↓zca, ↓zcb, ↓zcc, ↓zcd, ↓zce, ↓zcf, ↓zcg, ↓zch, ↓zci, ↓zcj, ↓zck, ↓zcl, ↓zcm, ↓zcn, ↓zco, ↓zcp, ↓zcq, ↓zcr, ↓zcs, ↓zct, ↓zcu, ↓zcv, ↓zcw, ↓mt, zcx, kwl, ziw, zcy, zcz, zda, zdb, zdc, zix, ziy, ziz, zja, zdd, zde, zdf, zdg, zdh, zdi, zdj, zdk, zdl, zdm, zdn, zdo, zdp, zdq, zjb, Int.reduceEq, Int.reduceNe, zjc, zjd, Nat.reduceEqDiff, Int.reduceLT, Int.reduceLE, Int.reduceNeg, Int.reduceToNat, zje, kdC, zdr, zjf, zjg, nk1, nk2, nk3, nk4, nk5, zjh, zds, zdt, zdu, zdv, ic1, ic2, ic3, ic4, ic5, ic6, zdw, String.reduceBEq, p60, p50, AH.set_self, AH.set_ne, Kx.more, Kx.comp, zji, zjj, zjk, ↓zdx, ↓zdy, ↓zdz, ↓zea, ↓zeb, ↓zec, ↓zed, ↓zee, ↓zef, ↓zeg, ↓zeh, ↓zei, ↓zej, ↓zek, ↓zel, ↓zem, ↓zen, ↓zeo, ↓zep, ↓zeq, ↓zer, ↓zes, ↓zet, ↓zeu, ↓zev, ↓zew, ↓zex, ↓zey, ↓zez, ↓zfa, ↓zfb, ↓zfc, ↓zfd, ↓zfe, ↓zff, ↓zfg, ↓zfh, ↓zfi, ↓zfj, ↓zfk, ↓zfl, ↓zfm, ↓zfn, ↓zfo, ↓zfp, ↓zfq, ↓zfr, ↓zfs, ↓mtE, ↓zft, ↓zfu, ↓zfv, ↓zfw, ↓zfx, ↓zfy, ↓zfz, ↓zga, ↓zgb, ↓zgc, ↓zgd, ↓zge, ↓zgf, ↓zgg, zgh, zgi, zgj, zgk, zgl, zgm, zgn, zgo, zgp, zgq, zgr, zgs, zgt, zgu, zgv, zgw, zgx, zgy, zgz, zha, zhb, zhc, zhd, zhe, zhf, zhg, zhh, zhi, zhj, zhk, zhl, zhm, zhn, zho, zhp, zhq, zhr, zhs, zht, zhu, zhv, zhw, ↓zhx, ↓zhy, ↓zhz, ↓zia, ↓zib, zic, zid, zie, zif, zig, zih, ↓zii, ↓zij, ↓zik, ↓zil, ↓zim, ↓zin, ↓zio, ↓ziq, ↓zir, pk0, pk1, pk2, pk3, pk4, pk5, pk6, zjl, zjm, zjn, zjo, zjp, zjq, zjr, zjs, zjt, zju, zjv, zjw, zjx, zjy, zjz, zka, zkb, zkc, zkd, zke, zkf, zkg, zkh, zki, zkj, reduceCtorEq, zkk, zkl, zkm, zkn, zko, String.reduceEq, Nat.reduceAdd, Nat.reduceLeDiff, Nat.reduceLT, zkp, zkq, zkr, zks, ↓zis, zit, ↓ziu, ziv, *])
    exact h H' f h4 hf hff (by rw [h5]; simp [dI])

theorem ok_forth {C : Cx} {a : Addr} {fz : List Nat} {d : Nat} {vs : List V} {Q : V → AH → Prop} {X : Value → AH → Prop} {H : AH} (F : FnAt C a ["step", "reading", "own"] (fbody pw 7) (fscope pw 7))
    (G : GenT C d gvB ctF true) (h : T_forth fz vs Q X H) : CallsTo C fz (d + 1) true (.ref a) vs Q X H := by
  obtain ⟨p, r, own, st, es, rfl, hp, hr, ft, hz, h⟩ := h
  refine callsTo_tab (n := 60) F G rfl rfl rfl ⟨rfl, rfl⟩ ?_
  intro kd gv ct ρ hT
  generalize hb : fbody pw 7 = b
  conv at hb => lhs; whnf
  subst hb
  generalize hb : (fscope pw 7).names = b at hT
  conv at hb => lhs; whnf
  subst hb
  simp only [tabAll, noneAll, gvB, ctF, List.map_cons, List.map_nil, List.zip_cons_cons, List.zip_nil_left, List.zip_nil_right, and_true, true_and] at hT
  refine seqsL_cons ?_
  (simp (maxSteps := 1000000) (implicitDefEqProofs := false) only [↓zb, ↓reduceIte, zc, ↓zd, ↓ze, ↓zg, ↓zh, ↓zi, ↓zj, ↓zk, ↓zl, ↓zn, ↓zo, ↓zp, ↓zq, ↓zr, ↓zt, ↓zu, ↓zv, ↓zw, ↓zx, ↓zy, ↓zz, ↓zba, ↓zbb, ↓zbc, ↓zbd, ↓zbe, ↓zbf, ↓zbg, ↓zbh, ↓zbi, ↓zbj, ↓zbk, ↓zbl, ↓zbm, ↓zbn, ↓zbo, ↓zbp, ↓zbq, ↓zbr, ↓zbs, ↓zbt, ↓zbu, ↓zbv, ↓zbw, ↓zbx, ↓zby, ↓zbz, ↓zca, ↓zcb, ↓zcc, ↓zcd, ↓zce, ↓zcf, ↓zcg, ↓zch, ↓zci, ↓zcj, ↓zck, ↓zcl, ↓zcm, ↓zcn, ↓zco, ↓zcp, ↓zcq, ↓zcr, ↓zcs, ↓zct, ↓zcu, ↓zcv, ↓zcw, ↓mt, zcx, kwl, ziw, zcy, zcz, zda, zdb, zdc, zix, ziy, ziz, zja, zdd, zde, zdf, zdg, zdh, zdi, zdj, zdk, zdl, zdm, zdn, zdo, zdp, zdq, zjb, Int.reduceEq, Int.reduceNe, zjc, zjd, Nat.reduceEqDiff, Int.reduceLT, Int.reduceLE, Int.reduceNeg, Int.reduceToNat, zje, kdC, zdr, zjf, zjg, nk1, nk2, nk3, nk4, nk5, zjh, zds, zdt, zdu, zdv, ic1, ic2, ic3, ic4, ic5, ic6, zdw, String.reduceBEq, p60, p50, AH.set_self, AH.set_ne, Kx.more, Kx.comp, zji, zjj, zjk, ↓zdx, ↓zdy, ↓zdz, ↓zea, ↓zeb, ↓zec, ↓zed, ↓zee, ↓zef, ↓zeg, ↓zeh, ↓zei, ↓zej, ↓zek, ↓zel, ↓zem, ↓zen, ↓zeo, ↓zep, ↓zeq, ↓zer, ↓zes, ↓zet, ↓zeu, ↓zev, ↓zew, ↓zex, ↓zey, ↓zez, ↓zfa, ↓zfb, ↓zfc, ↓zfd, ↓zfe, ↓zff, ↓zfg, ↓zfh, ↓zfi, ↓zfj, ↓zfk, ↓zfl, ↓zfm, ↓zfn, ↓zfo, ↓zfp, ↓zfq, ↓zfr, ↓zfs, ↓mtE, ↓zft, ↓zfu, ↓zfv, ↓zfw, ↓zfx, ↓zfy, ↓zfz, ↓zga, ↓zgb, ↓zgc, ↓zgd, ↓zge, ↓zgf, ↓zgg, zgh, zgi, zgj, zgk, zgl, zgm, zgn, zgo, zgp, zgq, zgr, zgs, zgt, zgu, zgv, zgw, zgx, zgy, zgz, zha, zhb, zhc, zhd, zhe, zhf, zhg, zhh, zhi, zhj, zhk, zhl, zhm, zhn, zho, zhp, zhq, zhr, zhs, zht, zhu, zhv, zhw, ↓zhx, ↓zhy, ↓zhz, ↓zia, ↓zib, zic, zid, zie, zif, zig, zih, ↓zii, ↓zij, ↓zik, ↓zil, ↓zim, ↓zin, ↓zio, ↓ziq, ↓zir, pk0, pk1, pk2, pk3, pk4, pk5, pk6, zjl, zjm, zjn, zjo, zjp, zjq, zjr, zjs, zjt, zju, zjv, zjw, zjx, zjy, zjz, zka, zkb, zkc, zkd, zke, zkf, zkg, zkh, zki, zkj, reduceCtorEq, zkk, zkl, zkm, zkn, zko, String.reduceEq, Nat.reduceAdd, Nat.reduceLeDiff, Nat.reduceLT, zkp, zkq, zkr, zks, ↓zis, zit, ↓ziu, ziv, *])
  refine ⟨p, st, rfl, hp, ?_⟩
  intro g hg hgf
  refine ⟨r, g, es, st.goes, rfl, by rw [AH.set_ne _ _ (ne_of_get hr hg)]; exact hr, AH.set_self .., ft.nd, hz, ?_⟩
  intro H₁ f he hf hff hfd
  have hf0 : H.get f = none := (Ext.new hg).none hf
  have he1 : Ext H H₁ := (Ext.new hg).trans he
  have hp1 := he1 _ _ hp
  have hr1 := he1 _ _ hr
  have hfp : p ≠ f := ne_of_get hp hf0
  have hfr : r ≠ f := ne_of_get hr hf0
  have hl : (stay es st.goes).length ≤ 1000 := Nat.le_trans (List.length_filter_le ..) hz
  have hval : ∀ k ∈ st.goes, dget (dI es) k = some (.int (val es k)) := fun k hk => by
    obtain ⟨n, hn⟩ := gI_some (ft.goes k hk)
    rw [dget_dI, hn]; simp [val, hn]
  have hs := ft.size
  clear he hg hf hgf
  have hsz : ∀ n, n ≤ 1000 → n ≤ sizeLine := fun n h => Nat.le_trans h (by decide)
  have fin : ∀ fs, fs = fwd st es own → Q (.ref f) (H₁.set f (.sdict (dI fs))) := fun fs e => h _ f (he1.set hf0) hf0 hff (by rw [AH.set_self, e])
  have fin0 : H₁.get f = some (.sdict (dI (fwd st es own))) → Q (.ref f) H₁ := fun e => h _ f he1 hf0 hff e
  clear h
  revert fin fin0 hsz
  cases st <;> intro hsz fin fin0 <;> simp only [Stp.vs, Stp.goes, Stp.sizeOk, List.mem_cons, List.not_mem_nil, or_false, forall_eq, forall_eq_or_imp, false_implies, implies_true] at hp1 hfd hl hval hs
  all_goals
    revert fin fin0 hsz
    refine fun hsz fin fin0 => seqsL_cons ?_
    revert fin fin0 hsz
  · (simp (maxSteps := 1000000) (implicitDefEqProofs := false) only [↓zb, ↓reduceIte, zc, ↓zd, ↓ze, ↓zg, ↓zh, ↓zi, ↓zj, ↓zk, ↓zl, ↓zn, ↓zo, ↓zp, ↓zq, ↓zr, ↓zt, ↓zu, ↓zv, ↓zw, ↓zx, ↓zy, ↓zz, ↓zba, ↓zbb, ↓zbc, ↓zbd, ↓zbe, ↓zbf, ↓zbg, ↓zbh, ↓zbi, ↓zbj, ↓zbk, ↓zbl, ↓zbm, ↓zbn, ↓zbo, ↓zbp, ↓zbq, ↓zbr, ↓zbs, ↓zbt, ↓zbu, ↓zbv, ↓zbw, ↓zbx, ↓zby, ↓zbz, ↓zca, ↓zcb, ↓zcc, ↓zcd, ↓zce, ↓zcf, ↓zcg, ↓zch, ↓zci, ↓zcj, ↓zck, ↓zcl, ↓zcm, ↓zcn, ↓zco, ↓zcp, ↓zcq, ↓zcr, ↓zcs, ↓zct, ↓zcu, ↓zcv, ↓zcw, ↓mt, zcx, kwl, ziw, zcy, zcz, zda, zdb, zdc, zix, ziy, ziz, zja, zdd, zde, zdf, zdg, zdh, zdi, zdj, zdk, zdl, zdm, zdn, zdo, zdp, zdq, zjb, Int.reduceEq, Int.reduceNe, zjc, zjd, Nat.reduceEqDiff, Int.reduceLT, Int.reduceLE, Int.reduceNeg, Int.reduceToNat, zje, kdC, zdr, zjf, zjg, nk1, nk2, nk3, nk4, nk5, zjh, zds, zdt, zdu, zdv, ic1, ic2, ic3, ic4, ic5, ic6, zdw, String.reduceBEq, p60, p50, AH.set_self, AH.set_ne, Kx.more, Kx.comp, zji, zjj, zjk, ↓zdx, ↓zdy, ↓zdz, ↓zea, ↓zeb, ↓zec, ↓zed, ↓zee, ↓zef, ↓zeg, ↓zeh, ↓zei, ↓zej, ↓zek, ↓zel, ↓zem, ↓zen, ↓zeo, ↓zep, ↓zeq, ↓zer, ↓zes, ↓zet, ↓zeu, ↓zev, ↓zew, ↓zex, ↓zey, ↓zez, ↓zfa, ↓zfb, ↓zfc, ↓zfd, ↓zfe, ↓zff, ↓zfg, ↓zfh, ↓zfi, ↓zfj, ↓zfk, ↓zfl, ↓zfm, ↓zfn, ↓zfo, ↓zfp, ↓zfq, ↓zfr, ↓zfs, ↓mtE, ↓zft, ↓zfu, ↓zfv, ↓zfw, ↓zfx, ↓zfy, ↓zfz, ↓zga, ↓zgb, ↓zgc, ↓zgd, ↓zge, ↓zgf, ↓zgg, zgh, zgi, zgj, zgk, zgl, zgm, zgn, zgo, zgp, zgq, zgr, zgs, zgt, zgu, zgv, zgw, zgx, zgy, zgz, zha, zhb, zhc, zhd, zhe, zhf, zhg, zhh, zhi, zhj, zhk, zhl, zhm, zhn, zho, zhp, zhq, zhr, zhs, zht, zhu, zhv, zhw, ↓zhx, ↓zhy, ↓zhz, ↓zia, ↓zib, zic, zid, zie, zif, zig, zih, ↓zii, ↓zij, ↓zik, ↓zil, ↓zim, ↓zin, ↓zio, ↓ziq, ↓zir, pk0, pk1, pk2, pk3, pk4, pk5, pk6, zjl, zjm, zjn, zjo, zjp, zjq, zjr, zjs, zjt, zju, zjv, zjw, zjx, zjy, zjz, zka, zkb, zkc, zkd, zke, zkf, zkg, zkh, zki, zkj, reduceCtorEq, zkk, zkl, zkm, zkn, zko, String.reduceEq, Nat.reduceAdd, Nat.reduceLeDiff, Nat.reduceLT, zkp, zkq, zkr, zks, ↓zis, zit, ↓ziu, ziv, *])
    intro hsz fin fin0
    refine ⟨by rw [dI_length]; exact hsz _ hl, seqsL_cons ?_⟩
    (simp (maxSteps := 1000000) (implicitDefEqProofs := false) only [↓zb, ↓reduceIte, zc, ↓zd, ↓ze, ↓zg, ↓zh, ↓zi, ↓zj, ↓zk, ↓zl, ↓zn, ↓zo, ↓zp, ↓zq, ↓zr, ↓zt, ↓zu, ↓zv, ↓zw, ↓zx, ↓zy, ↓zz, ↓zba, ↓zbb, ↓zbc, ↓zbd, ↓zbe, ↓zbf, ↓zbg, ↓zbh, ↓zbi, ↓zbj, ↓zbk, ↓zbl, ↓zbm, ↓zbn, ↓zbo, ↓zbp, ↓zbq, ↓zbr, ↓zbs, ↓zbt, ↓zbu, ↓zbv, ↓zbw, ↓zbx, ↓zby, ↓zbz, ↓zca, ↓zcb, ↓zcc, ↓zcd, ↓zce, ↓zcf, ↓zcg, ↓zch, ↓zci, ↓zcj, ↓zck, ↓zcl, ↓zcm, ↓zcn, ↓zco, ↓zcp, ↓zcq, ↓zcr, ↓zcs, ↓zct, ↓zcu, ↓zcv, ↓zcw, ↓mt, zcx, kwl, ziw, zcy, zcz, zda, zdb, zdc, zix, ziy, ziz, zja, zdd, zde, zdf, zdg, zdh, zdi, zdj, zdk, zdl, zdm, zdn, zdo, zdp, zdq, zjb, Int.reduceEq, Int.reduceNe, zjc, zjd, Nat.reduceEqDiff, Int.reduceLT, Int.reduceLE, Int.reduceNeg, Int.reduceToNat, zje, kdC, zdr, zjf, zjg, nk1, nk2, nk3, nk4, nk5, zjh, zds, zdt, zdu, zdv, ic1, ic2, ic3, ic4, ic5, ic6, zdw, String.reduceBEq, p60, p50, AH.set_self, AH.set_ne, Kx.more, Kx.comp, zji, zjj, zjk, ↓zdx, ↓zdy, ↓zdz, ↓zea, ↓zeb, ↓zec, ↓zed, ↓zee, ↓zef, ↓zeg, ↓zeh, ↓zei, ↓zej, ↓zek, ↓zel, ↓zem, ↓zen, ↓zeo, ↓zep, ↓zeq, ↓zer, ↓zes, ↓zet, ↓zeu, ↓zev, ↓zew, ↓zex, ↓zey, ↓zez, ↓zfa, ↓zfb, ↓zfc, ↓zfd, ↓zfe, ↓zff, ↓zfg, ↓zfh, ↓zfi, ↓zfj, ↓zfk, ↓zfl, ↓zfm, ↓zfn, ↓zfo, ↓zfp, ↓zfq, ↓zfr, ↓zfs, ↓mtE, ↓zft, ↓zfu, ↓zfv, ↓zfw, ↓zfx, ↓zfy, ↓zfz, ↓zga, ↓zgb, ↓zgc, ↓zgd, ↓zge, ↓zgf, ↓zgg, zgh, zgi, zgj, zgk, zgl, zgm, zgn, zgo, zgp, zgq, zgr, zgs, zgt, zgu, zgv, zgw, zgx, zgy, zgz, zha, zhb, zhc, zhd, zhe, zhf, zhg, zhh, zhi, zhj, zhk, zhl, zhm, zhn, zho, zhp, zhq, zhr, zhs, zht, zhu, zhv, zhw, ↓zhx, ↓zhy, ↓zhz, ↓zia, ↓zib, zic, zid, zie, zif, zig, zih, ↓zii, ↓zij, ↓zik, ↓zil, ↓zim, ↓zin, ↓zio, ↓ziq, ↓zir, pk0, pk1, pk2, pk3, pk4, pk5, pk6, zjl, zjm, zjn, zjo, zjp, zjq, zjr, zjs, zjt, zju, zjv, zjw, zjx, zjy, zjz, zka, zkb, zkc, zkd, zke, zkf, zkg, zkh, zki, zkj, reduceCtorEq, zkk, zkl, zkm, zkn, zko, String.reduceEq, Nat.reduceAdd, Nat.reduceLeDiff, Nat.reduceLT, zkp, zkq, zkr, zks, ↓zis, zit, ↓ziu, ziv, *])
    rw [dput_dI]; exact fin _ rfl
  · (simp (maxSteps := 1000000) (implicitDefEqProofs := false) only [↓zb, ↓reduceIte, zc, ↓zd, ↓ze, ↓zg, ↓zh, ↓zi, ↓zj, ↓zk, ↓zl, ↓zn, ↓zo, ↓zp, ↓zq, ↓zr, ↓zt, ↓zu, ↓zv, ↓zw, ↓zx, ↓zy, ↓zz, ↓zba, ↓zbb, ↓zbc, ↓zbd, ↓zbe, ↓zbf, ↓zbg, ↓zbh, ↓zbi, ↓zbj, ↓zbk, ↓zbl, ↓zbm, ↓zbn, ↓zbo, ↓zbp, ↓zbq, ↓zbr, ↓zbs, ↓zbt, ↓zbu, ↓zbv, ↓zbw, ↓zbx, ↓zby, ↓zbz, ↓zca, ↓zcb, ↓zcc, ↓zcd, ↓zce, ↓zcf, ↓zcg, ↓zch, ↓zci, ↓zcj, ↓zck, ↓zcl, ↓zcm, ↓zcn, ↓zco, ↓zcp, ↓zcq, ↓zcr, ↓zcs, ↓zct, ↓zcu, ↓zcv, ↓zcw, ↓mt, zcx, kwl, ziw, zcy, zcz, zda, zdb, zdc, zix, ziy, ziz, zja, zdd, zde, zdf, zdg, zdh, zdi, zdj, zdk, zdl, zdm, zdn, zdo, zdp, zdq, zjb, Int.reduceEq, Int.reduceNe, zjc, zjd, Nat.reduceEqDiff, Int.reduceLT, Int.reduceLE, Int.reduceNeg, Int.reduceToNat, zje, kdC, zdr, zjf, zjg, nk1, nk2, nk3, nk4, nk5, zjh, zds, zdt, zdu, zdv, ic1, ic2, ic3, ic4, ic5, ic6, zdw, String.reduceBEq, p60, p50, AH.set_self, AH.set_ne, Kx.more, Kx.comp, zji, zjj, zjk, ↓zdx, ↓zdy, ↓zdz, ↓zea, ↓zeb, ↓zec, ↓zed, ↓zee, ↓zef, ↓zeg, ↓zeh, ↓zei, ↓zej, ↓zek, ↓zel, ↓zem, ↓zen, ↓zeo, ↓zep, ↓zeq, ↓zer, ↓zes, ↓zet, ↓zeu, ↓zev, ↓zew, ↓zex, ↓zey, ↓zez, ↓zfa, ↓zfb, ↓zfc, ↓zfd, ↓zfe, ↓zff, ↓zfg, ↓zfh, ↓zfi, ↓zfj, ↓zfk, ↓zfl, ↓zfm, ↓zfn, ↓zfo, ↓zfp, ↓zfq, ↓zfr, ↓zfs, ↓mtE, ↓zft, ↓zfu, ↓zfv, ↓zfw, ↓zfx, ↓zfy, ↓zfz, ↓zga, ↓zgb, ↓zgc, ↓zgd, ↓zge, ↓zgf, ↓zgg, zgh, zgi, zgj, zgk, zgl, zgm, zgn, zgo, zgp, zgq, zgr, zgs, zgt, zgu, zgv, zgw, zgx, zgy, zgz, zha, zhb, zhc, zhd, zhe, zhf, zhg, zhh, zhi, zhj, zhk, zhl, zhm, zhn, zho, zhp, zhq, zhr, zhs, zht, zhu, zhv, zhw, ↓zhx, ↓zhy, ↓zhz, ↓zia, ↓zib, zic, zid, zie, zif, zig, zih, ↓zii, ↓zij, ↓zik, ↓zil, ↓zim, ↓zin, ↓zio, ↓ziq, ↓zir, pk0, pk1, pk2, pk3, pk4, pk5, pk6, zjl, zjm, zjn, zjo, zjp, zjq, zjr, zjs, zjt, zju, zjv, zjw, zjx, zjy, zjz, zka, zkb, zkc, zkd, zke, zkf, zkg, zkh, zki, zkj, reduceCtorEq, zkk, zkl, zkm, zkn, zko, String.reduceEq, Nat.reduceAdd, Nat.reduceLeDiff, Nat.reduceLT, zkp, zkq, zkr, zks, ↓zis, zit, ↓ziu, ziv, *])
    intro hsz fin fin0
    refine seqsL_cons ?_
    (simp (maxSteps := 1000000) (implicitDefEqProofs := false) only [↓zb, ↓reduceIte, zc, ↓zd, ↓ze, ↓zg, ↓zh, ↓zi, ↓zj, ↓zk, ↓zl, ↓zn, ↓zo, ↓zp, ↓zq, ↓zr, ↓zt, ↓zu, ↓zv, ↓zw, ↓zx, ↓zy, ↓zz, ↓zba, ↓zbb, ↓zbc, ↓zbd, ↓zbe, ↓zbf, ↓zbg, ↓zbh, ↓zbi, ↓zbj, ↓zbk, ↓zbl, ↓zbm, ↓zbn, ↓zbo, ↓zbp, ↓zbq, ↓zbr, ↓zbs, ↓zbt, ↓zbu, ↓zbv, ↓zbw, ↓zbx, ↓zby, ↓zbz, ↓zca, ↓zcb, ↓zcc, ↓zcd, ↓zce, ↓zcf, ↓zcg, ↓zch, ↓zci, ↓zcj, ↓zck, ↓zcl, ↓zcm, ↓zcn, ↓zco, ↓zcp, ↓zcq, ↓zcr, ↓zcs, ↓zct, ↓zcu, ↓zcv, ↓zcw, ↓mt, zcx, kwl, ziw, zcy, zcz, zda, zdb, zdc, zix, ziy, ziz, zja, zdd, zde, zdf, zdg, zdh, zdi, zdj, zdk, zdl, zdm, zdn, zdo, zdp, zdq, zjb, Int.reduceEq, Int.reduceNe, zjc, zjd, Nat.reduceEqDiff, Int.reduceLT, Int.reduceLE, Int.reduceNeg, Int.reduceToNat, zje, kdC, zdr, zjf, zjg, nk1, nk2, nk3, nk4, nk5, zjh, zds, zdt, zdu, zdv, ic1, ic2, ic3, ic4, ic5, ic6, zdw, String.reduceBEq, p60, p50, AH.set_self, AH.set_ne, Kx.more, Kx.comp, zji, zjj, zjk, ↓zdx, ↓zdy, ↓zdz, ↓zea, ↓zeb, ↓zec, ↓zed, ↓zee, ↓zef, ↓zeg, ↓zeh, ↓zei, ↓zej, ↓zek, ↓zel, ↓zem, ↓zen, ↓zeo, ↓zep, ↓zeq, ↓zer, ↓zes, ↓zet, ↓zeu, ↓zev, ↓zew, ↓zex, ↓zey, ↓zez, ↓zfa, ↓zfb, ↓zfc, ↓zfd, ↓zfe, ↓zff, ↓zfg, ↓zfh, ↓zfi, ↓zfj, ↓zfk, ↓zfl, ↓zfm, ↓zfn, ↓zfo, ↓zfp, ↓zfq, ↓zfr, ↓zfs, ↓mtE, ↓zft, ↓zfu, ↓zfv, ↓zfw, ↓zfx, ↓zfy, ↓zfz, ↓zga, ↓zgb, ↓zgc, ↓zgd, ↓zge, ↓zgf, ↓zgg, zgh, zgi, zgj, zgk, zgl, zgm, zgn, zgo, zgp, zgq, zgr, zgs, zgt, zgu, zgv, zgw, zgx, zgy, zgz, zha, zhb, zhc, zhd, zhe, zhf, zhg, zhh, zhi, zhj, zhk, zhl, zhm, zhn, zho, zhp, zhq, zhr, zhs, zht, zhu, zhv, zhw, ↓zhx, ↓zhy, ↓zhz, ↓zia, ↓zib, zic, zid, zie, zif, zig, zih, ↓zii, ↓zij, ↓zik, ↓zil, ↓zim, ↓zin, ↓zio, ↓ziq, ↓zir, pk0, pk1, pk2, pk3, pk4, pk5, pk6, zjl, zjm, zjn, zjo, zjp, zjq, zjr, zjs, zjt, zju, zjv, zjw, zjx, zjy, zjz, zka, zkb, zkc, zkd, zke, zkf, zkg, zkh, zki, zkj, reduceCtorEq, zkk, zkl, zkm, zkn, zko, String.reduceEq, Nat.reduceAdd, Nat.reduceLeDiff, Nat.reduceLT, zkp, zkq, zkr, zks, ↓zis, zit, ↓ziu, ziv, *])
    exact fin0 rfl
  · (simp (maxSteps := 1000000) (implicitDefEqProofs := false) only [↓zb, ↓reduceIte, zc, ↓zd, ↓ze, ↓zg, ↓zh, ↓zi, ↓zj, ↓zk, ↓zl, ↓zn, ↓zo, ↓zp, ↓zq, ↓zr, ↓zt, ↓zu, ↓zv, ↓zw, ↓zx, ↓zy, ↓zz, ↓zba, ↓zbb, ↓zbc, ↓zbd, ↓zbe, ↓zbf, ↓zbg, ↓zbh, ↓zbi, ↓zbj, ↓zbk, ↓zbl, ↓zbm, ↓zbn, ↓zbo, ↓zbp, ↓zbq, ↓zbr, ↓zbs, ↓zbt, ↓zbu, ↓zbv, ↓zbw, ↓zbx, ↓zby, ↓zbz, ↓zca, ↓zcb, ↓zcc, ↓zcd, ↓zce, ↓zcf, ↓zcg, ↓zch, ↓zci, ↓zcj, ↓zck, ↓zcl, ↓zcm, ↓zcn, ↓zco, ↓zcp, ↓zcq, ↓zcr, ↓zcs, ↓zct, ↓zcu, ↓zcv, ↓zcw, ↓mt, zcx, kwl, ziw, zcy, zcz, zda, zdb, zdc, zix, ziy, ziz, zja, zdd, zde, zdf, zdg, zdh, zdi, zdj, zdk, zdl, zdm, zdn, zdo, zdp, zdq, zjb, Int.reduceEq, Int.reduceNe, zjc, zjd, Nat.reduceEqDiff, Int.reduceLT, Int.reduceLE, Int.reduceNeg, Int.reduceToNat, zje, kdC, zdr, zjf, zjg, nk1, nk2, nk3, nk4, nk5, zjh, zds, zdt, zdu, zdv, ic1, ic2, ic3, ic4, ic5, ic6, zdw, String.reduceBEq, p60, p50, AH.set_self, AH.set_ne, Kx.more, Kx.comp, zji, zjj, zjk, ↓zdx, ↓zdy, ↓zdz, ↓zea, ↓zeb, ↓zec, ↓zed, ↓zee, ↓zef, ↓zeg, ↓zeh, ↓zei, ↓zej, ↓zek, ↓zel, ↓zem, ↓zen, ↓zeo, ↓zep, ↓zeq, ↓zer, ↓zes, ↓zet, ↓zeu, ↓zev, ↓zew, ↓zex, ↓zey, ↓zez, ↓zfa, ↓zfb, ↓zfc, ↓zfd, ↓zfe, ↓zff, ↓zfg, ↓zfh, ↓zfi, ↓zfj, ↓zfk, ↓zfl, ↓zfm, ↓zfn, ↓zfo, ↓zfp, ↓zfq, ↓zfr, ↓zfs, ↓mtE, ↓zft, ↓zfu, ↓zfv, ↓zfw, ↓zfx, ↓zfy, ↓zfz, ↓zga, ↓zgb, ↓zgc, ↓zgd, ↓zge, ↓zgf, ↓zgg, zgh, zgi, zgj, zgk, zgl, zgm, zgn, zgo, zgp, zgq, zgr, zgs, zgt, zgu, zgv, zgw, zgx, zgy, zgz, zha, zhb, zhc, zhd, zhe, zhf, zhg, zhh, zhi, zhj, zhk, zhl, zhm, zhn, zho, zhp, zhq, zhr, zhs, zht, zhu, zhv, zhw, ↓zhx, ↓zhy, ↓zhz, ↓zia, ↓zib, zic, zid, zie, zif, zig, zih, ↓zii, ↓zij, ↓zik, ↓zil, ↓zim, ↓zin, ↓zio, ↓ziq, ↓zir, pk0, pk1, pk2, pk3, pk4, pk5, pk6, zjl, zjm, zjn, zjo, zjp, zjq, zjr, zjs, zjt, zju, zjv, zjw, zjx, zjy, zjz, zka, zkb, zkc, zkd, zke, zkf, zkg, zkh, zki, zkj, reduceCtorEq, zkk, zkl, zkm, zkn, zko, String.reduceEq, Nat.reduceAdd, Nat.reduceLeDiff, Nat.reduceLT, zkp, zkq, zkr, zks, ↓zis, zit, ↓ziu, ziv, *])
    intro hsz fin fin0
    refine ⟨by rw [dI_length]; exact hsz _ hl, seqsL_cons ?_⟩
    (simp (maxSteps := 1000000) (implicitDefEqProofs := false) only [↓zb, ↓reduceIte, zc, ↓zd, ↓ze, ↓zg, ↓zh, ↓zi, ↓zj, ↓zk, ↓zl, ↓zn, ↓zo, ↓zp, ↓zq, ↓zr, ↓zt, ↓zu, ↓zv, ↓zw, ↓zx, ↓zy, ↓zz, ↓zba, ↓zbb, ↓zbc, ↓zbd, ↓zbe, ↓zbf, ↓zbg, ↓zbh, ↓zbi, ↓zbj, ↓zbk, ↓zbl, ↓zbm, ↓zbn, ↓zbo, ↓zbp, ↓zbq, ↓zbr, ↓zbs, ↓zbt, ↓zbu, ↓zbv, ↓zbw, ↓zbx, ↓zby, ↓zbz, ↓zca, ↓zcb, ↓zcc, ↓zcd, ↓zce, ↓zcf, ↓zcg, ↓zch, ↓zci, ↓zcj, ↓zck, ↓zcl, ↓zcm, ↓zcn, ↓zco, ↓zcp, ↓zcq, ↓zcr, ↓zcs, ↓zct, ↓zcu, ↓zcv, ↓zcw, ↓mt, zcx, kwl, ziw, zcy, zcz, zda, zdb, zdc, zix, ziy, ziz, zja, zdd, zde, zdf, zdg, zdh, zdi, zdj, zdk, zdl, zdm, zdn, zdo, zdp, zdq, zjb, Int.reduceEq, Int.reduceNe, zjc, zjd, Nat.reduceEqDiff, Int.reduceLT, Int.reduceLE, Int.reduceNeg, Int.reduceToNat, zje, kdC, zdr, zjf, zjg, nk1, nk2, nk3, nk4, nk5, zjh, zds, zdt, zdu, zdv, ic1, ic2, ic3, ic4, ic5, ic6, zdw, String.reduceBEq, p60, p50, AH.set_self, AH.set_ne, Kx.more, Kx.comp, zji, zjj, zjk, ↓zdx, ↓zdy, ↓zdz, ↓zea, ↓zeb, ↓zec, ↓zed, ↓zee, ↓zef, ↓zeg, ↓zeh, ↓zei, ↓zej, ↓zek, ↓zel, ↓zem, ↓zen, ↓zeo, ↓zep, ↓zeq, ↓zer, ↓zes, ↓zet, ↓zeu, ↓zev, ↓zew, ↓zex, ↓zey, ↓zez, ↓zfa, ↓zfb, ↓zfc, ↓zfd, ↓zfe, ↓zff, ↓zfg, ↓zfh, ↓zfi, ↓zfj, ↓zfk, ↓zfl, ↓zfm, ↓zfn, ↓zfo, ↓zfp, ↓zfq, ↓zfr, ↓zfs, ↓mtE, ↓zft, ↓zfu, ↓zfv, ↓zfw, ↓zfx, ↓zfy, ↓zfz, ↓zga, ↓zgb, ↓zgc, ↓zgd, ↓zge, ↓zgf, ↓zgg, zgh, zgi, zgj, zgk, zgl, zgm, zgn, zgo, zgp, zgq, zgr, zgs, zgt, zgu, zgv, zgw, zgx, zgy, zgz, zha, zhb, zhc, zhd, zhe, zhf, zhg, zhh, zhi, zhj, zhk, zhl, zhm, zhn, zho, zhp, zhq, zhr, zhs, zht, zhu, zhv, zhw, ↓zhx, ↓zhy, ↓zhz, ↓zia, ↓zib, zic, zid, zie, zif, zig, zih, ↓zii, ↓zij, ↓zik, ↓zil, ↓zim, ↓zin, ↓zio, ↓ziq, ↓zir, pk0, pk1, pk2, pk3, pk4, pk5, pk6, zjl, zjm, zjn, zjo, zjp, zjq, zjr, zjs, zjt, zju, zjv, zjw, zjx, zjy, zjz, zka, zkb, zkc, zkd, zke, zkf, zkg, zkh, zki, zkj, reduceCtorEq, zkk, zkl, zkm, zkn, zko, String.reduceEq, Nat.reduceAdd, Nat.reduceLeDiff, Nat.reduceLT, zkp, zkq, zkr, zks, ↓zis, zit, ↓ziu, ziv, *])
    rw [dput_dI]; exact fin _ rfl
  · (simp (maxSteps := 1000000) (implicitDefEqProofs := false) only [↓zb, ↓reduceIte, zc, ↓zd, ↓ze, ↓zg, ↓zh, ↓zi, ↓zj, ↓zk, ↓zl, ↓zn, ↓zo, ↓zp, ↓zq, ↓zr, ↓zt, ↓zu, ↓zv, ↓zw, ↓zx, ↓zy, ↓zz, ↓zba, ↓zbb, ↓zbc, ↓zbd, ↓zbe, ↓zbf, ↓zbg, ↓zbh, ↓zbi, ↓zbj, ↓zbk, ↓zbl, ↓zbm, ↓zbn, ↓zbo, ↓zbp, ↓zbq, ↓zbr, ↓zbs, ↓zbt, ↓zbu, ↓zbv, ↓zbw, ↓zbx, ↓zby, ↓zbz, ↓zca, ↓zcb, ↓zcc, ↓zcd, ↓zce, ↓zcf, ↓zcg, ↓zch, ↓zci, ↓zcj, ↓zck, ↓zcl, ↓zcm, ↓zcn, ↓zco, ↓zcp, ↓zcq, ↓zcr, ↓zcs, ↓zct, ↓zcu, ↓zcv, ↓zcw, ↓mt, zcx, kwl, ziw, zcy, zcz, zda, zdb, zdc, zix, ziy, ziz, zja, zdd, zde, zdf, zdg, zdh, zdi, zdj, zdk, zdl, zdm, zdn, zdo, zdp, zdq, zjb, Int.reduceEq, Int.reduceNe, zjc, zjd, Nat.reduceEqDiff, Int.reduceLT, Int.reduceLE, Int.reduceNeg, Int.reduceToNat, zje, kdC, zdr, zjf, zjg, nk1, nk2, nk3, nk4, nk5, zjh, zds, zdt, zdu, zdv, ic1, ic2, ic3, ic4, ic5, ic6, zdw, String.reduceBEq, p60, p50, AH.set_self, AH.set_ne, Kx.more, Kx.comp, zji, zjj, zjk, ↓zdx, ↓zdy, ↓zdz, ↓zea, ↓zeb, ↓zec, ↓zed, ↓zee, ↓zef, ↓zeg, ↓zeh, ↓zei, ↓zej, ↓zek, ↓zel, ↓zem, ↓zen, ↓zeo, ↓zep, ↓zeq, ↓zer, ↓zes, ↓zet, ↓zeu, ↓zev, ↓zew, ↓zex, ↓zey, ↓zez, ↓zfa, ↓zfb, ↓zfc, ↓zfd, ↓zfe, ↓zff, ↓zfg, ↓zfh, ↓zfi, ↓zfj, ↓zfk, ↓zfl, ↓zfm, ↓zfn, ↓zfo, ↓zfp, ↓zfq, ↓zfr, ↓zfs, ↓mtE, ↓zft, ↓zfu, ↓zfv, ↓zfw, ↓zfx, ↓zfy, ↓zfz, ↓zga, ↓zgb, ↓zgc, ↓zgd, ↓zge, ↓zgf, ↓zgg, zgh, zgi, zgj, zgk, zgl, zgm, zgn, zgo, zgp, zgq, zgr, zgs, zgt, zgu, zgv, zgw, zgx, zgy, zgz, zha, zhb, zhc, zhd, zhe, zhf, zhg, zhh, zhi, zhj, zhk, zhl, zhm, zhn, zho, zhp, zhq, zhr, zhs, zht, zhu, zhv, zhw, ↓zhx, ↓zhy, ↓zhz, ↓zia, ↓zib, zic, zid, zie, zif, zig, zih, ↓zii, ↓zij, ↓zik, ↓zil, ↓zim, ↓zin, ↓zio, ↓ziq, ↓zir, pk0, pk1, pk2, pk3, pk4, pk5, pk6, zjl, zjm, zjn, zjo, zjp, zjq, zjr, zjs, zjt, zju, zjv, zjw, zjx, zjy, zjz, zka, zkb, zkc, zkd, zke, zkf, zkg, zkh, zki, zkj, reduceCtorEq, zkk, zkl, zkm, zkn, zko, String.reduceEq, Nat.reduceAdd, Nat.reduceLeDiff, Nat.reduceLT, zkp, zkq, zkr, zks, ↓zis, zit, ↓ziu, ziv, *])
    intro hsz fin fin0
    refine ⟨by rw [dI_length]; exact hsz _ hl, seqsL_cons ?_⟩
    (simp (maxSteps := 1000000) (implicitDefEqProofs := false) only [↓zb, ↓reduceIte, zc, ↓zd, ↓ze, ↓zg, ↓zh, ↓zi, ↓zj, ↓zk, ↓zl, ↓zn, ↓zo, ↓zp, ↓zq, ↓zr, ↓zt, ↓zu, ↓zv, ↓zw, ↓zx, ↓zy, ↓zz, ↓zba, ↓zbb, ↓zbc, ↓zbd, ↓zbe, ↓zbf, ↓zbg, ↓zbh, ↓zbi, ↓zbj, ↓zbk, ↓zbl, ↓zbm, ↓zbn, ↓zbo, ↓zbp, ↓zbq, ↓zbr, ↓zbs, ↓zbt, ↓zbu, ↓zbv, ↓zbw, ↓zbx, ↓zby, ↓zbz, ↓zca, ↓zcb, ↓zcc, ↓zcd, ↓zce, ↓zcf, ↓zcg, ↓zch, ↓zci, ↓zcj, ↓zck, ↓zcl, ↓zcm, ↓zcn, ↓zco, ↓zcp, ↓zcq, ↓zcr, ↓zcs, ↓zct, ↓zcu, ↓zcv, ↓zcw, ↓mt, zcx, kwl, ziw, zcy, zcz, zda, zdb, zdc, zix, ziy, ziz, zja, zdd, zde, zdf, zdg, zdh, zdi, zdj, zdk, zdl, zdm, zdn, zdo, zdp, zdq, zjb, Int.reduceEq, Int.reduceNe, zjc, zjd, Nat.reduceEqDiff, Int.reduceLT, Int.reduceLE, Int.reduceNeg, Int.reduceToNat, zje, kdC, zdr, zjf, zjg, nk1, nk2, nk3, nk4, nk5, zjh, zds, zdt, zdu, zdv, ic1, ic2, ic3, ic4, ic5, ic6, zdw, String.reduceBEq, p60, p50, AH.set_self, AH.set_ne, Kx.more, Kx.comp, zji, zjj, zjk, ↓zdx, ↓zdy, ↓zdz, ↓zea, ↓zeb, ↓zec, ↓zed, ↓zee, ↓zef, ↓zeg, ↓zeh, ↓zei, ↓zej, ↓zek, ↓zel, ↓zem, ↓zen, ↓zeo, ↓zep, ↓zeq, ↓zer, ↓zes, ↓zet, ↓zeu, ↓zev, ↓zew, ↓zex, ↓zey, ↓zez, ↓zfa, ↓zfb, ↓zfc, ↓zfd, ↓zfe, ↓zff, ↓zfg, ↓zfh, ↓zfi, ↓zfj, ↓zfk, ↓zfl, ↓zfm, ↓zfn, ↓zfo, ↓zfp, ↓zfq, ↓zfr, ↓zfs, ↓mtE, ↓zft, ↓zfu, ↓zfv, ↓zfw, ↓zfx, ↓zfy, ↓zfz, ↓zga, ↓zgb, ↓zgc, ↓zgd, ↓zge, ↓zgf, ↓zgg, zgh, zgi, zgj, zgk, zgl, zgm, zgn, zgo, zgp, zgq, zgr, zgs, zgt, zgu, zgv, zgw, zgx, zgy, zgz, zha, zhb, zhc, zhd, zhe, zhf, zhg, zhh, zhi, zhj, zhk, zhl, zhm, zhn, zho, zhp, zhq, zhr, zhs, zht, zhu, zhv, zhw, ↓zhx, ↓zhy, ↓zhz, ↓zia, ↓zib, zic, zid, zie, zif, zig, zih, ↓zii, ↓zij, ↓zik, ↓zil, ↓zim, ↓zin, ↓zio, ↓ziq, ↓zir, pk0, pk1, pk2, pk3, pk4, pk5, pk6, zjl, zjm, zjn, zjo, zjp, zjq, zjr, zjs, zjt, zju, zjv, zjw, zjx, zjy, zjz, zka, zkb, zkc, zkd, zke, zkf, zkg, zkh, zki, zkj, reduceCtorEq, zkk, zkl, zkm, zkn, zko, String.reduceEq, Nat.reduceAdd, Nat.reduceLeDiff, Nat.reduceLT, zkp, zkq, zkr, zks, ↓zis, zit, ↓ziu, ziv, *])
    rw [dput_dI]; exact fin _ rfl
  · (simp (maxSteps := 1000000) (implicitDefEqProofs := false) only [↓zb, ↓reduceIte, zc, ↓zd, ↓ze, ↓zg, ↓zh, ↓zi, ↓zj, ↓zk, ↓zl, ↓zn, ↓zo, ↓zp, ↓zq, ↓zr, ↓zt, ↓zu, ↓zv, ↓zw, ↓zx, ↓zy, ↓zz, ↓zba, ↓zbb, ↓zbc, ↓zbd, ↓zbe, ↓zbf, ↓zbg, ↓zbh, ↓zbi, ↓zbj, ↓zbk, ↓zbl, ↓zbm, ↓zbn, ↓zbo, ↓zbp, ↓zbq, ↓zbr, ↓zbs, ↓zbt, ↓zbu, ↓zbv, ↓zbw, ↓zbx, ↓zby, ↓zbz, ↓zca, ↓zcb, ↓zcc, ↓zcd, ↓zce, ↓zcf, ↓zcg, ↓zch, ↓zci, ↓zcj, ↓zck, ↓zcl, ↓zcm, ↓zcn, ↓zco, ↓zcp, ↓zcq, ↓zcr, ↓zcs, ↓zct, ↓zcu, ↓zcv, ↓zcw, ↓mt, zcx, kwl, ziw, zcy, zcz, zda, zdb, zdc, zix, ziy, ziz, zja, zdd, zde, zdf, zdg, zdh, zdi, zdj, zdk, zdl, zdm, zdn, zdo, zdp, zdq, zjb, Int.reduceEq, Int.reduceNe, zjc, zjd, Nat.reduceEqDiff, Int.reduceLT, Int.reduceLE, Int.reduceNeg, Int.reduceToNat, zje, kdC, zdr, zjf, zjg, nk1, nk2, nk3, nk4, nk5, zjh, zds, zdt, zdu, zdv, ic1, ic2, ic3, ic4, ic5, ic6, zdw, String.reduceBEq, p60, p50, AH.set_self, AH.set_ne, Kx.more, Kx.comp, zji, zjj, zjk, ↓zdx, ↓zdy, ↓zdz, ↓zea, ↓zeb, ↓zec, ↓zed, ↓zee, ↓zef, ↓zeg, ↓zeh, ↓zei, ↓zej, ↓zek, ↓zel, ↓zem, ↓zen, ↓zeo, ↓zep, ↓zeq, ↓zer, ↓zes, ↓zet, ↓zeu, ↓zev, ↓zew, ↓zex, ↓zey, ↓zez, ↓zfa, ↓zfb, ↓zfc, ↓zfd, ↓zfe, ↓zff, ↓zfg, ↓zfh, ↓zfi, ↓zfj, ↓zfk, ↓zfl, ↓zfm, ↓zfn, ↓zfo, ↓zfp, ↓zfq, ↓zfr, ↓zfs, ↓mtE, ↓zft, ↓zfu, ↓zfv, ↓zfw, ↓zfx, ↓zfy, ↓zfz, ↓zga, ↓zgb, ↓zgc, ↓zgd, ↓zge, ↓zgf, ↓zgg, zgh, zgi, zgj, zgk, zgl, zgm, zgn, zgo, zgp, zgq, zgr, zgs, zgt, zgu, zgv, zgw, zgx, zgy, zgz, zha, zhb, zhc, zhd, zhe, zhf, zhg, zhh, zhi, zhj, zhk, zhl, zhm, zhn, zho, zhp, zhq, zhr, zhs, zht, zhu, zhv, zhw, ↓zhx, ↓zhy, ↓zhz, ↓zia, ↓zib, zic, zid, zie, zif, zig, zih, ↓zii, ↓zij, ↓zik, ↓zil, ↓zim, ↓zin, ↓zio, ↓ziq, ↓zir, pk0, pk1, pk2, pk3, pk4, pk5, pk6, zjl, zjm, zjn, zjo, zjp, zjq, zjr, zjs, zjt, zju, zjv, zjw, zjx, zjy, zjz, zka, zkb, zkc, zkd, zke, zkf, zkg, zkh, zki, zkj, reduceCtorEq, zkk, zkl, zkm, zkn, zko, String.reduceEq, Nat.reduceAdd, Nat.reduceLeDiff, Nat.reduceLT, zkp, zkq, zkr, zks, ↓zis, zit, ↓ziu, ziv, *])
    intro hsz fin fin0
    refine ⟨by rw [dI_length]; exact hsz _ hl, seqsL_cons ?_⟩
    (simp (maxSteps := 1000000) (implicitDefEqProofs := false) only [↓zb, ↓reduceIte, zc, ↓zd, ↓ze, ↓zg, ↓zh, ↓zi, ↓zj, ↓zk, ↓zl, ↓zn, ↓zo, ↓zp, ↓zq, ↓zr, ↓zt, ↓zu, ↓zv, ↓zw, ↓zx, ↓zy, ↓zz, ↓zba, ↓zbb, ↓zbc, ↓zbd, ↓zbe, ↓zbf, ↓zbg, ↓zbh, ↓zbi, ↓zbj, ↓zbk, ↓zbl, ↓zbm, ↓zbn, ↓zbo, ↓zbp, ↓zbq, ↓zbr, ↓zbs, ↓zbt, ↓zbu, ↓zbv, ↓zbw, ↓zbx, ↓zby, ↓zbz, ↓zca, ↓zcb, ↓zcc, ↓zcd, ↓zce, ↓zcf, ↓zcg, ↓zch, ↓zci, ↓zcj, ↓zck, ↓zcl, ↓zcm, ↓zcn, ↓zco, ↓zcp, ↓zcq, ↓zcr, ↓zcs, ↓zct, ↓zcu, ↓zcv, ↓zcw, ↓mt, zcx, kwl, ziw, zcy, zcz, zda, zdb, zdc, zix, ziy, ziz, zja, zdd, zde, zdf, zdg, zdh, zdi, zdj, zdk, zdl, zdm, zdn, zdo, zdp, zdq, zjb, Int.reduceEq, Int.reduceNe, zjc, zjd, Nat.reduceEqDiff, Int.reduceLT, Int.reduceLE, Int.reduceNeg, Int.reduceToNat, zje, kdC, zdr, zjf, zjg, nk1, nk2, nk3, nk4, nk5, zjh, zds, zdt, zdu, zdv, ic1, ic2, ic3, ic4, ic5, ic6, zdw, String.reduceBEq, p60, p50, AH.set_self, AH.set_ne, Kx.more, Kx.comp, zji, zjj, zjk, ↓zdx, ↓zdy, ↓zdz, ↓zea, ↓zeb, ↓zec, ↓zed, ↓zee, ↓zef, ↓zeg, ↓zeh, ↓zei, ↓zej, ↓zek, ↓zel, ↓zem, ↓zen, ↓zeo, ↓zep, ↓zeq, ↓zer, ↓zes, ↓zet, ↓zeu, ↓zev, ↓zew, ↓zex, ↓zey, ↓zez, ↓zfa, ↓zfb, ↓zfc, ↓zfd, ↓zfe, ↓zff, ↓zfg, ↓zfh, ↓zfi, ↓zfj, ↓zfk, ↓zfl, ↓zfm, ↓zfn, ↓zfo, ↓zfp, ↓zfq, ↓zfr, ↓zfs, ↓mtE, ↓zft, ↓zfu, ↓zfv, ↓zfw, ↓zfx, ↓zfy, ↓zfz, ↓zga, ↓zgb, ↓zgc, ↓zgd, ↓zge, ↓zgf, ↓zgg, zgh, zgi, zgj, zgk, zgl, zgm, zgn, zgo, zgp, zgq, zgr, zgs, zgt, zgu, zgv, zgw, zgx, zgy, zgz, zha, zhb, zhc, zhd, zhe, zhf, zhg, zhh, zhi, zhj, zhk, zhl, zhm, zhn, zho, zhp, zhq, zhr, zhs, zht, zhu, zhv, zhw, ↓zhx, ↓zhy, ↓zhz, ↓zia, ↓zib, zic, zid, zie, zif, zig, zih, ↓zii, ↓zij, ↓zik, ↓zil, ↓zim, ↓zin, ↓zio, ↓ziq, ↓zir, pk0, pk1, pk2, pk3, pk4, pk5, pk6, zjl, zjm, zjn, zjo, zjp, zjq, zjr, zjs, zjt, zju, zjv, zjw, zjx, zjy, zjz, zka, zkb, zkc, zkd, zke, zkf, zkg, zkh, zki, zkj, reduceCtorEq, zkk, zkl, zkm, zkn, zko, String.reduceEq, Nat.reduceAdd, Nat.reduceLeDiff, Nat.reduceLT, zkp, zkq, zkr, zks, ↓zis, zit, ↓ziu, ziv, *])
    rw [dput_dI]; exact fin _ rfl
  · rename_i a x y s
    have hdv : DivOk s := DivOk.of (by omega) (by omega)
    have hs0 : s ≠ 0 := by omega
    (simp (maxSteps := 1000000) (implicitDefEqProofs := false) only [↓zb, ↓reduceIte, zc, ↓zd, ↓ze, ↓zg, ↓zh, ↓zi, ↓zj, ↓zk, ↓zl, ↓zn, ↓zo, ↓zp, ↓zq, ↓zr, ↓zt, ↓zu, ↓zv, ↓zw, ↓zx, ↓zy, ↓zz, ↓zba, ↓zbb, ↓zbc, ↓zbd, ↓zbe, ↓zbf, ↓zbg, ↓zbh, ↓zbi, ↓zbj, ↓zbk, ↓zbl, ↓zbm, ↓zbn, ↓zbo, ↓zbp, ↓zbq, ↓zbr, ↓zbs, ↓zbt, ↓zbu, ↓zbv, ↓zbw, ↓zbx, ↓zby, ↓zbz, ↓zca, ↓zcb, ↓zcc, ↓zcd, ↓zce, ↓zcf, ↓zcg, ↓zch, ↓zci, ↓zcj, ↓zck, ↓zcl, ↓zcm, ↓zcn, ↓zco, ↓zcp, ↓zcq, ↓zcr, ↓zcs, ↓zct, ↓zcu, ↓zcv, ↓zcw, ↓mt, zcx, kwl, ziw, zcy, zcz, zda, zdb, zdc, zix, ziy, ziz, zja, zdd, zde, zdf, zdg, zdh, zdi, zdj, zdk, zdl, zdm, zdn, zdo, zdp, zdq, zjb, Int.reduceEq, Int.reduceNe, zjc, zjd, Nat.reduceEqDiff, Int.reduceLT, Int.reduceLE, Int.reduceNeg, Int.reduceToNat, zje, kdC, zdr, zjf, zjg, nk1, nk2, nk3, nk4, nk5, zjh, zds, zdt, zdu, zdv, ic1, ic2, ic3, ic4, ic5, ic6, zdw, String.reduceBEq, p60, p50, AH.set_self, AH.set_ne, Kx.more, Kx.comp, zji, zjj, zjk, ↓zdx, ↓zdy, ↓zdz, ↓zea, ↓zeb, ↓zec, ↓zed, ↓zee, ↓zef, ↓zeg, ↓zeh, ↓zei, ↓zej, ↓zek, ↓zel, ↓zem, ↓zen, ↓zeo, ↓zep, ↓zeq, ↓zer, ↓zes, ↓zet, ↓zeu, ↓zev, ↓zew, ↓zex, ↓zey, ↓zez, ↓zfa, ↓zfb, ↓zfc, ↓zfd, ↓zfe, ↓zff, ↓zfg, ↓zfh, ↓zfi, ↓zfj, ↓zfk, ↓zfl, ↓zfm, ↓zfn, ↓zfo, ↓zfp, ↓zfq, ↓zfr, ↓zfs, ↓mtE, ↓zft, ↓zfu, ↓zfv, ↓zfw, ↓zfx, ↓zfy, ↓zfz, ↓zga, ↓zgb, ↓zgc, ↓zgd, ↓zge, ↓zgf, ↓zgg, zgh, zgi, zgj, zgk, zgl, zgm, zgn, zgo, zgp, zgq, zgr, zgs, zgt, zgu, zgv, zgw, zgx, zgy, zgz, zha, zhb, zhc, zhd, zhe, zhf, zhg, zhh, zhi, zhj, zhk, zhl, zhm, zhn, zho, zhp, zhq, zhr, zhs, zht, zhu, zhv, zhw, ↓zhx, ↓zhy, ↓zhz, ↓zia, ↓zib, zic, zid, zie, zif, zig, zih, ↓zii, ↓zij, ↓zik, ↓zil, ↓zim, ↓zin, ↓zio, ↓ziq, ↓zir, pk0, pk1, pk2, pk3, pk4, pk5, pk6, zjl, zjm, zjn, zjo, zjp, zjq, zjr, zjs, zjt, zju, zjv, zjw, zjx, zjy, zjz, zka, zkb, zkc, zkd, zke, zkf, zkg, zkh, zki, zkj, reduceCtorEq, zkk, zkl, zkm, zkn, zko, String.reduceEq, Nat.reduceAdd, Nat.reduceLeDiff, Nat.reduceLT, zkp, zkq, zkr, zks, ↓zis, zit, ↓ziu, ziv, *])
    intro hsz fin fin0
    rw [dput_dI, dput_dI, dI_length, dI_length]
    refine ⟨hsz _ hl, Nat.le_trans (pI_length ..) (Nat.le_trans (Nat.add_le_add_right hl 1) (by decide)), seqsL_cons ?_⟩
    (simp (maxSteps := 1000000) (implicitDefEqProofs := false) only [↓zb, ↓reduceIte, zc, ↓zd, ↓ze, ↓zg, ↓zh, ↓zi, ↓zj, ↓zk, ↓zl, ↓zn, ↓zo, ↓zp, ↓zq, ↓zr, ↓zt, ↓zu, ↓zv, ↓zw, ↓zx, ↓zy, ↓zz, ↓zba, ↓zbb, ↓zbc, ↓zbd, ↓zbe, ↓zbf, ↓zbg, ↓zbh, ↓zbi, ↓zbj, ↓zbk, ↓zbl, ↓zbm, ↓zbn, ↓zbo, ↓zbp, ↓zbq, ↓zbr, ↓zbs, ↓zbt, ↓zbu, ↓zbv, ↓zbw, ↓zbx, ↓zby, ↓zbz, ↓zca, ↓zcb, ↓zcc, ↓zcd, ↓zce, ↓zcf, ↓zcg, ↓zch, ↓zci, ↓zcj, ↓zck, ↓zcl, ↓zcm, ↓zcn, ↓zco, ↓zcp, ↓zcq, ↓zcr, ↓zcs, ↓zct, ↓zcu, ↓zcv, ↓zcw, ↓mt, zcx, kwl, ziw, zcy, zcz, zda, zdb, zdc, zix, ziy, ziz, zja, zdd, zde, zdf, zdg, zdh, zdi, zdj, zdk, zdl, zdm, zdn, zdo, zdp, zdq, zjb, Int.reduceEq, Int.reduceNe, zjc, zjd, Nat.reduceEqDiff, Int.reduceLT, Int.reduceLE, Int.reduceNeg, Int.reduceToNat, zje, kdC, zdr, zjf, zjg, nk1, nk2, nk3, nk4, nk5, zjh, zds, zdt, zdu, zdv, ic1, ic2, ic3, ic4, ic5, ic6, zdw, String.reduceBEq, p60, p50, AH.set_self, AH.set_ne, Kx.more, Kx.comp, zji, zjj, zjk, ↓zdx, ↓zdy, ↓zdz, ↓zea, ↓zeb, ↓zec, ↓zed, ↓zee, ↓zef, ↓zeg, ↓zeh, ↓zei, ↓zej, ↓zek, ↓zel, ↓zem, ↓zen, ↓zeo, ↓zep, ↓zeq, ↓zer, ↓zes, ↓zet, ↓zeu, ↓zev, ↓zew, ↓zex, ↓zey, ↓zez, ↓zfa, ↓zfb, ↓zfc, ↓zfd, ↓zfe, ↓zff, ↓zfg, ↓zfh, ↓zfi, ↓zfj, ↓zfk, ↓zfl, ↓zfm, ↓zfn, ↓zfo, ↓zfp, ↓zfq, ↓zfr, ↓zfs, ↓mtE, ↓zft, ↓zfu, ↓zfv, ↓zfw, ↓zfx, ↓zfy, ↓zfz, ↓zga, ↓zgb, ↓zgc, ↓zgd, ↓zge, ↓zgf, ↓zgg, zgh, zgi, zgj, zgk, zgl, zgm, zgn, zgo, zgp, zgq, zgr, zgs, zgt, zgu, zgv, zgw, zgx, zgy, zgz, zha, zhb, zhc, zhd, zhe, zhf, zhg, zhh, zhi, zhj, zhk, zhl, zhm, zhn, zho, zhp, zhq, zhr, zhs, zht, zhu, zhv, zhw, ↓zhx, ↓zhy, ↓zhz, ↓zia, ↓zib, zic, zid, zie, zif, zig, zih, ↓zii, ↓zij, ↓zik, ↓zil, ↓zim, ↓zin, ↓zio, ↓ziq, ↓zir, pk0, pk1, pk2, pk3, pk4, pk5, pk6, zjl, zjm, zjn, zjo, zjp, zjq, zjr, zjs, zjt, zju, zjv, zjw, zjx, zjy, zjz, zka, zkb, zkc, zkd, zke, zkf, zkg, zkh, zki, zkj, reduceCtorEq, zkk, zkl, zkm, zkn, zko, String.reduceEq, Nat.reduceAdd, Nat.reduceLeDiff, Nat.reduceLT, zkp, zkq, zkr, zks, ↓zis, zit, ↓ziu, ziv, *])
    rw [set_set]; exact fin _ rfl
  · rename_i a b x s
    have hm : IntMulOk (val es a) s := mulOk_right (by omega) (by omega)
    (simp (maxSteps := 1000000) (implicitDefEqProofs := false) only [↓zb, ↓reduceIte, zc, ↓zd, ↓ze, ↓zg, ↓zh, ↓zi, ↓zj, ↓zk, ↓zl, ↓zn, ↓zo, ↓zp, ↓zq, ↓zr, ↓zt, ↓zu, ↓zv, ↓zw, ↓zx, ↓zy, ↓zz, ↓zba, ↓zbb, ↓zbc, ↓zbd, ↓zbe, ↓zbf, ↓zbg, ↓zbh, ↓zbi, ↓zbj, ↓zbk, ↓zbl, ↓zbm, ↓zbn, ↓zbo, ↓zbp, ↓zbq, ↓zbr, ↓zbs, ↓zbt, ↓zbu, ↓zbv, ↓zbw, ↓zbx, ↓zby, ↓zbz, ↓zca, ↓zcb, ↓zcc, ↓zcd, ↓zce, ↓zcf, ↓zcg, ↓zch, ↓zci, ↓zcj, ↓zck, ↓zcl, ↓zcm, ↓zcn, ↓zco, ↓zcp, ↓zcq, ↓zcr, ↓zcs, ↓zct, ↓zcu, ↓zcv, ↓zcw, ↓mt, zcx, kwl, ziw, zcy, zcz, zda, zdb, zdc, zix, ziy, ziz, zja, zdd, zde, zdf, zdg, zdh, zdi, zdj, zdk, zdl, zdm, zdn, zdo, zdp, zdq, zjb, Int.reduceEq, Int.reduceNe, zjc, zjd, Nat.reduceEqDiff, Int.reduceLT, Int.reduceLE, Int.reduceNeg, Int.reduceToNat, zje, kdC, zdr, zjf, zjg, nk1, nk2, nk3, nk4, nk5, zjh, zds, zdt, zdu, zdv, ic1, ic2, ic3, ic4, ic5, ic6, zdw, String.reduceBEq, p60, p50, AH.set_self, AH.set_ne, Kx.more, Kx.comp, zji, zjj, zjk, ↓zdx, ↓zdy, ↓zdz, ↓zea, ↓zeb, ↓zec, ↓zed, ↓zee, ↓zef, ↓zeg, ↓zeh, ↓zei, ↓zej, ↓zek, ↓zel, ↓zem, ↓zen, ↓zeo, ↓zep, ↓zeq, ↓zer, ↓zes, ↓zet, ↓zeu, ↓zev, ↓zew, ↓zex, ↓zey, ↓zez, ↓zfa, ↓zfb, ↓zfc, ↓zfd, ↓zfe, ↓zff, ↓zfg, ↓zfh, ↓zfi, ↓zfj, ↓zfk, ↓zfl, ↓zfm, ↓zfn, ↓zfo, ↓zfp, ↓zfq, ↓zfr, ↓zfs, ↓mtE, ↓zft, ↓zfu, ↓zfv, ↓zfw, ↓zfx, ↓zfy, ↓zfz, ↓zga, ↓zgb, ↓zgc, ↓zgd, ↓zge, ↓zgf, ↓zgg, zgh, zgi, zgj, zgk, zgl, zgm, zgn, zgo, zgp, zgq, zgr, zgs, zgt, zgu, zgv, zgw, zgx, zgy, zgz, zha, zhb, zhc, zhd, zhe, zhf, zhg, zhh, zhi, zhj, zhk, zhl, zhm, zhn, zho, zhp, zhq, zhr, zhs, zht, zhu, zhv, zhw, ↓zhx, ↓zhy, ↓zhz, ↓zia, ↓zib, zic, zid, zie, zif, zig, zih, ↓zii, ↓zij, ↓zik, ↓zil, ↓zim, ↓zin, ↓zio, ↓ziq, ↓zir, pk0, pk1, pk2, pk3, pk4, pk5, pk6, zjl, zjm, zjn, zjo, zjp, zjq, zjr, zjs, zjt, zju, zjv, zjw, zjx, zjy, zjz, zka, zkb, zkc, zkd, zke, zkf, zkg, zkh, zki, zkj, reduceCtorEq, zkk, zkl, zkm, zkn, zko, String.reduceEq, Nat.reduceAdd, Nat.reduceLeDiff, Nat.reduceLT, zkp, zkq, zkr, zks, ↓zis, zit, ↓ziu, ziv, *])
    intro hsz fin fin0
    refine ⟨by rw [dI_length]; exact hsz _ hl, seqsL_cons ?_⟩
    (simp (maxSteps := 1000000) (implicitDefEqProofs := false) only [↓zb, ↓reduceIte, zc, ↓zd, ↓ze, ↓zg, ↓zh, ↓zi, ↓zj, ↓zk, ↓zl, ↓zn, ↓zo, ↓zp, ↓zq, ↓zr, ↓zt, ↓zu, ↓zv, ↓zw, ↓zx, ↓zy, ↓zz, ↓zba, ↓zbb, ↓zbc, ↓zbd, ↓zbe, ↓zbf, ↓zbg, ↓zbh, ↓zbi, ↓zbj, ↓zbk, ↓zbl, ↓zbm, ↓zbn, ↓zbo, ↓zbp, ↓zbq, ↓zbr, ↓zbs, ↓zbt, ↓zbu, ↓zbv, ↓zbw, ↓zbx, ↓zby, ↓zbz, ↓zca, ↓zcb, ↓zcc, ↓zcd, ↓zce, ↓zcf, ↓zcg, ↓zch, ↓zci, ↓zcj, ↓zck, ↓zcl, ↓zcm, ↓zcn, ↓zco, ↓zcp, ↓zcq, ↓zcr, ↓zcs, ↓zct, ↓zcu, ↓zcv, ↓zcw, ↓mt, zcx, kwl, ziw, zcy, zcz, zda, zdb, zdc, zix, ziy, ziz, zja, zdd, zde, zdf, zdg, zdh, zdi, zdj, zdk, zdl, zdm, zdn, zdo, zdp, zdq, zjb, Int.reduceEq, Int.reduceNe, zjc, zjd, Nat.reduceEqDiff, Int.reduceLT, Int.reduceLE, Int.reduceNeg, Int.reduceToNat, zje, kdC, zdr, zjf, zjg, nk1, nk2, nk3, nk4, nk5, zjh, zds, zdt, zdu, zdv, ic1, ic2, ic3, ic4, ic5, ic6, zdw, String.reduceBEq, p60, p50, AH.set_self, AH.set_ne, Kx.more, Kx.comp, zji, zjj, zjk, ↓zdx, ↓zdy, ↓zdz, ↓zea, ↓zeb, ↓zec, ↓zed, ↓zee, ↓zef, ↓zeg, ↓zeh, ↓zei, ↓zej, ↓zek, ↓zel, ↓zem, ↓zen, ↓zeo, ↓zep, ↓zeq, ↓zer, ↓zes, ↓zet, ↓zeu, ↓zev, ↓zew, ↓zex, ↓zey, ↓zez, ↓zfa, ↓zfb, ↓zfc, ↓zfd, ↓zfe, ↓zff, ↓zfg, ↓zfh, ↓zfi, ↓zfj, ↓zfk, ↓zfl, ↓zfm, ↓zfn, ↓zfo, ↓zfp, ↓zfq, ↓zfr, ↓zfs, ↓mtE, ↓zft, ↓zfu, ↓zfv, ↓zfw, ↓zfx, ↓zfy, ↓zfz, ↓zga, ↓zgb, ↓zgc, ↓zgd, ↓zge, ↓zgf, ↓zgg, zgh, zgi, zgj, zgk, zgl, zgm, zgn, zgo, zgp, zgq, zgr, zgs, zgt, zgu, zgv, zgw, zgx, zgy, zgz, zha, zhb, zhc, zhd, zhe, zhf, zhg, zhh, zhi, zhj, zhk, zhl, zhm, zhn, zho, zhp, zhq, zhr, zhs, zht, zhu, zhv, zhw, ↓zhx, ↓zhy, ↓zhz, ↓zia, ↓zib, zic, zid, zie, zif, zig, zih, ↓zii, ↓zij, ↓zik, ↓zil, ↓zim, ↓zin, ↓zio, ↓ziq, ↓zir, pk0, pk1, pk2, pk3, pk4, pk5, pk6, zjl, zjm, zjn, zjo, zjp, zjq, zjr, zjs, zjt, zju, zjv, zjw, zjx, zjy, zjz, zka, zkb, zkc, zkd, zke, zkf, zkg, zkh, zki, zkj, reduceCtorEq, zkk, zkl, zkm, zkn, zko, String.reduceEq, Nat.reduceAdd, Nat.reduceLeDiff, Nat.reduceLT, zkp, zkq, zkr, zks, ↓zis, zit, ↓ziu, ziv, *])
    rw [dput_dI]; exact fin _ rfl

def T_back : Tr := fun fz vs Q _ H => ∃ (p r e : Nat) (st : Stp) (rd el : DI), vs = [.ref p, .ref r, .ref e] ∧ H.get p = some (.tuple st.vs) ∧ H.get r = some (.sdict (dI rd)) ∧ H.get e = some (.sdict (dI el)) ∧
  (keys rd).Nodup ∧ rd.length ≤ 1000 ∧ (∀ x ∈ st.comes, x ∈ keys rd) ∧ (∀ x ∈ st.goes, x ∈ keys el) ∧ st.sizeOk ∧ Low st rd ∧ gives fz (.sdict (dI (bwd st rd el))) Q H
def ctB : List (Str × Tr) := [("staying_of", T_staying), ("brought", T_brought)]
def mk9 (kind : Int) (a b x y : Str) (s n : Int) : Stp := mkStp (if kind = 7 then 5 else if kind = 8 then 6 else kind) a b x y s n
def T_step : Tr := fun fz vs Q _ H => ∃ (kind s n : Int) (p q : Nat) (a b x y : Str) (r : List V), vs = [.int kind, .ref p, .ref q, .int s, .int n] ∧ H.get p = some (.list (.str a :: .str b :: r)) ∧ H.get q = some (.list [.str x, .str y]) ∧ 0 ≤ kind ∧ kind < 9 ∧ made fz (.tuple (mk9 kind a b x y s n).vs) Q H
def T_other : Tr := fun fz vs Q _ H => ∃ (l p r : Nat) (at0 : Int) (scr : List Int) (st : Stp) (es : DI), vs = [.ref l, .int at0, .ref p, .ref r] ∧ H.get l = some (.rlist (scr.map V.int)) ∧ 0 ≤ at0 ∧ H.get p = some (.tuple st.vs) ∧ H.get r = some (.sdict (dI es)) ∧
  (keys es).Nodup ∧ es.length ≤ 60 ∧ (∀ x ∈ st.comes, x ∈ keys es) ∧ st.sizeOk ∧ ∀ H' f one, Ext H H' → H.get f = none → f ∉ fz → H'.get f = some (.sdict (dI one)) → (keys one).Perm (keys es) → Low st one → Q (.ref f) H'
def ctO : List (Str × Tr) := [("_law_cell_at", T_cell), ("_law_number", T_number)]



theorem ok_back {C : Cx} {a : Addr} {fz : List Nat} {d : Nat} {vs : List V} {Q : V → AH → Prop} {X : Value → AH → Prop} {H : AH} (F : FnAt C a ["step", "reading", "elder"] (fbody pw 8) (fscope pw 8))
    (G : GenT C d gvB ctB true) (h : T_back fz vs Q X H) : CallsTo C fz (d + 1) true (.ref a) vs Q X H := by
  obtain ⟨p, r, e, st, rd, el, rfl, hp, hr, he, nd, hz, hc, hg, hs, low, h⟩ := h
  refine callsTo_tab (n := 60) F G rfl rfl rfl ⟨rfl, rfl⟩ ?_
  intro kd gv ct ρ hT
  generalize hb : fbody pw 8 = b
  conv at hb => lhs; whnf
  subst hb
  generalize hb : (fscope pw 8).names = b at hT
  conv at hb => lhs; whnf
  subst hb
  simp only [tabAll, noneAll, gvB, ctB, List.map_cons, List.map_nil, List.zip_cons_cons, List.zip_nil_left, List.zip_nil_right, and_true, true_and] at hT
  refine seqsL_cons ?_
  (simp (maxSteps := 1000000) (implicitDefEqProofs := false) only [↓zb, ↓reduceIte, zc, ↓zd, ↓ze, ↓zg, ↓zh, ↓zi, ↓zj, ↓zk, ↓zl, ↓zn, ↓zo, ↓zp, ↓zq, ↓zr, ↓zt, ↓zu, ↓zv, ↓zw, ↓zx, ↓zy, ↓zz, ↓zba, ↓zbb, ↓zbc, ↓zbd, ↓zbe, ↓zbf, ↓zbg, ↓zbh, ↓zbi, ↓zbj, ↓zbk, ↓zbl, ↓zbm, ↓zbn, ↓zbo, ↓zbp, ↓zbq, ↓zbr, ↓zbs, ↓zbt, ↓zbu, ↓zbv, ↓zbw, ↓zbx, ↓zby, ↓zbz, ↓zca, ↓zcb, ↓zcc, ↓zcd, ↓zce, ↓zcf, ↓zcg, ↓zch, ↓zci, ↓zcj, ↓zck, ↓zcl, ↓zcm, ↓zcn, ↓zco, ↓zcp, ↓zcq, ↓zcr, ↓zcs, ↓zct, ↓zcu, ↓zcv, ↓zcw, ↓mt, zcx, kwl, ziw, zcy, zcz, zda, zdb, zdc, zix, ziy, ziz, zja, zdd, zde, zdf, zdg, zdh, zdi, zdj, zdk, zdl, zdm, zdn, zdo, zdp, zdq, zjb, Int.reduceEq, Int.reduceNe, zjc, zjd, Nat.reduceEqDiff, Int.reduceLT, Int.reduceLE, Int.reduceNeg, Int.reduceToNat, zje, kdC, zdr, zjf, zjg, nk1, nk2, nk3, nk4, nk5, zjh, zds, zdt, zdu, zdv, ic1, ic2, ic3, ic4, ic5, ic6, zdw, String.reduceBEq, p60, p50, AH.set_self, AH.set_ne, Kx.more, Kx.comp, zji, zjj, zjk, ↓zdx, ↓zdy, ↓zdz, ↓zea, ↓zeb, ↓zec, ↓zed, ↓zee, ↓zef, ↓zeg, ↓zeh, ↓zei, ↓zej, ↓zek, ↓zel, ↓zem, ↓zen, ↓zeo, ↓zep, ↓zeq, ↓zer, ↓zes, ↓zet, ↓zeu, ↓zev, ↓zew, ↓zex, ↓zey, ↓zez, ↓zfa, ↓zfb, ↓zfc, ↓zfd, ↓zfe, ↓zff, ↓zfg, ↓zfh, ↓zfi, ↓zfj, ↓zfk, ↓zfl, ↓zfm, ↓zfn, ↓zfo, ↓zfp, ↓zfq, ↓zfr, ↓zfs, ↓mtE, ↓zft, ↓zfu, ↓zfv, ↓zfw, ↓zfx, ↓zfy, ↓zfz, ↓zga, ↓zgb, ↓zgc, ↓zgd, ↓zge, ↓zgf, ↓zgg, zgh, zgi, zgj, zgk, zgl, zgm, zgn, zgo, zgp, zgq, zgr, zgs, zgt, zgu, zgv, zgw, zgx, zgy, zgz, zha, zhb, zhc, zhd, zhe, zhf, zhg, zhh, zhi, zhj, zhk, zhl, zhm, zhn, zho, zhp, zhq, zhr, zhs, zht, zhu, zhv, zhw, ↓zhx, ↓zhy, ↓zhz, ↓zia, ↓zib, zic, zid, zie, zif, zig, zih, ↓zii, ↓zij, ↓zik, ↓zil, ↓zim, ↓zin, ↓zio, ↓ziq, ↓zir, pk0, pk1, pk2, pk3, pk4, pk5, pk6, zjl, zjm, zjn, zjo, zjp, zjq, zjr, zjs, zjt, zju, zjv, zjw, zjx, zjy, zjz, zka, zkb, zkc, zkd, zke, zkf, zkg, zkh, zki, zkj, reduceCtorEq, zkk, zkl, zkm, zkn, zko, String.reduceEq, Nat.reduceAdd, Nat.reduceLeDiff, Nat.reduceLT, zkp, zkq, zkr, zks, ↓zis, zit, ↓ziu, ziv, *])
  refine ⟨p, st, rfl, hp, ?_⟩
  intro g ng hgf
  refine ⟨r, g, rd, st.comes, rfl, by rw [AH.set_ne _ _ (ne_of_get hr ng)]; exact hr, AH.set_self .., nd, hz, ?_⟩
  intro H₁ f he1 hf hff hfd
  have hf0 : H.get f = none := (Ext.new ng).none hf
  replace he1 : Ext H H₁ := (Ext.new ng).trans he1
  have hp1 := he1 _ _ hp
  have hr1 := he1 _ _ hr
  have hel := he1 _ _ he
  have hfp : p ≠ f := ne_of_get hp hf0
  have hfr : r ≠ f := ne_of_get hr hf0
  have hfe : e ≠ f := ne_of_get he hf0
  have hl : (stay rd st.comes).length ≤ 1000 := Nat.le_trans (List.length_filter_le ..) hz
  have hvr : ∀ k ∈ st.comes, dget (dI rd) k = some (.int (val rd k)) := fun k hk => by rw [dget_dI, gI_val (hc k hk)]; rfl
  have hve : ∀ k ∈ st.goes, dget (dI el) k = some (.int (val el k)) := fun k hk => by rw [dget_dI, gI_val (hg k hk)]; rfl
  have hsz : ∀ n, n ≤ 1000 → n ≤ sizeLine := fun n h => Nat.le_trans h (by decide)
  have fin : ∀ fs, fs = bwd st rd el → Q (.ref f) (H₁.set f (.sdict (dI fs))) := fun fs e => h _ f (he1.set hf0) hf0 hff (by rw [AH.set_self, e])
  have fin0 : H₁.get f = some (.sdict (dI (bwd st rd el))) → Q (.ref f) H₁ := fun e => h _ f he1 hf0 hff e
  replace hsz := Box.mk hsz
  replace fin := Box.mk fin
  replace fin0 := Box.mk fin0
  clear h hp hr he hc hg ng hf hgf
  cases st <;> simp only [Stp.vs, Stp.goes, Stp.comes, Stp.sizeOk, Low, List.mem_cons, List.not_mem_nil, or_false, forall_eq, forall_eq_or_imp, false_implies, implies_true] at hp1 hfd hl hvr hve hs low
  all_goals refine seqsL_cons ?_
  · (simp (maxSteps := 1000000) (implicitDefEqProofs := false) only [↓zb, ↓reduceIte, zc, ↓zd, ↓ze, ↓zg, ↓zh, ↓zi, ↓zj, ↓zk, ↓zl, ↓zn, ↓zo, ↓zp, ↓zq, ↓zr, ↓zt, ↓zu, ↓zv, ↓zw, ↓zx, ↓zy, ↓zz, ↓zba, ↓zbb, ↓zbc, ↓zbd, ↓zbe, ↓zbf, ↓zbg, ↓zbh, ↓zbi, ↓zbj, ↓zbk, ↓zbl, ↓zbm, ↓zbn, ↓zbo, ↓zbp, ↓zbq, ↓zbr, ↓zbs, ↓zbt, ↓zbu, ↓zbv, ↓zbw, ↓zbx, ↓zby, ↓zbz, ↓zca, ↓zcb, ↓zcc, ↓zcd, ↓zce, ↓zcf, ↓zcg, ↓zch, ↓zci, ↓zcj, ↓zck, ↓zcl, ↓zcm, ↓zcn, ↓zco, ↓zcp, ↓zcq, ↓zcr, ↓zcs, ↓zct, ↓zcu, ↓zcv, ↓zcw, ↓mt, zcx, kwl, ziw, zcy, zcz, zda, zdb, zdc, zix, ziy, ziz, zja, zdd, zde, zdf, zdg, zdh, zdi, zdj, zdk, zdl, zdm, zdn, zdo, zdp, zdq, zjb, Int.reduceEq, Int.reduceNe, zjc, zjd, Nat.reduceEqDiff, Int.reduceLT, Int.reduceLE, Int.reduceNeg, Int.reduceToNat, zje, kdC, zdr, zjf, zjg, nk1, nk2, nk3, nk4, nk5, zjh, zds, zdt, zdu, zdv, ic1, ic2, ic3, ic4, ic5, ic6, zdw, String.reduceBEq, p60, p50, AH.set_self, AH.set_ne, Kx.more, Kx.comp, zji, zjj, zjk, ↓zdx, ↓zdy, ↓zdz, ↓zea, ↓zeb, ↓zec, ↓zed, ↓zee, ↓zef, ↓zeg, ↓zeh, ↓zei, ↓zej, ↓zek, ↓zel, ↓zem, ↓zen, ↓zeo, ↓zep, ↓zeq, ↓zer, ↓zes, ↓zet, ↓zeu, ↓zev, ↓zew, ↓zex, ↓zey, ↓zez, ↓zfa, ↓zfb, ↓zfc, ↓zfd, ↓zfe, ↓zff, ↓zfg, ↓zfh, ↓zfi, ↓zfj, ↓zfk, ↓zfl, ↓zfm, ↓zfn, ↓zfo, ↓zfp, ↓zfq, ↓zfr, ↓zfs, ↓mtE, ↓zft, ↓zfu, ↓zfv, ↓zfw, ↓zfx, ↓zfy, ↓zfz, ↓zga, ↓zgb, ↓zgc, ↓zgd, ↓zge, ↓zgf, ↓zgg, zgh, zgi, zgj, zgk, zgl, zgm, zgn, zgo, zgp, zgq, zgr, zgs, zgt, zgu, zgv, zgw, zgx, zgy, zgz, zha, zhb, zhc, zhd, zhe, zhf, zhg, zhh, zhi, zhj, zhk, zhl, zhm, zhn, zho, zhp, zhq, zhr, zhs, zht, zhu, zhv, zhw, ↓zhx, ↓zhy, ↓zhz, ↓zia, ↓zib, zic, zid, zie, zif, zig, zih, ↓zii, ↓zij, ↓zik, ↓zil, ↓zim, ↓zin, ↓zio, ↓ziq, ↓zir, pk0, pk1, pk2, pk3, pk4, pk5, pk6, zjl, zjm, zjn, zjo, zjp, zjq, zjr, zjs, zjt, zju, zjv, zjw, zjx, zjy, zjz, zka, zkb, zkc, zkd, zke, zkf, zkg, zkh, zki, zkj, reduceCtorEq, zkk, zkl, zkm, zkn, zko, String.reduceEq, Nat.reduceAdd, Nat.reduceLeDiff, Nat.reduceLT, zkp, zkq, zkr, zks, ↓zis, zit, ↓ziu, ziv, *])
    refine seqsL_cons ?_
    (simp (maxSteps := 1000000) (implicitDefEqProofs := false) only [↓zb, ↓reduceIte, zc, ↓zd, ↓ze, ↓zg, ↓zh, ↓zi, ↓zj, ↓zk, ↓zl, ↓zn, ↓zo, ↓zp, ↓zq, ↓zr, ↓zt, ↓zu, ↓zv, ↓zw, ↓zx, ↓zy, ↓zz, ↓zba, ↓zbb, ↓zbc, ↓zbd, ↓zbe, ↓zbf, ↓zbg, ↓zbh, ↓zbi, ↓zbj, ↓zbk, ↓zbl, ↓zbm, ↓zbn, ↓zbo, ↓zbp, ↓zbq, ↓zbr, ↓zbs, ↓zbt, ↓zbu, ↓zbv, ↓zbw, ↓zbx, ↓zby, ↓zbz, ↓zca, ↓zcb, ↓zcc, ↓zcd, ↓zce, ↓zcf, ↓zcg, ↓zch, ↓zci, ↓zcj, ↓zck, ↓zcl, ↓zcm, ↓zcn, ↓zco, ↓zcp, ↓zcq, ↓zcr, ↓zcs, ↓zct, ↓zcu, ↓zcv, ↓zcw, ↓mt, zcx, kwl, ziw, zcy, zcz, zda, zdb, zdc, zix, ziy, ziz, zja, zdd, zde, zdf, zdg, zdh, zdi, zdj, zdk, zdl, zdm, zdn, zdo, zdp, zdq, zjb, Int.reduceEq, Int.reduceNe, zjc, zjd, Nat.reduceEqDiff, Int.reduceLT, Int.reduceLE, Int.reduceNeg, Int.reduceToNat, zje, kdC, zdr, zjf, zjg, nk1, nk2, nk3, nk4, nk5, zjh, zds, zdt, zdu, zdv, ic1, ic2, ic3, ic4, ic5, ic6, zdw, String.reduceBEq, p60, p50, AH.set_self, AH.set_ne, Kx.more, Kx.comp, zji, zjj, zjk, ↓zdx, ↓zdy, ↓zdz, ↓zea, ↓zeb, ↓zec, ↓zed, ↓zee, ↓zef, ↓zeg, ↓zeh, ↓zei, ↓zej, ↓zek, ↓zel, ↓zem, ↓zen, ↓zeo, ↓zep, ↓zeq, ↓zer, ↓zes, ↓zet, ↓zeu, ↓zev, ↓zew, ↓zex, ↓zey, ↓zez, ↓zfa, ↓zfb, ↓zfc, ↓zfd, ↓zfe, ↓zff, ↓zfg, ↓zfh, ↓zfi, ↓zfj, ↓zfk, ↓zfl, ↓zfm, ↓zfn, ↓zfo, ↓zfp, ↓zfq, ↓zfr, ↓zfs, ↓mtE, ↓zft, ↓zfu, ↓zfv, ↓zfw, ↓zfx, ↓zfy, ↓zfz, ↓zga, ↓zgb, ↓zgc, ↓zgd, ↓zge, ↓zgf, ↓zgg, zgh, zgi, zgj, zgk, zgl, zgm, zgn, zgo, zgp, zgq, zgr, zgs, zgt, zgu, zgv, zgw, zgx, zgy, zgz, zha, zhb, zhc, zhd, zhe, zhf, zhg, zhh, zhi, zhj, zhk, zhl, zhm, zhn, zho, zhp, zhq, zhr, zhs, zht, zhu, zhv, zhw, ↓zhx, ↓zhy, ↓zhz, ↓zia, ↓zib, zic, zid, zie, zif, zig, zih, ↓zii, ↓zij, ↓zik, ↓zil, ↓zim, ↓zin, ↓zio, ↓ziq, ↓zir, pk0, pk1, pk2, pk3, pk4, pk5, pk6, zjl, zjm, zjn, zjo, zjp, zjq, zjr, zjs, zjt, zju, zjv, zjw, zjx, zjy, zjz, zka, zkb, zkc, zkd, zke, zkf, zkg, zkh, zki, zkj, reduceCtorEq, zkk, zkl, zkm, zkn, zko, String.reduceEq, Nat.reduceAdd, Nat.reduceLeDiff, Nat.reduceLT, zkp, zkq, zkr, zks, ↓zis, zit, ↓ziu, ziv, *])
    exact fin0.out hfd
  · (simp (maxSteps := 1000000) (implicitDefEqProofs := false) only [↓zb, ↓reduceIte, zc, ↓zd, ↓ze, ↓zg, ↓zh, ↓zi, ↓zj, ↓zk, ↓zl, ↓zn, ↓zo, ↓zp, ↓zq, ↓zr, ↓zt, ↓zu, ↓zv, ↓zw, ↓zx, ↓zy, ↓zz, ↓zba, ↓zbb, ↓zbc, ↓zbd, ↓zbe, ↓zbf, ↓zbg, ↓zbh, ↓zbi, ↓zbj, ↓zbk, ↓zbl, ↓zbm, ↓zbn, ↓zbo, ↓zbp, ↓zbq, ↓zbr, ↓zbs, ↓zbt, ↓zbu, ↓zbv, ↓zbw, ↓zbx, ↓zby, ↓zbz, ↓zca, ↓zcb, ↓zcc, ↓zcd, ↓zce, ↓zcf, ↓zcg, ↓zch, ↓zci, ↓zcj, ↓zck, ↓zcl, ↓zcm, ↓zcn, ↓zco, ↓zcp, ↓zcq, ↓zcr, ↓zcs, ↓zct, ↓zcu, ↓zcv, ↓zcw, ↓mt, zcx, kwl, ziw, zcy, zcz, zda, zdb, zdc, zix, ziy, ziz, zja, zdd, zde, zdf, zdg, zdh, zdi, zdj, zdk, zdl, zdm, zdn, zdo, zdp, zdq, zjb, Int.reduceEq, Int.reduceNe, zjc, zjd, Nat.reduceEqDiff, Int.reduceLT, Int.reduceLE, Int.reduceNeg, Int.reduceToNat, zje, kdC, zdr, zjf, zjg, nk1, nk2, nk3, nk4, nk5, zjh, zds, zdt, zdu, zdv, ic1, ic2, ic3, ic4, ic5, ic6, zdw, String.reduceBEq, p60, p50, AH.set_self, AH.set_ne, Kx.more, Kx.comp, zji, zjj, zjk, ↓zdx, ↓zdy, ↓zdz, ↓zea, ↓zeb, ↓zec, ↓zed, ↓zee, ↓zef, ↓zeg, ↓zeh, ↓zei, ↓zej, ↓zek, ↓zel, ↓zem, ↓zen, ↓zeo, ↓zep, ↓zeq, ↓zer, ↓zes, ↓zet, ↓zeu, ↓zev, ↓zew, ↓zex, ↓zey, ↓zez, ↓zfa, ↓zfb, ↓zfc, ↓zfd, ↓zfe, ↓zff, ↓zfg, ↓zfh, ↓zfi, ↓zfj, ↓zfk, ↓zfl, ↓zfm, ↓zfn, ↓zfo, ↓zfp, ↓zfq, ↓zfr, ↓zfs, ↓mtE, ↓zft, ↓zfu, ↓zfv, ↓zfw, ↓zfx, ↓zfy, ↓zfz, ↓zga, ↓zgb, ↓zgc, ↓zgd, ↓zge, ↓zgf, ↓zgg, zgh, zgi, zgj, zgk, zgl, zgm, zgn, zgo, zgp, zgq, zgr, zgs, zgt, zgu, zgv, zgw, zgx, zgy, zgz, zha, zhb, zhc, zhd, zhe, zhf, zhg, zhh, zhi, zhj, zhk, zhl, zhm, zhn, zho, zhp, zhq, zhr, zhs, zht, zhu, zhv, zhw, ↓zhx, ↓zhy, ↓zhz, ↓zia, ↓zib, zic, zid, zie, zif, zig, zih, ↓zii, ↓zij, ↓zik, ↓zil, ↓zim, ↓zin, ↓zio, ↓ziq, ↓zir, pk0, pk1, pk2, pk3, pk4, pk5, pk6, zjl, zjm, zjn, zjo, zjp, zjq, zjr, zjs, zjt, zju, zjv, zjw, zjx, zjy, zjz, zka, zkb, zkc, zkd, zke, zkf, zkg, zkh, zki, zkj, reduceCtorEq, zkk, zkl, zkm, zkn, zko, String.reduceEq, Nat.reduceAdd, Nat.reduceLeDiff, Nat.reduceLT, zkp, zkq, zkr, zks, ↓zis, zit, ↓ziu, ziv, *])
    refine ⟨by rw [dI_length]; exact hsz.out _ hl, seqsL_cons ?_⟩
    (simp (maxSteps := 1000000) (implicitDefEqProofs := false) only [↓zb, ↓reduceIte, zc, ↓zd, ↓ze, ↓zg, ↓zh, ↓zi, ↓zj, ↓zk, ↓zl, ↓zn, ↓zo, ↓zp, ↓zq, ↓zr, ↓zt, ↓zu, ↓zv, ↓zw, ↓zx, ↓zy, ↓zz, ↓zba, ↓zbb, ↓zbc, ↓zbd, ↓zbe, ↓zbf, ↓zbg, ↓zbh, ↓zbi, ↓zbj, ↓zbk, ↓zbl, ↓zbm, ↓zbn, ↓zbo, ↓zbp, ↓zbq, ↓zbr, ↓zbs, ↓zbt, ↓zbu, ↓zbv, ↓zbw, ↓zbx, ↓zby, ↓zbz, ↓zca, ↓zcb, ↓zcc, ↓zcd, ↓zce, ↓zcf, ↓zcg, ↓zch, ↓zci, ↓zcj, ↓zck, ↓zcl, ↓zcm, ↓zcn, ↓zco, ↓zcp, ↓zcq, ↓zcr, ↓zcs, ↓zct, ↓zcu, ↓zcv, ↓zcw, ↓mt, zcx, kwl, ziw, zcy, zcz, zda, zdb, zdc, zix, ziy, ziz, zja, zdd, zde, zdf, zdg, zdh, zdi, zdj, zdk, zdl, zdm, zdn, zdo, zdp, zdq, zjb, Int.reduceEq, Int.reduceNe, zjc, zjd, Nat.reduceEqDiff, Int.reduceLT, Int.reduceLE, Int.reduceNeg, Int.reduceToNat, zje, kdC, zdr, zjf, zjg, nk1, nk2, nk3, nk4, nk5, zjh, zds, zdt, zdu, zdv, ic1, ic2, ic3, ic4, ic5, ic6, zdw, String.reduceBEq, p60, p50, AH.set_self, AH.set_ne, Kx.more, Kx.comp, zji, zjj, zjk, ↓zdx, ↓zdy, ↓zdz, ↓zea, ↓zeb, ↓zec, ↓zed, ↓zee, ↓zef, ↓zeg, ↓zeh, ↓zei, ↓zej, ↓zek, ↓zel, ↓zem, ↓zen, ↓zeo, ↓zep, ↓zeq, ↓zer, ↓zes, ↓zet, ↓zeu, ↓zev, ↓zew, ↓zex, ↓zey, ↓zez, ↓zfa, ↓zfb, ↓zfc, ↓zfd, ↓zfe, ↓zff, ↓zfg, ↓zfh, ↓zfi, ↓zfj, ↓zfk, ↓zfl, ↓zfm, ↓zfn, ↓zfo, ↓zfp, ↓zfq, ↓zfr, ↓zfs, ↓mtE, ↓zft, ↓zfu, ↓zfv, ↓zfw, ↓zfx, ↓zfy, ↓zfz, ↓zga, ↓zgb, ↓zgc, ↓zgd, ↓zge, ↓zgf, ↓zgg, zgh, zgi, zgj, zgk, zgl, zgm, zgn, zgo, zgp, zgq, zgr, zgs, zgt, zgu, zgv, zgw, zgx, zgy, zgz, zha, zhb, zhc, zhd, zhe, zhf, zhg, zhh, zhi, zhj, zhk, zhl, zhm, zhn, zho, zhp, zhq, zhr, zhs, zht, zhu, zhv, zhw, ↓zhx, ↓zhy, ↓zhz, ↓zia, ↓zib, zic, zid, zie, zif, zig, zih, ↓zii, ↓zij, ↓zik, ↓zil, ↓zim, ↓zin, ↓zio, ↓ziq, ↓zir, pk0, pk1, pk2, pk3, pk4, pk5, pk6, zjl, zjm, zjn, zjo, zjp, zjq, zjr, zjs, zjt, zju, zjv, zjw, zjx, zjy, zjz, zka, zkb, zkc, zkd, zke, zkf, zkg, zkh, zki, zkj, reduceCtorEq, zkk, zkl, zkm, zkn, zko, String.reduceEq, Nat.reduceAdd, Nat.reduceLeDiff, Nat.reduceLT, zkp, zkq, zkr, zks, ↓zis, zit, ↓ziu, ziv, *])
    rw [dput_dI]; exact fin.out _ rfl
  · (simp (maxSteps := 1000000) (implicitDefEqProofs := false) only [↓zb, ↓reduceIte, zc, ↓zd, ↓ze, ↓zg, ↓zh, ↓zi, ↓zj, ↓zk, ↓zl, ↓zn, ↓zo, ↓zp, ↓zq, ↓zr, ↓zt, ↓zu, ↓zv, ↓zw, ↓zx, ↓zy, ↓zz, ↓zba, ↓zbb, ↓zbc, ↓zbd, ↓zbe, ↓zbf, ↓zbg, ↓zbh, ↓zbi, ↓zbj, ↓zbk, ↓zbl, ↓zbm, ↓zbn, ↓zbo, ↓zbp, ↓zbq, ↓zbr, ↓zbs, ↓zbt, ↓zbu, ↓zbv, ↓zbw, ↓zbx, ↓zby, ↓zbz, ↓zca, ↓zcb, ↓zcc, ↓zcd, ↓zce, ↓zcf, ↓zcg, ↓zch, ↓zci, ↓zcj, ↓zck, ↓zcl, ↓zcm, ↓zcn, ↓zco, ↓zcp, ↓zcq, ↓zcr, ↓zcs, ↓zct, ↓zcu, ↓zcv, ↓zcw, ↓mt, zcx, kwl, ziw, zcy, zcz, zda, zdb, zdc, zix, ziy, ziz, zja, zdd, zde, zdf, zdg, zdh, zdi, zdj, zdk, zdl, zdm, zdn, zdo, zdp, zdq, zjb, Int.reduceEq, Int.reduceNe, zjc, zjd, Nat.reduceEqDiff, Int.reduceLT, Int.reduceLE, Int.reduceNeg, Int.reduceToNat, zje, kdC, zdr, zjf, zjg, nk1, nk2, nk3, nk4, nk5, zjh, zds, zdt, zdu, zdv, ic1, ic2, ic3, ic4, ic5, ic6, zdw, String.reduceBEq, p60, p50, AH.set_self, AH.set_ne, Kx.more, Kx.comp, zji, zjj, zjk, ↓zdx, ↓zdy, ↓zdz, ↓zea, ↓zeb, ↓zec, ↓zed, ↓zee, ↓zef, ↓zeg, ↓zeh, ↓zei, ↓zej, ↓zek, ↓zel, ↓zem, ↓zen, ↓zeo, ↓zep, ↓zeq, ↓zer, ↓zes, ↓zet, ↓zeu, ↓zev, ↓zew, ↓zex, ↓zey, ↓zez, ↓zfa, ↓zfb, ↓zfc, ↓zfd, ↓zfe, ↓zff, ↓zfg, ↓zfh, ↓zfi, ↓zfj, ↓zfk, ↓zfl, ↓zfm, ↓zfn, ↓zfo, ↓zfp, ↓zfq, ↓zfr, ↓zfs, ↓mtE, ↓zft, ↓zfu, ↓zfv, ↓zfw, ↓zfx, ↓zfy, ↓zfz, ↓zga, ↓zgb, ↓zgc, ↓zgd, ↓zge, ↓zgf, ↓zgg, zgh, zgi, zgj, zgk, zgl, zgm, zgn, zgo, zgp, zgq, zgr, zgs, zgt, zgu, zgv, zgw, zgx, zgy, zgz, zha, zhb, zhc, zhd, zhe, zhf, zhg, zhh, zhi, zhj, zhk, zhl, zhm, zhn, zho, zhp, zhq, zhr, zhs, zht, zhu, zhv, zhw, ↓zhx, ↓zhy, ↓zhz, ↓zia, ↓zib, zic, zid, zie, zif, zig, zih, ↓zii, ↓zij, ↓zik, ↓zil, ↓zim, ↓zin, ↓zio, ↓ziq, ↓zir, pk0, pk1, pk2, pk3, pk4, pk5, pk6, zjl, zjm, zjn, zjo, zjp, zjq, zjr, zjs, zjt, zju, zjv, zjw, zjx, zjy, zjz, zka, zkb, zkc, zkd, zke, zkf, zkg, zkh, zki, zkj, reduceCtorEq, zkk, zkl, zkm, zkn, zko, String.reduceEq, Nat.reduceAdd, Nat.reduceLeDiff, Nat.reduceLT, zkp, zkq, zkr, zks, ↓zis, zit, ↓ziu, ziv, *])
    refine ⟨by rw [dI_length]; exact hsz.out _ hl, seqsL_cons ?_⟩
    (simp (maxSteps := 1000000) (implicitDefEqProofs := false) only [↓zb, ↓reduceIte, zc, ↓zd, ↓ze, ↓zg, ↓zh, ↓zi, ↓zj, ↓zk, ↓zl, ↓zn, ↓zo, ↓zp, ↓zq, ↓zr, ↓zt, ↓zu, ↓zv, ↓zw, ↓zx, ↓zy, ↓zz, ↓zba, ↓zbb, ↓zbc, ↓zbd, ↓zbe, ↓zbf, ↓zbg, ↓zbh, ↓zbi, ↓zbj, ↓zbk, ↓zbl, ↓zbm, ↓zbn, ↓zbo, ↓zbp, ↓zbq, ↓zbr, ↓zbs, ↓zbt, ↓zbu, ↓zbv, ↓zbw, ↓zbx, ↓zby, ↓zbz, ↓zca, ↓zcb, ↓zcc, ↓zcd, ↓zce, ↓zcf, ↓zcg, ↓zch, ↓zci, ↓zcj, ↓zck, ↓zcl, ↓zcm, ↓zcn, ↓zco, ↓zcp, ↓zcq, ↓zcr, ↓zcs, ↓zct, ↓zcu, ↓zcv, ↓zcw, ↓mt, zcx, kwl, ziw, zcy, zcz, zda, zdb, zdc, zix, ziy, ziz, zja, zdd, zde, zdf, zdg, zdh, zdi, zdj, zdk, zdl, zdm, zdn, zdo, zdp, zdq, zjb, Int.reduceEq, Int.reduceNe, zjc, zjd, Nat.reduceEqDiff, Int.reduceLT, Int.reduceLE, Int.reduceNeg, Int.reduceToNat, zje, kdC, zdr, zjf, zjg, nk1, nk2, nk3, nk4, nk5, zjh, zds, zdt, zdu, zdv, ic1, ic2, ic3, ic4, ic5, ic6, zdw, String.reduceBEq, p60, p50, AH.set_self, AH.set_ne, Kx.more, Kx.comp, zji, zjj, zjk, ↓zdx, ↓zdy, ↓zdz, ↓zea, ↓zeb, ↓zec, ↓zed, ↓zee, ↓zef, ↓zeg, ↓zeh, ↓zei, ↓zej, ↓zek, ↓zel, ↓zem, ↓zen, ↓zeo, ↓zep, ↓zeq, ↓zer, ↓zes, ↓zet, ↓zeu, ↓zev, ↓zew, ↓zex, ↓zey, ↓zez, ↓zfa, ↓zfb, ↓zfc, ↓zfd, ↓zfe, ↓zff, ↓zfg, ↓zfh, ↓zfi, ↓zfj, ↓zfk, ↓zfl, ↓zfm, ↓zfn, ↓zfo, ↓zfp, ↓zfq, ↓zfr, ↓zfs, ↓mtE, ↓zft, ↓zfu, ↓zfv, ↓zfw, ↓zfx, ↓zfy, ↓zfz, ↓zga, ↓zgb, ↓zgc, ↓zgd, ↓zge, ↓zgf, ↓zgg, zgh, zgi, zgj, zgk, zgl, zgm, zgn, zgo, zgp, zgq, zgr, zgs, zgt, zgu, zgv, zgw, zgx, zgy, zgz, zha, zhb, zhc, zhd, zhe, zhf, zhg, zhh, zhi, zhj, zhk, zhl, zhm, zhn, zho, zhp, zhq, zhr, zhs, zht, zhu, zhv, zhw, ↓zhx, ↓zhy, ↓zhz, ↓zia, ↓zib, zic, zid, zie, zif, zig, zih, ↓zii, ↓zij, ↓zik, ↓zil, ↓zim, ↓zin, ↓zio, ↓ziq, ↓zir, pk0, pk1, pk2, pk3, pk4, pk5, pk6, zjl, zjm, zjn, zjo, zjp, zjq, zjr, zjs, zjt, zju, zjv, zjw, zjx, zjy, zjz, zka, zkb, zkc, zkd, zke, zkf, zkg, zkh, zki, zkj, reduceCtorEq, zkk, zkl, zkm, zkn, zko, String.reduceEq, Nat.reduceAdd, Nat.reduceLeDiff, Nat.reduceLT, zkp, zkq, zkr, zks, ↓zis, zit, ↓ziu, ziv, *])
    rw [dput_dI]; exact fin.out _ rfl
  · (simp (maxSteps := 1000000) (implicitDefEqProofs := false) only [↓zb, ↓reduceIte, zc, ↓zd, ↓ze, ↓zg, ↓zh, ↓zi, ↓zj, ↓zk, ↓zl, ↓zn, ↓zo, ↓zp, ↓zq, ↓zr, ↓zt, ↓zu, ↓zv, ↓zw, ↓zx, ↓zy, ↓zz, ↓zba, ↓zbb, ↓zbc, ↓zbd, ↓zbe, ↓zbf, ↓zbg, ↓zbh, ↓zbi, ↓zbj, ↓zbk, ↓zbl, ↓zbm, ↓zbn, ↓zbo, ↓zbp, ↓zbq, ↓zbr, ↓zbs, ↓zbt, ↓zbu, ↓zbv, ↓zbw, ↓zbx, ↓zby, ↓zbz, ↓zca, ↓zcb, ↓zcc, ↓zcd, ↓zce, ↓zcf, ↓zcg, ↓zch, ↓zci, ↓zcj, ↓zck, ↓zcl, ↓zcm, ↓zcn, ↓zco, ↓zcp, ↓zcq, ↓zcr, ↓zcs, ↓zct, ↓zcu, ↓zcv, ↓zcw, ↓mt, zcx, kwl, ziw, zcy, zcz, zda, zdb, zdc, zix, ziy, ziz, zja, zdd, zde, zdf, zdg, zdh, zdi, zdj, zdk, zdl, zdm, zdn, zdo, zdp, zdq, zjb, Int.reduceEq, Int.reduceNe, zjc, zjd, Nat.reduceEqDiff, Int.reduceLT, Int.reduceLE, Int.reduceNeg, Int.reduceToNat, zje, kdC, zdr, zjf, zjg, nk1, nk2, nk3, nk4, nk5, zjh, zds, zdt, zdu, zdv, ic1, ic2, ic3, ic4, ic5, ic6, zdw, String.reduceBEq, p60, p50, AH.set_self, AH.set_ne, Kx.more, Kx.comp, zji, zjj, zjk, ↓zdx, ↓zdy, ↓zdz, ↓zea, ↓zeb, ↓zec, ↓zed, ↓zee, ↓zef, ↓zeg, ↓zeh, ↓zei, ↓zej, ↓zek, ↓zel, ↓zem, ↓zen, ↓zeo, ↓zep, ↓zeq, ↓zer, ↓zes, ↓zet, ↓zeu, ↓zev, ↓zew, ↓zex, ↓zey, ↓zez, ↓zfa, ↓zfb, ↓zfc, ↓zfd, ↓zfe, ↓zff, ↓zfg, ↓zfh, ↓zfi, ↓zfj, ↓zfk, ↓zfl, ↓zfm, ↓zfn, ↓zfo, ↓zfp, ↓zfq, ↓zfr, ↓zfs, ↓mtE, ↓zft, ↓zfu, ↓zfv, ↓zfw, ↓zfx, ↓zfy, ↓zfz, ↓zga, ↓zgb, ↓zgc, ↓zgd, ↓zge, ↓zgf, ↓zgg, zgh, zgi, zgj, zgk, zgl, zgm, zgn, zgo, zgp, zgq, zgr, zgs, zgt, zgu, zgv, zgw, zgx, zgy, zgz, zha, zhb, zhc, zhd, zhe, zhf, zhg, zhh, zhi, zhj, zhk, zhl, zhm, zhn, zho, zhp, zhq, zhr, zhs, zht, zhu, zhv, zhw, ↓zhx, ↓zhy, ↓zhz, ↓zia, ↓zib, zic, zid, zie, zif, zig, zih, ↓zii, ↓zij, ↓zik, ↓zil, ↓zim, ↓zin, ↓zio, ↓ziq, ↓zir, pk0, pk1, pk2, pk3, pk4, pk5, pk6, zjl, zjm, zjn, zjo, zjp, zjq, zjr, zjs, zjt, zju, zjv, zjw, zjx, zjy, zjz, zka, zkb, zkc, zkd, zke, zkf, zkg, zkh, zki, zkj, reduceCtorEq, zkk, zkl, zkm, zkn, zko, String.reduceEq, Nat.reduceAdd, Nat.reduceLeDiff, Nat.reduceLT, zkp, zkq, zkr, zks, ↓zis, zit, ↓ziu, ziv, *])
    refine ⟨by rw [dI_length]; exact hsz.out _ hl, seqsL_cons ?_⟩
    (simp (maxSteps := 1000000) (implicitDefEqProofs := false) only [↓zb, ↓reduceIte, zc, ↓zd, ↓ze, ↓zg, ↓zh, ↓zi, ↓zj, ↓zk, ↓zl, ↓zn, ↓zo, ↓zp, ↓zq, ↓zr, ↓zt, ↓zu, ↓zv, ↓zw, ↓zx, ↓zy, ↓zz, ↓zba, ↓zbb, ↓zbc, ↓zbd, ↓zbe, ↓zbf, ↓zbg, ↓zbh, ↓zbi, ↓zbj, ↓zbk, ↓zbl, ↓zbm, ↓zbn, ↓zbo, ↓zbp, ↓zbq, ↓zbr, ↓zbs, ↓zbt, ↓zbu, ↓zbv, ↓zbw, ↓zbx, ↓zby, ↓zbz, ↓zca, ↓zcb, ↓zcc, ↓zcd, ↓zce, ↓zcf, ↓zcg, ↓zch, ↓zci, ↓zcj, ↓zck, ↓zcl, ↓zcm, ↓zcn, ↓zco, ↓zcp, ↓zcq, ↓zcr, ↓zcs, ↓zct, ↓zcu, ↓zcv, ↓zcw, ↓mt, zcx, kwl, ziw, zcy, zcz, zda, zdb, zdc, zix, ziy, ziz, zja, zdd, zde, zdf, zdg, zdh, zdi, zdj, zdk, zdl, zdm, zdn, zdo, zdp, zdq, zjb, Int.reduceEq, Int.reduceNe, zjc, zjd, Nat.reduceEqDiff, Int.reduceLT, Int.reduceLE, Int.reduceNeg, Int.reduceToNat, zje, kdC, zdr, zjf, zjg, nk1, nk2, nk3, nk4, nk5, zjh, zds, zdt, zdu, zdv, ic1, ic2, ic3, ic4, ic5, ic6, zdw, String.reduceBEq, p60, p50, AH.set_self, AH.set_ne, Kx.more, Kx.comp, zji, zjj, zjk, ↓zdx, ↓zdy, ↓zdz, ↓zea, ↓zeb, ↓zec, ↓zed, ↓zee, ↓zef, ↓zeg, ↓zeh, ↓zei, ↓zej, ↓zek, ↓zel, ↓zem, ↓zen, ↓zeo, ↓zep, ↓zeq, ↓zer, ↓zes, ↓zet, ↓zeu, ↓zev, ↓zew, ↓zex, ↓zey, ↓zez, ↓zfa, ↓zfb, ↓zfc, ↓zfd, ↓zfe, ↓zff, ↓zfg, ↓zfh, ↓zfi, ↓zfj, ↓zfk, ↓zfl, ↓zfm, ↓zfn, ↓zfo, ↓zfp, ↓zfq, ↓zfr, ↓zfs, ↓mtE, ↓zft, ↓zfu, ↓zfv, ↓zfw, ↓zfx, ↓zfy, ↓zfz, ↓zga, ↓zgb, ↓zgc, ↓zgd, ↓zge, ↓zgf, ↓zgg, zgh, zgi, zgj, zgk, zgl, zgm, zgn, zgo, zgp, zgq, zgr, zgs, zgt, zgu, zgv, zgw, zgx, zgy, zgz, zha, zhb, zhc, zhd, zhe, zhf, zhg, zhh, zhi, zhj, zhk, zhl, zhm, zhn, zho, zhp, zhq, zhr, zhs, zht, zhu, zhv, zhw, ↓zhx, ↓zhy, ↓zhz, ↓zia, ↓zib, zic, zid, zie, zif, zig, zih, ↓zii, ↓zij, ↓zik, ↓zil, ↓zim, ↓zin, ↓zio, ↓ziq, ↓zir, pk0, pk1, pk2, pk3, pk4, pk5, pk6, zjl, zjm, zjn, zjo, zjp, zjq, zjr, zjs, zjt, zju, zjv, zjw, zjx, zjy, zjz, zka, zkb, zkc, zkd, zke, zkf, zkg, zkh, zki, zkj, reduceCtorEq, zkk, zkl, zkm, zkn, zko, String.reduceEq, Nat.reduceAdd, Nat.reduceLeDiff, Nat.reduceLT, zkp, zkq, zkr, zks, ↓zis, zit, ↓ziu, ziv, *])
    rw [dput_dI]; exact fin.out _ rfl
  · (simp (maxSteps := 1000000) (implicitDefEqProofs := false) only [↓zb, ↓reduceIte, zc, ↓zd, ↓ze, ↓zg, ↓zh, ↓zi, ↓zj, ↓zk, ↓zl, ↓zn, ↓zo, ↓zp, ↓zq, ↓zr, ↓zt, ↓zu, ↓zv, ↓zw, ↓zx, ↓zy, ↓zz, ↓zba, ↓zbb, ↓zbc, ↓zbd, ↓zbe, ↓zbf, ↓zbg, ↓zbh, ↓zbi, ↓zbj, ↓zbk, ↓zbl, ↓zbm, ↓zbn, ↓zbo, ↓zbp, ↓zbq, ↓zbr, ↓zbs, ↓zbt, ↓zbu, ↓zbv, ↓zbw, ↓zbx, ↓zby, ↓zbz, ↓zca, ↓zcb, ↓zcc, ↓zcd, ↓zce, ↓zcf, ↓zcg, ↓zch, ↓zci, ↓zcj, ↓zck, ↓zcl, ↓zcm, ↓zcn, ↓zco, ↓zcp, ↓zcq, ↓zcr, ↓zcs, ↓zct, ↓zcu, ↓zcv, ↓zcw, ↓mt, zcx, kwl, ziw, zcy, zcz, zda, zdb, zdc, zix, ziy, ziz, zja, zdd, zde, zdf, zdg, zdh, zdi, zdj, zdk, zdl, zdm, zdn, zdo, zdp, zdq, zjb, Int.reduceEq, Int.reduceNe, zjc, zjd, Nat.reduceEqDiff, Int.reduceLT, Int.reduceLE, Int.reduceNeg, Int.reduceToNat, zje, kdC, zdr, zjf, zjg, nk1, nk2, nk3, nk4, nk5, zjh, zds, zdt, zdu, zdv, ic1, ic2, ic3, ic4, ic5, ic6, zdw, String.reduceBEq, p60, p50, AH.set_self, AH.set_ne, Kx.more, Kx.comp, zji, zjj, zjk, ↓zdx, ↓zdy, ↓zdz, ↓zea, ↓zeb, ↓zec, ↓zed, ↓zee, ↓zef, ↓zeg, ↓zeh, ↓zei, ↓zej, ↓zek, ↓zel, ↓zem, ↓zen, ↓zeo, ↓zep, ↓zeq, ↓zer, ↓zes, ↓zet, ↓zeu, ↓zev, ↓zew, ↓zex, ↓zey, ↓zez, ↓zfa, ↓zfb, ↓zfc, ↓zfd, ↓zfe, ↓zff, ↓zfg, ↓zfh, ↓zfi, ↓zfj, ↓zfk, ↓zfl, ↓zfm, ↓zfn, ↓zfo, ↓zfp, ↓zfq, ↓zfr, ↓zfs, ↓mtE, ↓zft, ↓zfu, ↓zfv, ↓zfw, ↓zfx, ↓zfy, ↓zfz, ↓zga, ↓zgb, ↓zgc, ↓zgd, ↓zge, ↓zgf, ↓zgg, zgh, zgi, zgj, zgk, zgl, zgm, zgn, zgo, zgp, zgq, zgr, zgs, zgt, zgu, zgv, zgw, zgx, zgy, zgz, zha, zhb, zhc, zhd, zhe, zhf, zhg, zhh, zhi, zhj, zhk, zhl, zhm, zhn, zho, zhp, zhq, zhr, zhs, zht, zhu, zhv, zhw, ↓zhx, ↓zhy, ↓zhz, ↓zia, ↓zib, zic, zid, zie, zif, zig, zih, ↓zii, ↓zij, ↓zik, ↓zil, ↓zim, ↓zin, ↓zio, ↓ziq, ↓zir, pk0, pk1, pk2, pk3, pk4, pk5, pk6, zjl, zjm, zjn, zjo, zjp, zjq, zjr, zjs, zjt, zju, zjv, zjw, zjx, zjy, zjz, zka, zkb, zkc, zkd, zke, zkf, zkg, zkh, zki, zkj, reduceCtorEq, zkk, zkl, zkm, zkn, zko, String.reduceEq, Nat.reduceAdd, Nat.reduceLeDiff, Nat.reduceLT, zkp, zkq, zkr, zks, ↓zis, zit, ↓ziu, ziv, *])
    refine ⟨by rw [dI_length]; exact hsz.out _ hl, seqsL_cons ?_⟩
    (simp (maxSteps := 1000000) (implicitDefEqProofs := false) only [↓zb, ↓reduceIte, zc, ↓zd, ↓ze, ↓zg, ↓zh, ↓zi, ↓zj, ↓zk, ↓zl, ↓zn, ↓zo, ↓zp, ↓zq, ↓zr, ↓zt, ↓zu, ↓zv, ↓zw, ↓zx, ↓zy, ↓zz, ↓zba, ↓zbb, ↓zbc, ↓zbd, ↓zbe, ↓zbf, ↓zbg, ↓zbh, ↓zbi, ↓zbj, ↓zbk, ↓zbl, ↓zbm, ↓zbn, ↓zbo, ↓zbp, ↓zbq, ↓zbr, ↓zbs, ↓zbt, ↓zbu, ↓zbv, ↓zbw, ↓zbx, ↓zby, ↓zbz, ↓zca, ↓zcb, ↓zcc, ↓zcd, ↓zce, ↓zcf, ↓zcg, ↓zch, ↓zci, ↓zcj, ↓zck, ↓zcl, ↓zcm, ↓zcn, ↓zco, ↓zcp, ↓zcq, ↓zcr, ↓zcs, ↓zct, ↓zcu, ↓zcv, ↓zcw, ↓mt, zcx, kwl, ziw, zcy, zcz, zda, zdb, zdc, zix, ziy, ziz, zja, zdd, zde, zdf, zdg, zdh, zdi, zdj, zdk, zdl, zdm, zdn, zdo, zdp, zdq, zjb, Int.reduceEq, Int.reduceNe, zjc, zjd, Nat.reduceEqDiff, Int.reduceLT, Int.reduceLE, Int.reduceNeg, Int.reduceToNat, zje, kdC, zdr, zjf, zjg, nk1, nk2, nk3, nk4, nk5, zjh, zds, zdt, zdu, zdv, ic1, ic2, ic3, ic4, ic5, ic6, zdw, String.reduceBEq, p60, p50, AH.set_self, AH.set_ne, Kx.more, Kx.comp, zji, zjj, zjk, ↓zdx, ↓zdy, ↓zdz, ↓zea, ↓zeb, ↓zec, ↓zed, ↓zee, ↓zef, ↓zeg, ↓zeh, ↓zei, ↓zej, ↓zek, ↓zel, ↓zem, ↓zen, ↓zeo, ↓zep, ↓zeq, ↓zer, ↓zes, ↓zet, ↓zeu, ↓zev, ↓zew, ↓zex, ↓zey, ↓zez, ↓zfa, ↓zfb, ↓zfc, ↓zfd, ↓zfe, ↓zff, ↓zfg, ↓zfh, ↓zfi, ↓zfj, ↓zfk, ↓zfl, ↓zfm, ↓zfn, ↓zfo, ↓zfp, ↓zfq, ↓zfr, ↓zfs, ↓mtE, ↓zft, ↓zfu, ↓zfv, ↓zfw, ↓zfx, ↓zfy, ↓zfz, ↓zga, ↓zgb, ↓zgc, ↓zgd, ↓zge, ↓zgf, ↓zgg, zgh, zgi, zgj, zgk, zgl, zgm, zgn, zgo, zgp, zgq, zgr, zgs, zgt, zgu, zgv, zgw, zgx, zgy, zgz, zha, zhb, zhc, zhd, zhe, zhf, zhg, zhh, zhi, zhj, zhk, zhl, zhm, zhn, zho, zhp, zhq, zhr, zhs, zht, zhu, zhv, zhw, ↓zhx, ↓zhy, ↓zhz, ↓zia, ↓zib, zic, zid, zie, zif, zig, zih, ↓zii, ↓zij, ↓zik, ↓zil, ↓zim, ↓zin, ↓zio, ↓ziq, ↓zir, pk0, pk1, pk2, pk3, pk4, pk5, pk6, zjl, zjm, zjn, zjo, zjp, zjq, zjr, zjs, zjt, zju, zjv, zjw, zjx, zjy, zjz, zka, zkb, zkc, zkd, zke, zkf, zkg, zkh, zki, zkj, reduceCtorEq, zkk, zkl, zkm, zkn, zko, String.reduceEq, Nat.reduceAdd, Nat.reduceLeDiff, Nat.reduceLT, zkp, zkq, zkr, zks, ↓zis, zit, ↓ziu, ziv, *])
    rw [dput_dI]; exact fin.out _ rfl
  · rename_i a x y s
    have hm : IntMulOk (val rd x) s := mulOk_right (by omega) (by omega)
    (simp (maxSteps := 1000000) (implicitDefEqProofs := false) only [↓zb, ↓reduceIte, zc, ↓zd, ↓ze, ↓zg, ↓zh, ↓zi, ↓zj, ↓zk, ↓zl, ↓zn, ↓zo, ↓zp, ↓zq, ↓zr, ↓zt, ↓zu, ↓zv, ↓zw, ↓zx, ↓zy, ↓zz, ↓zba, ↓zbb, ↓zbc, ↓zbd, ↓zbe, ↓zbf, ↓zbg, ↓zbh, ↓zbi, ↓zbj, ↓zbk, ↓zbl, ↓zbm, ↓zbn, ↓zbo, ↓zbp, ↓zbq, ↓zbr, ↓zbs, ↓zbt, ↓zbu, ↓zbv, ↓zbw, ↓zbx, ↓zby, ↓zbz, ↓zca, ↓zcb, ↓zcc, ↓zcd, ↓zce, ↓zcf, ↓zcg, ↓zch, ↓zci, ↓zcj, ↓zck, ↓zcl, ↓zcm, ↓zcn, ↓zco, ↓zcp, ↓zcq, ↓zcr, ↓zcs, ↓zct, ↓zcu, ↓zcv, ↓zcw, ↓mt, zcx, kwl, ziw, zcy, zcz, zda, zdb, zdc, zix, ziy, ziz, zja, zdd, zde, zdf, zdg, zdh, zdi, zdj, zdk, zdl, zdm, zdn, zdo, zdp, zdq, zjb, Int.reduceEq, Int.reduceNe, zjc, zjd, Nat.reduceEqDiff, Int.reduceLT, Int.reduceLE, Int.reduceNeg, Int.reduceToNat, zje, kdC, zdr, zjf, zjg, nk1, nk2, nk3, nk4, nk5, zjh, zds, zdt, zdu, zdv, ic1, ic2, ic3, ic4, ic5, ic6, zdw, String.reduceBEq, p60, p50, AH.set_self, AH.set_ne, Kx.more, Kx.comp, zji, zjj, zjk, ↓zdx, ↓zdy, ↓zdz, ↓zea, ↓zeb, ↓zec, ↓zed, ↓zee, ↓zef, ↓zeg, ↓zeh, ↓zei, ↓zej, ↓zek, ↓zel, ↓zem, ↓zen, ↓zeo, ↓zep, ↓zeq, ↓zer, ↓zes, ↓zet, ↓zeu, ↓zev, ↓zew, ↓zex, ↓zey, ↓zez, ↓zfa, ↓zfb, ↓zfc, ↓zfd, ↓zfe, ↓zff, ↓zfg, ↓zfh, ↓zfi, ↓zfj, ↓zfk, ↓zfl, ↓zfm, ↓zfn, ↓zfo, ↓zfp, ↓zfq, ↓zfr, ↓zfs, ↓mtE, ↓zft, ↓zfu, ↓zfv, ↓zfw, ↓zfx, ↓zfy, ↓zfz, ↓zga, ↓zgb, ↓zgc, ↓zgd, ↓zge, ↓zgf, ↓zgg, zgh, zgi, zgj, zgk, zgl, zgm, zgn, zgo, zgp, zgq, zgr, zgs, zgt, zgu, zgv, zgw, zgx, zgy, zgz, zha, zhb, zhc, zhd, zhe, zhf, zhg, zhh, zhi, zhj, zhk, zhl, zhm, zhn, zho, zhp, zhq, zhr, zhs, zht, zhu, zhv, zhw, ↓zhx, ↓zhy, ↓zhz, ↓zia, ↓zib, zic, zid, zie, zif, zig, zih, ↓zii, ↓zij, ↓zik, ↓zil, ↓zim, ↓zin, ↓zio, ↓ziq, ↓zir, pk0, pk1, pk2, pk3, pk4, pk5, pk6, zjl, zjm, zjn, zjo, zjp, zjq, zjr, zjs, zjt, zju, zjv, zjw, zjx, zjy, zjz, zka, zkb, zkc, zkd, zke, zkf, zkg, zkh, zki, zkj, reduceCtorEq, zkk, zkl, zkm, zkn, zko, String.reduceEq, Nat.reduceAdd, Nat.reduceLeDiff, Nat.reduceLT, zkp, zkq, zkr, zks, ↓zis, zit, ↓ziu, ziv, *])
    refine ⟨by rw [dI_length]; exact hsz.out _ hl, seqsL_cons ?_⟩
    (simp (maxSteps := 1000000) (implicitDefEqProofs := false) only [↓zb, ↓reduceIte, zc, ↓zd, ↓ze, ↓zg, ↓zh, ↓zi, ↓zj, ↓zk, ↓zl, ↓zn, ↓zo, ↓zp, ↓zq, ↓zr, ↓zt, ↓zu, ↓zv, ↓zw, ↓zx, ↓zy, ↓zz, ↓zba, ↓zbb, ↓zbc, ↓zbd, ↓zbe, ↓zbf, ↓zbg, ↓zbh, ↓zbi, ↓zbj, ↓zbk, ↓zbl, ↓zbm, ↓zbn, ↓zbo, ↓zbp, ↓zbq, ↓zbr, ↓zbs, ↓zbt, ↓zbu, ↓zbv, ↓zbw, ↓zbx, ↓zby, ↓zbz, ↓zca, ↓zcb, ↓zcc, ↓zcd, ↓zce, ↓zcf, ↓zcg, ↓zch, ↓zci, ↓zcj, ↓zck, ↓zcl, ↓zcm, ↓zcn, ↓zco, ↓zcp, ↓zcq, ↓zcr, ↓zcs, ↓zct, ↓zcu, ↓zcv, ↓zcw, ↓mt, zcx, kwl, ziw, zcy, zcz, zda, zdb, zdc, zix, ziy, ziz, zja, zdd, zde, zdf, zdg, zdh, zdi, zdj, zdk, zdl, zdm, zdn, zdo, zdp, zdq, zjb, Int.reduceEq, Int.reduceNe, zjc, zjd, Nat.reduceEqDiff, Int.reduceLT, Int.reduceLE, Int.reduceNeg, Int.reduceToNat, zje, kdC, zdr, zjf, zjg, nk1, nk2, nk3, nk4, nk5, zjh, zds, zdt, zdu, zdv, ic1, ic2, ic3, ic4, ic5, ic6, zdw, String.reduceBEq, p60, p50, AH.set_self, AH.set_ne, Kx.more, Kx.comp, zji, zjj, zjk, ↓zdx, ↓zdy, ↓zdz, ↓zea, ↓zeb, ↓zec, ↓zed, ↓zee, ↓zef, ↓zeg, ↓zeh, ↓zei, ↓zej, ↓zek, ↓zel, ↓zem, ↓zen, ↓zeo, ↓zep, ↓zeq, ↓zer, ↓zes, ↓zet, ↓zeu, ↓zev, ↓zew, ↓zex, ↓zey, ↓zez, ↓zfa, ↓zfb, ↓zfc, ↓zfd, ↓zfe, ↓zff, ↓zfg, ↓zfh, ↓zfi, ↓zfj, ↓zfk, ↓zfl, ↓zfm, ↓zfn, ↓zfo, ↓zfp, ↓zfq, ↓zfr, ↓zfs, ↓mtE, ↓zft, ↓zfu, ↓zfv, ↓zfw, ↓zfx, ↓zfy, ↓zfz, ↓zga, ↓zgb, ↓zgc, ↓zgd, ↓zge, ↓zgf, ↓zgg, zgh, zgi, zgj, zgk, zgl, zgm, zgn, zgo, zgp, zgq, zgr, zgs, zgt, zgu, zgv, zgw, zgx, zgy, zgz, zha, zhb, zhc, zhd, zhe, zhf, zhg, zhh, zhi, zhj, zhk, zhl, zhm, zhn, zho, zhp, zhq, zhr, zhs, zht, zhu, zhv, zhw, ↓zhx, ↓zhy, ↓zhz, ↓zia, ↓zib, zic, zid, zie, zif, zig, zih, ↓zii, ↓zij, ↓zik, ↓zil, ↓zim, ↓zin, ↓zio, ↓ziq, ↓zir, pk0, pk1, pk2, pk3, pk4, pk5, pk6, zjl, zjm, zjn, zjo, zjp, zjq, zjr, zjs, zjt, zju, zjv, zjw, zjx, zjy, zjz, zka, zkb, zkc, zkd, zke, zkf, zkg, zkh, zki, zkj, reduceCtorEq, zkk, zkl, zkm, zkn, zko, String.reduceEq, Nat.reduceAdd, Nat.reduceLeDiff, Nat.reduceLT, zkp, zkq, zkr, zks, ↓zis, zit, ↓ziu, ziv, *])
    rw [dput_dI]; exact fin.out _ rfl
  · rename_i a b x s
    have hdv : DivOk s := DivOk.of (by omega) (by omega)
    have hs0 : s ≠ 0 := by omega
    have hm : IntMulOk ((val el b).fdiv s) s := mulOk_right (by omega) (by omega)
    (simp (maxSteps := 1000000) (implicitDefEqProofs := false) only [↓zb, ↓reduceIte, zc, ↓zd, ↓ze, ↓zg, ↓zh, ↓zi, ↓zj, ↓zk, ↓zl, ↓zn, ↓zo, ↓zp, ↓zq, ↓zr, ↓zt, ↓zu, ↓zv, ↓zw, ↓zx, ↓zy, ↓zz, ↓zba, ↓zbb, ↓zbc, ↓zbd, ↓zbe, ↓zbf, ↓zbg, ↓zbh, ↓zbi, ↓zbj, ↓zbk, ↓zbl, ↓zbm, ↓zbn, ↓zbo, ↓zbp, ↓zbq, ↓zbr, ↓zbs, ↓zbt, ↓zbu, ↓zbv, ↓zbw, ↓zbx, ↓zby, ↓zbz, ↓zca, ↓zcb, ↓zcc, ↓zcd, ↓zce, ↓zcf, ↓zcg, ↓zch, ↓zci, ↓zcj, ↓zck, ↓zcl, ↓zcm, ↓zcn, ↓zco, ↓zcp, ↓zcq, ↓zcr, ↓zcs, ↓zct, ↓zcu, ↓zcv, ↓zcw, ↓mt, zcx, kwl, ziw, zcy, zcz, zda, zdb, zdc, zix, ziy, ziz, zja, zdd, zde, zdf, zdg, zdh, zdi, zdj, zdk, zdl, zdm, zdn, zdo, zdp, zdq, zjb, Int.reduceEq, Int.reduceNe, zjc, zjd, Nat.reduceEqDiff, Int.reduceLT, Int.reduceLE, Int.reduceNeg, Int.reduceToNat, zje, kdC, zdr, zjf, zjg, nk1, nk2, nk3, nk4, nk5, zjh, zds, zdt, zdu, zdv, ic1, ic2, ic3, ic4, ic5, ic6, zdw, String.reduceBEq, p60, p50, AH.set_self, AH.set_ne, Kx.more, Kx.comp, zji, zjj, zjk, ↓zdx, ↓zdy, ↓zdz, ↓zea, ↓zeb, ↓zec, ↓zed, ↓zee, ↓zef, ↓zeg, ↓zeh, ↓zei, ↓zej, ↓zek, ↓zel, ↓zem, ↓zen, ↓zeo, ↓zep, ↓zeq, ↓zer, ↓zes, ↓zet, ↓zeu, ↓zev, ↓zew, ↓zex, ↓zey, ↓zez, ↓zfa, ↓zfb, ↓zfc, ↓zfd, ↓zfe, ↓zff, ↓zfg, ↓zfh, ↓zfi, ↓zfj, ↓zfk, ↓zfl, ↓zfm, ↓zfn, ↓zfo, ↓zfp, ↓zfq, ↓zfr, ↓zfs, ↓mtE, ↓zft, ↓zfu, ↓zfv, ↓zfw, ↓zfx, ↓zfy, ↓zfz, ↓zga, ↓zgb, ↓zgc, ↓zgd, ↓zge, ↓zgf, ↓zgg, zgh, zgi, zgj, zgk, zgl, zgm, zgn, zgo, zgp, zgq, zgr, zgs, zgt, zgu, zgv, zgw, zgx, zgy, zgz, zha, zhb, zhc, zhd, zhe, zhf, zhg, zhh, zhi, zhj, zhk, zhl, zhm, zhn, zho, zhp, zhq, zhr, zhs, zht, zhu, zhv, zhw, ↓zhx, ↓zhy, ↓zhz, ↓zia, ↓zib, zic, zid, zie, zif, zig, zih, ↓zii, ↓zij, ↓zik, ↓zil, ↓zim, ↓zin, ↓zio, ↓ziq, ↓zir, pk0, pk1, pk2, pk3, pk4, pk5, pk6, zjl, zjm, zjn, zjo, zjp, zjq, zjr, zjs, zjt, zju, zjv, zjw, zjx, zjy, zjz, zka, zkb, zkc, zkd, zke, zkf, zkg, zkh, zki, zkj, reduceCtorEq, zkk, zkl, zkm, zkn, zko, String.reduceEq, Nat.reduceAdd, Nat.reduceLeDiff, Nat.reduceLT, zkp, zkq, zkr, zks, ↓zis, zit, ↓ziu, ziv, *])
    rw [dput_dI, dput_dI, dI_length, dI_length]
    refine ⟨hsz.out _ hl, Nat.le_trans (pI_length ..) (Nat.le_trans (Nat.add_le_add_right hl 1) (by decide)), seqsL_cons ?_⟩
    (simp (maxSteps := 1000000) (implicitDefEqProofs := false) only [↓zb, ↓reduceIte, zc, ↓zd, ↓ze, ↓zg, ↓zh, ↓zi, ↓zj, ↓zk, ↓zl, ↓zn, ↓zo, ↓zp, ↓zq, ↓zr, ↓zt, ↓zu, ↓zv, ↓zw, ↓zx, ↓zy, ↓zz, ↓zba, ↓zbb, ↓zbc, ↓zbd, ↓zbe, ↓zbf, ↓zbg, ↓zbh, ↓zbi, ↓zbj, ↓zbk, ↓zbl, ↓zbm, ↓zbn, ↓zbo, ↓zbp, ↓zbq, ↓zbr, ↓zbs, ↓zbt, ↓zbu, ↓zbv, ↓zbw, ↓zbx, ↓zby, ↓zbz, ↓zca, ↓zcb, ↓zcc, ↓zcd, ↓zce, ↓zcf, ↓zcg, ↓zch, ↓zci, ↓zcj, ↓zck, ↓zcl, ↓zcm, ↓zcn, ↓zco, ↓zcp, ↓zcq, ↓zcr, ↓zcs, ↓zct, ↓zcu, ↓zcv, ↓zcw, ↓mt, zcx, kwl, ziw, zcy, zcz, zda, zdb, zdc, zix, ziy, ziz, zja, zdd, zde, zdf, zdg, zdh, zdi, zdj, zdk, zdl, zdm, zdn, zdo, zdp, zdq, zjb, Int.reduceEq, Int.reduceNe, zjc, zjd, Nat.reduceEqDiff, Int.reduceLT, Int.reduceLE, Int.reduceNeg, Int.reduceToNat, zje, kdC, zdr, zjf, zjg, nk1, nk2, nk3, nk4, nk5, zjh, zds, zdt, zdu, zdv, ic1, ic2, ic3, ic4, ic5, ic6, zdw, String.reduceBEq, p60, p50, AH.set_self, AH.set_ne, Kx.more, Kx.comp, zji, zjj, zjk, ↓zdx, ↓zdy, ↓zdz, ↓zea, ↓zeb, ↓zec, ↓zed, ↓zee, ↓zef, ↓zeg, ↓zeh, ↓zei, ↓zej, ↓zek, ↓zel, ↓zem, ↓zen, ↓zeo, ↓zep, ↓zeq, ↓zer, ↓zes, ↓zet, ↓zeu, ↓zev, ↓zew, ↓zex, ↓zey, ↓zez, ↓zfa, ↓zfb, ↓zfc, ↓zfd, ↓zfe, ↓zff, ↓zfg, ↓zfh, ↓zfi, ↓zfj, ↓zfk, ↓zfl, ↓zfm, ↓zfn, ↓zfo, ↓zfp, ↓zfq, ↓zfr, ↓zfs, ↓mtE, ↓zft, ↓zfu, ↓zfv, ↓zfw, ↓zfx, ↓zfy, ↓zfz, ↓zga, ↓zgb, ↓zgc, ↓zgd, ↓zge, ↓zgf, ↓zgg, zgh, zgi, zgj, zgk, zgl, zgm, zgn, zgo, zgp, zgq, zgr, zgs, zgt, zgu, zgv, zgw, zgx, zgy, zgz, zha, zhb, zhc, zhd, zhe, zhf, zhg, zhh, zhi, zhj, zhk, zhl, zhm, zhn, zho, zhp, zhq, zhr, zhs, zht, zhu, zhv, zhw, ↓zhx, ↓zhy, ↓zhz, ↓zia, ↓zib, zic, zid, zie, zif, zig, zih, ↓zii, ↓zij, ↓zik, ↓zil, ↓zim, ↓zin, ↓zio, ↓ziq, ↓zir, pk0, pk1, pk2, pk3, pk4, pk5, pk6, zjl, zjm, zjn, zjo, zjp, zjq, zjr, zjs, zjt, zju, zjv, zjw, zjx, zjy, zjz, zka, zkb, zkc, zkd, zke, zkf, zkg, zkh, zki, zkj, reduceCtorEq, zkk, zkl, zkm, zkn, zko, String.reduceEq, Nat.reduceAdd, Nat.reduceLeDiff, Nat.reduceLT, zkp, zkq, zkr, zks, ↓zis, zit, ↓ziu, ziv, *])
    rw [set_set]; exact fin.out _ rfl

theorem ok_step {C : Cx} {a : Addr} {fz : List Nat} {d : Nat} {vs : List V} {Q : V → AH → Prop} {X : Value → AH → Prop} {H : AH} (F : FnAt C a ["_law_kind", "_law_names", "_law_new", "_law_size", "_law_n"] (fbody pw 13) (fscope pw 13))
    (G : GenT C d gvB [] true) (h : T_step fz vs Q X H) : CallsTo C fz (d + 1) true (.ref a) vs Q X H := by
  obtain ⟨kind, s, n, p, q, a, b, x, y, r, rfl, hp, hq, h0, h9, h⟩ := h
  refine callsTo_tab (n := 60) F G rfl rfl rfl ⟨rfl, rfl⟩ ?_
  intro kd gv ct ρ hT
  generalize hb : fbody pw 13 = b
  conv at hb => lhs; whnf
  subst hb
  generalize hb : (fscope pw 13).names = b at hT
  conv at hb => lhs; whnf
  subst hb
  simp only [tabAll, noneAll, gvB, List.map_cons, List.map_nil, List.zip_cons_cons, List.zip_nil_left, List.zip_nil_right, and_true, true_and] at hT
  refine seqsL_cons ?_
  (simp (maxSteps := 1000000) (implicitDefEqProofs := false) only [↓zb, ↓reduceIte, zc, ↓zd, ↓ze, ↓zg, ↓zh, ↓zi, ↓zj, ↓zk, ↓zl, ↓zn, ↓zo, ↓zp, ↓zq, ↓zr, ↓zt, ↓zu, ↓zv, ↓zw, ↓zx, ↓zy, ↓zz, ↓zba, ↓zbb, ↓zbc, ↓zbd, ↓zbe, ↓zbf, ↓zbg, ↓zbh, ↓zbi, ↓zbj, ↓zbk, ↓zbl, ↓zbm, ↓zbn, ↓zbo, ↓zbp, ↓zbq, ↓zbr, ↓zbs, ↓zbt, ↓zbu, ↓zbv, ↓zbw, ↓zbx, ↓zby, ↓zbz, ↓zca, ↓zcb, ↓zcc, ↓zcd, ↓zce, ↓zcf, ↓zcg, ↓zch, ↓zci, ↓zcj, ↓zck, ↓zcl, ↓zcm, ↓zcn, ↓zco, ↓zcp, ↓zcq, ↓zcr, ↓zcs, ↓zct, ↓zcu, ↓zcv, ↓zcw, ↓mt, zcx, kwl, ziw, zcy, zcz, zda, zdb, zdc, zix, ziy, ziz, zja, zdd, zde, zdf, zdg, zdh, zdi, zdj, zdk, zdl, zdm, zdn, zdo, zdp, zdq, zjb, Int.reduceEq, Int.reduceNe, zjc, zjd, Nat.reduceEqDiff, Int.reduceLT, Int.reduceLE, Int.reduceNeg, Int.reduceToNat, zje, kdC, zdr, zjf, zjg, nk1, nk2, nk3, nk4, nk5, zjh, zds, zdt, zdu, zdv, ic1, ic2, ic3, ic4, ic5, ic6, zdw, String.reduceBEq, p60, p50, AH.set_self, AH.set_ne, Kx.more, Kx.comp, zji, zjj, zjk, ↓zdx, ↓zdy, ↓zdz, ↓zea, ↓zeb, ↓zec, ↓zed, ↓zee, ↓zef, ↓zeg, ↓zeh, ↓zei, ↓zej, ↓zek, ↓zel, ↓zem, ↓zen, ↓zeo, ↓zep, ↓zeq, ↓zer, ↓zes, ↓zet, ↓zeu, ↓zev, ↓zew, ↓zex, ↓zey, ↓zez, ↓zfa, ↓zfb, ↓zfc, ↓zfd, ↓zfe, ↓zff, ↓zfg, ↓zfh, ↓zfi, ↓zfj, ↓zfk, ↓zfl, ↓zfm, ↓zfn, ↓zfo, ↓zfp, ↓zfq, ↓zfr, ↓zfs, ↓mtE, ↓zft, ↓zfu, ↓zfv, ↓zfw, ↓zfx, ↓zfy, ↓zfz, ↓zga, ↓zgb, ↓zgc, ↓zgd, ↓zge, ↓zgf, ↓zgg, zgh, zgi, zgj, zgk, zgl, zgm, zgn, zgo, zgp, zgq, zgr, zgs, zgt, zgu, zgv, zgw, zgx, zgy, zgz, zha, zhb, zhc, zhd, zhe, zhf, zhg, zhh, zhi, zhj, zhk, zhl, zhm, zhn, zho, zhp, zhq, zhr, zhs, zht, zhu, zhv, zhw, ↓zhx, ↓zhy, ↓zhz, ↓zia, ↓zib, zic, zid, zie, zif, zig, zih, ↓zii, ↓zij, ↓zik, ↓zil, ↓zim, ↓zin, ↓zio, ↓ziq, ↓zir, pk0, pk1, pk2, pk3, pk4, pk5, pk6, zjl, zjm, zjn, zjo, zjp, zjq, zjr, zjs, zjt, zju, zjv, zjw, zjx, zjy, zjz, zka, zkb, zkc, zkd, zke, zkf, zkg, zkh, zki, zkj, reduceCtorEq, zkk, zkl, zkm, zkn, zko, String.reduceEq, Nat.reduceAdd, Nat.reduceLeDiff, Nat.reduceLT, zkp, zkq, zkr, zks, ↓zis, zit, ↓ziu, ziv, *])
  refine ⟨fun e => by subst e; exact h, fun e0 => seqsL_cons ?_⟩
  (simp (maxSteps := 1000000) (implicitDefEqProofs := false) only [↓zb, ↓reduceIte, zc, ↓zd, ↓ze, ↓zg, ↓zh, ↓zi, ↓zj, ↓zk, ↓zl, ↓zn, ↓zo, ↓zp, ↓zq, ↓zr, ↓zt, ↓zu, ↓zv, ↓zw, ↓zx, ↓zy, ↓zz, ↓zba, ↓zbb, ↓zbc, ↓zbd, ↓zbe, ↓zbf, ↓zbg, ↓zbh, ↓zbi, ↓zbj, ↓zbk, ↓zbl, ↓zbm, ↓zbn, ↓zbo, ↓zbp, ↓zbq, ↓zbr, ↓zbs, ↓zbt, ↓zbu, ↓zbv, ↓zbw, ↓zbx, ↓zby, ↓zbz, ↓zca, ↓zcb, ↓zcc, ↓zcd, ↓zce, ↓zcf, ↓zcg, ↓zch, ↓zci, ↓zcj, ↓zck, ↓zcl, ↓zcm, ↓zcn, ↓zco, ↓zcp, ↓zcq, ↓zcr, ↓zcs, ↓zct, ↓zcu, ↓zcv, ↓zcw, ↓mt, zcx, kwl, ziw, zcy, zcz, zda, zdb, zdc, zix, ziy, ziz, zja, zdd, zde, zdf, zdg, zdh, zdi, zdj, zdk, zdl, zdm, zdn, zdo, zdp, zdq, zjb, Int.reduceEq, Int.reduceNe, zjc, zjd, Nat.reduceEqDiff, Int.reduceLT, Int.reduceLE, Int.reduceNeg, Int.reduceToNat, zje, kdC, zdr, zjf, zjg, nk1, nk2, nk3, nk4, nk5, zjh, zds, zdt, zdu, zdv, ic1, ic2, ic3, ic4, ic5, ic6, zdw, String.reduceBEq, p60, p50, AH.set_self, AH.set_ne, Kx.more, Kx.comp, zji, zjj, zjk, ↓zdx, ↓zdy, ↓zdz, ↓zea, ↓zeb, ↓zec, ↓zed, ↓zee, ↓zef, ↓zeg, ↓zeh, ↓zei, ↓zej, ↓zek, ↓zel, ↓zem, ↓zen, ↓zeo, ↓zep, ↓zeq, ↓zer, ↓zes, ↓zet, ↓zeu, ↓zev, ↓zew, ↓zex, ↓zey, ↓zez, ↓zfa, ↓zfb, ↓zfc, ↓zfd, ↓zfe, ↓zff, ↓zfg, ↓zfh, ↓zfi, ↓zfj, ↓zfk, ↓zfl, ↓zfm, ↓zfn, ↓zfo, ↓zfp, ↓zfq, ↓zfr, ↓zfs, ↓mtE, ↓zft, ↓zfu, ↓zfv, ↓zfw, ↓zfx, ↓zfy, ↓zfz, ↓zga, ↓zgb, ↓zgc, ↓zgd, ↓zge, ↓zgf, ↓zgg, zgh, zgi, zgj, zgk, zgl, zgm, zgn, zgo, zgp, zgq, zgr, zgs, zgt, zgu, zgv, zgw, zgx, zgy, zgz, zha, zhb, zhc, zhd, zhe, zhf, zhg, zhh, zhi, zhj, zhk, zhl, zhm, zhn, zho, zhp, zhq, zhr, zhs, zht, zhu, zhv, zhw, ↓zhx, ↓zhy, ↓zhz, ↓zia, ↓zib, zic, zid, zie, zif, zig, zih, ↓zii, ↓zij, ↓zik, ↓zil, ↓zim, ↓zin, ↓zio, ↓ziq, ↓zir, pk0, pk1, pk2, pk3, pk4, pk5, pk6, zjl, zjm, zjn, zjo, zjp, zjq, zjr, zjs, zjt, zju, zjv, zjw, zjx, zjy, zjz, zka, zkb, zkc, zkd, zke, zkf, zkg, zkh, zki, zkj, reduceCtorEq, zkk, zkl, zkm, zkn, zko, String.reduceEq, Nat.reduceAdd, Nat.reduceLeDiff, Nat.reduceLT, zkp, zkq, zkr, zks, ↓zis, zit, ↓ziu, ziv, *])
  refine ⟨fun e => by subst e; exact h, fun e1 => seqsL_cons ?_⟩
  (simp (maxSteps := 1000000) (implicitDefEqProofs := false) only [↓zb, ↓reduceIte, zc, ↓zd, ↓ze, ↓zg, ↓zh, ↓zi, ↓zj, ↓zk, ↓zl, ↓zn, ↓zo, ↓zp, ↓zq, ↓zr, ↓zt, ↓zu, ↓zv, ↓zw, ↓zx, ↓zy, ↓zz, ↓zba, ↓zbb, ↓zbc, ↓zbd, ↓zbe, ↓zbf, ↓zbg, ↓zbh, ↓zbi, ↓zbj, ↓zbk, ↓zbl, ↓zbm, ↓zbn, ↓zbo, ↓zbp, ↓zbq, ↓zbr, ↓zbs, ↓zbt, ↓zbu, ↓zbv, ↓zbw, ↓zbx, ↓zby, ↓zbz, ↓zca, ↓zcb, ↓zcc, ↓zcd, ↓zce, ↓zcf, ↓zcg, ↓zch, ↓zci, ↓zcj, ↓zck, ↓zcl, ↓zcm, ↓zcn, ↓zco, ↓zcp, ↓zcq, ↓zcr, ↓zcs, ↓zct, ↓zcu, ↓zcv, ↓zcw, ↓mt, zcx, kwl, ziw, zcy, zcz, zda, zdb, zdc, zix, ziy, ziz, zja, zdd, zde, zdf, zdg, zdh, zdi, zdj, zdk, zdl, zdm, zdn, zdo, zdp, zdq, zjb, Int.reduceEq, Int.reduceNe, zjc, zjd, Nat.reduceEqDiff, Int.reduceLT, Int.reduceLE, Int.reduceNeg, Int.reduceToNat, zje, kdC, zdr, zjf, zjg, nk1, nk2, nk3, nk4, nk5, zjh, zds, zdt, zdu, zdv, ic1, ic2, ic3, ic4, ic5, ic6, zdw, String.reduceBEq, p60, p50, AH.set_self, AH.set_ne, Kx.more, Kx.comp, zji, zjj, zjk, ↓zdx, ↓zdy, ↓zdz, ↓zea, ↓zeb, ↓zec, ↓zed, ↓zee, ↓zef, ↓zeg, ↓zeh, ↓zei, ↓zej, ↓zek, ↓zel, ↓zem, ↓zen, ↓zeo, ↓zep, ↓zeq, ↓zer, ↓zes, ↓zet, ↓zeu, ↓zev, ↓zew, ↓zex, ↓zey, ↓zez, ↓zfa, ↓zfb, ↓zfc, ↓zfd, ↓zfe, ↓zff, ↓zfg, ↓zfh, ↓zfi, ↓zfj, ↓zfk, ↓zfl, ↓zfm, ↓zfn, ↓zfo, ↓zfp, ↓zfq, ↓zfr, ↓zfs, ↓mtE, ↓zft, ↓zfu, ↓zfv, ↓zfw, ↓zfx, ↓zfy, ↓zfz, ↓zga, ↓zgb, ↓zgc, ↓zgd, ↓zge, ↓zgf, ↓zgg, zgh, zgi, zgj, zgk, zgl, zgm, zgn, zgo, zgp, zgq, zgr, zgs, zgt, zgu, zgv, zgw, zgx, zgy, zgz, zha, zhb, zhc, zhd, zhe, zhf, zhg, zhh, zhi, zhj, zhk, zhl, zhm, zhn, zho, zhp, zhq, zhr, zhs, zht, zhu, zhv, zhw, ↓zhx, ↓zhy, ↓zhz, ↓zia, ↓zib, zic, zid, zie, zif, zig, zih, ↓zii, ↓zij, ↓zik, ↓zil, ↓zim, ↓zin, ↓zio, ↓ziq, ↓zir, pk0, pk1, pk2, pk3, pk4, pk5, pk6, zjl, zjm, zjn, zjo, zjp, zjq, zjr, zjs, zjt, zju, zjv, zjw, zjx, zjy, zjz, zka, zkb, zkc, zkd, zke, zkf, zkg, zkh, zki, zkj, reduceCtorEq, zkk, zkl, zkm, zkn, zko, String.reduceEq, Nat.reduceAdd, Nat.reduceLeDiff, Nat.reduceLT, zkp, zkq, zkr, zks, ↓zis, zit, ↓ziu, ziv, *])
  refine ⟨fun e => by subst e; exact h, fun e2 => seqsL_cons ?_⟩
  (simp (maxSteps := 1000000) (implicitDefEqProofs := false) only [↓zb, ↓reduceIte, zc, ↓zd, ↓ze, ↓zg, ↓zh, ↓zi, ↓zj, ↓zk, ↓zl, ↓zn, ↓zo, ↓zp, ↓zq, ↓zr, ↓zt, ↓zu, ↓zv, ↓zw, ↓zx, ↓zy, ↓zz, ↓zba, ↓zbb, ↓zbc, ↓zbd, ↓zbe, ↓zbf, ↓zbg, ↓zbh, ↓zbi, ↓zbj, ↓zbk, ↓zbl, ↓zbm, ↓zbn, ↓zbo, ↓zbp, ↓zbq, ↓zbr, ↓zbs, ↓zbt, ↓zbu, ↓zbv, ↓zbw, ↓zbx, ↓zby, ↓zbz, ↓zca, ↓zcb, ↓zcc, ↓zcd, ↓zce, ↓zcf, ↓zcg, ↓zch, ↓zci, ↓zcj, ↓zck, ↓zcl, ↓zcm, ↓zcn, ↓zco, ↓zcp, ↓zcq, ↓zcr, ↓zcs, ↓zct, ↓zcu, ↓zcv, ↓zcw, ↓mt, zcx, kwl, ziw, zcy, zcz, zda, zdb, zdc, zix, ziy, ziz, zja, zdd, zde, zdf, zdg, zdh, zdi, zdj, zdk, zdl, zdm, zdn, zdo, zdp, zdq, zjb, Int.reduceEq, Int.reduceNe, zjc, zjd, Nat.reduceEqDiff, Int.reduceLT, Int.reduceLE, Int.reduceNeg, Int.reduceToNat, zje, kdC, zdr, zjf, zjg, nk1, nk2, nk3, nk4, nk5, zjh, zds, zdt, zdu, zdv, ic1, ic2, ic3, ic4, ic5, ic6, zdw, String.reduceBEq, p60, p50, AH.set_self, AH.set_ne, Kx.more, Kx.comp, zji, zjj, zjk, ↓zdx, ↓zdy, ↓zdz, ↓zea, ↓zeb, ↓zec, ↓zed, ↓zee, ↓zef, ↓zeg, ↓zeh, ↓zei, ↓zej, ↓zek, ↓zel, ↓zem, ↓zen, ↓zeo, ↓zep, ↓zeq, ↓zer, ↓zes, ↓zet, ↓zeu, ↓zev, ↓zew, ↓zex, ↓zey, ↓zez, ↓zfa, ↓zfb, ↓zfc, ↓zfd, ↓zfe, ↓zff, ↓zfg, ↓zfh, ↓zfi, ↓zfj, ↓zfk, ↓zfl, ↓zfm, ↓zfn, ↓zfo, ↓zfp, ↓zfq, ↓zfr, ↓zfs, ↓mtE, ↓zft, ↓zfu, ↓zfv, ↓zfw, ↓zfx, ↓zfy, ↓zfz, ↓zga, ↓zgb, ↓zgc, ↓zgd, ↓zge, ↓zgf, ↓zgg, zgh, zgi, zgj, zgk, zgl, zgm, zgn, zgo, zgp, zgq, zgr, zgs, zgt, zgu, zgv, zgw, zgx, zgy, zgz, zha, zhb, zhc, zhd, zhe, zhf, zhg, zhh, zhi, zhj, zhk, zhl, zhm, zhn, zho, zhp, zhq, zhr, zhs, zht, zhu, zhv, zhw, ↓zhx, ↓zhy, ↓zhz, ↓zia, ↓zib, zic, zid, zie, zif, zig, zih, ↓zii, ↓zij, ↓zik, ↓zil, ↓zim, ↓zin, ↓zio, ↓ziq, ↓zir, pk0, pk1, pk2, pk3, pk4, pk5, pk6, zjl, zjm, zjn, zjo, zjp, zjq, zjr, zjs, zjt, zju, zjv, zjw, zjx, zjy, zjz, zka, zkb, zkc, zkd, zke, zkf, zkg, zkh, zki, zkj, reduceCtorEq, zkk, zkl, zkm, zkn, zko, String.reduceEq, Nat.reduceAdd, Nat.reduceLeDiff, Nat.reduceLT, zkp, zkq, zkr, zks, ↓zis, zit, ↓ziu, ziv, *])
  refine ⟨fun e => by subst e; exact h, fun e3 => seqsL_cons ?_⟩
  (simp (maxSteps := 1000000) (implicitDefEqProofs := false) only [↓zb, ↓reduceIte, zc, ↓zd, ↓ze, ↓zg, ↓zh, ↓zi, ↓zj, ↓zk, ↓zl, ↓zn, ↓zo, ↓zp, ↓zq, ↓zr, ↓zt, ↓zu, ↓zv, ↓zw, ↓zx, ↓zy, ↓zz, ↓zba, ↓zbb, ↓zbc, ↓zbd, ↓zbe, ↓zbf, ↓zbg, ↓zbh, ↓zbi, ↓zbj, ↓zbk, ↓zbl, ↓zbm, ↓zbn, ↓zbo, ↓zbp, ↓zbq, ↓zbr, ↓zbs, ↓zbt, ↓zbu, ↓zbv, ↓zbw, ↓zbx, ↓zby, ↓zbz, ↓zca, ↓zcb, ↓zcc, ↓zcd, ↓zce, ↓zcf, ↓zcg, ↓zch, ↓zci, ↓zcj, ↓zck, ↓zcl, ↓zcm, ↓zcn, ↓zco, ↓zcp, ↓zcq, ↓zcr, ↓zcs, ↓zct, ↓zcu, ↓zcv, ↓zcw, ↓mt, zcx, kwl, ziw, zcy, zcz, zda, zdb, zdc, zix, ziy, ziz, zja, zdd, zde, zdf, zdg, zdh, zdi, zdj, zdk, zdl, zdm, zdn, zdo, zdp, zdq, zjb, Int.reduceEq, Int.reduceNe, zjc, zjd, Nat.reduceEqDiff, Int.reduceLT, Int.reduceLE, Int.reduceNeg, Int.reduceToNat, zje, kdC, zdr, zjf, zjg, nk1, nk2, nk3, nk4, nk5, zjh, zds, zdt, zdu, zdv, ic1, ic2, ic3, ic4, ic5, ic6, zdw, String.reduceBEq, p60, p50, AH.set_self, AH.set_ne, Kx.more, Kx.comp, zji, zjj, zjk, ↓zdx, ↓zdy, ↓zdz, ↓zea, ↓zeb, ↓zec, ↓zed, ↓zee, ↓zef, ↓zeg, ↓zeh, ↓zei, ↓zej, ↓zek, ↓zel, ↓zem, ↓zen, ↓zeo, ↓zep, ↓zeq, ↓zer, ↓zes, ↓zet, ↓zeu, ↓zev, ↓zew, ↓zex, ↓zey, ↓zez, ↓zfa, ↓zfb, ↓zfc, ↓zfd, ↓zfe, ↓zff, ↓zfg, ↓zfh, ↓zfi, ↓zfj, ↓zfk, ↓zfl, ↓zfm, ↓zfn, ↓zfo, ↓zfp, ↓zfq, ↓zfr, ↓zfs, ↓mtE, ↓zft, ↓zfu, ↓zfv, ↓zfw, ↓zfx, ↓zfy, ↓zfz, ↓zga, ↓zgb, ↓zgc, ↓zgd, ↓zge, ↓zgf, ↓zgg, zgh, zgi, zgj, zgk, zgl, zgm, zgn, zgo, zgp, zgq, zgr, zgs, zgt, zgu, zgv, zgw, zgx, zgy, zgz, zha, zhb, zhc, zhd, zhe, zhf, zhg, zhh, zhi, zhj, zhk, zhl, zhm, zhn, zho, zhp, zhq, zhr, zhs, zht, zhu, zhv, zhw, ↓zhx, ↓zhy, ↓zhz, ↓zia, ↓zib, zic, zid, zie, zif, zig, zih, ↓zii, ↓zij, ↓zik, ↓zil, ↓zim, ↓zin, ↓zio, ↓ziq, ↓zir, pk0, pk1, pk2, pk3, pk4, pk5, pk6, zjl, zjm, zjn, zjo, zjp, zjq, zjr, zjs, zjt, zju, zjv, zjw, zjx, zjy, zjz, zka, zkb, zkc, zkd, zke, zkf, zkg, zkh, zki, zkj, reduceCtorEq, zkk, zkl, zkm, zkn, zko, String.reduceEq, Nat.reduceAdd, Nat.reduceLeDiff, Nat.reduceLT, zkp, zkq, zkr, zks, ↓zis, zit, ↓ziu, ziv, *])
  refine ⟨fun e => by subst e; exact h, fun e4 => seqsL_cons ?_⟩
  (simp (maxSteps := 1000000) (implicitDefEqProofs := false) only [↓zb, ↓reduceIte, zc, ↓zd, ↓ze, ↓zg, ↓zh, ↓zi, ↓zj, ↓zk, ↓zl, ↓zn, ↓zo, ↓zp, ↓zq, ↓zr, ↓zt, ↓zu, ↓zv, ↓zw, ↓zx, ↓zy, ↓zz, ↓zba, ↓zbb, ↓zbc, ↓zbd, ↓zbe, ↓zbf, ↓zbg, ↓zbh, ↓zbi, ↓zbj, ↓zbk, ↓zbl, ↓zbm, ↓zbn, ↓zbo, ↓zbp, ↓zbq, ↓zbr, ↓zbs, ↓zbt, ↓zbu, ↓zbv, ↓zbw, ↓zbx, ↓zby, ↓zbz, ↓zca, ↓zcb, ↓zcc, ↓zcd, ↓zce, ↓zcf, ↓zcg, ↓zch, ↓zci, ↓zcj, ↓zck, ↓zcl, ↓zcm, ↓zcn, ↓zco, ↓zcp, ↓zcq, ↓zcr, ↓zcs, ↓zct, ↓zcu, ↓zcv, ↓zcw, ↓mt, zcx, kwl, ziw, zcy, zcz, zda, zdb, zdc, zix, ziy, ziz, zja, zdd, zde, zdf, zdg, zdh, zdi, zdj, zdk, zdl, zdm, zdn, zdo, zdp, zdq, zjb, Int.reduceEq, Int.reduceNe, zjc, zjd, Nat.reduceEqDiff, Int.reduceLT, Int.reduceLE, Int.reduceNeg, Int.reduceToNat, zje, kdC, zdr, zjf, zjg, nk1, nk2, nk3, nk4, nk5, zjh, zds, zdt, zdu, zdv, ic1, ic2, ic3, ic4, ic5, ic6, zdw, String.reduceBEq, p60, p50, AH.set_self, AH.set_ne, Kx.more, Kx.comp, zji, zjj, zjk, ↓zdx, ↓zdy, ↓zdz, ↓zea, ↓zeb, ↓zec, ↓zed, ↓zee, ↓zef, ↓zeg, ↓zeh, ↓zei, ↓zej, ↓zek, ↓zel, ↓zem, ↓zen, ↓zeo, ↓zep, ↓zeq, ↓zer, ↓zes, ↓zet, ↓zeu, ↓zev, ↓zew, ↓zex, ↓zey, ↓zez, ↓zfa, ↓zfb, ↓zfc, ↓zfd, ↓zfe, ↓zff, ↓zfg, ↓zfh, ↓zfi, ↓zfj, ↓zfk, ↓zfl, ↓zfm, ↓zfn, ↓zfo, ↓zfp, ↓zfq, ↓zfr, ↓zfs, ↓mtE, ↓zft, ↓zfu, ↓zfv, ↓zfw, ↓zfx, ↓zfy, ↓zfz, ↓zga, ↓zgb, ↓zgc, ↓zgd, ↓zge, ↓zgf, ↓zgg, zgh, zgi, zgj, zgk, zgl, zgm, zgn, zgo, zgp, zgq, zgr, zgs, zgt, zgu, zgv, zgw, zgx, zgy, zgz, zha, zhb, zhc, zhd, zhe, zhf, zhg, zhh, zhi, zhj, zhk, zhl, zhm, zhn, zho, zhp, zhq, zhr, zhs, zht, zhu, zhv, zhw, ↓zhx, ↓zhy, ↓zhz, ↓zia, ↓zib, zic, zid, zie, zif, zig, zih, ↓zii, ↓zij, ↓zik, ↓zil, ↓zim, ↓zin, ↓zio, ↓ziq, ↓zir, pk0, pk1, pk2, pk3, pk4, pk5, pk6, zjl, zjm, zjn, zjo, zjp, zjq, zjr, zjs, zjt, zju, zjv, zjw, zjx, zjy, zjz, zka, zkb, zkc, zkd, zke, zkf, zkg, zkh, zki, zkj, reduceCtorEq, zkk, zkl, zkm, zkn, zko, String.reduceEq, Nat.reduceAdd, Nat.reduceLeDiff, Nat.reduceLT, zkp, zkq, zkr, zks, ↓zis, zit, ↓ziu, ziv, *])
  refine ⟨fun e => by subst e; exact h, fun e5 => ⟨fun e => by subst e; exact h, fun e7 => seqsL_cons ?_⟩⟩
  (simp (maxSteps := 1000000) (implicitDefEqProofs := false) only [↓zb, ↓reduceIte, zc, ↓zd, ↓ze, ↓zg, ↓zh, ↓zi, ↓zj, ↓zk, ↓zl, ↓zn, ↓zo, ↓zp, ↓zq, ↓zr, ↓zt, ↓zu, ↓zv, ↓zw, ↓zx, ↓zy, ↓zz, ↓zba, ↓zbb, ↓zbc, ↓zbd, ↓zbe, ↓zbf, ↓zbg, ↓zbh, ↓zbi, ↓zbj, ↓zbk, ↓zbl, ↓zbm, ↓zbn, ↓zbo, ↓zbp, ↓zbq, ↓zbr, ↓zbs, ↓zbt, ↓zbu, ↓zbv, ↓zbw, ↓zbx, ↓zby, ↓zbz, ↓zca, ↓zcb, ↓zcc, ↓zcd, ↓zce, ↓zcf, ↓zcg, ↓zch, ↓zci, ↓zcj, ↓zck, ↓zcl, ↓zcm, ↓zcn, ↓zco, ↓zcp, ↓zcq, ↓zcr, ↓zcs, ↓zct, ↓zcu, ↓zcv, ↓zcw, ↓mt, zcx, kwl, ziw, zcy, zcz, zda, zdb, zdc, zix, ziy, ziz, zja, zdd, zde, zdf, zdg, zdh, zdi, zdj, zdk, zdl, zdm, zdn, zdo, zdp, zdq, zjb, Int.reduceEq, Int.reduceNe, zjc, zjd, Nat.reduceEqDiff, Int.reduceLT, Int.reduceLE, Int.reduceNeg, Int.reduceToNat, zje, kdC, zdr, zjf, zjg, nk1, nk2, nk3, nk4, nk5, zjh, zds, zdt, zdu, zdv, ic1, ic2, ic3, ic4, ic5, ic6, zdw, String.reduceBEq, p60, p50, AH.set_self, AH.set_ne, Kx.more, Kx.comp, zji, zjj, zjk, ↓zdx, ↓zdy, ↓zdz, ↓zea, ↓zeb, ↓zec, ↓zed, ↓zee, ↓zef, ↓zeg, ↓zeh, ↓zei, ↓zej, ↓zek, ↓zel, ↓zem, ↓zen, ↓zeo, ↓zep, ↓zeq, ↓zer, ↓zes, ↓zet, ↓zeu, ↓zev, ↓zew, ↓zex, ↓zey, ↓zez, ↓zfa, ↓zfb, ↓zfc, ↓zfd, ↓zfe, ↓zff, ↓zfg, ↓zfh, ↓zfi, ↓zfj, ↓zfk, ↓zfl, ↓zfm, ↓zfn, ↓zfo, ↓zfp, ↓zfq, ↓zfr, ↓zfs, ↓mtE, ↓zft, ↓zfu, ↓zfv, ↓zfw, ↓zfx, ↓zfy, ↓zfz, ↓zga, ↓zgb, ↓zgc, ↓zgd, ↓zge, ↓zgf, ↓zgg, zgh, zgi, zgj, zgk, zgl, zgm, zgn, zgo, zgp, zgq, zgr, zgs, zgt, zgu, zgv, zgw, zgx, zgy, zgz, zha, zhb, zhc, zhd, zhe, zhf, zhg, zhh, zhi, zhj, zhk, zhl, zhm, zhn, zho, zhp, zhq, zhr, zhs, zht, zhu, zhv, zhw, ↓zhx, ↓zhy, ↓zhz, ↓zia, ↓zib, zic, zid, zie, zif, zig, zih, ↓zii, ↓zij, ↓zik, ↓zil, ↓zim, ↓zin, ↓zio, ↓ziq, ↓zir, pk0, pk1, pk2, pk3, pk4, pk5, pk6, zjl, zjm, zjn, zjo, zjp, zjq, zjr, zjs, zjt, zju, zjv, zjw, zjx, zjy, zjz, zka, zkb, zkc, zkd, zke, zkf, zkg, zkh, zki, zkj, reduceCtorEq, zkk, zkl, zkm, zkn, zko, String.reduceEq, Nat.reduceAdd, Nat.reduceLeDiff, Nat.reduceLT, zkp, zkq, zkr, zks, ↓zis, zit, ↓ziu, ziv, *])
  have : kind = 6 ∨ kind = 8 := by omega
  rcases this with rfl | rfl <;> exact h

theorem ok_other {C : Cx} {a : Addr} {fz : List Nat} {d : Nat} {vs : List V} {Q : V → AH → Prop} {X : Value → AH → Prop} {H : AH} (F : FnAt C a ["_law_script", "_law_at", "_law_step_here", "_law_reading"] (fbody pw 14) (fscope pw 14))
    (G : GenT C d gvB ctO true) (h : T_other fz vs Q X H) : CallsTo C fz (d + 1) true (.ref a) vs Q X H := by
  obtain ⟨l, p, r, at0, scr, st, es, rfl, hl, hat, hp, hr, nd, hz, hc, hs, h⟩ := h
  refine callsTo_tab (n := 60) F G rfl rfl rfl ⟨rfl, rfl⟩ ?_
  intro kd gv ct ρ hT
  generalize hb : fbody pw 14 = b
  conv at hb => lhs; whnf
  subst hb
  generalize hb : (fscope pw 14).names = b at hT
  conv at hb => lhs; whnf
  subst hb
  simp only [tabAll, noneAll, gvB, ctO, List.map_cons, List.map_nil, List.zip_cons_cons, List.zip_nil_left, List.zip_nil_right, and_true, true_and] at hT
  replace h := Box.mk h
  replace hc := Box.mk hc
  refine seqsL_cons ?_
  (simp (maxSteps := 1000000) (implicitDefEqProofs := false) only [↓zb, ↓reduceIte, zc, ↓zd, ↓ze, ↓zg, ↓zh, ↓zi, ↓zj, ↓zk, ↓zl, ↓zn, ↓zo, ↓zp, ↓zq, ↓zr, ↓zt, ↓zu, ↓zv, ↓zw, ↓zx, ↓zy, ↓zz, ↓zba, ↓zbb, ↓zbc, ↓zbd, ↓zbe, ↓zbf, ↓zbg, ↓zbh, ↓zbi, ↓zbj, ↓zbk, ↓zbl, ↓zbm, ↓zbn, ↓zbo, ↓zbp, ↓zbq, ↓zbr, ↓zbs, ↓zbt, ↓zbu, ↓zbv, ↓zbw, ↓zbx, ↓zby, ↓zbz, ↓zca, ↓zcb, ↓zcc, ↓zcd, ↓zce, ↓zcf, ↓zcg, ↓zch, ↓zci, ↓zcj, ↓zck, ↓zcl, ↓zcm, ↓zcn, ↓zco, ↓zcp, ↓zcq, ↓zcr, ↓zcs, ↓zct, ↓zcu, ↓zcv, ↓zcw, ↓mt, zcx, kwl, ziw, zcy, zcz, zda, zdb, zdc, zix, ziy, ziz, zja, zdd, zde, zdf, zdg, zdh, zdi, zdj, zdk, zdl, zdm, zdn, zdo, zdp, zdq, zjb, Int.reduceEq, Int.reduceNe, zjc, zjd, Nat.reduceEqDiff, Int.reduceLT, Int.reduceLE, Int.reduceNeg, Int.reduceToNat, zje, kdC, zdr, zjf, zjg, nk1, nk2, nk3, nk4, nk5, zjh, zds, zdt, zdu, zdv, ic1, ic2, ic3, ic4, ic5, ic6, zdw, String.reduceBEq, p60, p50, AH.set_self, AH.set_ne, Kx.more, Kx.comp, zji, zjj, zjk, ↓zdx, ↓zdy, ↓zdz, ↓zea, ↓zeb, ↓zec, ↓zed, ↓zee, ↓zef, ↓zeg, ↓zeh, ↓zei, ↓zej, ↓zek, ↓zel, ↓zem, ↓zen, ↓zeo, ↓zep, ↓zeq, ↓zer, ↓zes, ↓zet, ↓zeu, ↓zev, ↓zew, ↓zex, ↓zey, ↓zez, ↓zfa, ↓zfb, ↓zfc, ↓zfd, ↓zfe, ↓zff, ↓zfg, ↓zfh, ↓zfi, ↓zfj, ↓zfk, ↓zfl, ↓zfm, ↓zfn, ↓zfo, ↓zfp, ↓zfq, ↓zfr, ↓zfs, ↓mtE, ↓zft, ↓zfu, ↓zfv, ↓zfw, ↓zfx, ↓zfy, ↓zfz, ↓zga, ↓zgb, ↓zgc, ↓zgd, ↓zge, ↓zgf, ↓zgg, zgh, zgi, zgj, zgk, zgl, zgm, zgn, zgo, zgp, zgq, zgr, zgs, zgt, zgu, zgv, zgw, zgx, zgy, zgz, zha, zhb, zhc, zhd, zhe, zhf, zhg, zhh, zhi, zhj, zhk, zhl, zhm, zhn, zho, zhp, zhq, zhr, zhs, zht, zhu, zhv, zhw, ↓zhx, ↓zhy, ↓zhz, ↓zia, ↓zib, zic, zid, zie, zif, zig, zih, ↓zii, ↓zij, ↓zik, ↓zil, ↓zim, ↓zin, ↓zio, ↓ziq, ↓zir, pk0, pk1, pk2, pk3, pk4, pk5, pk6, zjl, zjm, zjn, zjo, zjp, zjq, zjr, zjs, zjt, zju, zjv, zjw, zjx, zjy, zjz, zka, zkb, zkc, zkd, zke, zkf, zkg, zkh, zki, zkj, reduceCtorEq, zkk, zkl, zkm, zkn, zko, String.reduceEq, Nat.reduceAdd, Nat.reduceLeDiff, Nat.reduceLT, zkp, zkq, zkr, zks, ↓zis, zit, ↓ziu, ziv, *])
  intro f hf hff
  have hfl : l ≠ f := ne_of_get hl hf
  have hfp : p ≠ f := ne_of_get hp hf
  have hfr : r ≠ f := ne_of_get hr hf
  refine seqsL_cons ?_
  (simp (maxSteps := 1000000) (implicitDefEqProofs := false) only [↓zb, ↓reduceIte, zc, ↓zd, ↓ze, ↓zg, ↓zh, ↓zi, ↓zj, ↓zk, ↓zl, ↓zn, ↓zo, ↓zp, ↓zq, ↓zr, ↓zt, ↓zu, ↓zv, ↓zw, ↓zx, ↓zy, ↓zz, ↓zba, ↓zbb, ↓zbc, ↓zbd, ↓zbe, ↓zbf, ↓zbg, ↓zbh, ↓zbi, ↓zbj, ↓zbk, ↓zbl, ↓zbm, ↓zbn, ↓zbo, ↓zbp, ↓zbq, ↓zbr, ↓zbs, ↓zbt, ↓zbu, ↓zbv, ↓zbw, ↓zbx, ↓zby, ↓zbz, ↓zca, ↓zcb, ↓zcc, ↓zcd, ↓zce, ↓zcf, ↓zcg, ↓zch, ↓zci, ↓zcj, ↓zck, ↓zcl, ↓zcm, ↓zcn, ↓zco, ↓zcp, ↓zcq, ↓zcr, ↓zcs, ↓zct, ↓zcu, ↓zcv, ↓zcw, ↓mt, zcx, kwl, ziw, zcy, zcz, zda, zdb, zdc, zix, ziy, ziz, zja, zdd, zde, zdf, zdg, zdh, zdi, zdj, zdk, zdl, zdm, zdn, zdo, zdp, zdq, zjb, Int.reduceEq, Int.reduceNe, zjc, zjd, Nat.reduceEqDiff, Int.reduceLT, Int.reduceLE, Int.reduceNeg, Int.reduceToNat, zje, kdC, zdr, zjf, zjg, nk1, nk2, nk3, nk4, nk5, zjh, zds, zdt, zdu, zdv, ic1, ic2, ic3, ic4, ic5, ic6, zdw, String.reduceBEq, p60, p50, AH.set_self, AH.set_ne, Kx.more, Kx.comp, zji, zjj, zjk, ↓zdx, ↓zdy, ↓zdz, ↓zea, ↓zeb, ↓zec, ↓zed, ↓zee, ↓zef, ↓zeg, ↓zeh, ↓zei, ↓zej, ↓zek, ↓zel, ↓zem, ↓zen, ↓zeo, ↓zep, ↓zeq, ↓zer, ↓zes, ↓zet, ↓zeu, ↓zev, ↓zew, ↓zex, ↓zey, ↓zez, ↓zfa, ↓zfb, ↓zfc, ↓zfd, ↓zfe, ↓zff, ↓zfg, ↓zfh, ↓zfi, ↓zfj, ↓zfk, ↓zfl, ↓zfm, ↓zfn, ↓zfo, ↓zfp, ↓zfq, ↓zfr, ↓zfs, ↓mtE, ↓zft, ↓zfu, ↓zfv, ↓zfw, ↓zfx, ↓zfy, ↓zfz, ↓zga, ↓zgb, ↓zgc, ↓zgd, ↓zge, ↓zgf, ↓zgg, zgh, zgi, zgj, zgk, zgl, zgm, zgn, zgo, zgp, zgq, zgr, zgs, zgt, zgu, zgv, zgw, zgx, zgy, zgz, zha, zhb, zhc, zhd, zhe, zhf, zhg, zhh, zhi, zhj, zhk, zhl, zhm, zhn, zho, zhp, zhq, zhr, zhs, zht, zhu, zhv, zhw, ↓zhx, ↓zhy, ↓zhz, ↓zia, ↓zib, zic, zid, zie, zif, zig, zih, ↓zii, ↓zij, ↓zik, ↓zil, ↓zim, ↓zin, ↓zio, ↓ziq, ↓zir, pk0, pk1, pk2, pk3, pk4, pk5, pk6, zjl, zjm, zjn, zjo, zjp, zjq, zjr, zjs, zjt, zju, zjv, zjw, zjx, zjy, zjz, zka, zkb, zkc, zkd, zke, zkf, zkg, zkh, zki, zkj, reduceCtorEq, zkk, zkl, zkm, zkn, zko, String.reduceEq, Nat.reduceAdd, Nat.reduceLeDiff, Nat.reduceLT, zkp, zkq, zkr, zks, ↓zis, zit, ↓ziu, ziv, *])
  have tx1 : textsOf (H.set f (.sdict [])) (.ref r) (keys es) := by
    unfold textsOf; simp only [AH.set_ne _ _ hfr, hr]; simp [dI, keys, List.map_map, Function.comp_def]
  refine ⟨keys es, tx1, by rw [keys_length]; omega, fun ss pm so => ?_⟩
  intro wr nrw frw
  have hrf : wr ≠ f := fun e => by subst e; rw [AH.set_self] at nrw; cases nrw
  have nrw0 : H.get wr = none := by rw [AH.set_ne _ _ hrf] at nrw; exact nrw
  have hrwl : l ≠ wr := ne_of_get hl nrw0
  have nds : ss.Nodup := pm.nodup_iff.mpr nd
  have lss : ss.length ≤ 60 := by rw [pm.length_eq, keys_length]; exact hz
  clear tx1 so
  refine seqsL_cons ?_
  (simp (maxSteps := 1000000) (implicitDefEqProofs := false) only [↓zb, ↓reduceIte, zc, ↓zd, ↓ze, ↓zg, ↓zh, ↓zi, ↓zj, ↓zk, ↓zl, ↓zn, ↓zo, ↓zp, ↓zq, ↓zr, ↓zt, ↓zu, ↓zv, ↓zw, ↓zx, ↓zy, ↓zz, ↓zba, ↓zbb, ↓zbc, ↓zbd, ↓zbe, ↓zbf, ↓zbg, ↓zbh, ↓zbi, ↓zbj, ↓zbk, ↓zbl, ↓zbm, ↓zbn, ↓zbo, ↓zbp, ↓zbq, ↓zbr, ↓zbs, ↓zbt, ↓zbu, ↓zbv, ↓zbw, ↓zbx, ↓zby, ↓zbz, ↓zca, ↓zcb, ↓zcc, ↓zcd, ↓zce, ↓zcf, ↓zcg, ↓zch, ↓zci, ↓zcj, ↓zck, ↓zcl, ↓zcm, ↓zcn, ↓zco, ↓zcp, ↓zcq, ↓zcr, ↓zcs, ↓zct, ↓zcu, ↓zcv, ↓zcw, ↓mt, zcx, kwl, ziw, zcy, zcz, zda, zdb, zdc, zix, ziy, ziz, zja, zdd, zde, zdf, zdg, zdh, zdi, zdj, zdk, zdl, zdm, zdn, zdo, zdp, zdq, zjb, Int.reduceEq, Int.reduceNe, zjc, zjd, Nat.reduceEqDiff, Int.reduceLT, Int.reduceLE, Int.reduceNeg, Int.reduceToNat, zje, kdC, zdr, zjf, zjg, nk1, nk2, nk3, nk4, nk5, zjh, zds, zdt, zdu, zdv, ic1, ic2, ic3, ic4, ic5, ic6, zdw, String.reduceBEq, p60, p50, AH.set_self, AH.set_ne, Kx.more, Kx.comp, zji, zjj, zjk, ↓zdx, ↓zdy, ↓zdz, ↓zea, ↓zeb, ↓zec, ↓zed, ↓zee, ↓zef, ↓zeg, ↓zeh, ↓zei, ↓zej, ↓zek, ↓zel, ↓zem, ↓zen, ↓zeo, ↓zep, ↓zeq, ↓zer, ↓zes, ↓zet, ↓zeu, ↓zev, ↓zew, ↓zex, ↓zey, ↓zez, ↓zfa, ↓zfb, ↓zfc, ↓zfd, ↓zfe, ↓zff, ↓zfg, ↓zfh, ↓zfi, ↓zfj, ↓zfk, ↓zfl, ↓zfm, ↓zfn, ↓zfo, ↓zfp, ↓zfq, ↓zfr, ↓zfs, ↓mtE, ↓zft, ↓zfu, ↓zfv, ↓zfw, ↓zfx, ↓zfy, ↓zfz, ↓zga, ↓zgb, ↓zgc, ↓zgd, ↓zge, ↓zgf, ↓zgg, zgh, zgi, zgj, zgk, zgl, zgm, zgn, zgo, zgp, zgq, zgr, zgs, zgt, zgu, zgv, zgw, zgx, zgy, zgz, zha, zhb, zhc, zhd, zhe, zhf, zhg, zhh, zhi, zhj, zhk, zhl, zhm, zhn, zho, zhp, zhq, zhr, zhs, zht, zhu, zhv, zhw, ↓zhx, ↓zhy, ↓zhz, ↓zia, ↓zib, zic, zid, zie, zif, zig, zih, ↓zii, ↓zij, ↓zik, ↓zil, ↓zim, ↓zin, ↓zio, ↓ziq, ↓zir, pk0, pk1, pk2, pk3, pk4, pk5, pk6, zjl, zjm, zjn, zjo, zjp, zjq, zjr, zjs, zjt, zju, zjv, zjw, zjx, zjy, zjz, zka, zkb, zkc, zkd, zke, zkf, zkg, zkh, zki, zkj, reduceCtorEq, zkk, zkl, zkm, zkn, zko, String.reduceEq, Nat.reduceAdd, Nat.reduceLeDiff, Nat.reduceLT, zkp, zkq, zkr, zks, ↓zis, zit, ↓ziu, ziv, *])
  intro rg nrg frg
  have hgf : rg ≠ f := fun e => by subst e; rw [AH.set_ne _ _ hrf.symm, AH.set_self] at nrg; cases nrg
  have hgw : rg ≠ wr := fun e => by subst e; rw [AH.set_self] at nrg; cases nrg
  have nrg0 : H.get rg = none := by rw [AH.set_ne _ _ hgw, AH.set_ne _ _ hgf] at nrg; exact nrg
  have hmm : (ss.map V.str).length = ss.length := by rw [List.length_map]
  rw [hmm]
  refine forW_of _ (fun k ρ' H' => ρ' "_law_script" = some (.ref l) ∧ ρ' "_law_at" = some (.int at0) ∧ ρ' "_law_step_here" = some (.ref p) ∧ ρ' "_law_found" = some (.ref f) ∧ ρ' "_law_row" = some (.ref wr) ∧
    Ext H H' ∧ H'.get wr = some (.list (ss.map V.str)) ∧ ∃ fs : DI, H'.get f = some (.sdict (dI fs)) ∧ keys fs = ss.take k) (items_rng (n := ss.length) (AH.set_self ..) (by omega)) ⟨?_, ?_, ?_, ?_, ?_, ?_, ?_, [], ?_, ?_⟩ ?_ ?_
  · (simp (maxSteps := 1000000) (implicitDefEqProofs := false) only [↓zb, ↓reduceIte, zc, ↓zd, ↓ze, ↓zg, ↓zh, ↓zi, ↓zj, ↓zk, ↓zl, ↓zn, ↓zo, ↓zp, ↓zq, ↓zr, ↓zt, ↓zu, ↓zv, ↓zw, ↓zx, ↓zy, ↓zz, ↓zba, ↓zbb, ↓zbc, ↓zbd, ↓zbe, ↓zbf, ↓zbg, ↓zbh, ↓zbi, ↓zbj, ↓zbk, ↓zbl, ↓zbm, ↓zbn, ↓zbo, ↓zbp, ↓zbq, ↓zbr, ↓zbs, ↓zbt, ↓zbu, ↓zbv, ↓zbw, ↓zbx, ↓zby, ↓zbz, ↓zca, ↓zcb, ↓zcc, ↓zcd, ↓zce, ↓zcf, ↓zcg, ↓zch, ↓zci, ↓zcj, ↓zck, ↓zcl, ↓zcm, ↓zcn, ↓zco, ↓zcp, ↓zcq, ↓zcr, ↓zcs, ↓zct, ↓zcu, ↓zcv, ↓zcw, ↓mt, zcx, kwl, ziw, zcy, zcz, zda, zdb, zdc, zix, ziy, ziz, zja, zdd, zde, zdf, zdg, zdh, zdi, zdj, zdk, zdl, zdm, zdn, zdo, zdp, zdq, zjb, Int.reduceEq, Int.reduceNe, zjc, zjd, Nat.reduceEqDiff, Int.reduceLT, Int.reduceLE, Int.reduceNeg, Int.reduceToNat, zje, kdC, zdr, zjf, zjg, nk1, nk2, nk3, nk4, nk5, zjh, zds, zdt, zdu, zdv, ic1, ic2, ic3, ic4, ic5, ic6, zdw, String.reduceBEq, p60, p50, AH.set_self, AH.set_ne, Kx.more, Kx.comp, zji, zjj, zjk, ↓zdx, ↓zdy, ↓zdz, ↓zea, ↓zeb, ↓zec, ↓zed, ↓zee, ↓zef, ↓zeg, ↓zeh, ↓zei, ↓zej, ↓zek, ↓zel, ↓zem, ↓zen, ↓zeo, ↓zep, ↓zeq, ↓zer, ↓zes, ↓zet, ↓zeu, ↓zev, ↓zew, ↓zex, ↓zey, ↓zez, ↓zfa, ↓zfb, ↓zfc, ↓zfd, ↓zfe, ↓zff, ↓zfg, ↓zfh, ↓zfi, ↓zfj, ↓zfk, ↓zfl, ↓zfm, ↓zfn, ↓zfo, ↓zfp, ↓zfq, ↓zfr, ↓zfs, ↓mtE, ↓zft, ↓zfu, ↓zfv, ↓zfw, ↓zfx, ↓zfy, ↓zfz, ↓zga, ↓zgb, ↓zgc, ↓zgd, ↓zge, ↓zgf, ↓zgg, zgh, zgi, zgj, zgk, zgl, zgm, zgn, zgo, zgp, zgq, zgr, zgs, zgt, zgu, zgv, zgw, zgx, zgy, zgz, zha, zhb, zhc, zhd, zhe, zhf, zhg, zhh, zhi, zhj, zhk, zhl, zhm, zhn, zho, zhp, zhq, zhr, zhs, zht, zhu, zhv, zhw, ↓zhx, ↓zhy, ↓zhz, ↓zia, ↓zib, zic, zid, zie, zif, zig, zih, ↓zii, ↓zij, ↓zik, ↓zil, ↓zim, ↓zin, ↓zio, ↓ziq, ↓zir, pk0, pk1, pk2, pk3, pk4, pk5, pk6, zjl, zjm, zjn, zjo, zjp, zjq, zjr, zjs, zjt, zju, zjv, zjw, zjx, zjy, zjz, zka, zkb, zkc, zkd, zke, zkf, zkg, zkh, zki, zkj, reduceCtorEq, zkk, zkl, zkm, zkn, zko, String.reduceEq, Nat.reduceAdd, Nat.reduceLeDiff, Nat.reduceLT, zkp, zkq, zkr, zks, ↓zis, zit, ↓ziu, ziv, *])
  · (simp (maxSteps := 1000000) (implicitDefEqProofs := false) only [↓zb, ↓reduceIte, zc, ↓zd, ↓ze, ↓zg, ↓zh, ↓zi, ↓zj, ↓zk, ↓zl, ↓zn, ↓zo, ↓zp, ↓zq, ↓zr, ↓zt, ↓zu, ↓zv, ↓zw, ↓zx, ↓zy, ↓zz, ↓zba, ↓zbb, ↓zbc, ↓zbd, ↓zbe, ↓zbf, ↓zbg, ↓zbh, ↓zbi, ↓zbj, ↓zbk, ↓zbl, ↓zbm, ↓zbn, ↓zbo, ↓zbp, ↓zbq, ↓zbr, ↓zbs, ↓zbt, ↓zbu, ↓zbv, ↓zbw, ↓zbx, ↓zby, ↓zbz, ↓zca, ↓zcb, ↓zcc, ↓zcd, ↓zce, ↓zcf, ↓zcg, ↓zch, ↓zci, ↓zcj, ↓zck, ↓zcl, ↓zcm, ↓zcn, ↓zco, ↓zcp, ↓zcq, ↓zcr, ↓zcs, ↓zct, ↓zcu, ↓zcv, ↓zcw, ↓mt, zcx, kwl, ziw, zcy, zcz, zda, zdb, zdc, zix, ziy, ziz, zja, zdd, zde, zdf, zdg, zdh, zdi, zdj, zdk, zdl, zdm, zdn, zdo, zdp, zdq, zjb, Int.reduceEq, Int.reduceNe, zjc, zjd, Nat.reduceEqDiff, Int.reduceLT, Int.reduceLE, Int.reduceNeg, Int.reduceToNat, zje, kdC, zdr, zjf, zjg, nk1, nk2, nk3, nk4, nk5, zjh, zds, zdt, zdu, zdv, ic1, ic2, ic3, ic4, ic5, ic6, zdw, String.reduceBEq, p60, p50, AH.set_self, AH.set_ne, Kx.more, Kx.comp, zji, zjj, zjk, ↓zdx, ↓zdy, ↓zdz, ↓zea, ↓zeb, ↓zec, ↓zed, ↓zee, ↓zef, ↓zeg, ↓zeh, ↓zei, ↓zej, ↓zek, ↓zel, ↓zem, ↓zen, ↓zeo, ↓zep, ↓zeq, ↓zer, ↓zes, ↓zet, ↓zeu, ↓zev, ↓zew, ↓zex, ↓zey, ↓zez, ↓zfa, ↓zfb, ↓zfc, ↓zfd, ↓zfe, ↓zff, ↓zfg, ↓zfh, ↓zfi, ↓zfj, ↓zfk, ↓zfl, ↓zfm, ↓zfn, ↓zfo, ↓zfp, ↓zfq, ↓zfr, ↓zfs, ↓mtE, ↓zft, ↓zfu, ↓zfv, ↓zfw, ↓zfx, ↓zfy, ↓zfz, ↓zga, ↓zgb, ↓zgc, ↓zgd, ↓zge, ↓zgf, ↓zgg, zgh, zgi, zgj, zgk, zgl, zgm, zgn, zgo, zgp, zgq, zgr, zgs, zgt, zgu, zgv, zgw, zgx, zgy, zgz, zha, zhb, zhc, zhd, zhe, zhf, zhg, zhh, zhi, zhj, zhk, zhl, zhm, zhn, zho, zhp, zhq, zhr, zhs, zht, zhu, zhv, zhw, ↓zhx, ↓zhy, ↓zhz, ↓zia, ↓zib, zic, zid, zie, zif, zig, zih, ↓zii, ↓zij, ↓zik, ↓zil, ↓zim, ↓zin, ↓zio, ↓ziq, ↓zir, pk0, pk1, pk2, pk3, pk4, pk5, pk6, zjl, zjm, zjn, zjo, zjp, zjq, zjr, zjs, zjt, zju, zjv, zjw, zjx, zjy, zjz, zka, zkb, zkc, zkd, zke, zkf, zkg, zkh, zki, zkj, reduceCtorEq, zkk, zkl, zkm, zkn, zko, String.reduceEq, Nat.reduceAdd, Nat.reduceLeDiff, Nat.reduceLT, zkp, zkq, zkr, zks, ↓zis, zit, ↓ziu, ziv, *])
  · (simp (maxSteps := 1000000) (implicitDefEqProofs := false) only [↓zb, ↓reduceIte, zc, ↓zd, ↓ze, ↓zg, ↓zh, ↓zi, ↓zj, ↓zk, ↓zl, ↓zn, ↓zo, ↓zp, ↓zq, ↓zr, ↓zt, ↓zu, ↓zv, ↓zw, ↓zx, ↓zy, ↓zz, ↓zba, ↓zbb, ↓zbc, ↓zbd, ↓zbe, ↓zbf, ↓zbg, ↓zbh, ↓zbi, ↓zbj, ↓zbk, ↓zbl, ↓zbm, ↓zbn, ↓zbo, ↓zbp, ↓zbq, ↓zbr, ↓zbs, ↓zbt, ↓zbu, ↓zbv, ↓zbw, ↓zbx, ↓zby, ↓zbz, ↓zca, ↓zcb, ↓zcc, ↓zcd, ↓zce, ↓zcf, ↓zcg, ↓zch, ↓zci, ↓zcj, ↓zck, ↓zcl, ↓zcm, ↓zcn, ↓zco, ↓zcp, ↓zcq, ↓zcr, ↓zcs, ↓zct, ↓zcu, ↓zcv, ↓zcw, ↓mt, zcx, kwl, ziw, zcy, zcz, zda, zdb, zdc, zix, ziy, ziz, zja, zdd, zde, zdf, zdg, zdh, zdi, zdj, zdk, zdl, zdm, zdn, zdo, zdp, zdq, zjb, Int.reduceEq, Int.reduceNe, zjc, zjd, Nat.reduceEqDiff, Int.reduceLT, Int.reduceLE, Int.reduceNeg, Int.reduceToNat, zje, kdC, zdr, zjf, zjg, nk1, nk2, nk3, nk4, nk5, zjh, zds, zdt, zdu, zdv, ic1, ic2, ic3, ic4, ic5, ic6, zdw, String.reduceBEq, p60, p50, AH.set_self, AH.set_ne, Kx.more, Kx.comp, zji, zjj, zjk, ↓zdx, ↓zdy, ↓zdz, ↓zea, ↓zeb, ↓zec, ↓zed, ↓zee, ↓zef, ↓zeg, ↓zeh, ↓zei, ↓zej, ↓zek, ↓zel, ↓zem, ↓zen, ↓zeo, ↓zep, ↓zeq, ↓zer, ↓zes, ↓zet, ↓zeu, ↓zev, ↓zew, ↓zex, ↓zey, ↓zez, ↓zfa, ↓zfb, ↓zfc, ↓zfd, ↓zfe, ↓zff, ↓zfg, ↓zfh, ↓zfi, ↓zfj, ↓zfk, ↓zfl, ↓zfm, ↓zfn, ↓zfo, ↓zfp, ↓zfq, ↓zfr, ↓zfs, ↓mtE, ↓zft, ↓zfu, ↓zfv, ↓zfw, ↓zfx, ↓zfy, ↓zfz, ↓zga, ↓zgb, ↓zgc, ↓zgd, ↓zge, ↓zgf, ↓zgg, zgh, zgi, zgj, zgk, zgl, zgm, zgn, zgo, zgp, zgq, zgr, zgs, zgt, zgu, zgv, zgw, zgx, zgy, zgz, zha, zhb, zhc, zhd, zhe, zhf, zhg, zhh, zhi, zhj, zhk, zhl, zhm, zhn, zho, zhp, zhq, zhr, zhs, zht, zhu, zhv, zhw, ↓zhx, ↓zhy, ↓zhz, ↓zia, ↓zib, zic, zid, zie, zif, zig, zih, ↓zii, ↓zij, ↓zik, ↓zil, ↓zim, ↓zin, ↓zio, ↓ziq, ↓zir, pk0, pk1, pk2, pk3, pk4, pk5, pk6, zjl, zjm, zjn, zjo, zjp, zjq, zjr, zjs, zjt, zju, zjv, zjw, zjx, zjy, zjz, zka, zkb, zkc, zkd, zke, zkf, zkg, zkh, zki, zkj, reduceCtorEq, zkk, zkl, zkm, zkn, zko, String.reduceEq, Nat.reduceAdd, Nat.reduceLeDiff, Nat.reduceLT, zkp, zkq, zkr, zks, ↓zis, zit, ↓ziu, ziv, *])
  · (simp (maxSteps := 1000000) (implicitDefEqProofs := false) only [↓zb, ↓reduceIte, zc, ↓zd, ↓ze, ↓zg, ↓zh, ↓zi, ↓zj, ↓zk, ↓zl, ↓zn, ↓zo, ↓zp, ↓zq, ↓zr, ↓zt, ↓zu, ↓zv, ↓zw, ↓zx, ↓zy, ↓zz, ↓zba, ↓zbb, ↓zbc, ↓zbd, ↓zbe, ↓zbf, ↓zbg, ↓zbh, ↓zbi, ↓zbj, ↓zbk, ↓zbl, ↓zbm, ↓zbn, ↓zbo, ↓zbp, ↓zbq, ↓zbr, ↓zbs, ↓zbt, ↓zbu, ↓zbv, ↓zbw, ↓zbx, ↓zby, ↓zbz, ↓zca, ↓zcb, ↓zcc, ↓zcd, ↓zce, ↓zcf, ↓zcg, ↓zch, ↓zci, ↓zcj, ↓zck, ↓zcl, ↓zcm, ↓zcn, ↓zco, ↓zcp, ↓zcq, ↓zcr, ↓zcs, ↓zct, ↓zcu, ↓zcv, ↓zcw, ↓mt, zcx, kwl, ziw, zcy, zcz, zda, zdb, zdc, zix, ziy, ziz, zja, zdd, zde, zdf, zdg, zdh, zdi, zdj, zdk, zdl, zdm, zdn, zdo, zdp, zdq, zjb, Int.reduceEq, Int.reduceNe, zjc, zjd, Nat.reduceEqDiff, Int.reduceLT, Int.reduceLE, Int.reduceNeg, Int.reduceToNat, zje, kdC, zdr, zjf, zjg, nk1, nk2, nk3, nk4, nk5, zjh, zds, zdt, zdu, zdv, ic1, ic2, ic3, ic4, ic5, ic6, zdw, String.reduceBEq, p60, p50, AH.set_self, AH.set_ne, Kx.more, Kx.comp, zji, zjj, zjk, ↓zdx, ↓zdy, ↓zdz, ↓zea, ↓zeb, ↓zec, ↓zed, ↓zee, ↓zef, ↓zeg, ↓zeh, ↓zei, ↓zej, ↓zek, ↓zel, ↓zem, ↓zen, ↓zeo, ↓zep, ↓zeq, ↓zer, ↓zes, ↓zet, ↓zeu, ↓zev, ↓zew, ↓zex, ↓zey, ↓zez, ↓zfa, ↓zfb, ↓zfc, ↓zfd, ↓zfe, ↓zff, ↓zfg, ↓zfh, ↓zfi, ↓zfj, ↓zfk, ↓zfl, ↓zfm, ↓zfn, ↓zfo, ↓zfp, ↓zfq, ↓zfr, ↓zfs, ↓mtE, ↓zft, ↓zfu, ↓zfv, ↓zfw, ↓zfx, ↓zfy, ↓zfz, ↓zga, ↓zgb, ↓zgc, ↓zgd, ↓zge, ↓zgf, ↓zgg, zgh, zgi, zgj, zgk, zgl, zgm, zgn, zgo, zgp, zgq, zgr, zgs, zgt, zgu, zgv, zgw, zgx, zgy, zgz, zha, zhb, zhc, zhd, zhe, zhf, zhg, zhh, zhi, zhj, zhk, zhl, zhm, zhn, zho, zhp, zhq, zhr, zhs, zht, zhu, zhv, zhw, ↓zhx, ↓zhy, ↓zhz, ↓zia, ↓zib, zic, zid, zie, zif, zig, zih, ↓zii, ↓zij, ↓zik, ↓zil, ↓zim, ↓zin, ↓zio, ↓ziq, ↓zir, pk0, pk1, pk2, pk3, pk4, pk5, pk6, zjl, zjm, zjn, zjo, zjp, zjq, zjr, zjs, zjt, zju, zjv, zjw, zjx, zjy, zjz, zka, zkb, zkc, zkd, zke, zkf, zkg, zkh, zki, zkj, reduceCtorEq, zkk, zkl, zkm, zkn, zko, String.reduceEq, Nat.reduceAdd, Nat.reduceLeDiff, Nat.reduceLT, zkp, zkq, zkr, zks, ↓zis, zit, ↓ziu, ziv, *])
  · (simp (maxSteps := 1000000) (implicitDefEqProofs := false) only [↓zb, ↓reduceIte, zc, ↓zd, ↓ze, ↓zg, ↓zh, ↓zi, ↓zj, ↓zk, ↓zl, ↓zn, ↓zo, ↓zp, ↓zq, ↓zr, ↓zt, ↓zu, ↓zv, ↓zw, ↓zx, ↓zy, ↓zz, ↓zba, ↓zbb, ↓zbc, ↓zbd, ↓zbe, ↓zbf, ↓zbg, ↓zbh, ↓zbi, ↓zbj, ↓zbk, ↓zbl, ↓zbm, ↓zbn, ↓zbo, ↓zbp, ↓zbq, ↓zbr, ↓zbs, ↓zbt, ↓zbu, ↓zbv, ↓zbw, ↓zbx, ↓zby, ↓zbz, ↓zca, ↓zcb, ↓zcc, ↓zcd, ↓zce, ↓zcf, ↓zcg, ↓zch, ↓zci, ↓zcj, ↓zck, ↓zcl, ↓zcm, ↓zcn, ↓zco, ↓zcp, ↓zcq, ↓zcr, ↓zcs, ↓zct, ↓zcu, ↓zcv, ↓zcw, ↓mt, zcx, kwl, ziw, zcy, zcz, zda, zdb, zdc, zix, ziy, ziz, zja, zdd, zde, zdf, zdg, zdh, zdi, zdj, zdk, zdl, zdm, zdn, zdo, zdp, zdq, zjb, Int.reduceEq, Int.reduceNe, zjc, zjd, Nat.reduceEqDiff, Int.reduceLT, Int.reduceLE, Int.reduceNeg, Int.reduceToNat, zje, kdC, zdr, zjf, zjg, nk1, nk2, nk3, nk4, nk5, zjh, zds, zdt, zdu, zdv, ic1, ic2, ic3, ic4, ic5, ic6, zdw, String.reduceBEq, p60, p50, AH.set_self, AH.set_ne, Kx.more, Kx.comp, zji, zjj, zjk, ↓zdx, ↓zdy, ↓zdz, ↓zea, ↓zeb, ↓zec, ↓zed, ↓zee, ↓zef, ↓zeg, ↓zeh, ↓zei, ↓zej, ↓zek, ↓zel, ↓zem, ↓zen, ↓zeo, ↓zep, ↓zeq, ↓zer, ↓zes, ↓zet, ↓zeu, ↓zev, ↓zew, ↓zex, ↓zey, ↓zez, ↓zfa, ↓zfb, ↓zfc, ↓zfd, ↓zfe, ↓zff, ↓zfg, ↓zfh, ↓zfi, ↓zfj, ↓zfk, ↓zfl, ↓zfm, ↓zfn, ↓zfo, ↓zfp, ↓zfq, ↓zfr, ↓zfs, ↓mtE, ↓zft, ↓zfu, ↓zfv, ↓zfw, ↓zfx, ↓zfy, ↓zfz, ↓zga, ↓zgb, ↓zgc, ↓zgd, ↓zge, ↓zgf, ↓zgg, zgh, zgi, zgj, zgk, zgl, zgm, zgn, zgo, zgp, zgq, zgr, zgs, zgt, zgu, zgv, zgw, zgx, zgy, zgz, zha, zhb, zhc, zhd, zhe, zhf, zhg, zhh, zhi, zhj, zhk, zhl, zhm, zhn, zho, zhp, zhq, zhr, zhs, zht, zhu, zhv, zhw, ↓zhx, ↓zhy, ↓zhz, ↓zia, ↓zib, zic, zid, zie, zif, zig, zih, ↓zii, ↓zij, ↓zik, ↓zil, ↓zim, ↓zin, ↓zio, ↓ziq, ↓zir, pk0, pk1, pk2, pk3, pk4, pk5, pk6, zjl, zjm, zjn, zjo, zjp, zjq, zjr, zjs, zjt, zju, zjv, zjw, zjx, zjy, zjz, zka, zkb, zkc, zkd, zke, zkf, zkg, zkh, zki, zkj, reduceCtorEq, zkk, zkl, zkm, zkn, zko, String.reduceEq, Nat.reduceAdd, Nat.reduceLeDiff, Nat.reduceLT, zkp, zkq, zkr, zks, ↓zis, zit, ↓ziu, ziv, *])
  · exact (((Ext.refl _).set hf).set nrw0).set nrg0
  · rw [AH.set_ne _ _ hgw.symm, AH.set_self]
  · rw [AH.set_ne _ _ hgf.symm, AH.set_ne _ _ hrf.symm, AH.set_self]; rfl
  · simp [keys]
  · rintro k y ρ' H' hy ⟨r1, r2, r3, r4, r5, e4, hrw, fs, hfs, hks⟩
    obtain ⟨hk, rfl⟩ := range_get hy
    have hl := e4 _ _ hl
    have hx : ss[k]? = some ss[k] := List.getElem?_eq_getElem hk
    have hpk := pick_strs hx
    generalize ss[k] = nk at hx hpk
    have hnk : nk ∉ keys fs := by rw [hks]; exact not_in_take nds hx
    have hf0 : 0 ≤ (k : Int).fmod 16 := Int.fmod_nonneg_of_pos _ (by decide)
    have hzk : (0 : Int) ≤ at0 + (k : Int).fmod 16 := by omega
    have hlen : fs.length ≤ 60 := by rw [← keys_length, hks, List.length_take]; omega
    clear hy
    refine seqsL_cons ?_
    (simp (maxSteps := 1000000) (implicitDefEqProofs := false) only [↓zb, ↓reduceIte, zc, ↓zd, ↓ze, ↓zg, ↓zh, ↓zi, ↓zj, ↓zk, ↓zl, ↓zn, ↓zo, ↓zp, ↓zq, ↓zr, ↓zt, ↓zu, ↓zv, ↓zw, ↓zx, ↓zy, ↓zz, ↓zba, ↓zbb, ↓zbc, ↓zbd, ↓zbe, ↓zbf, ↓zbg, ↓zbh, ↓zbi, ↓zbj, ↓zbk, ↓zbl, ↓zbm, ↓zbn, ↓zbo, ↓zbp, ↓zbq, ↓zbr, ↓zbs, ↓zbt, ↓zbu, ↓zbv, ↓zbw, ↓zbx, ↓zby, ↓zbz, ↓zca, ↓zcb, ↓zcc, ↓zcd, ↓zce, ↓zcf, ↓zcg, ↓zch, ↓zci, ↓zcj, ↓zck, ↓zcl, ↓zcm, ↓zcn, ↓zco, ↓zcp, ↓zcq, ↓zcr, ↓zcs, ↓zct, ↓zcu, ↓zcv, ↓zcw, ↓mt, zcx, kwl, ziw, zcy, zcz, zda, zdb, zdc, zix, ziy, ziz, zja, zdd, zde, zdf, zdg, zdh, zdi, zdj, zdk, zdl, zdm, zdn, zdo, zdp, zdq, zjb, Int.reduceEq, Int.reduceNe, zjc, zjd, Nat.reduceEqDiff, Int.reduceLT, Int.reduceLE, Int.reduceNeg, Int.reduceToNat, zje, kdC, zdr, zjf, zjg, nk1, nk2, nk3, nk4, nk5, zjh, zds, zdt, zdu, zdv, ic1, ic2, ic3, ic4, ic5, ic6, zdw, String.reduceBEq, p60, p50, AH.set_self, AH.set_ne, Kx.more, Kx.comp, zji, zjj, zjk, ↓zdx, ↓zdy, ↓zdz, ↓zea, ↓zeb, ↓zec, ↓zed, ↓zee, ↓zef, ↓zeg, ↓zeh, ↓zei, ↓zej, ↓zek, ↓zel, ↓zem, ↓zen, ↓zeo, ↓zep, ↓zeq, ↓zer, ↓zes, ↓zet, ↓zeu, ↓zev, ↓zew, ↓zex, ↓zey, ↓zez, ↓zfa, ↓zfb, ↓zfc, ↓zfd, ↓zfe, ↓zff, ↓zfg, ↓zfh, ↓zfi, ↓zfj, ↓zfk, ↓zfl, ↓zfm, ↓zfn, ↓zfo, ↓zfp, ↓zfq, ↓zfr, ↓zfs, ↓mtE, ↓zft, ↓zfu, ↓zfv, ↓zfw, ↓zfx, ↓zfy, ↓zfz, ↓zga, ↓zgb, ↓zgc, ↓zgd, ↓zge, ↓zgf, ↓zgg, zgh, zgi, zgj, zgk, zgl, zgm, zgn, zgo, zgp, zgq, zgr, zgs, zgt, zgu, zgv, zgw, zgx, zgy, zgz, zha, zhb, zhc, zhd, zhe, zhf, zhg, zhh, zhi, zhj, zhk, zhl, zhm, zhn, zho, zhp, zhq, zhr, zhs, zht, zhu, zhv, zhw, ↓zhx, ↓zhy, ↓zhz, ↓zia, ↓zib, zic, zid, zie, zif, zig, zih, ↓zii, ↓zij, ↓zik, ↓zil, ↓zim, ↓zin, ↓zio, ↓ziq, ↓zir, pk0, pk1, pk2, pk3, pk4, pk5, pk6, zjl, zjm, zjn, zjo, zjp, zjq, zjr, zjs, zjt, zju, zjv, zjw, zjx, zjy, zjz, zka, zkb, zkc, zkd, zke, zkf, zkg, zkh, zki, zkj, reduceCtorEq, zkk, zkl, zkm, zkn, zko, String.reduceEq, Nat.reduceAdd, Nat.reduceLeDiff, Nat.reduceLT, zkp, zkq, zkr, zks, ↓zis, zit, ↓ziu, ziv, *])
    intro n
    rw [dput_dI]
    refine ⟨by simp [hgf.symm, hff], by rw [dI_length]; exact Nat.le_trans hlen (by decide), seqsL_nil ?_⟩
    rw [zcs]
    have hks' : keys (pI fs nk n) = ss.take (k + 1) := by rw [keys_put, if_neg hnk, hks, List.take_add_one, hx]; rfl
    refine ⟨?_, ?_, ?_, ?_, ?_, e4.set hf, ?_, _, AH.set_self .., hks'⟩ <;> (simp (maxSteps := 1000000) (implicitDefEqProofs := false) only [↓zb, ↓reduceIte, zc, ↓zd, ↓ze, ↓zg, ↓zh, ↓zi, ↓zj, ↓zk, ↓zl, ↓zn, ↓zo, ↓zp, ↓zq, ↓zr, ↓zt, ↓zu, ↓zv, ↓zw, ↓zx, ↓zy, ↓zz, ↓zba, ↓zbb, ↓zbc, ↓zbd, ↓zbe, ↓zbf, ↓zbg, ↓zbh, ↓zbi, ↓zbj, ↓zbk, ↓zbl, ↓zbm, ↓zbn, ↓zbo, ↓zbp, ↓zbq, ↓zbr, ↓zbs, ↓zbt, ↓zbu, ↓zbv, ↓zbw, ↓zbx, ↓zby, ↓zbz, ↓zca, ↓zcb, ↓zcc, ↓zcd, ↓zce, ↓zcf, ↓zcg, ↓zch, ↓zci, ↓zcj, ↓zck, ↓zcl, ↓zcm, ↓zcn, ↓zco, ↓zcp, ↓zcq, ↓zcr, ↓zcs, ↓zct, ↓zcu, ↓zcv, ↓zcw, ↓mt, zcx, kwl, ziw, zcy, zcz, zda, zdb, zdc, zix, ziy, ziz, zja, zdd, zde, zdf, zdg, zdh, zdi, zdj, zdk, zdl, zdm, zdn, zdo, zdp, zdq, zjb, Int.reduceEq, Int.reduceNe, zjc, zjd, Nat.reduceEqDiff, Int.reduceLT, Int.reduceLE, Int.reduceNeg, Int.reduceToNat, zje, kdC, zdr, zjf, zjg, nk1, nk2, nk3, nk4, nk5, zjh, zds, zdt, zdu, zdv, ic1, ic2, ic3, ic4, ic5, ic6, zdw, String.reduceBEq, p60, p50, AH.set_self, AH.set_ne, Kx.more, Kx.comp, zji, zjj, zjk, ↓zdx, ↓zdy, ↓zdz, ↓zea, ↓zeb, ↓zec, ↓zed, ↓zee, ↓zef, ↓zeg, ↓zeh, ↓zei, ↓zej, ↓zek, ↓zel, ↓zem, ↓zen, ↓zeo, ↓zep, ↓zeq, ↓zer, ↓zes, ↓zet, ↓zeu, ↓zev, ↓zew, ↓zex, ↓zey, ↓zez, ↓zfa, ↓zfb, ↓zfc, ↓zfd, ↓zfe, ↓zff, ↓zfg, ↓zfh, ↓zfi, ↓zfj, ↓zfk, ↓zfl, ↓zfm, ↓zfn, ↓zfo, ↓zfp, ↓zfq, ↓zfr, ↓zfs, ↓mtE, ↓zft, ↓zfu, ↓zfv, ↓zfw, ↓zfx, ↓zfy, ↓zfz, ↓zga, ↓zgb, ↓zgc, ↓zgd, ↓zge, ↓zgf, ↓zgg, zgh, zgi, zgj, zgk, zgl, zgm, zgn, zgo, zgp, zgq, zgr, zgs, zgt, zgu, zgv, zgw, zgx, zgy, zgz, zha, zhb, zhc, zhd, zhe, zhf, zhg, zhh, zhi, zhj, zhk, zhl, zhm, zhn, zho, zhp, zhq, zhr, zhs, zht, zhu, zhv, zhw, ↓zhx, ↓zhy, ↓zhz, ↓zia, ↓zib, zic, zid, zie, zif, zig, zih, ↓zii, ↓zij, ↓zik, ↓zil, ↓zim, ↓zin, ↓zio, ↓ziq, ↓zir, pk0, pk1, pk2, pk3, pk4, pk5, pk6, zjl, zjm, zjn, zjo, zjp, zjq, zjr, zjs, zjt, zju, zjv, zjw, zjx, zjy, zjz, zka, zkb, zkc, zkd, zke, zkf, zkg, zkh, zki, zkj, reduceCtorEq, zkk, zkl, zkm, zkn, zko, String.reduceEq, Nat.reduceAdd, Nat.reduceLeDiff, Nat.reduceLT, zkp, zkq, zkr, zks, ↓zis, zit, ↓ziu, ziv, *])
  · rintro ρ' H' ⟨r1, r2, r3, r4, r5, e4, hrw, fs, hfs, hks⟩
    rw [List.length_map, List.length_range, List.take_of_length_le (Nat.le_refl _)] at hks
    have hp1 := e4 _ _ hp
    have pm2 : (keys fs).Perm (keys es) := by rw [hks]; exact pm
    have hlen : fs.length ≤ 60 := by rw [← keys_length, pm2.length_eq, keys_length]; exact hz
    have hzs : (dI fs).length ≤ sizeLine := by rw [dI_length]; exact Nat.le_trans hlen (by decide)
    rw [zco]
    refine seqsL_split (fun ρ₂ H₂ => ρ₂ "_law_found" = some (.ref f) ∧ Ext H H₂ ∧ ∃ one, H₂.get f = some (.sdict (dI one)) ∧ (keys one).Perm (keys es) ∧ Low st one) ?_ ?_
    · rintro ρ₂ H₂ ⟨q1, q2, one, q3, q4, q5⟩
      clear r1 r2 r3 r4 r5 hfs
      refine seqsL_cons ?_
      (simp (maxSteps := 1000000) (implicitDefEqProofs := false) only [↓zb, ↓reduceIte, zc, ↓zd, ↓ze, ↓zg, ↓zh, ↓zi, ↓zj, ↓zk, ↓zl, ↓zn, ↓zo, ↓zp, ↓zq, ↓zr, ↓zt, ↓zu, ↓zv, ↓zw, ↓zx, ↓zy, ↓zz, ↓zba, ↓zbb, ↓zbc, ↓zbd, ↓zbe, ↓zbf, ↓zbg, ↓zbh, ↓zbi, ↓zbj, ↓zbk, ↓zbl, ↓zbm, ↓zbn, ↓zbo, ↓zbp, ↓zbq, ↓zbr, ↓zbs, ↓zbt, ↓zbu, ↓zbv, ↓zbw, ↓zbx, ↓zby, ↓zbz, ↓zca, ↓zcb, ↓zcc, ↓zcd, ↓zce, ↓zcf, ↓zcg, ↓zch, ↓zci, ↓zcj, ↓zck, ↓zcl, ↓zcm, ↓zcn, ↓zco, ↓zcp, ↓zcq, ↓zcr, ↓zcs, ↓zct, ↓zcu, ↓zcv, ↓zcw, ↓mt, zcx, kwl, ziw, zcy, zcz, zda, zdb, zdc, zix, ziy, ziz, zja, zdd, zde, zdf, zdg, zdh, zdi, zdj, zdk, zdl, zdm, zdn, zdo, zdp, zdq, zjb, Int.reduceEq, Int.reduceNe, zjc, zjd, Nat.reduceEqDiff, Int.reduceLT, Int.reduceLE, Int.reduceNeg, Int.reduceToNat, zje, kdC, zdr, zjf, zjg, nk1, nk2, nk3, nk4, nk5, zjh, zds, zdt, zdu, zdv, ic1, ic2, ic3, ic4, ic5, ic6, zdw, String.reduceBEq, p60, p50, AH.set_self, AH.set_ne, Kx.more, Kx.comp, zji, zjj, zjk, ↓zdx, ↓zdy, ↓zdz, ↓zea, ↓zeb, ↓zec, ↓zed, ↓zee, ↓zef, ↓zeg, ↓zeh, ↓zei, ↓zej, ↓zek, ↓zel, ↓zem, ↓zen, ↓zeo, ↓zep, ↓zeq, ↓zer, ↓zes, ↓zet, ↓zeu, ↓zev, ↓zew, ↓zex, ↓zey, ↓zez, ↓zfa, ↓zfb, ↓zfc, ↓zfd, ↓zfe, ↓zff, ↓zfg, ↓zfh, ↓zfi, ↓zfj, ↓zfk, ↓zfl, ↓zfm, ↓zfn, ↓zfo, ↓zfp, ↓zfq, ↓zfr, ↓zfs, ↓mtE, ↓zft, ↓zfu, ↓zfv, ↓zfw, ↓zfx, ↓zfy, ↓zfz, ↓zga, ↓zgb, ↓zgc, ↓zgd, ↓zge, ↓zgf, ↓zgg, zgh, zgi, zgj, zgk, zgl, zgm, zgn, zgo, zgp, zgq, zgr, zgs, zgt, zgu, zgv, zgw, zgx, zgy, zgz, zha, zhb, zhc, zhd, zhe, zhf, zhg, zhh, zhi, zhj, zhk, zhl, zhm, zhn, zho, zhp, zhq, zhr, zhs, zht, zhu, zhv, zhw, ↓zhx, ↓zhy, ↓zhz, ↓zia, ↓zib, zic, zid, zie, zif, zig, zih, ↓zii, ↓zij, ↓zik, ↓zil, ↓zim, ↓zin, ↓zio, ↓ziq, ↓zir, pk0, pk1, pk2, pk3, pk4, pk5, pk6, zjl, zjm, zjn, zjo, zjp, zjq, zjr, zjs, zjt, zju, zjv, zjw, zjx, zjy, zjz, zka, zkb, zkc, zkd, zke, zkf, zkg, zkh, zki, zkj, reduceCtorEq, zkk, zkl, zkm, zkn, zko, String.reduceEq, Nat.reduceAdd, Nat.reduceLeDiff, Nat.reduceLT, zkp, zkq, zkr, zks, ↓zis, zit, ↓ziu, ziv, *])
      exact h.out H₂ f one q2 hf hff q3 q4 q5
    intro rest
    replace rest := Box.mk rest
    have hv : ∀ k ∈ st.comes, dget (dI fs) k = some (.int (val fs k)) := fun k hk => by rw [dget_dI, gI_val (pm2.mem_iff.mpr (hc.out k hk))]; rfl
    have hfpn : p ≠ f := hfp
    cases st <;> simp only [Stp.vs, Stp.comes, Stp.sizeOk, List.mem_cons, List.not_mem_nil, or_false, forall_eq, forall_eq_or_imp, false_implies, implies_true] at hp1 hv hs
    case part x y z s =>
      have hs0 : s ≠ 0 := by omega
      (simp (maxSteps := 1000000) (implicitDefEqProofs := false) only [↓zb, ↓reduceIte, zc, ↓zd, ↓ze, ↓zg, ↓zh, ↓zi, ↓zj, ↓zk, ↓zl, ↓zn, ↓zo, ↓zp, ↓zq, ↓zr, ↓zt, ↓zu, ↓zv, ↓zw, ↓zx, ↓zy, ↓zz, ↓zba, ↓zbb, ↓zbc, ↓zbd, ↓zbe, ↓zbf, ↓zbg, ↓zbh, ↓zbi, ↓zbj, ↓zbk, ↓zbl, ↓zbm, ↓zbn, ↓zbo, ↓zbp, ↓zbq, ↓zbr, ↓zbs, ↓zbt, ↓zbu, ↓zbv, ↓zbw, ↓zbx, ↓zby, ↓zbz, ↓zca, ↓zcb, ↓zcc, ↓zcd, ↓zce, ↓zcf, ↓zcg, ↓zch, ↓zci, ↓zcj, ↓zck, ↓zcl, ↓zcm, ↓zcn, ↓zco, ↓zcp, ↓zcq, ↓zcr, ↓zcs, ↓zct, ↓zcu, ↓zcv, ↓zcw, ↓mt, zcx, kwl, ziw, zcy, zcz, zda, zdb, zdc, zix, ziy, ziz, zja, zdd, zde, zdf, zdg, zdh, zdi, zdj, zdk, zdl, zdm, zdn, zdo, zdp, zdq, zjb, Int.reduceEq, Int.reduceNe, zjc, zjd, Nat.reduceEqDiff, Int.reduceLT, Int.reduceLE, Int.reduceNeg, Int.reduceToNat, zje, kdC, zdr, zjf, zjg, nk1, nk2, nk3, nk4, nk5, zjh, zds, zdt, zdu, zdv, ic1, ic2, ic3, ic4, ic5, ic6, zdw, String.reduceBEq, p60, p50, AH.set_self, AH.set_ne, Kx.more, Kx.comp, zji, zjj, zjk, ↓zdx, ↓zdy, ↓zdz, ↓zea, ↓zeb, ↓zec, ↓zed, ↓zee, ↓zef, ↓zeg, ↓zeh, ↓zei, ↓zej, ↓zek, ↓zel, ↓zem, ↓zen, ↓zeo, ↓zep, ↓zeq, ↓zer, ↓zes, ↓zet, ↓zeu, ↓zev, ↓zew, ↓zex, ↓zey, ↓zez, ↓zfa, ↓zfb, ↓zfc, ↓zfd, ↓zfe, ↓zff, ↓zfg, ↓zfh, ↓zfi, ↓zfj, ↓zfk, ↓zfl, ↓zfm, ↓zfn, ↓zfo, ↓zfp, ↓zfq, ↓zfr, ↓zfs, ↓mtE, ↓zft, ↓zfu, ↓zfv, ↓zfw, ↓zfx, ↓zfy, ↓zfz, ↓zga, ↓zgb, ↓zgc, ↓zgd, ↓zge, ↓zgf, ↓zgg, zgh, zgi, zgj, zgk, zgl, zgm, zgn, zgo, zgp, zgq, zgr, zgs, zgt, zgu, zgv, zgw, zgx, zgy, zgz, zha, zhb, zhc, zhd, zhe, zhf, zhg, zhh, zhi, zhj, zhk, zhl, zhm, zhn, zho, zhp, zhq, zhr, zhs, zht, zhu, zhv, zhw, ↓zhx, ↓zhy, ↓zhz, ↓zia, ↓zib, zic, zid, zie, zif, zig, zih, ↓zii, ↓zij, ↓zik, ↓zil, ↓zim, ↓zin, ↓zio, ↓ziq, ↓zir, pk0, pk1, pk2, pk3, pk4, pk5, pk6, zjl, zjm, zjn, zjo, zjp, zjq, zjr, zjs, zjt, zju, zjv, zjw, zjx, zjy, zjz, zka, zkb, zkc, zkd, zke, zkf, zkg, zkh, zki, zkj, reduceCtorEq, zkk, zkl, zkm, zkn, zko, String.reduceEq, Nat.reduceAdd, Nat.reduceLeDiff, Nat.reduceLT, zkp, zkq, zkr, zks, ↓zis, zit, ↓ziu, ziv, *])
      refine rest.out _ _ ⟨r4, e4.set hf, _, by rw [AH.set_self, dput_dI], ?_, ?_⟩
      · rw [keys_put, if_pos (pm2.mem_iff.mpr (hc.out z (by simp [Stp.comes])))]; exact pm2
      · show 0 ≤ val _ _ ∧ val _ _ < _
        rw [val_put, if_pos rfl]
        exact ⟨Int.fmod_nonneg_of_pos _ (by omega), Int.fmod_lt_of_pos _ (by omega)⟩
    all_goals
      (simp (maxSteps := 1000000) (implicitDefEqProofs := false) only [↓zb, ↓reduceIte, zc, ↓zd, ↓ze, ↓zg, ↓zh, ↓zi, ↓zj, ↓zk, ↓zl, ↓zn, ↓zo, ↓zp, ↓zq, ↓zr, ↓zt, ↓zu, ↓zv, ↓zw, ↓zx, ↓zy, ↓zz, ↓zba, ↓zbb, ↓zbc, ↓zbd, ↓zbe, ↓zbf, ↓zbg, ↓zbh, ↓zbi, ↓zbj, ↓zbk, ↓zbl, ↓zbm, ↓zbn, ↓zbo, ↓zbp, ↓zbq, ↓zbr, ↓zbs, ↓zbt, ↓zbu, ↓zbv, ↓zbw, ↓zbx, ↓zby, ↓zbz, ↓zca, ↓zcb, ↓zcc, ↓zcd, ↓zce, ↓zcf, ↓zcg, ↓zch, ↓zci, ↓zcj, ↓zck, ↓zcl, ↓zcm, ↓zcn, ↓zco, ↓zcp, ↓zcq, ↓zcr, ↓zcs, ↓zct, ↓zcu, ↓zcv, ↓zcw, ↓mt, zcx, kwl, ziw, zcy, zcz, zda, zdb, zdc, zix, ziy, ziz, zja, zdd, zde, zdf, zdg, zdh, zdi, zdj, zdk, zdl, zdm, zdn, zdo, zdp, zdq, zjb, Int.reduceEq, Int.reduceNe, zjc, zjd, Nat.reduceEqDiff, Int.reduceLT, Int.reduceLE, Int.reduceNeg, Int.reduceToNat, zje, kdC, zdr, zjf, zjg, nk1, nk2, nk3, nk4, nk5, zjh, zds, zdt, zdu, zdv, ic1, ic2, ic3, ic4, ic5, ic6, zdw, String.reduceBEq, p60, p50, AH.set_self, AH.set_ne, Kx.more, Kx.comp, zji, zjj, zjk, ↓zdx, ↓zdy, ↓zdz, ↓zea, ↓zeb, ↓zec, ↓zed, ↓zee, ↓zef, ↓zeg, ↓zeh, ↓zei, ↓zej, ↓zek, ↓zel, ↓zem, ↓zen, ↓zeo, ↓zep, ↓zeq, ↓zer, ↓zes, ↓zet, ↓zeu, ↓zev, ↓zew, ↓zex, ↓zey, ↓zez, ↓zfa, ↓zfb, ↓zfc, ↓zfd, ↓zfe, ↓zff, ↓zfg, ↓zfh, ↓zfi, ↓zfj, ↓zfk, ↓zfl, ↓zfm, ↓zfn, ↓zfo, ↓zfp, ↓zfq, ↓zfr, ↓zfs, ↓mtE, ↓zft, ↓zfu, ↓zfv, ↓zfw, ↓zfx, ↓zfy, ↓zfz, ↓zga, ↓zgb, ↓zgc, ↓zgd, ↓zge, ↓zgf, ↓zgg, zgh, zgi, zgj, zgk, zgl, zgm, zgn, zgo, zgp, zgq, zgr, zgs, zgt, zgu, zgv, zgw, zgx, zgy, zgz, zha, zhb, zhc, zhd, zhe, zhf, zhg, zhh, zhi, zhj, zhk, zhl, zhm, zhn, zho, zhp, zhq, zhr, zhs, zht, zhu, zhv, zhw, ↓zhx, ↓zhy, ↓zhz, ↓zia, ↓zib, zic, zid, zie, zif, zig, zih, ↓zii, ↓zij, ↓zik, ↓zil, ↓zim, ↓zin, ↓zio, ↓ziq, ↓zir, pk0, pk1, pk2, pk3, pk4, pk5, pk6, zjl, zjm, zjn, zjo, zjp, zjq, zjr, zjs, zjt, zju, zjv, zjw, zjx, zjy, zjz, zka, zkb, zkc, zkd, zke, zkf, zkg, zkh, zki, zkj, reduceCtorEq, zkk, zkl, zkm, zkn, zko, String.reduceEq, Nat.reduceAdd, Nat.reduceLeDiff, Nat.reduceLT, zkp, zkq, zkr, zks, ↓zis, zit, ↓ziu, ziv, *])
      exact rest.out _ _ ⟨r4, e4, fs, hfs, pm2, True.intro⟩

def ctL : List (Str × Tr) := [("_law_pool", T_pool), ("_law_cell_at", T_cell), ("_law_number", T_number), ("_law_step", T_step), ("forth", T_forth), ("_law_other", T_other), ("back", T_back)]



theorem ok_law {C : Cx} {a : Addr} {d : Nat} {Q : V → Prop} {H : AH} {l : Nat} {scr : List Int} (F : FnAt C a ["_law_script"] (fbody pw 15) (fscope pw 15))
    (G : GenT C d gvB ctL true) (hl : H.get l = some (.rlist (scr.map V.int))) (h : Q (.bool true)) : TopTo C (d + 1) (.ref a) [.ref l] Q H := by
  refine topTo_tab (n := 60) F G rfl rfl rfl ⟨rfl, rfl⟩ ?_
  intro kd gv ct ρ hT
  generalize hb : fbody pw 15 = b
  conv at hb => lhs; whnf
  subst hb
  generalize hb : (fscope pw 15).names = b at hT
  conv at hb => lhs; whnf
  subst hb
  simp only [tabAll, noneAll, gvB, ctL, List.map_cons, List.map_nil, List.zip_cons_cons, List.zip_nil_left, List.zip_nil_right, and_true, true_and] at hT
  replace h := Box.mk h
  -- the pool
  refine seqsL_cons ?_
  (simp (maxSteps := 1000000) (implicitDefEqProofs := false) only [↓zb, ↓reduceIte, zc, ↓zd, ↓ze, ↓zg, ↓zh, ↓zi, ↓zj, ↓zk, ↓zl, ↓zn, ↓zo, ↓zp, ↓zq, ↓zr, ↓zt, ↓zu, ↓zv, ↓zw, ↓zx, ↓zy, ↓zz, ↓zba, ↓zbb, ↓zbc, ↓zbd, ↓zbe, ↓zbf, ↓zbg, ↓zbh, ↓zbi, ↓zbj, ↓zbk, ↓zbl, ↓zbm, ↓zbn, ↓zbo, ↓zbp, ↓zbq, ↓zbr, ↓zbs, ↓zbt, ↓zbu, ↓zbv, ↓zbw, ↓zbx, ↓zby, ↓zbz, ↓zca, ↓zcb, ↓zcc, ↓zcd, ↓zce, ↓zcf, ↓zcg, ↓zch, ↓zci, ↓zcj, ↓zck, ↓zcl, ↓zcm, ↓zcn, ↓zco, ↓zcp, ↓zcq, ↓zcr, ↓zcs, ↓zct, ↓zcu, ↓zcv, ↓zcw, ↓mt, zcx, kwl, ziw, zcy, zcz, zda, zdb, zdc, zix, ziy, ziz, zja, zdd, zde, zdf, zdg, zdh, zdi, zdj, zdk, zdl, zdm, zdn, zdo, zdp, zdq, zjb, Int.reduceEq, Int.reduceNe, zjc, zjd, Nat.reduceEqDiff, Int.reduceLT, Int.reduceLE, Int.reduceNeg, Int.reduceToNat, zje, kdC, zdr, zjf, zjg, nk1, nk2, nk3, nk4, nk5, zjh, zds, zdt, zdu, zdv, ic1, ic2, ic3, ic4, ic5, ic6, zdw, String.reduceBEq, p60, p50, AH.set_self, AH.set_ne, Kx.more, Kx.comp, zji, zjj, zjk, ↓zdx, ↓zdy, ↓zdz, ↓zea, ↓zeb, ↓zec, ↓zed, ↓zee, ↓zef, ↓zeg, ↓zeh, ↓zei, ↓zej, ↓zek, ↓zel, ↓zem, ↓zen, ↓zeo, ↓zep, ↓zeq, ↓zer, ↓zes, ↓zet, ↓zeu, ↓zev, ↓zew, ↓zex, ↓zey, ↓zez, ↓zfa, ↓zfb, ↓zfc, ↓zfd, ↓zfe, ↓zff, ↓zfg, ↓zfh, ↓zfi, ↓zfj, ↓zfk, ↓zfl, ↓zfm, ↓zfn, ↓zfo, ↓zfp, ↓zfq, ↓zfr, ↓zfs, ↓mtE, ↓zft, ↓zfu, ↓zfv, ↓zfw, ↓zfx, ↓zfy, ↓zfz, ↓zga, ↓zgb, ↓zgc, ↓zgd, ↓zge, ↓zgf, ↓zgg, zgh, zgi, zgj, zgk, zgl, zgm, zgn, zgo, zgp, zgq, zgr, zgs, zgt, zgu, zgv, zgw, zgx, zgy, zgz, zha, zhb, zhc, zhd, zhe, zhf, zhg, zhh, zhi, zhj, zhk, zhl, zhm, zhn, zho, zhp, zhq, zhr, zhs, zht, zhu, zhv, zhw, ↓zhx, ↓zhy, ↓zhz, ↓zia, ↓zib, zic, zid, zie, zif, zig, zih, ↓zii, ↓zij, ↓zik, ↓zil, ↓zim, ↓zin, ↓zio, ↓ziq, ↓zir, pk0, pk1, pk2, pk3, pk4, pk5, pk6, zjl, zjm, zjn, zjo, zjp, zjq, zjr, zjs, zjt, zju, zjv, zjw, zjx, zjy, zjz, zka, zkb, zkc, zkd, zke, zkf, zkg, zkh, zki, zkj, reduceCtorEq, zkk, zkl, zkm, zkn, zko, String.reduceEq, Nat.reduceAdd, Nat.reduceLeDiff, Nat.reduceLT, zkp, zkq, zkr, zks, ↓zis, zit, ↓ziu, ziv, *])
  refine ⟨_, rfl, ?_⟩
  intro H₁ pl e1 n1 f1 hpl
  replace hl := e1 _ _ hl
  clear e1 n1 f1
  have nd := pool_nodup (scr.getD 0 0)
  have len := pool_length (scr.getD 0 0)
  generalize poolOf (scr.getD 0 0) = P at hpl nd len
  -- the names
  refine seqsL_cons ?_
  (simp (maxSteps := 1000000) (implicitDefEqProofs := false) only [↓zb, ↓reduceIte, zc, ↓zd, ↓ze, ↓zg, ↓zh, ↓zi, ↓zj, ↓zk, ↓zl, ↓zn, ↓zo, ↓zp, ↓zq, ↓zr, ↓zt, ↓zu, ↓zv, ↓zw, ↓zx, ↓zy, ↓zz, ↓zba, ↓zbb, ↓zbc, ↓zbd, ↓zbe, ↓zbf, ↓zbg, ↓zbh, ↓zbi, ↓zbj, ↓zbk, ↓zbl, ↓zbm, ↓zbn, ↓zbo, ↓zbp, ↓zbq, ↓zbr, ↓zbs, ↓zbt, ↓zbu, ↓zbv, ↓zbw, ↓zbx, ↓zby, ↓zbz, ↓zca, ↓zcb, ↓zcc, ↓zcd, ↓zce, ↓zcf, ↓zcg, ↓zch, ↓zci, ↓zcj, ↓zck, ↓zcl, ↓zcm, ↓zcn, ↓zco, ↓zcp, ↓zcq, ↓zcr, ↓zcs, ↓zct, ↓zcu, ↓zcv, ↓zcw, ↓mt, zcx, kwl, ziw, zcy, zcz, zda, zdb, zdc, zix, ziy, ziz, zja, zdd, zde, zdf, zdg, zdh, zdi, zdj, zdk, zdl, zdm, zdn, zdo, zdp, zdq, zjb, Int.reduceEq, Int.reduceNe, zjc, zjd, Nat.reduceEqDiff, Int.reduceLT, Int.reduceLE, Int.reduceNeg, Int.reduceToNat, zje, kdC, zdr, zjf, zjg, nk1, nk2, nk3, nk4, nk5, zjh, zds, zdt, zdu, zdv, ic1, ic2, ic3, ic4, ic5, ic6, zdw, String.reduceBEq, p60, p50, AH.set_self, AH.set_ne, Kx.more, Kx.comp, zji, zjj, zjk, ↓zdx, ↓zdy, ↓zdz, ↓zea, ↓zeb, ↓zec, ↓zed, ↓zee, ↓zef, ↓zeg, ↓zeh, ↓zei, ↓zej, ↓zek, ↓zel, ↓zem, ↓zen, ↓zeo, ↓zep, ↓zeq, ↓zer, ↓zes, ↓zet, ↓zeu, ↓zev, ↓zew, ↓zex, ↓zey, ↓zez, ↓zfa, ↓zfb, ↓zfc, ↓zfd, ↓zfe, ↓zff, ↓zfg, ↓zfh, ↓zfi, ↓zfj, ↓zfk, ↓zfl, ↓zfm, ↓zfn, ↓zfo, ↓zfp, ↓zfq, ↓zfr, ↓zfs, ↓mtE, ↓zft, ↓zfu, ↓zfv, ↓zfw, ↓zfx, ↓zfy, ↓zfz, ↓zga, ↓zgb, ↓zgc, ↓zgd, ↓zge, ↓zgf, ↓zgg, zgh, zgi, zgj, zgk, zgl, zgm, zgn, zgo, zgp, zgq, zgr, zgs, zgt, zgu, zgv, zgw, zgx, zgy, zgz, zha, zhb, zhc, zhd, zhe, zhf, zhg, zhh, zhi, zhj, zhk, zhl, zhm, zhn, zho, zhp, zhq, zhr, zhs, zht, zhu, zhv, zhw, ↓zhx, ↓zhy, ↓zhz, ↓zia, ↓zib, zic, zid, zie, zif, zig, zih, ↓zii, ↓zij, ↓zik, ↓zil, ↓zim, ↓zin, ↓zio, ↓ziq, ↓zir, pk0, pk1, pk2, pk3, pk4, pk5, pk6, zjl, zjm, zjn, zjo, zjp, zjq, zjr, zjs, zjt, zju, zjv, zjw, zjx, zjy, zjz, zka, zkb, zkc, zkd, zke, zkf, zkg, zkh, zki, zkj, reduceCtorEq, zkk, zkl, zkm, zkn, zko, String.reduceEq, Nat.reduceAdd, Nat.reduceLeDiff, Nat.reduceLT, zkp, zkq, zkr, zks, ↓zis, zit, ↓ziu, ziv, *])
  have hm := fmod10 (scr.getD 1 0)
  generalize hmi : 2 + (scr.getD 1 0).fmod 10 = mi at hm ⊢
  have hm2 : 2 ≤ mi ∧ mi ≤ 11 := by omega
  obtain ⟨m, rfl⟩ : ∃ m : Nat, mi = m := ⟨mi.toNat, by omega⟩
  clear hmi hm
  refine ⟨by rw [List.length_map, len]; decide, by omega, made_of ?_⟩
  rw [Int.toNat_natCast, ← List.map_take]
  intro H₂ nm e2 n2 f2 hnm
  have hlen : (P.take m).length = m := by rw [List.length_take, len]; omega
  have nds : (P.take m).Nodup := nd.sublist (List.take_sublist ..)
  obtain ⟨P13, h13, p13, q13⟩ := get_beyond (m := m) (k := 13) nd (by omega) (by omega)
  obtain ⟨P14, h14, p14, q14⟩ := get_beyond (m := m) (k := 14) nd (by omega) (by omega)
  have hne : P13 ≠ P14 := get_apart nd p13 p14 (by decide)
  change pick _ 13 = _ at h13
  change pick _ 14 = _ at h14
  replace hl := e2 _ _ hl
  replace hpl := e2 _ _ hpl
  clear e2 n2 f2 p13 p14
  generalize P.take m = ns at hnm hlen nds q13 q14
  -- the elder reading
  refine seqsL_cons ?_
  (simp (maxSteps := 1000000) (implicitDefEqProofs := false) only [↓zb, ↓reduceIte, zc, ↓zd, ↓ze, ↓zg, ↓zh, ↓zi, ↓zj, ↓zk, ↓zl, ↓zn, ↓zo, ↓zp, ↓zq, ↓zr, ↓zt, ↓zu, ↓zv, ↓zw, ↓zx, ↓zy, ↓zz, ↓zba, ↓zbb, ↓zbc, ↓zbd, ↓zbe, ↓zbf, ↓zbg, ↓zbh, ↓zbi, ↓zbj, ↓zbk, ↓zbl, ↓zbm, ↓zbn, ↓zbo, ↓zbp, ↓zbq, ↓zbr, ↓zbs, ↓zbt, ↓zbu, ↓zbv, ↓zbw, ↓zbx, ↓zby, ↓zbz, ↓zca, ↓zcb, ↓zcc, ↓zcd, ↓zce, ↓zcf, ↓zcg, ↓zch, ↓zci, ↓zcj, ↓zck, ↓zcl, ↓zcm, ↓zcn, ↓zco, ↓zcp, ↓zcq, ↓zcr, ↓zcs, ↓zct, ↓zcu, ↓zcv, ↓zcw, ↓mt, zcx, kwl, ziw, zcy, zcz, zda, zdb, zdc, zix, ziy, ziz, zja, zdd, zde, zdf, zdg, zdh, zdi, zdj, zdk, zdl, zdm, zdn, zdo, zdp, zdq, zjb, Int.reduceEq, Int.reduceNe, zjc, zjd, Nat.reduceEqDiff, Int.reduceLT, Int.reduceLE, Int.reduceNeg, Int.reduceToNat, zje, kdC, zdr, zjf, zjg, nk1, nk2, nk3, nk4, nk5, zjh, zds, zdt, zdu, zdv, ic1, ic2, ic3, ic4, ic5, ic6, zdw, String.reduceBEq, p60, p50, AH.set_self, AH.set_ne, Kx.more, Kx.comp, zji, zjj, zjk, ↓zdx, ↓zdy, ↓zdz, ↓zea, ↓zeb, ↓zec, ↓zed, ↓zee, ↓zef, ↓zeg, ↓zeh, ↓zei, ↓zej, ↓zek, ↓zel, ↓zem, ↓zen, ↓zeo, ↓zep, ↓zeq, ↓zer, ↓zes, ↓zet, ↓zeu, ↓zev, ↓zew, ↓zex, ↓zey, ↓zez, ↓zfa, ↓zfb, ↓zfc, ↓zfd, ↓zfe, ↓zff, ↓zfg, ↓zfh, ↓zfi, ↓zfj, ↓zfk, ↓zfl, ↓zfm, ↓zfn, ↓zfo, ↓zfp, ↓zfq, ↓zfr, ↓zfs, ↓mtE, ↓zft, ↓zfu, ↓zfv, ↓zfw, ↓zfx, ↓zfy, ↓zfz, ↓zga, ↓zgb, ↓zgc, ↓zgd, ↓zge, ↓zgf, ↓zgg, zgh, zgi, zgj, zgk, zgl, zgm, zgn, zgo, zgp, zgq, zgr, zgs, zgt, zgu, zgv, zgw, zgx, zgy, zgz, zha, zhb, zhc, zhd, zhe, zhf, zhg, zhh, zhi, zhj, zhk, zhl, zhm, zhn, zho, zhp, zhq, zhr, zhs, zht, zhu, zhv, zhw, ↓zhx, ↓zhy, ↓zhz, ↓zia, ↓zib, zic, zid, zie, zif, zig, zih, ↓zii, ↓zij, ↓zik, ↓zil, ↓zim, ↓zin, ↓zio, ↓ziq, ↓zir, pk0, pk1, pk2, pk3, pk4, pk5, pk6, zjl, zjm, zjn, zjo, zjp, zjq, zjr, zjs, zjt, zju, zjv, zjw, zjx, zjy, zjz, zka, zkb, zkc, zkd, zke, zkf, zkg, zkh, zki, zkj, reduceCtorEq, zkk, zkl, zkm, zkn, zko, String.reduceEq, Nat.reduceAdd, Nat.reduceLeDiff, Nat.reduceLT, zkp, zkq, zkr, zks, ↓zis, zit, ↓ziu, ziv, *])
  intro rd nrd frd
  have hrdl : l ≠ rd := ne_of_get hl nrd
  have hrdp : pl ≠ rd := ne_of_get hpl nrd
  have hrdn : nm ≠ rd := ne_of_get hnm nrd
  refine seqsL_cons ?_
  (simp (maxSteps := 1000000) (implicitDefEqProofs := false) only [↓zb, ↓reduceIte, zc, ↓zd, ↓ze, ↓zg, ↓zh, ↓zi, ↓zj, ↓zk, ↓zl, ↓zn, ↓zo, ↓zp, ↓zq, ↓zr, ↓zt, ↓zu, ↓zv, ↓zw, ↓zx, ↓zy, ↓zz, ↓zba, ↓zbb, ↓zbc, ↓zbd, ↓zbe, ↓zbf, ↓zbg, ↓zbh, ↓zbi, ↓zbj, ↓zbk, ↓zbl, ↓zbm, ↓zbn, ↓zbo, ↓zbp, ↓zbq, ↓zbr, ↓zbs, ↓zbt, ↓zbu, ↓zbv, ↓zbw, ↓zbx, ↓zby, ↓zbz, ↓zca, ↓zcb, ↓zcc, ↓zcd, ↓zce, ↓zcf, ↓zcg, ↓zch, ↓zci, ↓zcj, ↓zck, ↓zcl, ↓zcm, ↓zcn, ↓zco, ↓zcp, ↓zcq, ↓zcr, ↓zcs, ↓zct, ↓zcu, ↓zcv, ↓zcw, ↓mt, zcx, kwl, ziw, zcy, zcz, zda, zdb, zdc, zix, ziy, ziz, zja, zdd, zde, zdf, zdg, zdh, zdi, zdj, zdk, zdl, zdm, zdn, zdo, zdp, zdq, zjb, Int.reduceEq, Int.reduceNe, zjc, zjd, Nat.reduceEqDiff, Int.reduceLT, Int.reduceLE, Int.reduceNeg, Int.reduceToNat, zje, kdC, zdr, zjf, zjg, nk1, nk2, nk3, nk4, nk5, zjh, zds, zdt, zdu, zdv, ic1, ic2, ic3, ic4, ic5, ic6, zdw, String.reduceBEq, p60, p50, AH.set_self, AH.set_ne, Kx.more, Kx.comp, zji, zjj, zjk, ↓zdx, ↓zdy, ↓zdz, ↓zea, ↓zeb, ↓zec, ↓zed, ↓zee, ↓zef, ↓zeg, ↓zeh, ↓zei, ↓zej, ↓zek, ↓zel, ↓zem, ↓zen, ↓zeo, ↓zep, ↓zeq, ↓zer, ↓zes, ↓zet, ↓zeu, ↓zev, ↓zew, ↓zex, ↓zey, ↓zez, ↓zfa, ↓zfb, ↓zfc, ↓zfd, ↓zfe, ↓zff, ↓zfg, ↓zfh, ↓zfi, ↓zfj, ↓zfk, ↓zfl, ↓zfm, ↓zfn, ↓zfo, ↓zfp, ↓zfq, ↓zfr, ↓zfs, ↓mtE, ↓zft, ↓zfu, ↓zfv, ↓zfw, ↓zfx, ↓zfy, ↓zfz, ↓zga, ↓zgb, ↓zgc, ↓zgd, ↓zge, ↓zgf, ↓zgg, zgh, zgi, zgj, zgk, zgl, zgm, zgn, zgo, zgp, zgq, zgr, zgs, zgt, zgu, zgv, zgw, zgx, zgy, zgz, zha, zhb, zhc, zhd, zhe, zhf, zhg, zhh, zhi, zhj, zhk, zhl, zhm, zhn, zho, zhp, zhq, zhr, zhs, zht, zhu, zhv, zhw, ↓zhx, ↓zhy, ↓zhz, ↓zia, ↓zib, zic, zid, zie, zif, zig, zih, ↓zii, ↓zij, ↓zik, ↓zil, ↓zim, ↓zin, ↓zio, ↓ziq, ↓zir, pk0, pk1, pk2, pk3, pk4, pk5, pk6, zjl, zjm, zjn, zjo, zjp, zjq, zjr, zjs, zjt, zju, zjv, zjw, zjx, zjy, zjz, zka, zkb, zkc, zkd, zke, zkf, zkg, zkh, zki, zkj, reduceCtorEq, zkk, zkl, zkm, zkn, zko, String.reduceEq, Nat.reduceAdd, Nat.reduceLeDiff, Nat.reduceLT, zkp, zkq, zkr, zks, ↓zis, zit, ↓ziu, ziv, *])
  intro rg nrg frg
  have hrgd : rg ≠ rd := fun e => by rw [e, AH.set_self] at nrg; cases nrg
  have nrg3 : H₂.get rg = none := by rw [AH.set_ne _ _ hrgd] at nrg; exact nrg
  have hmm : (ns.map V.str).length = m := by rw [List.length_map, hlen]
  rw [hmm]
  refine forW_of _ (fun k ρ' H' => ρ' "_law_script" = some (.ref l) ∧ ρ' "_law_pool_here" = some (.ref pl) ∧ ρ' "_law_names" = some (.ref nm) ∧ ρ' "_law_elder" = some (.ref rd) ∧
    Ext H₂ H' ∧ ∃ es : DI, H'.get rd = some (.sdict (dI es)) ∧ keys es = ns.take k) (items_rng (n := m) (AH.set_self ..) (by omega)) ⟨?_, ?_, ?_, ?_, ?_, [], ?_, ?_⟩ ?_ ?_
  · (simp (maxSteps := 1000000) (implicitDefEqProofs := false) only [↓zb, ↓reduceIte, zc, ↓zd, ↓ze, ↓zg, ↓zh, ↓zi, ↓zj, ↓zk, ↓zl, ↓zn, ↓zo, ↓zp, ↓zq, ↓zr, ↓zt, ↓zu, ↓zv, ↓zw, ↓zx, ↓zy, ↓zz, ↓zba, ↓zbb, ↓zbc, ↓zbd, ↓zbe, ↓zbf, ↓zbg, ↓zbh, ↓zbi, ↓zbj, ↓zbk, ↓zbl, ↓zbm, ↓zbn, ↓zbo, ↓zbp, ↓zbq, ↓zbr, ↓zbs, ↓zbt, ↓zbu, ↓zbv, ↓zbw, ↓zbx, ↓zby, ↓zbz, ↓zca, ↓zcb, ↓zcc, ↓zcd, ↓zce, ↓zcf, ↓zcg, ↓zch, ↓zci, ↓zcj, ↓zck, ↓zcl, ↓zcm, ↓zcn, ↓zco, ↓zcp, ↓zcq, ↓zcr, ↓zcs, ↓zct, ↓zcu, ↓zcv, ↓zcw, ↓mt, zcx, kwl, ziw, zcy, zcz, zda, zdb, zdc, zix, ziy, ziz, zja, zdd, zde, zdf, zdg, zdh, zdi, zdj, zdk, zdl, zdm, zdn, zdo, zdp, zdq, zjb, Int.reduceEq, Int.reduceNe, zjc, zjd, Nat.reduceEqDiff, Int.reduceLT, Int.reduceLE, Int.reduceNeg, Int.reduceToNat, zje, kdC, zdr, zjf, zjg, nk1, nk2, nk3, nk4, nk5, zjh, zds, zdt, zdu, zdv, ic1, ic2, ic3, ic4, ic5, ic6, zdw, String.reduceBEq, p60, p50, AH.set_self, AH.set_ne, Kx.more, Kx.comp, zji, zjj, zjk, ↓zdx, ↓zdy, ↓zdz, ↓zea, ↓zeb, ↓zec, ↓zed, ↓zee, ↓zef, ↓zeg, ↓zeh, ↓zei, ↓zej, ↓zek, ↓zel, ↓zem, ↓zen, ↓zeo, ↓zep, ↓zeq, ↓zer, ↓zes, ↓zet, ↓zeu, ↓zev, ↓zew, ↓zex, ↓zey, ↓zez, ↓zfa, ↓zfb, ↓zfc, ↓zfd, ↓zfe, ↓zff, ↓zfg, ↓zfh, ↓zfi, ↓zfj, ↓zfk, ↓zfl, ↓zfm, ↓zfn, ↓zfo, ↓zfp, ↓zfq, ↓zfr, ↓zfs, ↓mtE, ↓zft, ↓zfu, ↓zfv, ↓zfw, ↓zfx, ↓zfy, ↓zfz, ↓zga, ↓zgb, ↓zgc, ↓zgd, ↓zge, ↓zgf, ↓zgg, zgh, zgi, zgj, zgk, zgl, zgm, zgn, zgo, zgp, zgq, zgr, zgs, zgt, zgu, zgv, zgw, zgx, zgy, zgz, zha, zhb, zhc, zhd, zhe, zhf, zhg, zhh, zhi, zhj, zhk, zhl, zhm, zhn, zho, zhp, zhq, zhr, zhs, zht, zhu, zhv, zhw, ↓zhx, ↓zhy, ↓zhz, ↓zia, ↓zib, zic, zid, zie, zif, zig, zih, ↓zii, ↓zij, ↓zik, ↓zil, ↓zim, ↓zin, ↓zio, ↓ziq, ↓zir, pk0, pk1, pk2, pk3, pk4, pk5, pk6, zjl, zjm, zjn, zjo, zjp, zjq, zjr, zjs, zjt, zju, zjv, zjw, zjx, zjy, zjz, zka, zkb, zkc, zkd, zke, zkf, zkg, zkh, zki, zkj, reduceCtorEq, zkk, zkl, zkm, zkn, zko, String.reduceEq, Nat.reduceAdd, Nat.reduceLeDiff, Nat.reduceLT, zkp, zkq, zkr, zks, ↓zis, zit, ↓ziu, ziv, *])
  · (simp (maxSteps := 1000000) (implicitDefEqProofs := false) only [↓zb, ↓reduceIte, zc, ↓zd, ↓ze, ↓zg, ↓zh, ↓zi, ↓zj, ↓zk, ↓zl, ↓zn, ↓zo, ↓zp, ↓zq, ↓zr, ↓zt, ↓zu, ↓zv, ↓zw, ↓zx, ↓zy, ↓zz, ↓zba, ↓zbb, ↓zbc, ↓zbd, ↓zbe, ↓zbf, ↓zbg, ↓zbh, ↓zbi, ↓zbj, ↓zbk, ↓zbl, ↓zbm, ↓zbn, ↓zbo, ↓zbp, ↓zbq, ↓zbr, ↓zbs, ↓zbt, ↓zbu, ↓zbv, ↓zbw, ↓zbx, ↓zby, ↓zbz, ↓zca, ↓zcb, ↓zcc, ↓zcd, ↓zce, ↓zcf, ↓zcg, ↓zch, ↓zci, ↓zcj, ↓zck, ↓zcl, ↓zcm, ↓zcn, ↓zco, ↓zcp, ↓zcq, ↓zcr, ↓zcs, ↓zct, ↓zcu, ↓zcv, ↓zcw, ↓mt, zcx, kwl, ziw, zcy, zcz, zda, zdb, zdc, zix, ziy, ziz, zja, zdd, zde, zdf, zdg, zdh, zdi, zdj, zdk, zdl, zdm, zdn, zdo, zdp, zdq, zjb, Int.reduceEq, Int.reduceNe, zjc, zjd, Nat.reduceEqDiff, Int.reduceLT, Int.reduceLE, Int.reduceNeg, Int.reduceToNat, zje, kdC, zdr, zjf, zjg, nk1, nk2, nk3, nk4, nk5, zjh, zds, zdt, zdu, zdv, ic1, ic2, ic3, ic4, ic5, ic6, zdw, String.reduceBEq, p60, p50, AH.set_self, AH.set_ne, Kx.more, Kx.comp, zji, zjj, zjk, ↓zdx, ↓zdy, ↓zdz, ↓zea, ↓zeb, ↓zec, ↓zed, ↓zee, ↓zef, ↓zeg, ↓zeh, ↓zei, ↓zej, ↓zek, ↓zel, ↓zem, ↓zen, ↓zeo, ↓zep, ↓zeq, ↓zer, ↓zes, ↓zet, ↓zeu, ↓zev, ↓zew, ↓zex, ↓zey, ↓zez, ↓zfa, ↓zfb, ↓zfc, ↓zfd, ↓zfe, ↓zff, ↓zfg, ↓zfh, ↓zfi, ↓zfj, ↓zfk, ↓zfl, ↓zfm, ↓zfn, ↓zfo, ↓zfp, ↓zfq, ↓zfr, ↓zfs, ↓mtE, ↓zft, ↓zfu, ↓zfv, ↓zfw, ↓zfx, ↓zfy, ↓zfz, ↓zga, ↓zgb, ↓zgc, ↓zgd, ↓zge, ↓zgf, ↓zgg, zgh, zgi, zgj, zgk, zgl, zgm, zgn, zgo, zgp, zgq, zgr, zgs, zgt, zgu, zgv, zgw, zgx, zgy, zgz, zha, zhb, zhc, zhd, zhe, zhf, zhg, zhh, zhi, zhj, zhk, zhl, zhm, zhn, zho, zhp, zhq, zhr, zhs, zht, zhu, zhv, zhw, ↓zhx, ↓zhy, ↓zhz, ↓zia, ↓zib, zic, zid, zie, zif, zig, zih, ↓zii, ↓zij, ↓zik, ↓zil, ↓zim, ↓zin, ↓zio, ↓ziq, ↓zir, pk0, pk1, pk2, pk3, pk4, pk5, pk6, zjl, zjm, zjn, zjo, zjp, zjq, zjr, zjs, zjt, zju, zjv, zjw, zjx, zjy, zjz, zka, zkb, zkc, zkd, zke, zkf, zkg, zkh, zki, zkj, reduceCtorEq, zkk, zkl, zkm, zkn, zko, String.reduceEq, Nat.reduceAdd, Nat.reduceLeDiff, Nat.reduceLT, zkp, zkq, zkr, zks, ↓zis, zit, ↓ziu, ziv, *])
  · (simp (maxSteps := 1000000) (implicitDefEqProofs := false) only [↓zb, ↓reduceIte, zc, ↓zd, ↓ze, ↓zg, ↓zh, ↓zi, ↓zj, ↓zk, ↓zl, ↓zn, ↓zo, ↓zp, ↓zq, ↓zr, ↓zt, ↓zu, ↓zv, ↓zw, ↓zx, ↓zy, ↓zz, ↓zba, ↓zbb, ↓zbc, ↓zbd, ↓zbe, ↓zbf, ↓zbg, ↓zbh, ↓zbi, ↓zbj, ↓zbk, ↓zbl, ↓zbm, ↓zbn, ↓zbo, ↓zbp, ↓zbq, ↓zbr, ↓zbs, ↓zbt, ↓zbu, ↓zbv, ↓zbw, ↓zbx, ↓zby, ↓zbz, ↓zca, ↓zcb, ↓zcc, ↓zcd, ↓zce, ↓zcf, ↓zcg, ↓zch, ↓zci, ↓zcj, ↓zck, ↓zcl, ↓zcm, ↓zcn, ↓zco, ↓zcp, ↓zcq, ↓zcr, ↓zcs, ↓zct, ↓zcu, ↓zcv, ↓zcw, ↓mt, zcx, kwl, ziw, zcy, zcz, zda, zdb, zdc, zix, ziy, ziz, zja, zdd, zde, zdf, zdg, zdh, zdi, zdj, zdk, zdl, zdm, zdn, zdo, zdp, zdq, zjb, Int.reduceEq, Int.reduceNe, zjc, zjd, Nat.reduceEqDiff, Int.reduceLT, Int.reduceLE, Int.reduceNeg, Int.reduceToNat, zje, kdC, zdr, zjf, zjg, nk1, nk2, nk3, nk4, nk5, zjh, zds, zdt, zdu, zdv, ic1, ic2, ic3, ic4, ic5, ic6, zdw, String.reduceBEq, p60, p50, AH.set_self, AH.set_ne, Kx.more, Kx.comp, zji, zjj, zjk, ↓zdx, ↓zdy, ↓zdz, ↓zea, ↓zeb, ↓zec, ↓zed, ↓zee, ↓zef, ↓zeg, ↓zeh, ↓zei, ↓zej, ↓zek, ↓zel, ↓zem, ↓zen, ↓zeo, ↓zep, ↓zeq, ↓zer, ↓zes, ↓zet, ↓zeu, ↓zev, ↓zew, ↓zex, ↓zey, ↓zez, ↓zfa, ↓zfb, ↓zfc, ↓zfd, ↓zfe, ↓zff, ↓zfg, ↓zfh, ↓zfi, ↓zfj, ↓zfk, ↓zfl, ↓zfm, ↓zfn, ↓zfo, ↓zfp, ↓zfq, ↓zfr, ↓zfs, ↓mtE, ↓zft, ↓zfu, ↓zfv, ↓zfw, ↓zfx, ↓zfy, ↓zfz, ↓zga, ↓zgb, ↓zgc, ↓zgd, ↓zge, ↓zgf, ↓zgg, zgh, zgi, zgj, zgk, zgl, zgm, zgn, zgo, zgp, zgq, zgr, zgs, zgt, zgu, zgv, zgw, zgx, zgy, zgz, zha, zhb, zhc, zhd, zhe, zhf, zhg, zhh, zhi, zhj, zhk, zhl, zhm, zhn, zho, zhp, zhq, zhr, zhs, zht, zhu, zhv, zhw, ↓zhx, ↓zhy, ↓zhz, ↓zia, ↓zib, zic, zid, zie, zif, zig, zih, ↓zii, ↓zij, ↓zik, ↓zil, ↓zim, ↓zin, ↓zio, ↓ziq, ↓zir, pk0, pk1, pk2, pk3, pk4, pk5, pk6, zjl, zjm, zjn, zjo, zjp, zjq, zjr, zjs, zjt, zju, zjv, zjw, zjx, zjy, zjz, zka, zkb, zkc, zkd, zke, zkf, zkg, zkh, zki, zkj, reduceCtorEq, zkk, zkl, zkm, zkn, zko, String.reduceEq, Nat.reduceAdd, Nat.reduceLeDiff, Nat.reduceLT, zkp, zkq, zkr, zks, ↓zis, zit, ↓ziu, ziv, *])
  · (simp (maxSteps := 1000000) (implicitDefEqProofs := false) only [↓zb, ↓reduceIte, zc, ↓zd, ↓ze, ↓zg, ↓zh, ↓zi, ↓zj, ↓zk, ↓zl, ↓zn, ↓zo, ↓zp, ↓zq, ↓zr, ↓zt, ↓zu, ↓zv, ↓zw, ↓zx, ↓zy, ↓zz, ↓zba, ↓zbb, ↓zbc, ↓zbd, ↓zbe, ↓zbf, ↓zbg, ↓zbh, ↓zbi, ↓zbj, ↓zbk, ↓zbl, ↓zbm, ↓zbn, ↓zbo, ↓zbp, ↓zbq, ↓zbr, ↓zbs, ↓zbt, ↓zbu, ↓zbv, ↓zbw, ↓zbx, ↓zby, ↓zbz, ↓zca, ↓zcb, ↓zcc, ↓zcd, ↓zce, ↓zcf, ↓zcg, ↓zch, ↓zci, ↓zcj, ↓zck, ↓zcl, ↓zcm, ↓zcn, ↓zco, ↓zcp, ↓zcq, ↓zcr, ↓zcs, ↓zct, ↓zcu, ↓zcv, ↓zcw, ↓mt, zcx, kwl, ziw, zcy, zcz, zda, zdb, zdc, zix, ziy, ziz, zja, zdd, zde, zdf, zdg, zdh, zdi, zdj, zdk, zdl, zdm, zdn, zdo, zdp, zdq, zjb, Int.reduceEq, Int.reduceNe, zjc, zjd, Nat.reduceEqDiff, Int.reduceLT, Int.reduceLE, Int.reduceNeg, Int.reduceToNat, zje, kdC, zdr, zjf, zjg, nk1, nk2, nk3, nk4, nk5, zjh, zds, zdt, zdu, zdv, ic1, ic2, ic3, ic4, ic5, ic6, zdw, String.reduceBEq, p60, p50, AH.set_self, AH.set_ne, Kx.more, Kx.comp, zji, zjj, zjk, ↓zdx, ↓zdy, ↓zdz, ↓zea, ↓zeb, ↓zec, ↓zed, ↓zee, ↓zef, ↓zeg, ↓zeh, ↓zei, ↓zej, ↓zek, ↓zel, ↓zem, ↓zen, ↓zeo, ↓zep, ↓zeq, ↓zer, ↓zes, ↓zet, ↓zeu, ↓zev, ↓zew, ↓zex, ↓zey, ↓zez, ↓zfa, ↓zfb, ↓zfc, ↓zfd, ↓zfe, ↓zff, ↓zfg, ↓zfh, ↓zfi, ↓zfj, ↓zfk, ↓zfl, ↓zfm, ↓zfn, ↓zfo, ↓zfp, ↓zfq, ↓zfr, ↓zfs, ↓mtE, ↓zft, ↓zfu, ↓zfv, ↓zfw, ↓zfx, ↓zfy, ↓zfz, ↓zga, ↓zgb, ↓zgc, ↓zgd, ↓zge, ↓zgf, ↓zgg, zgh, zgi, zgj, zgk, zgl, zgm, zgn, zgo, zgp, zgq, zgr, zgs, zgt, zgu, zgv, zgw, zgx, zgy, zgz, zha, zhb, zhc, zhd, zhe, zhf, zhg, zhh, zhi, zhj, zhk, zhl, zhm, zhn, zho, zhp, zhq, zhr, zhs, zht, zhu, zhv, zhw, ↓zhx, ↓zhy, ↓zhz, ↓zia, ↓zib, zic, zid, zie, zif, zig, zih, ↓zii, ↓zij, ↓zik, ↓zil, ↓zim, ↓zin, ↓zio, ↓ziq, ↓zir, pk0, pk1, pk2, pk3, pk4, pk5, pk6, zjl, zjm, zjn, zjo, zjp, zjq, zjr, zjs, zjt, zju, zjv, zjw, zjx, zjy, zjz, zka, zkb, zkc, zkd, zke, zkf, zkg, zkh, zki, zkj, reduceCtorEq, zkk, zkl, zkm, zkn, zko, String.reduceEq, Nat.reduceAdd, Nat.reduceLeDiff, Nat.reduceLT, zkp, zkq, zkr, zks, ↓zis, zit, ↓ziu, ziv, *])
  · exact ((Ext.refl _).set nrd).set nrg3
  · rw [AH.set_ne _ _ hrgd.symm, AH.set_self]; rfl
  · simp [keys]
  · rintro k y ρ' H' hy ⟨r1, r2, r3, r5, e4, es, hrd, hks⟩
    obtain ⟨hk, rfl⟩ := range_get hy
    have hl := e4 _ _ hl
    have hnm := e4 _ _ hnm
    have hx : ns[k]? = some ns[k] := List.getElem?_eq_getElem (by omega)
    have hpk := pick_strs hx
    generalize ns[k] = nk at hx hpk
    have hzk : (0 : Int) ≤ 7 + (k : Int) := by omega
    have hnk : nk ∉ keys es := by rw [hks]; exact not_in_take nds hx
    have hes : es.length ≤ 11 := by rw [← keys_length, hks, List.length_take]; omega
    clear hy
    refine seqsL_cons ?_
    (simp (maxSteps := 1000000) (implicitDefEqProofs := false) only [↓zb, ↓reduceIte, zc, ↓zd, ↓ze, ↓zg, ↓zh, ↓zi, ↓zj, ↓zk, ↓zl, ↓zn, ↓zo, ↓zp, ↓zq, ↓zr, ↓zt, ↓zu, ↓zv, ↓zw, ↓zx, ↓zy, ↓zz, ↓zba, ↓zbb, ↓zbc, ↓zbd, ↓zbe, ↓zbf, ↓zbg, ↓zbh, ↓zbi, ↓zbj, ↓zbk, ↓zbl, ↓zbm, ↓zbn, ↓zbo, ↓zbp, ↓zbq, ↓zbr, ↓zbs, ↓zbt, ↓zbu, ↓zbv, ↓zbw, ↓zbx, ↓zby, ↓zbz, ↓zca, ↓zcb, ↓zcc, ↓zcd, ↓zce, ↓zcf, ↓zcg, ↓zch, ↓zci, ↓zcj, ↓zck, ↓zcl, ↓zcm, ↓zcn, ↓zco, ↓zcp, ↓zcq, ↓zcr, ↓zcs, ↓zct, ↓zcu, ↓zcv, ↓zcw, ↓mt, zcx, kwl, ziw, zcy, zcz, zda, zdb, zdc, zix, ziy, ziz, zja, zdd, zde, zdf, zdg, zdh, zdi, zdj, zdk, zdl, zdm, zdn, zdo, zdp, zdq, zjb, Int.reduceEq, Int.reduceNe, zjc, zjd, Nat.reduceEqDiff, Int.reduceLT, Int.reduceLE, Int.reduceNeg, Int.reduceToNat, zje, kdC, zdr, zjf, zjg, nk1, nk2, nk3, nk4, nk5, zjh, zds, zdt, zdu, zdv, ic1, ic2, ic3, ic4, ic5, ic6, zdw, String.reduceBEq, p60, p50, AH.set_self, AH.set_ne, Kx.more, Kx.comp, zji, zjj, zjk, ↓zdx, ↓zdy, ↓zdz, ↓zea, ↓zeb, ↓zec, ↓zed, ↓zee, ↓zef, ↓zeg, ↓zeh, ↓zei, ↓zej, ↓zek, ↓zel, ↓zem, ↓zen, ↓zeo, ↓zep, ↓zeq, ↓zer, ↓zes, ↓zet, ↓zeu, ↓zev, ↓zew, ↓zex, ↓zey, ↓zez, ↓zfa, ↓zfb, ↓zfc, ↓zfd, ↓zfe, ↓zff, ↓zfg, ↓zfh, ↓zfi, ↓zfj, ↓zfk, ↓zfl, ↓zfm, ↓zfn, ↓zfo, ↓zfp, ↓zfq, ↓zfr, ↓zfs, ↓mtE, ↓zft, ↓zfu, ↓zfv, ↓zfw, ↓zfx, ↓zfy, ↓zfz, ↓zga, ↓zgb, ↓zgc, ↓zgd, ↓zge, ↓zgf, ↓zgg, zgh, zgi, zgj, zgk, zgl, zgm, zgn, zgo, zgp, zgq, zgr, zgs, zgt, zgu, zgv, zgw, zgx, zgy, zgz, zha, zhb, zhc, zhd, zhe, zhf, zhg, zhh, zhi, zhj, zhk, zhl, zhm, zhn, zho, zhp, zhq, zhr, zhs, zht, zhu, zhv, zhw, ↓zhx, ↓zhy, ↓zhz, ↓zia, ↓zib, zic, zid, zie, zif, zig, zih, ↓zii, ↓zij, ↓zik, ↓zil, ↓zim, ↓zin, ↓zio, ↓ziq, ↓zir, pk0, pk1, pk2, pk3, pk4, pk5, pk6, zjl, zjm, zjn, zjo, zjp, zjq, zjr, zjs, zjt, zju, zjv, zjw, zjx, zjy, zjz, zka, zkb, zkc, zkd, zke, zkf, zkg, zkh, zki, zkj, reduceCtorEq, zkk, zkl, zkm, zkn, zko, String.reduceEq, Nat.reduceAdd, Nat.reduceLeDiff, Nat.reduceLT, zkp, zkq, zkr, zks, ↓zis, zit, ↓ziu, ziv, *])
    intro n
    rw [dput_dI]
    refine ⟨by simp [hrgd.symm], by rw [dI_length]; exact Nat.le_trans hes (by decide), seqsL_nil ?_⟩
    rw [zcs]
    have hks' : keys (pI es nk n) = ns.take (k + 1) := by rw [keys_put, if_neg hnk, hks, List.take_add_one, hx]; rfl
    refine ⟨?_, ?_, ?_, ?_, e4.set nrd, _, AH.set_self .., hks'⟩ <;> (simp (maxSteps := 1000000) (implicitDefEqProofs := false) only [↓zb, ↓reduceIte, zc, ↓zd, ↓ze, ↓zg, ↓zh, ↓zi, ↓zj, ↓zk, ↓zl, ↓zn, ↓zo, ↓zp, ↓zq, ↓zr, ↓zt, ↓zu, ↓zv, ↓zw, ↓zx, ↓zy, ↓zz, ↓zba, ↓zbb, ↓zbc, ↓zbd, ↓zbe, ↓zbf, ↓zbg, ↓zbh, ↓zbi, ↓zbj, ↓zbk, ↓zbl, ↓zbm, ↓zbn, ↓zbo, ↓zbp, ↓zbq, ↓zbr, ↓zbs, ↓zbt, ↓zbu, ↓zbv, ↓zbw, ↓zbx, ↓zby, ↓zbz, ↓zca, ↓zcb, ↓zcc, ↓zcd, ↓zce, ↓zcf, ↓zcg, ↓zch, ↓zci, ↓zcj, ↓zck, ↓zcl, ↓zcm, ↓zcn, ↓zco, ↓zcp, ↓zcq, ↓zcr, ↓zcs, ↓zct, ↓zcu, ↓zcv, ↓zcw, ↓mt, zcx, kwl, ziw, zcy, zcz, zda, zdb, zdc, zix, ziy, ziz, zja, zdd, zde, zdf, zdg, zdh, zdi, zdj, zdk, zdl, zdm, zdn, zdo, zdp, zdq, zjb, Int.reduceEq, Int.reduceNe, zjc, zjd, Nat.reduceEqDiff, Int.reduceLT, Int.reduceLE, Int.reduceNeg, Int.reduceToNat, zje, kdC, zdr, zjf, zjg, nk1, nk2, nk3, nk4, nk5, zjh, zds, zdt, zdu, zdv, ic1, ic2, ic3, ic4, ic5, ic6, zdw, String.reduceBEq, p60, p50, AH.set_self, AH.set_ne, Kx.more, Kx.comp, zji, zjj, zjk, ↓zdx, ↓zdy, ↓zdz, ↓zea, ↓zeb, ↓zec, ↓zed, ↓zee, ↓zef, ↓zeg, ↓zeh, ↓zei, ↓zej, ↓zek, ↓zel, ↓zem, ↓zen, ↓zeo, ↓zep, ↓zeq, ↓zer, ↓zes, ↓zet, ↓zeu, ↓zev, ↓zew, ↓zex, ↓zey, ↓zez, ↓zfa, ↓zfb, ↓zfc, ↓zfd, ↓zfe, ↓zff, ↓zfg, ↓zfh, ↓zfi, ↓zfj, ↓zfk, ↓zfl, ↓zfm, ↓zfn, ↓zfo, ↓zfp, ↓zfq, ↓zfr, ↓zfs, ↓mtE, ↓zft, ↓zfu, ↓zfv, ↓zfw, ↓zfx, ↓zfy, ↓zfz, ↓zga, ↓zgb, ↓zgc, ↓zgd, ↓zge, ↓zgf, ↓zgg, zgh, zgi, zgj, zgk, zgl, zgm, zgn, zgo, zgp, zgq, zgr, zgs, zgt, zgu, zgv, zgw, zgx, zgy, zgz, zha, zhb, zhc, zhd, zhe, zhf, zhg, zhh, zhi, zhj, zhk, zhl, zhm, zhn, zho, zhp, zhq, zhr, zhs, zht, zhu, zhv, zhw, ↓zhx, ↓zhy, ↓zhz, ↓zia, ↓zib, zic, zid, zie, zif, zig, zih, ↓zii, ↓zij, ↓zik, ↓zil, ↓zim, ↓zin, ↓zio, ↓ziq, ↓zir, pk0, pk1, pk2, pk3, pk4, pk5, pk6, zjl, zjm, zjn, zjo, zjp, zjq, zjr, zjs, zjt, zju, zjv, zjw, zjx, zjy, zjz, zka, zkb, zkc, zkd, zke, zkf, zkg, zkh, zki, zkj, reduceCtorEq, zkk, zkl, zkm, zkn, zko, String.reduceEq, Nat.reduceAdd, Nat.reduceLeDiff, Nat.reduceLT, zkp, zkq, zkr, zks, ↓zis, zit, ↓ziu, ziv, *])
  · rintro ρ' H' ⟨r1, r2, r3, r5, e4, es, hrd, hks⟩
    rw [List.length_map, List.length_range, List.take_of_length_le (by omega)] at hks
    replace hl := e4 _ _ hl
    replace hpl := e4 _ _ hpl
    replace hnm := e4 _ _ hnm
    have hes : es.length ≤ 11 := by rw [← keys_length, hks]; omega
    clear nrg nrg3 frg nrd frd hrdl hrdp hrdn hrgd e4
    rw [zco]
    -- the turn, the kind, the size
    have hm0 : ¬ (m : Int) = 0 := by omega
    refine seqsL_cons ?_
    (simp (maxSteps := 1000000) (implicitDefEqProofs := false) only [↓zb, ↓reduceIte, zc, ↓zd, ↓ze, ↓zg, ↓zh, ↓zi, ↓zj, ↓zk, ↓zl, ↓zn, ↓zo, ↓zp, ↓zq, ↓zr, ↓zt, ↓zu, ↓zv, ↓zw, ↓zx, ↓zy, ↓zz, ↓zba, ↓zbb, ↓zbc, ↓zbd, ↓zbe, ↓zbf, ↓zbg, ↓zbh, ↓zbi, ↓zbj, ↓zbk, ↓zbl, ↓zbm, ↓zbn, ↓zbo, ↓zbp, ↓zbq, ↓zbr, ↓zbs, ↓zbt, ↓zbu, ↓zbv, ↓zbw, ↓zbx, ↓zby, ↓zbz, ↓zca, ↓zcb, ↓zcc, ↓zcd, ↓zce, ↓zcf, ↓zcg, ↓zch, ↓zci, ↓zcj, ↓zck, ↓zcl, ↓zcm, ↓zcn, ↓zco, ↓zcp, ↓zcq, ↓zcr, ↓zcs, ↓zct, ↓zcu, ↓zcv, ↓zcw, ↓mt, zcx, kwl, ziw, zcy, zcz, zda, zdb, zdc, zix, ziy, ziz, zja, zdd, zde, zdf, zdg, zdh, zdi, zdj, zdk, zdl, zdm, zdn, zdo, zdp, zdq, zjb, Int.reduceEq, Int.reduceNe, zjc, zjd, Nat.reduceEqDiff, Int.reduceLT, Int.reduceLE, Int.reduceNeg, Int.reduceToNat, zje, kdC, zdr, zjf, zjg, nk1, nk2, nk3, nk4, nk5, zjh, zds, zdt, zdu, zdv, ic1, ic2, ic3, ic4, ic5, ic6, zdw, String.reduceBEq, p60, p50, AH.set_self, AH.set_ne, Kx.more, Kx.comp, zji, zjj, zjk, ↓zdx, ↓zdy, ↓zdz, ↓zea, ↓zeb, ↓zec, ↓zed, ↓zee, ↓zef, ↓zeg, ↓zeh, ↓zei, ↓zej, ↓zek, ↓zel, ↓zem, ↓zen, ↓zeo, ↓zep, ↓zeq, ↓zer, ↓zes, ↓zet, ↓zeu, ↓zev, ↓zew, ↓zex, ↓zey, ↓zez, ↓zfa, ↓zfb, ↓zfc, ↓zfd, ↓zfe, ↓zff, ↓zfg, ↓zfh, ↓zfi, ↓zfj, ↓zfk, ↓zfl, ↓zfm, ↓zfn, ↓zfo, ↓zfp, ↓zfq, ↓zfr, ↓zfs, ↓mtE, ↓zft, ↓zfu, ↓zfv, ↓zfw, ↓zfx, ↓zfy, ↓zfz, ↓zga, ↓zgb, ↓zgc, ↓zgd, ↓zge, ↓zgf, ↓zgg, zgh, zgi, zgj, zgk, zgl, zgm, zgn, zgo, zgp, zgq, zgr, zgs, zgt, zgu, zgv, zgw, zgx, zgy, zgz, zha, zhb, zhc, zhd, zhe, zhf, zhg, zhh, zhi, zhj, zhk, zhl, zhm, zhn, zho, zhp, zhq, zhr, zhs, zht, zhu, zhv, zhw, ↓zhx, ↓zhy, ↓zhz, ↓zia, ↓zib, zic, zid, zie, zif, zig, zih, ↓zii, ↓zij, ↓zik, ↓zil, ↓zim, ↓zin, ↓zio, ↓ziq, ↓zir, pk0, pk1, pk2, pk3, pk4, pk5, pk6, zjl, zjm, zjn, zjo, zjp, zjq, zjr, zjs, zjt, zju, zjv, zjw, zjx, zjy, zjz, zka, zkb, zkc, zkd, zke, zkf, zkg, zkh, zki, zkj, reduceCtorEq, zkk, zkl, zkm, zkn, zko, String.reduceEq, Nat.reduceAdd, Nat.reduceLeDiff, Nat.reduceLT, zkp, zkq, zkr, zks, ↓zis, zit, ↓ziu, ziv, *])
    have ht0 : 0 ≤ (scr.getD 2 0).fmod (m : Int) := Int.fmod_nonneg_of_pos _ (by omega)
    have ht1 : (scr.getD 2 0).fmod (m : Int) < m := Int.fmod_lt_of_pos _ (by omega)
    generalize (scr.getD 2 0).fmod (m : Int) = ti at ht0 ht1
    obtain ⟨tn, rfl⟩ : ∃ t : Nat, ti = t := ⟨ti.toNat, by omega⟩
    refine seqsL_cons ?_
    (simp (maxSteps := 1000000) (implicitDefEqProofs := false) only [↓zb, ↓reduceIte, zc, ↓zd, ↓ze, ↓zg, ↓zh, ↓zi, ↓zj, ↓zk, ↓zl, ↓zn, ↓zo, ↓zp, ↓zq, ↓zr, ↓zt, ↓zu, ↓zv, ↓zw, ↓zx, ↓zy, ↓zz, ↓zba, ↓zbb, ↓zbc, ↓zbd, ↓zbe, ↓zbf, ↓zbg, ↓zbh, ↓zbi, ↓zbj, ↓zbk, ↓zbl, ↓zbm, ↓zbn, ↓zbo, ↓zbp, ↓zbq, ↓zbr, ↓zbs, ↓zbt, ↓zbu, ↓zbv, ↓zbw, ↓zbx, ↓zby, ↓zbz, ↓zca, ↓zcb, ↓zcc, ↓zcd, ↓zce, ↓zcf, ↓zcg, ↓zch, ↓zci, ↓zcj, ↓zck, ↓zcl, ↓zcm, ↓zcn, ↓zco, ↓zcp, ↓zcq, ↓zcr, ↓zcs, ↓zct, ↓zcu, ↓zcv, ↓zcw, ↓mt, zcx, kwl, ziw, zcy, zcz, zda, zdb, zdc, zix, ziy, ziz, zja, zdd, zde, zdf, zdg, zdh, zdi, zdj, zdk, zdl, zdm, zdn, zdo, zdp, zdq, zjb, Int.reduceEq, Int.reduceNe, zjc, zjd, Nat.reduceEqDiff, Int.reduceLT, Int.reduceLE, Int.reduceNeg, Int.reduceToNat, zje, kdC, zdr, zjf, zjg, nk1, nk2, nk3, nk4, nk5, zjh, zds, zdt, zdu, zdv, ic1, ic2, ic3, ic4, ic5, ic6, zdw, String.reduceBEq, p60, p50, AH.set_self, AH.set_ne, Kx.more, Kx.comp, zji, zjj, zjk, ↓zdx, ↓zdy, ↓zdz, ↓zea, ↓zeb, ↓zec, ↓zed, ↓zee, ↓zef, ↓zeg, ↓zeh, ↓zei, ↓zej, ↓zek, ↓zel, ↓zem, ↓zen, ↓zeo, ↓zep, ↓zeq, ↓zer, ↓zes, ↓zet, ↓zeu, ↓zev, ↓zew, ↓zex, ↓zey, ↓zez, ↓zfa, ↓zfb, ↓zfc, ↓zfd, ↓zfe, ↓zff, ↓zfg, ↓zfh, ↓zfi, ↓zfj, ↓zfk, ↓zfl, ↓zfm, ↓zfn, ↓zfo, ↓zfp, ↓zfq, ↓zfr, ↓zfs, ↓mtE, ↓zft, ↓zfu, ↓zfv, ↓zfw, ↓zfx, ↓zfy, ↓zfz, ↓zga, ↓zgb, ↓zgc, ↓zgd, ↓zge, ↓zgf, ↓zgg, zgh, zgi, zgj, zgk, zgl, zgm, zgn, zgo, zgp, zgq, zgr, zgs, zgt, zgu, zgv, zgw, zgx, zgy, zgz, zha, zhb, zhc, zhd, zhe, zhf, zhg, zhh, zhi, zhj, zhk, zhl, zhm, zhn, zho, zhp, zhq, zhr, zhs, zht, zhu, zhv, zhw, ↓zhx, ↓zhy, ↓zhz, ↓zia, ↓zib, zic, zid, zie, zif, zig, zih, ↓zii, ↓zij, ↓zik, ↓zil, ↓zim, ↓zin, ↓zio, ↓ziq, ↓zir, pk0, pk1, pk2, pk3, pk4, pk5, pk6, zjl, zjm, zjn, zjo, zjp, zjq, zjr, zjs, zjt, zju, zjv, zjw, zjx, zjy, zjz, zka, zkb, zkc, zkd, zke, zkf, zkg, zkh, zki, zkj, reduceCtorEq, zkk, zkl, zkm, zkn, zko, String.reduceEq, Nat.reduceAdd, Nat.reduceLeDiff, Nat.reduceLT, zkp, zkq, zkr, zks, ↓zis, zit, ↓ziu, ziv, *])
    have hk0 : 0 ≤ (scr.getD 3 0).fmod 9 := Int.fmod_nonneg_of_pos _ (by decide)
    have hk9 : (scr.getD 3 0).fmod 9 < 9 := Int.fmod_lt_of_pos _ (by decide)
    generalize (scr.getD 3 0).fmod 9 = kind at hk0 hk9
    refine seqsL_cons ?_
    (simp (maxSteps := 1000000) (implicitDefEqProofs := false) only [↓zb, ↓reduceIte, zc, ↓zd, ↓ze, ↓zg, ↓zh, ↓zi, ↓zj, ↓zk, ↓zl, ↓zn, ↓zo, ↓zp, ↓zq, ↓zr, ↓zt, ↓zu, ↓zv, ↓zw, ↓zx, ↓zy, ↓zz, ↓zba, ↓zbb, ↓zbc, ↓zbd, ↓zbe, ↓zbf, ↓zbg, ↓zbh, ↓zbi, ↓zbj, ↓zbk, ↓zbl, ↓zbm, ↓zbn, ↓zbo, ↓zbp, ↓zbq, ↓zbr, ↓zbs, ↓zbt, ↓zbu, ↓zbv, ↓zbw, ↓zbx, ↓zby, ↓zbz, ↓zca, ↓zcb, ↓zcc, ↓zcd, ↓zce, ↓zcf, ↓zcg, ↓zch, ↓zci, ↓zcj, ↓zck, ↓zcl, ↓zcm, ↓zcn, ↓zco, ↓zcp, ↓zcq, ↓zcr, ↓zcs, ↓zct, ↓zcu, ↓zcv, ↓zcw, ↓mt, zcx, kwl, ziw, zcy, zcz, zda, zdb, zdc, zix, ziy, ziz, zja, zdd, zde, zdf, zdg, zdh, zdi, zdj, zdk, zdl, zdm, zdn, zdo, zdp, zdq, zjb, Int.reduceEq, Int.reduceNe, zjc, zjd, Nat.reduceEqDiff, Int.reduceLT, Int.reduceLE, Int.reduceNeg, Int.reduceToNat, zje, kdC, zdr, zjf, zjg, nk1, nk2, nk3, nk4, nk5, zjh, zds, zdt, zdu, zdv, ic1, ic2, ic3, ic4, ic5, ic6, zdw, String.reduceBEq, p60, p50, AH.set_self, AH.set_ne, Kx.more, Kx.comp, zji, zjj, zjk, ↓zdx, ↓zdy, ↓zdz, ↓zea, ↓zeb, ↓zec, ↓zed, ↓zee, ↓zef, ↓zeg, ↓zeh, ↓zei, ↓zej, ↓zek, ↓zel, ↓zem, ↓zen, ↓zeo, ↓zep, ↓zeq, ↓zer, ↓zes, ↓zet, ↓zeu, ↓zev, ↓zew, ↓zex, ↓zey, ↓zez, ↓zfa, ↓zfb, ↓zfc, ↓zfd, ↓zfe, ↓zff, ↓zfg, ↓zfh, ↓zfi, ↓zfj, ↓zfk, ↓zfl, ↓zfm, ↓zfn, ↓zfo, ↓zfp, ↓zfq, ↓zfr, ↓zfs, ↓mtE, ↓zft, ↓zfu, ↓zfv, ↓zfw, ↓zfx, ↓zfy, ↓zfz, ↓zga, ↓zgb, ↓zgc, ↓zgd, ↓zge, ↓zgf, ↓zgg, zgh, zgi, zgj, zgk, zgl, zgm, zgn, zgo, zgp, zgq, zgr, zgs, zgt, zgu, zgv, zgw, zgx, zgy, zgz, zha, zhb, zhc, zhd, zhe, zhf, zhg, zhh, zhi, zhj, zhk, zhl, zhm, zhn, zho, zhp, zhq, zhr, zhs, zht, zhu, zhv, zhw, ↓zhx, ↓zhy, ↓zhz, ↓zia, ↓zib, zic, zid, zie, zif, zig, zih, ↓zii, ↓zij, ↓zik, ↓zil, ↓zim, ↓zin, ↓zio, ↓ziq, ↓zir, pk0, pk1, pk2, pk3, pk4, pk5, pk6, zjl, zjm, zjn, zjo, zjp, zjq, zjr, zjs, zjt, zju, zjv, zjw, zjx, zjy, zjz, zka, zkb, zkc, zkd, zke, zkf, zkg, zkh, zki, zkj, reduceCtorEq, zkk, zkl, zkm, zkn, zko, String.reduceEq, Nat.reduceAdd, Nat.reduceLeDiff, Nat.reduceLT, zkp, zkq, zkr, zks, ↓zis, zit, ↓ziu, ziv, *])
    have hz0 : 0 ≤ (scr.getD 4 0).fmod 999999 := Int.fmod_nonneg_of_pos _ (by decide)
    have hz1 : (scr.getD 4 0).fmod 999999 < 999999 := Int.fmod_lt_of_pos _ (by decide)
    have hz2 : 0 ≤ (scr.getD 4 0).fmod 70 := Int.fmod_nonneg_of_pos _ (by decide)
    have hz3 : (scr.getD 4 0).fmod 70 < 70 := Int.fmod_lt_of_pos _ (by decide)
    refine seqsL_split (fun ρ₂ H₂ => H₂ = H' ∧ ρ₂ "_law_script" = some (.ref l) ∧ ρ₂ "_law_pool_here" = some (.ref pl) ∧ ρ₂ "_law_names" = some (.ref nm) ∧ ρ₂ "_law_elder" = some (.ref rd) ∧ ρ₂ "_law_turn" = some (.int tn) ∧ ρ₂ "_law_kind" = some (.int kind) ∧
      ∃ sz, ρ₂ "_law_size" = some (.int sz) ∧ 2 ≤ sz ∧ sz ≤ 1000000) ?_ ?_
    rotate_left
    · intro rest
      replace rest := Box.mk rest
      (simp (maxSteps := 1000000) (implicitDefEqProofs := false) only [↓zb, ↓reduceIte, zc, ↓zd, ↓ze, ↓zg, ↓zh, ↓zi, ↓zj, ↓zk, ↓zl, ↓zn, ↓zo, ↓zp, ↓zq, ↓zr, ↓zt, ↓zu, ↓zv, ↓zw, ↓zx, ↓zy, ↓zz, ↓zba, ↓zbb, ↓zbc, ↓zbd, ↓zbe, ↓zbf, ↓zbg, ↓zbh, ↓zbi, ↓zbj, ↓zbk, ↓zbl, ↓zbm, ↓zbn, ↓zbo, ↓zbp, ↓zbq, ↓zbr, ↓zbs, ↓zbt, ↓zbu, ↓zbv, ↓zbw, ↓zbx, ↓zby, ↓zbz, ↓zca, ↓zcb, ↓zcc, ↓zcd, ↓zce, ↓zcf, ↓zcg, ↓zch, ↓zci, ↓zcj, ↓zck, ↓zcl, ↓zcm, ↓zcn, ↓zco, ↓zcp, ↓zcq, ↓zcr, ↓zcs, ↓zct, ↓zcu, ↓zcv, ↓zcw, ↓mt, zcx, kwl, ziw, zcy, zcz, zda, zdb, zdc, zix, ziy, ziz, zja, zdd, zde, zdf, zdg, zdh, zdi, zdj, zdk, zdl, zdm, zdn, zdo, zdp, zdq, zjb, Int.reduceEq, Int.reduceNe, zjc, zjd, Nat.reduceEqDiff, Int.reduceLT, Int.reduceLE, Int.reduceNeg, Int.reduceToNat, zje, kdC, zdr, zjf, zjg, nk1, nk2, nk3, nk4, nk5, zjh, zds, zdt, zdu, zdv, ic1, ic2, ic3, ic4, ic5, ic6, zdw, String.reduceBEq, p60, p50, AH.set_self, AH.set_ne, Kx.more, Kx.comp, zji, zjj, zjk, ↓zdx, ↓zdy, ↓zdz, ↓zea, ↓zeb, ↓zec, ↓zed, ↓zee, ↓zef, ↓zeg, ↓zeh, ↓zei, ↓zej, ↓zek, ↓zel, ↓zem, ↓zen, ↓zeo, ↓zep, ↓zeq, ↓zer, ↓zes, ↓zet, ↓zeu, ↓zev, ↓zew, ↓zex, ↓zey, ↓zez, ↓zfa, ↓zfb, ↓zfc, ↓zfd, ↓zfe, ↓zff, ↓zfg, ↓zfh, ↓zfi, ↓zfj, ↓zfk, ↓zfl, ↓zfm, ↓zfn, ↓zfo, ↓zfp, ↓zfq, ↓zfr, ↓zfs, ↓mtE, ↓zft, ↓zfu, ↓zfv, ↓zfw, ↓zfx, ↓zfy, ↓zfz, ↓zga, ↓zgb, ↓zgc, ↓zgd, ↓zge, ↓zgf, ↓zgg, zgh, zgi, zgj, zgk, zgl, zgm, zgn, zgo, zgp, zgq, zgr, zgs, zgt, zgu, zgv, zgw, zgx, zgy, zgz, zha, zhb, zhc, zhd, zhe, zhf, zhg, zhh, zhi, zhj, zhk, zhl, zhm, zhn, zho, zhp, zhq, zhr, zhs, zht, zhu, zhv, zhw, ↓zhx, ↓zhy, ↓zhz, ↓zia, ↓zib, zic, zid, zie, zif, zig, zih, ↓zii, ↓zij, ↓zik, ↓zil, ↓zim, ↓zin, ↓zio, ↓ziq, ↓zir, pk0, pk1, pk2, pk3, pk4, pk5, pk6, zjl, zjm, zjn, zjo, zjp, zjq, zjr, zjs, zjt, zju, zjv, zjw, zjx, zjy, zjz, zka, zkb, zkc, zkd, zke, zkf, zkg, zkh, zki, zkj, reduceCtorEq, zkk, zkl, zkm, zkn, zko, String.reduceEq, Nat.reduceAdd, Nat.reduceLeDiff, Nat.reduceLT, zkp, zkq, zkr, zks, ↓zis, zit, ↓ziu, ziv, *])
      refine ⟨fun _ => rest.out _ _ ⟨rfl, ?_, ?_, ?_, ?_, ?_, ?_, 2 + (scr.getD 4 0).fmod 70, ?_, by omega, by omega⟩, fun _ => rest.out _ _ ⟨rfl, ?_, ?_, ?_, ?_, ?_, ?_, 2 + (scr.getD 4 0).fmod 999999, ?_, by omega, by omega⟩⟩ <;> (simp (maxSteps := 1000000) (implicitDefEqProofs := false) only [↓zb, ↓reduceIte, zc, ↓zd, ↓ze, ↓zg, ↓zh, ↓zi, ↓zj, ↓zk, ↓zl, ↓zn, ↓zo, ↓zp, ↓zq, ↓zr, ↓zt, ↓zu, ↓zv, ↓zw, ↓zx, ↓zy, ↓zz, ↓zba, ↓zbb, ↓zbc, ↓zbd, ↓zbe, ↓zbf, ↓zbg, ↓zbh, ↓zbi, ↓zbj, ↓zbk, ↓zbl, ↓zbm, ↓zbn, ↓zbo, ↓zbp, ↓zbq, ↓zbr, ↓zbs, ↓zbt, ↓zbu, ↓zbv, ↓zbw, ↓zbx, ↓zby, ↓zbz, ↓zca, ↓zcb, ↓zcc, ↓zcd, ↓zce, ↓zcf, ↓zcg, ↓zch, ↓zci, ↓zcj, ↓zck, ↓zcl, ↓zcm, ↓zcn, ↓zco, ↓zcp, ↓zcq, ↓zcr, ↓zcs, ↓zct, ↓zcu, ↓zcv, ↓zcw, ↓mt, zcx, kwl, ziw, zcy, zcz, zda, zdb, zdc, zix, ziy, ziz, zja, zdd, zde, zdf, zdg, zdh, zdi, zdj, zdk, zdl, zdm, zdn, zdo, zdp, zdq, zjb, Int.reduceEq, Int.reduceNe, zjc, zjd, Nat.reduceEqDiff, Int.reduceLT, Int.reduceLE, Int.reduceNeg, Int.reduceToNat, zje, kdC, zdr, zjf, zjg, nk1, nk2, nk3, nk4, nk5, zjh, zds, zdt, zdu, zdv, ic1, ic2, ic3, ic4, ic5, ic6, zdw, String.reduceBEq, p60, p50, AH.set_self, AH.set_ne, Kx.more, Kx.comp, zji, zjj, zjk, ↓zdx, ↓zdy, ↓zdz, ↓zea, ↓zeb, ↓zec, ↓zed, ↓zee, ↓zef, ↓zeg, ↓zeh, ↓zei, ↓zej, ↓zek, ↓zel, ↓zem, ↓zen, ↓zeo, ↓zep, ↓zeq, ↓zer, ↓zes, ↓zet, ↓zeu, ↓zev, ↓zew, ↓zex, ↓zey, ↓zez, ↓zfa, ↓zfb, ↓zfc, ↓zfd, ↓zfe, ↓zff, ↓zfg, ↓zfh, ↓zfi, ↓zfj, ↓zfk, ↓zfl, ↓zfm, ↓zfn, ↓zfo, ↓zfp, ↓zfq, ↓zfr, ↓zfs, ↓mtE, ↓zft, ↓zfu, ↓zfv, ↓zfw, ↓zfx, ↓zfy, ↓zfz, ↓zga, ↓zgb, ↓zgc, ↓zgd, ↓zge, ↓zgf, ↓zgg, zgh, zgi, zgj, zgk, zgl, zgm, zgn, zgo, zgp, zgq, zgr, zgs, zgt, zgu, zgv, zgw, zgx, zgy, zgz, zha, zhb, zhc, zhd, zhe, zhf, zhg, zhh, zhi, zhj, zhk, zhl, zhm, zhn, zho, zhp, zhq, zhr, zhs, zht, zhu, zhv, zhw, ↓zhx, ↓zhy, ↓zhz, ↓zia, ↓zib, zic, zid, zie, zif, zig, zih, ↓zii, ↓zij, ↓zik, ↓zil, ↓zim, ↓zin, ↓zio, ↓ziq, ↓zir, pk0, pk1, pk2, pk3, pk4, pk5, pk6, zjl, zjm, zjn, zjo, zjp, zjq, zjr, zjs, zjt, zju, zjv, zjw, zjx, zjy, zjz, zka, zkb, zkc, zkd, zke, zkf, zkg, zkh, zki, zkj, reduceCtorEq, zkk, zkl, zkm, zkn, zko, String.reduceEq, Nat.reduceAdd, Nat.reduceLeDiff, Nat.reduceLT, zkp, zkq, zkr, zks, ↓zis, zit, ↓ziu, ziv, *])
    rintro ρ₂ _ ⟨rfl, s1, s2, s3, s4, s5, s6, sz, s7, hs2, hs6⟩
    clear r1 r2 r3 r5 hz0 hz1 hz2 hz3
    refine seqsL_cons ?_
    (simp (maxSteps := 1000000) (implicitDefEqProofs := false) only [↓zb, ↓reduceIte, zc, ↓zd, ↓ze, ↓zg, ↓zh, ↓zi, ↓zj, ↓zk, ↓zl, ↓zn, ↓zo, ↓zp, ↓zq, ↓zr, ↓zt, ↓zu, ↓zv, ↓zw, ↓zx, ↓zy, ↓zz, ↓zba, ↓zbb, ↓zbc, ↓zbd, ↓zbe, ↓zbf, ↓zbg, ↓zbh, ↓zbi, ↓zbj, ↓zbk, ↓zbl, ↓zbm, ↓zbn, ↓zbo, ↓zbp, ↓zbq, ↓zbr, ↓zbs, ↓zbt, ↓zbu, ↓zbv, ↓zbw, ↓zbx, ↓zby, ↓zbz, ↓zca, ↓zcb, ↓zcc, ↓zcd, ↓zce, ↓zcf, ↓zcg, ↓zch, ↓zci, ↓zcj, ↓zck, ↓zcl, ↓zcm, ↓zcn, ↓zco, ↓zcp, ↓zcq, ↓zcr, ↓zcs, ↓zct, ↓zcu, ↓zcv, ↓zcw, ↓mt, zcx, kwl, ziw, zcy, zcz, zda, zdb, zdc, zix, ziy, ziz, zja, zdd, zde, zdf, zdg, zdh, zdi, zdj, zdk, zdl, zdm, zdn, zdo, zdp, zdq, zjb, Int.reduceEq, Int.reduceNe, zjc, zjd, Nat.reduceEqDiff, Int.reduceLT, Int.reduceLE, Int.reduceNeg, Int.reduceToNat, zje, kdC, zdr, zjf, zjg, nk1, nk2, nk3, nk4, nk5, zjh, zds, zdt, zdu, zdv, ic1, ic2, ic3, ic4, ic5, ic6, zdw, String.reduceBEq, p60, p50, AH.set_self, AH.set_ne, Kx.more, Kx.comp, zji, zjj, zjk, ↓zdx, ↓zdy, ↓zdz, ↓zea, ↓zeb, ↓zec, ↓zed, ↓zee, ↓zef, ↓zeg, ↓zeh, ↓zei, ↓zej, ↓zek, ↓zel, ↓zem, ↓zen, ↓zeo, ↓zep, ↓zeq, ↓zer, ↓zes, ↓zet, ↓zeu, ↓zev, ↓zew, ↓zex, ↓zey, ↓zez, ↓zfa, ↓zfb, ↓zfc, ↓zfd, ↓zfe, ↓zff, ↓zfg, ↓zfh, ↓zfi, ↓zfj, ↓zfk, ↓zfl, ↓zfm, ↓zfn, ↓zfo, ↓zfp, ↓zfq, ↓zfr, ↓zfs, ↓mtE, ↓zft, ↓zfu, ↓zfv, ↓zfw, ↓zfx, ↓zfy, ↓zfz, ↓zga, ↓zgb, ↓zgc, ↓zgd, ↓zge, ↓zgf, ↓zgg, zgh, zgi, zgj, zgk, zgl, zgm, zgn, zgo, zgp, zgq, zgr, zgs, zgt, zgu, zgv, zgw, zgx, zgy, zgz, zha, zhb, zhc, zhd, zhe, zhf, zhg, zhh, zhi, zhj, zhk, zhl, zhm, zhn, zho, zhp, zhq, zhr, zhs, zht, zhu, zhv, zhw, ↓zhx, ↓zhy, ↓zhz, ↓zia, ↓zib, zic, zid, zie, zif, zig, zih, ↓zii, ↓zij, ↓zik, ↓zil, ↓zim, ↓zin, ↓zio, ↓ziq, ↓zir, pk0, pk1, pk2, pk3, pk4, pk5, pk6, zjl, zjm, zjn, zjo, zjp, zjq, zjr, zjs, zjt, zju, zjv, zjw, zjx, zjy, zjz, zka, zkb, zkc, zkd, zke, zkf, zkg, zkh, zki, zkj, reduceCtorEq, zkk, zkl, zkm, zkn, zko, String.reduceEq, Nat.reduceAdd, Nat.reduceLeDiff, Nat.reduceLT, zkp, zkq, zkr, zks, ↓zis, zit, ↓ziu, ziv, *])
    intro own
    -- some
    have hnz : (ns.map V.str).length ≤ sizeLine := by rw [hmm]; exact Nat.le_trans (by omega : m ≤ 11) (by decide)
    refine seqsL_cons ?_
    (simp (maxSteps := 1000000) (implicitDefEqProofs := false) only [↓zb, ↓reduceIte, zc, ↓zd, ↓ze, ↓zg, ↓zh, ↓zi, ↓zj, ↓zk, ↓zl, ↓zn, ↓zo, ↓zp, ↓zq, ↓zr, ↓zt, ↓zu, ↓zv, ↓zw, ↓zx, ↓zy, ↓zz, ↓zba, ↓zbb, ↓zbc, ↓zbd, ↓zbe, ↓zbf, ↓zbg, ↓zbh, ↓zbi, ↓zbj, ↓zbk, ↓zbl, ↓zbm, ↓zbn, ↓zbo, ↓zbp, ↓zbq, ↓zbr, ↓zbs, ↓zbt, ↓zbu, ↓zbv, ↓zbw, ↓zbx, ↓zby, ↓zbz, ↓zca, ↓zcb, ↓zcc, ↓zcd, ↓zce, ↓zcf, ↓zcg, ↓zch, ↓zci, ↓zcj, ↓zck, ↓zcl, ↓zcm, ↓zcn, ↓zco, ↓zcp, ↓zcq, ↓zcr, ↓zcs, ↓zct, ↓zcu, ↓zcv, ↓zcw, ↓mt, zcx, kwl, ziw, zcy, zcz, zda, zdb, zdc, zix, ziy, ziz, zja, zdd, zde, zdf, zdg, zdh, zdi, zdj, zdk, zdl, zdm, zdn, zdo, zdp, zdq, zjb, Int.reduceEq, Int.reduceNe, zjc, zjd, Nat.reduceEqDiff, Int.reduceLT, Int.reduceLE, Int.reduceNeg, Int.reduceToNat, zje, kdC, zdr, zjf, zjg, nk1, nk2, nk3, nk4, nk5, zjh, zds, zdt, zdu, zdv, ic1, ic2, ic3, ic4, ic5, ic6, zdw, String.reduceBEq, p60, p50, AH.set_self, AH.set_ne, Kx.more, Kx.comp, zji, zjj, zjk, ↓zdx, ↓zdy, ↓zdz, ↓zea, ↓zeb, ↓zec, ↓zed, ↓zee, ↓zef, ↓zeg, ↓zeh, ↓zei, ↓zej, ↓zek, ↓zel, ↓zem, ↓zen, ↓zeo, ↓zep, ↓zeq, ↓zer, ↓zes, ↓zet, ↓zeu, ↓zev, ↓zew, ↓zex, ↓zey, ↓zez, ↓zfa, ↓zfb, ↓zfc, ↓zfd, ↓zfe, ↓zff, ↓zfg, ↓zfh, ↓zfi, ↓zfj, ↓zfk, ↓zfl, ↓zfm, ↓zfn, ↓zfo, ↓zfp, ↓zfq, ↓zfr, ↓zfs, ↓mtE, ↓zft, ↓zfu, ↓zfv, ↓zfw, ↓zfx, ↓zfy, ↓zfz, ↓zga, ↓zgb, ↓zgc, ↓zgd, ↓zge, ↓zgf, ↓zgg, zgh, zgi, zgj, zgk, zgl, zgm, zgn, zgo, zgp, zgq, zgr, zgs, zgt, zgu, zgv, zgw, zgx, zgy, zgz, zha, zhb, zhc, zhd, zhe, zhf, zhg, zhh, zhi, zhj, zhk, zhl, zhm, zhn, zho, zhp, zhq, zhr, zhs, zht, zhu, zhv, zhw, ↓zhx, ↓zhy, ↓zhz, ↓zia, ↓zib, zic, zid, zie, zif, zig, zih, ↓zii, ↓zij, ↓zik, ↓zil, ↓zim, ↓zin, ↓zio, ↓ziq, ↓zir, pk0, pk1, pk2, pk3, pk4, pk5, pk6, zjl, zjm, zjn, zjo, zjp, zjq, zjr, zjs, zjt, zju, zjv, zjw, zjx, zjy, zjz, zka, zkb, zkc, zkd, zke, zkf, zkg, zkh, zki, zkj, reduceCtorEq, zkk, zkl, zkm, zkn, zko, String.reduceEq, Nat.reduceAdd, Nat.reduceLeDiff, Nat.reduceLT, zkp, zkq, zkr, zks, ↓zis, zit, ↓ziu, ziv, *])
    refine ⟨by rw [← hmm]; exact hnz, made_of fun H₆ s1' e6 n6 f6 hs1 => ?_⟩
    replace hl := e6 _ _ hl
    replace hpl := e6 _ _ hpl
    replace hnm := e6 _ _ hnm
    replace hrd := e6 _ _ hrd
    (simp (maxSteps := 1000000) (implicitDefEqProofs := false) only [↓zb, ↓reduceIte, zc, ↓zd, ↓ze, ↓zg, ↓zh, ↓zi, ↓zj, ↓zk, ↓zl, ↓zn, ↓zo, ↓zp, ↓zq, ↓zr, ↓zt, ↓zu, ↓zv, ↓zw, ↓zx, ↓zy, ↓zz, ↓zba, ↓zbb, ↓zbc, ↓zbd, ↓zbe, ↓zbf, ↓zbg, ↓zbh, ↓zbi, ↓zbj, ↓zbk, ↓zbl, ↓zbm, ↓zbn, ↓zbo, ↓zbp, ↓zbq, ↓zbr, ↓zbs, ↓zbt, ↓zbu, ↓zbv, ↓zbw, ↓zbx, ↓zby, ↓zbz, ↓zca, ↓zcb, ↓zcc, ↓zcd, ↓zce, ↓zcf, ↓zcg, ↓zch, ↓zci, ↓zcj, ↓zck, ↓zcl, ↓zcm, ↓zcn, ↓zco, ↓zcp, ↓zcq, ↓zcr, ↓zcs, ↓zct, ↓zcu, ↓zcv, ↓zcw, ↓mt, zcx, kwl, ziw, zcy, zcz, zda, zdb, zdc, zix, ziy, ziz, zja, zdd, zde, zdf, zdg, zdh, zdi, zdj, zdk, zdl, zdm, zdn, zdo, zdp, zdq, zjb, Int.reduceEq, Int.reduceNe, zjc, zjd, Nat.reduceEqDiff, Int.reduceLT, Int.reduceLE, Int.reduceNeg, Int.reduceToNat, zje, kdC, zdr, zjf, zjg, nk1, nk2, nk3, nk4, nk5, zjh, zds, zdt, zdu, zdv, ic1, ic2, ic3, ic4, ic5, ic6, zdw, String.reduceBEq, p60, p50, AH.set_self, AH.set_ne, Kx.more, Kx.comp, zji, zjj, zjk, ↓zdx, ↓zdy, ↓zdz, ↓zea, ↓zeb, ↓zec, ↓zed, ↓zee, ↓zef, ↓zeg, ↓zeh, ↓zei, ↓zej, ↓zek, ↓zel, ↓zem, ↓zen, ↓zeo, ↓zep, ↓zeq, ↓zer, ↓zes, ↓zet, ↓zeu, ↓zev, ↓zew, ↓zex, ↓zey, ↓zez, ↓zfa, ↓zfb, ↓zfc, ↓zfd, ↓zfe, ↓zff, ↓zfg, ↓zfh, ↓zfi, ↓zfj, ↓zfk, ↓zfl, ↓zfm, ↓zfn, ↓zfo, ↓zfp, ↓zfq, ↓zfr, ↓zfs, ↓mtE, ↓zft, ↓zfu, ↓zfv, ↓zfw, ↓zfx, ↓zfy, ↓zfz, ↓zga, ↓zgb, ↓zgc, ↓zgd, ↓zge, ↓zgf, ↓zgg, zgh, zgi, zgj, zgk, zgl, zgm, zgn, zgo, zgp, zgq, zgr, zgs, zgt, zgu, zgv, zgw, zgx, zgy, zgz, zha, zhb, zhc, zhd, zhe, zhf, zhg, zhh, zhi, zhj, zhk, zhl, zhm, zhn, zho, zhp, zhq, zhr, zhs, zht, zhu, zhv, zhw, ↓zhx, ↓zhy, ↓zhz, ↓zia, ↓zib, zic, zid, zie, zif, zig, zih, ↓zii, ↓zij, ↓zik, ↓zil, ↓zim, ↓zin, ↓zio, ↓ziq, ↓zir, pk0, pk1, pk2, pk3, pk4, pk5, pk6, zjl, zjm, zjn, zjo, zjp, zjq, zjr, zjs, zjt, zju, zjv, zjw, zjx, zjy, zjz, zka, zkb, zkc, zkd, zke, zkf, zkg, zkh, zki, zkj, reduceCtorEq, zkk, zkl, zkm, zkn, zko, String.reduceEq, Nat.reduceAdd, Nat.reduceLeDiff, Nat.reduceLT, zkp, zkq, zkr, zks, ↓zis, zit, ↓ziu, ziv, *])
    refine ⟨by rw [← hmm]; exact hnz, made_of fun H₇ s2' e7 n7 f7 hs2' => ?_⟩
    replace hl := e7 _ _ hl
    replace hpl := e7 _ _ hpl
    replace hrd := e7 _ _ hrd
    replace hs1 := e7 _ _ hs1
    (simp (maxSteps := 1000000) (implicitDefEqProofs := false) only [↓zb, ↓reduceIte, zc, ↓zd, ↓ze, ↓zg, ↓zh, ↓zi, ↓zj, ↓zk, ↓zl, ↓zn, ↓zo, ↓zp, ↓zq, ↓zr, ↓zt, ↓zu, ↓zv, ↓zw, ↓zx, ↓zy, ↓zz, ↓zba, ↓zbb, ↓zbc, ↓zbd, ↓zbe, ↓zbf, ↓zbg, ↓zbh, ↓zbi, ↓zbj, ↓zbk, ↓zbl, ↓zbm, ↓zbn, ↓zbo, ↓zbp, ↓zbq, ↓zbr, ↓zbs, ↓zbt, ↓zbu, ↓zbv, ↓zbw, ↓zbx, ↓zby, ↓zbz, ↓zca, ↓zcb, ↓zcc, ↓zcd, ↓zce, ↓zcf, ↓zcg, ↓zch, ↓zci, ↓zcj, ↓zck, ↓zcl, ↓zcm, ↓zcn, ↓zco, ↓zcp, ↓zcq, ↓zcr, ↓zcs, ↓zct, ↓zcu, ↓zcv, ↓zcw, ↓mt, zcx, kwl, ziw, zcy, zcz, zda, zdb, zdc, zix, ziy, ziz, zja, zdd, zde, zdf, zdg, zdh, zdi, zdj, zdk, zdl, zdm, zdn, zdo, zdp, zdq, zjb, Int.reduceEq, Int.reduceNe, zjc, zjd, Nat.reduceEqDiff, Int.reduceLT, Int.reduceLE, Int.reduceNeg, Int.reduceToNat, zje, kdC, zdr, zjf, zjg, nk1, nk2, nk3, nk4, nk5, zjh, zds, zdt, zdu, zdv, ic1, ic2, ic3, ic4, ic5, ic6, zdw, String.reduceBEq, p60, p50, AH.set_self, AH.set_ne, Kx.more, Kx.comp, zji, zjj, zjk, ↓zdx, ↓zdy, ↓zdz, ↓zea, ↓zeb, ↓zec, ↓zed, ↓zee, ↓zef, ↓zeg, ↓zeh, ↓zei, ↓zej, ↓zek, ↓zel, ↓zem, ↓zen, ↓zeo, ↓zep, ↓zeq, ↓zer, ↓zes, ↓zet, ↓zeu, ↓zev, ↓zew, ↓zex, ↓zey, ↓zez, ↓zfa, ↓zfb, ↓zfc, ↓zfd, ↓zfe, ↓zff, ↓zfg, ↓zfh, ↓zfi, ↓zfj, ↓zfk, ↓zfl, ↓zfm, ↓zfn, ↓zfo, ↓zfp, ↓zfq, ↓zfr, ↓zfs, ↓mtE, ↓zft, ↓zfu, ↓zfv, ↓zfw, ↓zfx, ↓zfy, ↓zfz, ↓zga, ↓zgb, ↓zgc, ↓zgd, ↓zge, ↓zgf, ↓zgg, zgh, zgi, zgj, zgk, zgl, zgm, zgn, zgo, zgp, zgq, zgr, zgs, zgt, zgu, zgv, zgw, zgx, zgy, zgz, zha, zhb, zhc, zhd, zhe, zhf, zhg, zhh, zhi, zhj, zhk, zhl, zhm, zhn, zho, zhp, zhq, zhr, zhs, zht, zhu, zhv, zhw, ↓zhx, ↓zhy, ↓zhz, ↓zia, ↓zib, zic, zid, zie, zif, zig, zih, ↓zii, ↓zij, ↓zik, ↓zil, ↓zim, ↓zin, ↓zio, ↓ziq, ↓zir, pk0, pk1, pk2, pk3, pk4, pk5, pk6, zjl, zjm, zjn, zjo, zjp, zjq, zjr, zjs, zjt, zju, zjv, zjw, zjx, zjy, zjz, zka, zkb, zkc, zkd, zke, zkf, zkg, zkh, zki, zkj, reduceCtorEq, zkk, zkl, zkm, zkn, zko, String.reduceEq, Nat.reduceAdd, Nat.reduceLeDiff, Nat.reduceLT, zkp, zkq, zkr, zks, ↓zis, zit, ↓ziu, ziv, *])
    refine ⟨by simp only [List.length_drop, List.length_take, List.length_map]; exact Nat.le_trans (by omega : _ ≤ 22) (by decide), made_of fun H₈ sm e8 n8 f8 hsm => ?_⟩
    replace hl := e8 _ _ hl
    replace hpl := e8 _ _ hpl
    replace hrd := e8 _ _ hrd
    clear e6 n6 f6 hs1 e7 n7 f7 hs2' e8 n8 f8 hnm hnz
    rw [← List.map_drop, ← List.map_take, ← List.map_append] at hsm
    obtain ⟨A, B, r, hAB, nab⟩ : ∃ A B r, ns.drop tn ++ ns.take tn = A :: B :: r ∧ (A ∈ ns ∧ B ∈ ns ∧ A ≠ B) := rot_two nds (by omega)
    rw [hAB, List.map_cons, List.map_cons] at hsm
    -- the new names
    refine seqsL_cons ?_
    (simp (maxSteps := 1000000) (implicitDefEqProofs := false) only [↓zb, ↓reduceIte, zc, ↓zd, ↓ze, ↓zg, ↓zh, ↓zi, ↓zj, ↓zk, ↓zl, ↓zn, ↓zo, ↓zp, ↓zq, ↓zr, ↓zt, ↓zu, ↓zv, ↓zw, ↓zx, ↓zy, ↓zz, ↓zba, ↓zbb, ↓zbc, ↓zbd, ↓zbe, ↓zbf, ↓zbg, ↓zbh, ↓zbi, ↓zbj, ↓zbk, ↓zbl, ↓zbm, ↓zbn, ↓zbo, ↓zbp, ↓zbq, ↓zbr, ↓zbs, ↓zbt, ↓zbu, ↓zbv, ↓zbw, ↓zbx, ↓zby, ↓zbz, ↓zca, ↓zcb, ↓zcc, ↓zcd, ↓zce, ↓zcf, ↓zcg, ↓zch, ↓zci, ↓zcj, ↓zck, ↓zcl, ↓zcm, ↓zcn, ↓zco, ↓zcp, ↓zcq, ↓zcr, ↓zcs, ↓zct, ↓zcu, ↓zcv, ↓zcw, ↓mt, zcx, kwl, ziw, zcy, zcz, zda, zdb, zdc, zix, ziy, ziz, zja, zdd, zde, zdf, zdg, zdh, zdi, zdj, zdk, zdl, zdm, zdn, zdo, zdp, zdq, zjb, Int.reduceEq, Int.reduceNe, zjc, zjd, Nat.reduceEqDiff, Int.reduceLT, Int.reduceLE, Int.reduceNeg, Int.reduceToNat, zje, kdC, zdr, zjf, zjg, nk1, nk2, nk3, nk4, nk5, zjh, zds, zdt, zdu, zdv, ic1, ic2, ic3, ic4, ic5, ic6, zdw, String.reduceBEq, p60, p50, AH.set_self, AH.set_ne, Kx.more, Kx.comp, zji, zjj, zjk, ↓zdx, ↓zdy, ↓zdz, ↓zea, ↓zeb, ↓zec, ↓zed, ↓zee, ↓zef, ↓zeg, ↓zeh, ↓zei, ↓zej, ↓zek, ↓zel, ↓zem, ↓zen, ↓zeo, ↓zep, ↓zeq, ↓zer, ↓zes, ↓zet, ↓zeu, ↓zev, ↓zew, ↓zex, ↓zey, ↓zez, ↓zfa, ↓zfb, ↓zfc, ↓zfd, ↓zfe, ↓zff, ↓zfg, ↓zfh, ↓zfi, ↓zfj, ↓zfk, ↓zfl, ↓zfm, ↓zfn, ↓zfo, ↓zfp, ↓zfq, ↓zfr, ↓zfs, ↓mtE, ↓zft, ↓zfu, ↓zfv, ↓zfw, ↓zfx, ↓zfy, ↓zfz, ↓zga, ↓zgb, ↓zgc, ↓zgd, ↓zge, ↓zgf, ↓zgg, zgh, zgi, zgj, zgk, zgl, zgm, zgn, zgo, zgp, zgq, zgr, zgs, zgt, zgu, zgv, zgw, zgx, zgy, zgz, zha, zhb, zhc, zhd, zhe, zhf, zhg, zhh, zhi, zhj, zhk, zhl, zhm, zhn, zho, zhp, zhq, zhr, zhs, zht, zhu, zhv, zhw, ↓zhx, ↓zhy, ↓zhz, ↓zia, ↓zib, zic, zid, zie, zif, zig, zih, ↓zii, ↓zij, ↓zik, ↓zil, ↓zim, ↓zin, ↓zio, ↓ziq, ↓zir, pk0, pk1, pk2, pk3, pk4, pk5, pk6, zjl, zjm, zjn, zjo, zjp, zjq, zjr, zjs, zjt, zju, zjv, zjw, zjx, zjy, zjz, zka, zkb, zkc, zkd, zke, zkf, zkg, zkh, zki, zkj, reduceCtorEq, zkk, zkl, zkm, zkn, zko, String.reduceEq, Nat.reduceAdd, Nat.reduceLeDiff, Nat.reduceLT, zkp, zkq, zkr, zks, ↓zis, zit, ↓ziu, ziv, *])
    refine made_of fun H₉ w e9 n9 f9 hw => ?_
    have hsm8 := hsm
    have hl8 := hl
    have hrd8 := hrd
    replace hl := e9 _ _ hl
    replace hrd := e9 _ _ hrd
    replace hsm := e9 _ _ hsm
    clear hpl
    refine seqsL_heap (fun H' => Ext H₈ H' ∧ ∃ x, H'.get w = some (.list [.str x, .str P14]) ∧ (x = P13 ∨ (5 < kind ∧ (x = A ∨ x = B)))) ?_ ?_
    · intro rest
      (simp (maxSteps := 1000000) (implicitDefEqProofs := false) only [↓zb, ↓reduceIte, zc, ↓zd, ↓ze, ↓zg, ↓zh, ↓zi, ↓zj, ↓zk, ↓zl, ↓zn, ↓zo, ↓zp, ↓zq, ↓zr, ↓zt, ↓zu, ↓zv, ↓zw, ↓zx, ↓zy, ↓zz, ↓zba, ↓zbb, ↓zbc, ↓zbd, ↓zbe, ↓zbf, ↓zbg, ↓zbh, ↓zbi, ↓zbj, ↓zbk, ↓zbl, ↓zbm, ↓zbn, ↓zbo, ↓zbp, ↓zbq, ↓zbr, ↓zbs, ↓zbt, ↓zbu, ↓zbv, ↓zbw, ↓zbx, ↓zby, ↓zbz, ↓zca, ↓zcb, ↓zcc, ↓zcd, ↓zce, ↓zcf, ↓zcg, ↓zch, ↓zci, ↓zcj, ↓zck, ↓zcl, ↓zcm, ↓zcn, ↓zco, ↓zcp, ↓zcq, ↓zcr, ↓zcs, ↓zct, ↓zcu, ↓zcv, ↓zcw, ↓mt, zcx, kwl, ziw, zcy, zcz, zda, zdb, zdc, zix, ziy, ziz, zja, zdd, zde, zdf, zdg, zdh, zdi, zdj, zdk, zdl, zdm, zdn, zdo, zdp, zdq, zjb, Int.reduceEq, Int.reduceNe, zjc, zjd, Nat.reduceEqDiff, Int.reduceLT, Int.reduceLE, Int.reduceNeg, Int.reduceToNat, zje, kdC, zdr, zjf, zjg, nk1, nk2, nk3, nk4, nk5, zjh, zds, zdt, zdu, zdv, ic1, ic2, ic3, ic4, ic5, ic6, zdw, String.reduceBEq, p60, p50, AH.set_self, AH.set_ne, Kx.more, Kx.comp, zji, zjj, zjk, ↓zdx, ↓zdy, ↓zdz, ↓zea, ↓zeb, ↓zec, ↓zed, ↓zee, ↓zef, ↓zeg, ↓zeh, ↓zei, ↓zej, ↓zek, ↓zel, ↓zem, ↓zen, ↓zeo, ↓zep, ↓zeq, ↓zer, ↓zes, ↓zet, ↓zeu, ↓zev, ↓zew, ↓zex, ↓zey, ↓zez, ↓zfa, ↓zfb, ↓zfc, ↓zfd, ↓zfe, ↓zff, ↓zfg, ↓zfh, ↓zfi, ↓zfj, ↓zfk, ↓zfl, ↓zfm, ↓zfn, ↓zfo, ↓zfp, ↓zfq, ↓zfr, ↓zfs, ↓mtE, ↓zft, ↓zfu, ↓zfv, ↓zfw, ↓zfx, ↓zfy, ↓zfz, ↓zga, ↓zgb, ↓zgc, ↓zgd, ↓zge, ↓zgf, ↓zgg, zgh, zgi, zgj, zgk, zgl, zgm, zgn, zgo, zgp, zgq, zgr, zgs, zgt, zgu, zgv, zgw, zgx, zgy, zgz, zha, zhb, zhc, zhd, zhe, zhf, zhg, zhh, zhi, zhj, zhk, zhl, zhm, zhn, zho, zhp, zhq, zhr, zhs, zht, zhu, zhv, zhw, ↓zhx, ↓zhy, ↓zhz, ↓zia, ↓zib, zic, zid, zie, zif, zig, zih, ↓zii, ↓zij, ↓zik, ↓zil, ↓zim, ↓zin, ↓zio, ↓ziq, ↓zir, pk0, pk1, pk2, pk3, pk4, pk5, pk6, zjl, zjm, zjn, zjo, zjp, zjq, zjr, zjs, zjt, zju, zjv, zjw, zjx, zjy, zjz, zka, zkb, zkc, zkd, zke, zkf, zkg, zkh, zki, zkj, reduceCtorEq, zkk, zkl, zkm, zkn, zko, String.reduceEq, Nat.reduceAdd, Nat.reduceLeDiff, Nat.reduceLT, zkp, zkq, zkr, zks, ↓zis, zit, ↓ziu, ziv, *])
      have h0 : 0 ≤ ((scr.getD 5 0).fdiv 2).fmod 3 := Int.fmod_nonneg_of_pos _ (by decide)
      have h3 : ((scr.getD 5 0).fdiv 2).fmod 3 < 3 := Int.fmod_lt_of_pos _ (by decide)
      have keep := rest.out _ ⟨e9, P13, hw, .inl rfl⟩
      refine ⟨fun hk => ⟨fun hpos => ?_, fun _ => keep⟩, fun _ => keep⟩
      have hj : ((scr.getD 5 0).fdiv 2).fmod 3 = 1 ∨ ((scr.getD 5 0).fdiv 2).fmod 3 = 2 := by omega
      clear keep
      rcases hj with hj | hj <;> rw [hj]
      · rw [show (1 : Int) - 1 = 0 from rfl, pk0]
        exact ⟨by decide, rest.out _ ⟨e9.set n9, A, AH.set_self .., .inr ⟨hk, .inl rfl⟩⟩⟩
      · rw [show (2 : Int) - 1 = 1 from rfl, pk1]
        exact ⟨by decide, rest.out _ ⟨e9.set n9, B, AH.set_self .., .inr ⟨hk, .inr rfl⟩⟩⟩
    clear hw e9 hl hrd hsm
    rintro H₁₀ ⟨e10, x, hw, hx⟩
    have hl := e10 _ _ hl8
    have hrd := e10 _ _ hrd8
    have hsm := e10 _ _ hsm8
    refine seqsL_heap (fun H' => Ext H₈ H' ∧ ∃ x, H'.get w = some (.list [.str x, .str P14]) ∧ (x = P13 ∨ (kind = 7 ∧ x = A) ∨ ((kind = 6 ∨ kind = 8) ∧ (x = A ∨ x = B))) ∧ (kind = 7 → x = A)) ?_ ?_
    · intro rest
      (simp (maxSteps := 1000000) (implicitDefEqProofs := false) only [↓zb, ↓reduceIte, zc, ↓zd, ↓ze, ↓zg, ↓zh, ↓zi, ↓zj, ↓zk, ↓zl, ↓zn, ↓zo, ↓zp, ↓zq, ↓zr, ↓zt, ↓zu, ↓zv, ↓zw, ↓zx, ↓zy, ↓zz, ↓zba, ↓zbb, ↓zbc, ↓zbd, ↓zbe, ↓zbf, ↓zbg, ↓zbh, ↓zbi, ↓zbj, ↓zbk, ↓zbl, ↓zbm, ↓zbn, ↓zbo, ↓zbp, ↓zbq, ↓zbr, ↓zbs, ↓zbt, ↓zbu, ↓zbv, ↓zbw, ↓zbx, ↓zby, ↓zbz, ↓zca, ↓zcb, ↓zcc, ↓zcd, ↓zce, ↓zcf, ↓zcg, ↓zch, ↓zci, ↓zcj, ↓zck, ↓zcl, ↓zcm, ↓zcn, ↓zco, ↓zcp, ↓zcq, ↓zcr, ↓zcs, ↓zct, ↓zcu, ↓zcv, ↓zcw, ↓mt, zcx, kwl, ziw, zcy, zcz, zda, zdb, zdc, zix, ziy, ziz, zja, zdd, zde, zdf, zdg, zdh, zdi, zdj, zdk, zdl, zdm, zdn, zdo, zdp, zdq, zjb, Int.reduceEq, Int.reduceNe, zjc, zjd, Nat.reduceEqDiff, Int.reduceLT, Int.reduceLE, Int.reduceNeg, Int.reduceToNat, zje, kdC, zdr, zjf, zjg, nk1, nk2, nk3, nk4, nk5, zjh, zds, zdt, zdu, zdv, ic1, ic2, ic3, ic4, ic5, ic6, zdw, String.reduceBEq, p60, p50, AH.set_self, AH.set_ne, Kx.more, Kx.comp, zji, zjj, zjk, ↓zdx, ↓zdy, ↓zdz, ↓zea, ↓zeb, ↓zec, ↓zed, ↓zee, ↓zef, ↓zeg, ↓zeh, ↓zei, ↓zej, ↓zek, ↓zel, ↓zem, ↓zen, ↓zeo, ↓zep, ↓zeq, ↓zer, ↓zes, ↓zet, ↓zeu, ↓zev, ↓zew, ↓zex, ↓zey, ↓zez, ↓zfa, ↓zfb, ↓zfc, ↓zfd, ↓zfe, ↓zff, ↓zfg, ↓zfh, ↓zfi, ↓zfj, ↓zfk, ↓zfl, ↓zfm, ↓zfn, ↓zfo, ↓zfp, ↓zfq, ↓zfr, ↓zfs, ↓mtE, ↓zft, ↓zfu, ↓zfv, ↓zfw, ↓zfx, ↓zfy, ↓zfz, ↓zga, ↓zgb, ↓zgc, ↓zgd, ↓zge, ↓zgf, ↓zgg, zgh, zgi, zgj, zgk, zgl, zgm, zgn, zgo, zgp, zgq, zgr, zgs, zgt, zgu, zgv, zgw, zgx, zgy, zgz, zha, zhb, zhc, zhd, zhe, zhf, zhg, zhh, zhi, zhj, zhk, zhl, zhm, zhn, zho, zhp, zhq, zhr, zhs, zht, zhu, zhv, zhw, ↓zhx, ↓zhy, ↓zhz, ↓zia, ↓zib, zic, zid, zie, zif, zig, zih, ↓zii, ↓zij, ↓zik, ↓zil, ↓zim, ↓zin, ↓zio, ↓ziq, ↓zir, pk0, pk1, pk2, pk3, pk4, pk5, pk6, zjl, zjm, zjn, zjo, zjp, zjq, zjr, zjs, zjt, zju, zjv, zjw, zjx, zjy, zjz, zka, zkb, zkc, zkd, zke, zkf, zkg, zkh, zki, zkj, reduceCtorEq, zkk, zkl, zkm, zkn, zko, String.reduceEq, Nat.reduceAdd, Nat.reduceLeDiff, Nat.reduceLT, zkp, zkq, zkr, zks, ↓zis, zit, ↓ziu, ziv, *])
      refine ⟨fun hk => ⟨by decide, rest.out _ ⟨e10.set n9, A, AH.set_self .., .inr (.inl ⟨hk, rfl⟩), fun _ => rfl⟩⟩, fun hk => rest.out _ ⟨e10, x, hw, ?_, fun e => absurd e hk⟩⟩
      rcases hx with hx | ⟨h5, hx⟩
      · exact .inl hx
      · exact .inr (.inr ⟨by omega, hx⟩)
    clear hw e10 hl hrd hsm hx x
    rintro H₁₁ ⟨e11, x, hw, hx, hx7⟩
    have hl := e11 _ _ hl8
    have hrd := e11 _ _ hrd8
    have hsm := e11 _ _ hsm8
    have ft : ∀ n, Fits (mk9 kind A B x P14 sz n) ns := fun n => by
      have a14 : A ≠ P14 := fun e => q14 (e ▸ nab.1)
      unfold mk9
      refine fits_of (P13 := P13) (P14 := P14) nds nab.1 nab.2.1 nab.2.2 q13 q14 ⟨hs2, hs6⟩ (by split <;> (try split) <;> omega) (by split <;> (try split) <;> omega) ?_ (.inl rfl) ?_
      · rcases hx with hx | ⟨hk, hx⟩ | ⟨hk | hk, hx | hx⟩
        · exact .inl hx
        · subst hk; exact .inr (.inl ⟨by decide, hx⟩)
        · subst hk; exact .inr (.inl ⟨by decide, hx⟩)
        · subst hk; exact .inr (.inr ⟨by decide, hx⟩)
        · subst hk; exact .inr (.inl ⟨by decide, hx⟩)
        · subst hk; exact .inr (.inr ⟨by decide, hx⟩)
      · intro hk
        by_cases h7 : kind = 7
        · rw [hx7 h7]; exact a14
        · have : kind = 5 := by rw [if_neg h7] at hk; split at hk <;> omega
          subst this
          rcases hx with hx | ⟨hk, hx⟩ | ⟨hk | hk, hx⟩
          · rw [hx]; exact hne
          · omega
          · omega
          · omega
    replace ft := ft own
    clear hl8 hrd8 hsm8 hx hx7 e11
    -- the step
    refine seqsL_cons ?_
    (simp (maxSteps := 1000000) (implicitDefEqProofs := false) only [↓zb, ↓reduceIte, zc, ↓zd, ↓ze, ↓zg, ↓zh, ↓zi, ↓zj, ↓zk, ↓zl, ↓zn, ↓zo, ↓zp, ↓zq, ↓zr, ↓zt, ↓zu, ↓zv, ↓zw, ↓zx, ↓zy, ↓zz, ↓zba, ↓zbb, ↓zbc, ↓zbd, ↓zbe, ↓zbf, ↓zbg, ↓zbh, ↓zbi, ↓zbj, ↓zbk, ↓zbl, ↓zbm, ↓zbn, ↓zbo, ↓zbp, ↓zbq, ↓zbr, ↓zbs, ↓zbt, ↓zbu, ↓zbv, ↓zbw, ↓zbx, ↓zby, ↓zbz, ↓zca, ↓zcb, ↓zcc, ↓zcd, ↓zce, ↓zcf, ↓zcg, ↓zch, ↓zci, ↓zcj, ↓zck, ↓zcl, ↓zcm, ↓zcn, ↓zco, ↓zcp, ↓zcq, ↓zcr, ↓zcs, ↓zct, ↓zcu, ↓zcv, ↓zcw, ↓mt, zcx, kwl, ziw, zcy, zcz, zda, zdb, zdc, zix, ziy, ziz, zja, zdd, zde, zdf, zdg, zdh, zdi, zdj, zdk, zdl, zdm, zdn, zdo, zdp, zdq, zjb, Int.reduceEq, Int.reduceNe, zjc, zjd, Nat.reduceEqDiff, Int.reduceLT, Int.reduceLE, Int.reduceNeg, Int.reduceToNat, zje, kdC, zdr, zjf, zjg, nk1, nk2, nk3, nk4, nk5, zjh, zds, zdt, zdu, zdv, ic1, ic2, ic3, ic4, ic5, ic6, zdw, String.reduceBEq, p60, p50, AH.set_self, AH.set_ne, Kx.more, Kx.comp, zji, zjj, zjk, ↓zdx, ↓zdy, ↓zdz, ↓zea, ↓zeb, ↓zec, ↓zed, ↓zee, ↓zef, ↓zeg, ↓zeh, ↓zei, ↓zej, ↓zek, ↓zel, ↓zem, ↓zen, ↓zeo, ↓zep, ↓zeq, ↓zer, ↓zes, ↓zet, ↓zeu, ↓zev, ↓zew, ↓zex, ↓zey, ↓zez, ↓zfa, ↓zfb, ↓zfc, ↓zfd, ↓zfe, ↓zff, ↓zfg, ↓zfh, ↓zfi, ↓zfj, ↓zfk, ↓zfl, ↓zfm, ↓zfn, ↓zfo, ↓zfp, ↓zfq, ↓zfr, ↓zfs, ↓mtE, ↓zft, ↓zfu, ↓zfv, ↓zfw, ↓zfx, ↓zfy, ↓zfz, ↓zga, ↓zgb, ↓zgc, ↓zgd, ↓zge, ↓zgf, ↓zgg, zgh, zgi, zgj, zgk, zgl, zgm, zgn, zgo, zgp, zgq, zgr, zgs, zgt, zgu, zgv, zgw, zgx, zgy, zgz, zha, zhb, zhc, zhd, zhe, zhf, zhg, zhh, zhi, zhj, zhk, zhl, zhm, zhn, zho, zhp, zhq, zhr, zhs, zht, zhu, zhv, zhw, ↓zhx, ↓zhy, ↓zhz, ↓zia, ↓zib, zic, zid, zie, zif, zig, zih, ↓zii, ↓zij, ↓zik, ↓zil, ↓zim, ↓zin, ↓zio, ↓ziq, ↓zir, pk0, pk1, pk2, pk3, pk4, pk5, pk6, zjl, zjm, zjn, zjo, zjp, zjq, zjr, zjs, zjt, zju, zjv, zjw, zjx, zjy, zjz, zka, zkb, zkc, zkd, zke, zkf, zkg, zkh, zki, zkj, reduceCtorEq, zkk, zkl, zkm, zkn, zko, String.reduceEq, Nat.reduceAdd, Nat.reduceLeDiff, Nat.reduceLT, zkp, zkq, zkr, zks, ↓zis, zit, ↓ziu, ziv, *])
    refine ⟨kind, sz, own, sm, w, A, B, x, P14, r.map V.str, rfl, hsm, hw, hk0, hk9, made_of fun H₁₃ sp e13 n13 f13 hsp => ?_⟩
    replace hl := e13 _ _ hl
    replace hrd := e13 _ _ hrd
    clear e13 n13 f13 hsm hw
    generalize mk9 kind A B x P14 sz own = st at ft hsp
    have hez : (dI es).length ≤ sizeLine := by rw [dI_length]; exact Nat.le_trans hes (by decide)
    subst hks
    -- the first reading
    refine seqsL_cons ?_
    (simp (maxSteps := 1000000) (implicitDefEqProofs := false) only [↓zb, ↓reduceIte, zc, ↓zd, ↓ze, ↓zg, ↓zh, ↓zi, ↓zj, ↓zk, ↓zl, ↓zn, ↓zo, ↓zp, ↓zq, ↓zr, ↓zt, ↓zu, ↓zv, ↓zw, ↓zx, ↓zy, ↓zz, ↓zba, ↓zbb, ↓zbc, ↓zbd, ↓zbe, ↓zbf, ↓zbg, ↓zbh, ↓zbi, ↓zbj, ↓zbk, ↓zbl, ↓zbm, ↓zbn, ↓zbo, ↓zbp, ↓zbq, ↓zbr, ↓zbs, ↓zbt, ↓zbu, ↓zbv, ↓zbw, ↓zbx, ↓zby, ↓zbz, ↓zca, ↓zcb, ↓zcc, ↓zcd, ↓zce, ↓zcf, ↓zcg, ↓zch, ↓zci, ↓zcj, ↓zck, ↓zcl, ↓zcm, ↓zcn, ↓zco, ↓zcp, ↓zcq, ↓zcr, ↓zcs, ↓zct, ↓zcu, ↓zcv, ↓zcw, ↓mt, zcx, kwl, ziw, zcy, zcz, zda, zdb, zdc, zix, ziy, ziz, zja, zdd, zde, zdf, zdg, zdh, zdi, zdj, zdk, zdl, zdm, zdn, zdo, zdp, zdq, zjb, Int.reduceEq, Int.reduceNe, zjc, zjd, Nat.reduceEqDiff, Int.reduceLT, Int.reduceLE, Int.reduceNeg, Int.reduceToNat, zje, kdC, zdr, zjf, zjg, nk1, nk2, nk3, nk4, nk5, zjh, zds, zdt, zdu, zdv, ic1, ic2, ic3, ic4, ic5, ic6, zdw, String.reduceBEq, p60, p50, AH.set_self, AH.set_ne, Kx.more, Kx.comp, zji, zjj, zjk, ↓zdx, ↓zdy, ↓zdz, ↓zea, ↓zeb, ↓zec, ↓zed, ↓zee, ↓zef, ↓zeg, ↓zeh, ↓zei, ↓zej, ↓zek, ↓zel, ↓zem, ↓zen, ↓zeo, ↓zep, ↓zeq, ↓zer, ↓zes, ↓zet, ↓zeu, ↓zev, ↓zew, ↓zex, ↓zey, ↓zez, ↓zfa, ↓zfb, ↓zfc, ↓zfd, ↓zfe, ↓zff, ↓zfg, ↓zfh, ↓zfi, ↓zfj, ↓zfk, ↓zfl, ↓zfm, ↓zfn, ↓zfo, ↓zfp, ↓zfq, ↓zfr, ↓zfs, ↓mtE, ↓zft, ↓zfu, ↓zfv, ↓zfw, ↓zfx, ↓zfy, ↓zfz, ↓zga, ↓zgb, ↓zgc, ↓zgd, ↓zge, ↓zgf, ↓zgg, zgh, zgi, zgj, zgk, zgl, zgm, zgn, zgo, zgp, zgq, zgr, zgs, zgt, zgu, zgv, zgw, zgx, zgy, zgz, zha, zhb, zhc, zhd, zhe, zhf, zhg, zhh, zhi, zhj, zhk, zhl, zhm, zhn, zho, zhp, zhq, zhr, zhs, zht, zhu, zhv, zhw, ↓zhx, ↓zhy, ↓zhz, ↓zia, ↓zib, zic, zid, zie, zif, zig, zih, ↓zii, ↓zij, ↓zik, ↓zil, ↓zim, ↓zin, ↓zio, ↓ziq, ↓zir, pk0, pk1, pk2, pk3, pk4, pk5, pk6, zjl, zjm, zjn, zjo, zjp, zjq, zjr, zjs, zjt, zju, zjv, zjw, zjx, zjy, zjz, zka, zkb, zkc, zkd, zke, zkf, zkg, zkh, zki, zkj, reduceCtorEq, zkk, zkl, zkm, zkn, zko, String.reduceEq, Nat.reduceAdd, Nat.reduceLeDiff, Nat.reduceLT, zkp, zkq, zkr, zks, ↓zis, zit, ↓ziu, ziv, *])
    refine made_of fun H₁₄ c1 e14 n14 _ hc1 => ?_
    replace hl := e14 _ _ hl
    replace hrd := e14 _ _ hrd
    replace hsp := e14 _ _ hsp
    clear e14 n14
    refine ⟨sp, c1, own, st, es, rfl, hsp, hc1, ft, Nat.le_trans hes (by decide), ?_⟩
    intro H₁₅ f1 e15 n15 _ hf1
    replace hl := e15 _ _ hl
    replace hrd := e15 _ _ hrd
    replace hsp := e15 _ _ hsp
    clear e15 n15 hc1
    have ndf := fwd_nodup (own := own) ft
    have hcl : st.comes.length ≤ 2 := by cases st <;> simp [Stp.comes]
    have hfl : (fwd st es own).length ≤ 13 := by
      rw [← keys_length, keys_fwd ft, List.length_append]
      exact Nat.le_trans (Nat.add_le_add (Nat.le_trans (List.length_filter_le ..) (by rw [keys_length]; exact hes)) hcl) (by decide)
    have hcf : ∀ x ∈ st.comes, x ∈ keys (fwd st es own) := fun x hx => by rw [keys_fwd ft]; exact List.mem_append_right _ hx
    have hcf := Box.mk hcf
    refine seqsL_env [("_law_script", .ref l), ("_law_elder", .ref rd), ("_law_step_here", .ref sp), ("_law_first", .ref f1)] ⟨?_, ?_, ?_, ?_, True.intro⟩ ?_
    · (simp (maxSteps := 1000000) (implicitDefEqProofs := false) only [↓zb, ↓reduceIte, zc, ↓zd, ↓ze, ↓zg, ↓zh, ↓zi, ↓zj, ↓zk, ↓zl, ↓zn, ↓zo, ↓zp, ↓zq, ↓zr, ↓zt, ↓zu, ↓zv, ↓zw, ↓zx, ↓zy, ↓zz, ↓zba, ↓zbb, ↓zbc, ↓zbd, ↓zbe, ↓zbf, ↓zbg, ↓zbh, ↓zbi, ↓zbj, ↓zbk, ↓zbl, ↓zbm, ↓zbn, ↓zbo, ↓zbp, ↓zbq, ↓zbr, ↓zbs, ↓zbt, ↓zbu, ↓zbv, ↓zbw, ↓zbx, ↓zby, ↓zbz, ↓zca, ↓zcb, ↓zcc, ↓zcd, ↓zce, ↓zcf, ↓zcg, ↓zch, ↓zci, ↓zcj, ↓zck, ↓zcl, ↓zcm, ↓zcn, ↓zco, ↓zcp, ↓zcq, ↓zcr, ↓zcs, ↓zct, ↓zcu, ↓zcv, ↓zcw, ↓mt, zcx, kwl, ziw, zcy, zcz, zda, zdb, zdc, zix, ziy, ziz, zja, zdd, zde, zdf, zdg, zdh, zdi, zdj, zdk, zdl, zdm, zdn, zdo, zdp, zdq, zjb, Int.reduceEq, Int.reduceNe, zjc, zjd, Nat.reduceEqDiff, Int.reduceLT, Int.reduceLE, Int.reduceNeg, Int.reduceToNat, zje, kdC, zdr, zjf, zjg, nk1, nk2, nk3, nk4, nk5, zjh, zds, zdt, zdu, zdv, ic1, ic2, ic3, ic4, ic5, ic6, zdw, String.reduceBEq, p60, p50, AH.set_self, AH.set_ne, Kx.more, Kx.comp, zji, zjj, zjk, ↓zdx, ↓zdy, ↓zdz, ↓zea, ↓zeb, ↓zec, ↓zed, ↓zee, ↓zef, ↓zeg, ↓zeh, ↓zei, ↓zej, ↓zek, ↓zel, ↓zem, ↓zen, ↓zeo, ↓zep, ↓zeq, ↓zer, ↓zes, ↓zet, ↓zeu, ↓zev, ↓zew, ↓zex, ↓zey, ↓zez, ↓zfa, ↓zfb, ↓zfc, ↓zfd, ↓zfe, ↓zff, ↓zfg, ↓zfh, ↓zfi, ↓zfj, ↓zfk, ↓zfl, ↓zfm, ↓zfn, ↓zfo, ↓zfp, ↓zfq, ↓zfr, ↓zfs, ↓mtE, ↓zft, ↓zfu, ↓zfv, ↓zfw, ↓zfx, ↓zfy, ↓zfz, ↓zga, ↓zgb, ↓zgc, ↓zgd, ↓zge, ↓zgf, ↓zgg, zgh, zgi, zgj, zgk, zgl, zgm, zgn, zgo, zgp, zgq, zgr, zgs, zgt, zgu, zgv, zgw, zgx, zgy, zgz, zha, zhb, zhc, zhd, zhe, zhf, zhg, zhh, zhi, zhj, zhk, zhl, zhm, zhn, zho, zhp, zhq, zhr, zhs, zht, zhu, zhv, zhw, ↓zhx, ↓zhy, ↓zhz, ↓zia, ↓zib, zic, zid, zie, zif, zig, zih, ↓zii, ↓zij, ↓zik, ↓zil, ↓zim, ↓zin, ↓zio, ↓ziq, ↓zir, pk0, pk1, pk2, pk3, pk4, pk5, pk6, zjl, zjm, zjn, zjo, zjp, zjq, zjr, zjs, zjt, zju, zjv, zjw, zjx, zjy, zjz, zka, zkb, zkc, zkd, zke, zkf, zkg, zkh, zki, zkj, reduceCtorEq, zkk, zkl, zkm, zkn, zko, String.reduceEq, Nat.reduceAdd, Nat.reduceLeDiff, Nat.reduceLT, zkp, zkq, zkr, zks, ↓zis, zit, ↓ziu, ziv, *])
    · (simp (maxSteps := 1000000) (implicitDefEqProofs := false) only [↓zb, ↓reduceIte, zc, ↓zd, ↓ze, ↓zg, ↓zh, ↓zi, ↓zj, ↓zk, ↓zl, ↓zn, ↓zo, ↓zp, ↓zq, ↓zr, ↓zt, ↓zu, ↓zv, ↓zw, ↓zx, ↓zy, ↓zz, ↓zba, ↓zbb, ↓zbc, ↓zbd, ↓zbe, ↓zbf, ↓zbg, ↓zbh, ↓zbi, ↓zbj, ↓zbk, ↓zbl, ↓zbm, ↓zbn, ↓zbo, ↓zbp, ↓zbq, ↓zbr, ↓zbs, ↓zbt, ↓zbu, ↓zbv, ↓zbw, ↓zbx, ↓zby, ↓zbz, ↓zca, ↓zcb, ↓zcc, ↓zcd, ↓zce, ↓zcf, ↓zcg, ↓zch, ↓zci, ↓zcj, ↓zck, ↓zcl, ↓zcm, ↓zcn, ↓zco, ↓zcp, ↓zcq, ↓zcr, ↓zcs, ↓zct, ↓zcu, ↓zcv, ↓zcw, ↓mt, zcx, kwl, ziw, zcy, zcz, zda, zdb, zdc, zix, ziy, ziz, zja, zdd, zde, zdf, zdg, zdh, zdi, zdj, zdk, zdl, zdm, zdn, zdo, zdp, zdq, zjb, Int.reduceEq, Int.reduceNe, zjc, zjd, Nat.reduceEqDiff, Int.reduceLT, Int.reduceLE, Int.reduceNeg, Int.reduceToNat, zje, kdC, zdr, zjf, zjg, nk1, nk2, nk3, nk4, nk5, zjh, zds, zdt, zdu, zdv, ic1, ic2, ic3, ic4, ic5, ic6, zdw, String.reduceBEq, p60, p50, AH.set_self, AH.set_ne, Kx.more, Kx.comp, zji, zjj, zjk, ↓zdx, ↓zdy, ↓zdz, ↓zea, ↓zeb, ↓zec, ↓zed, ↓zee, ↓zef, ↓zeg, ↓zeh, ↓zei, ↓zej, ↓zek, ↓zel, ↓zem, ↓zen, ↓zeo, ↓zep, ↓zeq, ↓zer, ↓zes, ↓zet, ↓zeu, ↓zev, ↓zew, ↓zex, ↓zey, ↓zez, ↓zfa, ↓zfb, ↓zfc, ↓zfd, ↓zfe, ↓zff, ↓zfg, ↓zfh, ↓zfi, ↓zfj, ↓zfk, ↓zfl, ↓zfm, ↓zfn, ↓zfo, ↓zfp, ↓zfq, ↓zfr, ↓zfs, ↓mtE, ↓zft, ↓zfu, ↓zfv, ↓zfw, ↓zfx, ↓zfy, ↓zfz, ↓zga, ↓zgb, ↓zgc, ↓zgd, ↓zge, ↓zgf, ↓zgg, zgh, zgi, zgj, zgk, zgl, zgm, zgn, zgo, zgp, zgq, zgr, zgs, zgt, zgu, zgv, zgw, zgx, zgy, zgz, zha, zhb, zhc, zhd, zhe, zhf, zhg, zhh, zhi, zhj, zhk, zhl, zhm, zhn, zho, zhp, zhq, zhr, zhs, zht, zhu, zhv, zhw, ↓zhx, ↓zhy, ↓zhz, ↓zia, ↓zib, zic, zid, zie, zif, zig, zih, ↓zii, ↓zij, ↓zik, ↓zil, ↓zim, ↓zin, ↓zio, ↓ziq, ↓zir, pk0, pk1, pk2, pk3, pk4, pk5, pk6, zjl, zjm, zjn, zjo, zjp, zjq, zjr, zjs, zjt, zju, zjv, zjw, zjx, zjy, zjz, zka, zkb, zkc, zkd, zke, zkf, zkg, zkh, zki, zkj, reduceCtorEq, zkk, zkl, zkm, zkn, zko, String.reduceEq, Nat.reduceAdd, Nat.reduceLeDiff, Nat.reduceLT, zkp, zkq, zkr, zks, ↓zis, zit, ↓ziu, ziv, *])
    · (simp (maxSteps := 1000000) (implicitDefEqProofs := false) only [↓zb, ↓reduceIte, zc, ↓zd, ↓ze, ↓zg, ↓zh, ↓zi, ↓zj, ↓zk, ↓zl, ↓zn, ↓zo, ↓zp, ↓zq, ↓zr, ↓zt, ↓zu, ↓zv, ↓zw, ↓zx, ↓zy, ↓zz, ↓zba, ↓zbb, ↓zbc, ↓zbd, ↓zbe, ↓zbf, ↓zbg, ↓zbh, ↓zbi, ↓zbj, ↓zbk, ↓zbl, ↓zbm, ↓zbn, ↓zbo, ↓zbp, ↓zbq, ↓zbr, ↓zbs, ↓zbt, ↓zbu, ↓zbv, ↓zbw, ↓zbx, ↓zby, ↓zbz, ↓zca, ↓zcb, ↓zcc, ↓zcd, ↓zce, ↓zcf, ↓zcg, ↓zch, ↓zci, ↓zcj, ↓zck, ↓zcl, ↓zcm, ↓zcn, ↓zco, ↓zcp, ↓zcq, ↓zcr, ↓zcs, ↓zct, ↓zcu, ↓zcv, ↓zcw, ↓mt, zcx, kwl, ziw, zcy, zcz, zda, zdb, zdc, zix, ziy, ziz, zja, zdd, zde, zdf, zdg, zdh, zdi, zdj, zdk, zdl, zdm, zdn, zdo, zdp, zdq, zjb, Int.reduceEq, Int.reduceNe, zjc, zjd, Nat.reduceEqDiff, Int.reduceLT, Int.reduceLE, Int.reduceNeg, Int.reduceToNat, zje, kdC, zdr, zjf, zjg, nk1, nk2, nk3, nk4, nk5, zjh, zds, zdt, zdu, zdv, ic1, ic2, ic3, ic4, ic5, ic6, zdw, String.reduceBEq, p60, p50, AH.set_self, AH.set_ne, Kx.more, Kx.comp, zji, zjj, zjk, ↓zdx, ↓zdy, ↓zdz, ↓zea, ↓zeb, ↓zec, ↓zed, ↓zee, ↓zef, ↓zeg, ↓zeh, ↓zei, ↓zej, ↓zek, ↓zel, ↓zem, ↓zen, ↓zeo, ↓zep, ↓zeq, ↓zer, ↓zes, ↓zet, ↓zeu, ↓zev, ↓zew, ↓zex, ↓zey, ↓zez, ↓zfa, ↓zfb, ↓zfc, ↓zfd, ↓zfe, ↓zff, ↓zfg, ↓zfh, ↓zfi, ↓zfj, ↓zfk, ↓zfl, ↓zfm, ↓zfn, ↓zfo, ↓zfp, ↓zfq, ↓zfr, ↓zfs, ↓mtE, ↓zft, ↓zfu, ↓zfv, ↓zfw, ↓zfx, ↓zfy, ↓zfz, ↓zga, ↓zgb, ↓zgc, ↓zgd, ↓zge, ↓zgf, ↓zgg, zgh, zgi, zgj, zgk, zgl, zgm, zgn, zgo, zgp, zgq, zgr, zgs, zgt, zgu, zgv, zgw, zgx, zgy, zgz, zha, zhb, zhc, zhd, zhe, zhf, zhg, zhh, zhi, zhj, zhk, zhl, zhm, zhn, zho, zhp, zhq, zhr, zhs, zht, zhu, zhv, zhw, ↓zhx, ↓zhy, ↓zhz, ↓zia, ↓zib, zic, zid, zie, zif, zig, zih, ↓zii, ↓zij, ↓zik, ↓zil, ↓zim, ↓zin, ↓zio, ↓ziq, ↓zir, pk0, pk1, pk2, pk3, pk4, pk5, pk6, zjl, zjm, zjn, zjo, zjp, zjq, zjr, zjs, zjt, zju, zjv, zjw, zjx, zjy, zjz, zka, zkb, zkc, zkd, zke, zkf, zkg, zkh, zki, zkj, reduceCtorEq, zkk, zkl, zkm, zkn, zko, String.reduceEq, Nat.reduceAdd, Nat.reduceLeDiff, Nat.reduceLT, zkp, zkq, zkr, zks, ↓zis, zit, ↓ziu, ziv, *])
    · (simp (maxSteps := 1000000) (implicitDefEqProofs := false) only [↓zb, ↓reduceIte, zc, ↓zd, ↓ze, ↓zg, ↓zh, ↓zi, ↓zj, ↓zk, ↓zl, ↓zn, ↓zo, ↓zp, ↓zq, ↓zr, ↓zt, ↓zu, ↓zv, ↓zw, ↓zx, ↓zy, ↓zz, ↓zba, ↓zbb, ↓zbc, ↓zbd, ↓zbe, ↓zbf, ↓zbg, ↓zbh, ↓zbi, ↓zbj, ↓zbk, ↓zbl, ↓zbm, ↓zbn, ↓zbo, ↓zbp, ↓zbq, ↓zbr, ↓zbs, ↓zbt, ↓zbu, ↓zbv, ↓zbw, ↓zbx, ↓zby, ↓zbz, ↓zca, ↓zcb, ↓zcc, ↓zcd, ↓zce, ↓zcf, ↓zcg, ↓zch, ↓zci, ↓zcj, ↓zck, ↓zcl, ↓zcm, ↓zcn, ↓zco, ↓zcp, ↓zcq, ↓zcr, ↓zcs, ↓zct, ↓zcu, ↓zcv, ↓zcw, ↓mt, zcx, kwl, ziw, zcy, zcz, zda, zdb, zdc, zix, ziy, ziz, zja, zdd, zde, zdf, zdg, zdh, zdi, zdj, zdk, zdl, zdm, zdn, zdo, zdp, zdq, zjb, Int.reduceEq, Int.reduceNe, zjc, zjd, Nat.reduceEqDiff, Int.reduceLT, Int.reduceLE, Int.reduceNeg, Int.reduceToNat, zje, kdC, zdr, zjf, zjg, nk1, nk2, nk3, nk4, nk5, zjh, zds, zdt, zdu, zdv, ic1, ic2, ic3, ic4, ic5, ic6, zdw, String.reduceBEq, p60, p50, AH.set_self, AH.set_ne, Kx.more, Kx.comp, zji, zjj, zjk, ↓zdx, ↓zdy, ↓zdz, ↓zea, ↓zeb, ↓zec, ↓zed, ↓zee, ↓zef, ↓zeg, ↓zeh, ↓zei, ↓zej, ↓zek, ↓zel, ↓zem, ↓zen, ↓zeo, ↓zep, ↓zeq, ↓zer, ↓zes, ↓zet, ↓zeu, ↓zev, ↓zew, ↓zex, ↓zey, ↓zez, ↓zfa, ↓zfb, ↓zfc, ↓zfd, ↓zfe, ↓zff, ↓zfg, ↓zfh, ↓zfi, ↓zfj, ↓zfk, ↓zfl, ↓zfm, ↓zfn, ↓zfo, ↓zfp, ↓zfq, ↓zfr, ↓zfs, ↓mtE, ↓zft, ↓zfu, ↓zfv, ↓zfw, ↓zfx, ↓zfy, ↓zfz, ↓zga, ↓zgb, ↓zgc, ↓zgd, ↓zge, ↓zgf, ↓zgg, zgh, zgi, zgj, zgk, zgl, zgm, zgn, zgo, zgp, zgq, zgr, zgs, zgt, zgu, zgv, zgw, zgx, zgy, zgz, zha, zhb, zhc, zhd, zhe, zhf, zhg, zhh, zhi, zhj, zhk, zhl, zhm, zhn, zho, zhp, zhq, zhr, zhs, zht, zhu, zhv, zhw, ↓zhx, ↓zhy, ↓zhz, ↓zia, ↓zib, zic, zid, zie, zif, zig, zih, ↓zii, ↓zij, ↓zik, ↓zil, ↓zim, ↓zin, ↓zio, ↓ziq, ↓zir, pk0, pk1, pk2, pk3, pk4, pk5, pk6, zjl, zjm, zjn, zjo, zjp, zjq, zjr, zjs, zjt, zju, zjv, zjw, zjx, zjy, zjz, zka, zkb, zkc, zkd, zke, zkf, zkg, zkh, zki, zkj, reduceCtorEq, zkk, zkl, zkm, zkn, zko, String.reduceEq, Nat.reduceAdd, Nat.reduceLeDiff, Nat.reduceLT, zkp, zkq, zkr, zks, ↓zis, zit, ↓ziu, ziv, *])
    intro ρ₃ hρ
    simp only [tabAll, and_true] at hρ
    clear s1 s2 s3 s4 s5 s6 s7
    refine seqsL_cons ?_
    (simp (maxSteps := 1000000) (implicitDefEqProofs := false) only [↓zb, ↓reduceIte, zc, ↓zd, ↓ze, ↓zg, ↓zh, ↓zi, ↓zj, ↓zk, ↓zl, ↓zn, ↓zo, ↓zp, ↓zq, ↓zr, ↓zt, ↓zu, ↓zv, ↓zw, ↓zx, ↓zy, ↓zz, ↓zba, ↓zbb, ↓zbc, ↓zbd, ↓zbe, ↓zbf, ↓zbg, ↓zbh, ↓zbi, ↓zbj, ↓zbk, ↓zbl, ↓zbm, ↓zbn, ↓zbo, ↓zbp, ↓zbq, ↓zbr, ↓zbs, ↓zbt, ↓zbu, ↓zbv, ↓zbw, ↓zbx, ↓zby, ↓zbz, ↓zca, ↓zcb, ↓zcc, ↓zcd, ↓zce, ↓zcf, ↓zcg, ↓zch, ↓zci, ↓zcj, ↓zck, ↓zcl, ↓zcm, ↓zcn, ↓zco, ↓zcp, ↓zcq, ↓zcr, ↓zcs, ↓zct, ↓zcu, ↓zcv, ↓zcw, ↓mt, zcx, kwl, ziw, zcy, zcz, zda, zdb, zdc, zix, ziy, ziz, zja, zdd, zde, zdf, zdg, zdh, zdi, zdj, zdk, zdl, zdm, zdn, zdo, zdp, zdq, zjb, Int.reduceEq, Int.reduceNe, zjc, zjd, Nat.reduceEqDiff, Int.reduceLT, Int.reduceLE, Int.reduceNeg, Int.reduceToNat, zje, kdC, zdr, zjf, zjg, nk1, nk2, nk3, nk4, nk5, zjh, zds, zdt, zdu, zdv, ic1, ic2, ic3, ic4, ic5, ic6, zdw, String.reduceBEq, p60, p50, AH.set_self, AH.set_ne, Kx.more, Kx.comp, zji, zjj, zjk, ↓zdx, ↓zdy, ↓zdz, ↓zea, ↓zeb, ↓zec, ↓zed, ↓zee, ↓zef, ↓zeg, ↓zeh, ↓zei, ↓zej, ↓zek, ↓zel, ↓zem, ↓zen, ↓zeo, ↓zep, ↓zeq, ↓zer, ↓zes, ↓zet, ↓zeu, ↓zev, ↓zew, ↓zex, ↓zey, ↓zez, ↓zfa, ↓zfb, ↓zfc, ↓zfd, ↓zfe, ↓zff, ↓zfg, ↓zfh, ↓zfi, ↓zfj, ↓zfk, ↓zfl, ↓zfm, ↓zfn, ↓zfo, ↓zfp, ↓zfq, ↓zfr, ↓zfs, ↓mtE, ↓zft, ↓zfu, ↓zfv, ↓zfw, ↓zfx, ↓zfy, ↓zfz, ↓zga, ↓zgb, ↓zgc, ↓zgd, ↓zge, ↓zgf, ↓zgg, zgh, zgi, zgj, zgk, zgl, zgm, zgn, zgo, zgp, zgq, zgr, zgs, zgt, zgu, zgv, zgw, zgx, zgy, zgz, zha, zhb, zhc, zhd, zhe, zhf, zhg, zhh, zhi, zhj, zhk, zhl, zhm, zhn, zho, zhp, zhq, zhr, zhs, zht, zhu, zhv, zhw, ↓zhx, ↓zhy, ↓zhz, ↓zia, ↓zib, zic, zid, zie, zif, zig, zih, ↓zii, ↓zij, ↓zik, ↓zil, ↓zim, ↓zin, ↓zio, ↓ziq, ↓zir, pk0, pk1, pk2, pk3, pk4, pk5, pk6, zjl, zjm, zjn, zjo, zjp, zjq, zjr, zjs, zjt, zju, zjv, zjw, zjx, zjy, zjz, zka, zkb, zkc, zkd, zke, zkf, zkg, zkh, zki, zkj, reduceCtorEq, zkk, zkl, zkm, zkn, zko, String.reduceEq, Nat.reduceAdd, Nat.reduceLeDiff, Nat.reduceLT, zkp, zkq, zkr, zks, ↓zis, zit, ↓ziu, ziv, *])
    -- one and the other
    refine seqsL_cons ?_
    (simp (maxSteps := 1000000) (implicitDefEqProofs := false) only [↓zb, ↓reduceIte, zc, ↓zd, ↓ze, ↓zg, ↓zh, ↓zi, ↓zj, ↓zk, ↓zl, ↓zn, ↓zo, ↓zp, ↓zq, ↓zr, ↓zt, ↓zu, ↓zv, ↓zw, ↓zx, ↓zy, ↓zz, ↓zba, ↓zbb, ↓zbc, ↓zbd, ↓zbe, ↓zbf, ↓zbg, ↓zbh, ↓zbi, ↓zbj, ↓zbk, ↓zbl, ↓zbm, ↓zbn, ↓zbo, ↓zbp, ↓zbq, ↓zbr, ↓zbs, ↓zbt, ↓zbu, ↓zbv, ↓zbw, ↓zbx, ↓zby, ↓zbz, ↓zca, ↓zcb, ↓zcc, ↓zcd, ↓zce, ↓zcf, ↓zcg, ↓zch, ↓zci, ↓zcj, ↓zck, ↓zcl, ↓zcm, ↓zcn, ↓zco, ↓zcp, ↓zcq, ↓zcr, ↓zcs, ↓zct, ↓zcu, ↓zcv, ↓zcw, ↓mt, zcx, kwl, ziw, zcy, zcz, zda, zdb, zdc, zix, ziy, ziz, zja, zdd, zde, zdf, zdg, zdh, zdi, zdj, zdk, zdl, zdm, zdn, zdo, zdp, zdq, zjb, Int.reduceEq, Int.reduceNe, zjc, zjd, Nat.reduceEqDiff, Int.reduceLT, Int.reduceLE, Int.reduceNeg, Int.reduceToNat, zje, kdC, zdr, zjf, zjg, nk1, nk2, nk3, nk4, nk5, zjh, zds, zdt, zdu, zdv, ic1, ic2, ic3, ic4, ic5, ic6, zdw, String.reduceBEq, p60, p50, AH.set_self, AH.set_ne, Kx.more, Kx.comp, zji, zjj, zjk, ↓zdx, ↓zdy, ↓zdz, ↓zea, ↓zeb, ↓zec, ↓zed, ↓zee, ↓zef, ↓zeg, ↓zeh, ↓zei, ↓zej, ↓zek, ↓zel, ↓zem, ↓zen, ↓zeo, ↓zep, ↓zeq, ↓zer, ↓zes, ↓zet, ↓zeu, ↓zev, ↓zew, ↓zex, ↓zey, ↓zez, ↓zfa, ↓zfb, ↓zfc, ↓zfd, ↓zfe, ↓zff, ↓zfg, ↓zfh, ↓zfi, ↓zfj, ↓zfk, ↓zfl, ↓zfm, ↓zfn, ↓zfo, ↓zfp, ↓zfq, ↓zfr, ↓zfs, ↓mtE, ↓zft, ↓zfu, ↓zfv, ↓zfw, ↓zfx, ↓zfy, ↓zfz, ↓zga, ↓zgb, ↓zgc, ↓zgd, ↓zge, ↓zgf, ↓zgg, zgh, zgi, zgj, zgk, zgl, zgm, zgn, zgo, zgp, zgq, zgr, zgs, zgt, zgu, zgv, zgw, zgx, zgy, zgz, zha, zhb, zhc, zhd, zhe, zhf, zhg, zhh, zhi, zhj, zhk, zhl, zhm, zhn, zho, zhp, zhq, zhr, zhs, zht, zhu, zhv, zhw, ↓zhx, ↓zhy, ↓zhz, ↓zia, ↓zib, zic, zid, zie, zif, zig, zih, ↓zii, ↓zij, ↓zik, ↓zil, ↓zim, ↓zin, ↓zio, ↓ziq, ↓zir, pk0, pk1, pk2, pk3, pk4, pk5, pk6, zjl, zjm, zjn, zjo, zjp, zjq, zjr, zjs, zjt, zju, zjv, zjw, zjx, zjy, zjz, zka, zkb, zkc, zkd, zke, zkf, zkg, zkh, zki, zkj, reduceCtorEq, zkk, zkl, zkm, zkn, zko, String.reduceEq, Nat.reduceAdd, Nat.reduceLeDiff, Nat.reduceLT, zkp, zkq, zkr, zks, ↓zis, zit, ↓ziu, ziv, *])
    refine ⟨l, sp, f1, 20, scr, st, fwd st es own, rfl, hl, by decide, hsp, hf1, ndf, by omega, hcf.out, ft.size, ?_⟩
    intro H₁₆ o1 one e16 n16 _ ho1 pm1 low1
    replace hl := e16 _ _ hl
    replace hrd := e16 _ _ hrd
    replace hsp := e16 _ _ hsp
    replace hf1 := e16 _ _ hf1
    clear e16 n16
    refine seqsL_cons ?_
    (simp (maxSteps := 1000000) (implicitDefEqProofs := false) only [↓zb, ↓reduceIte, zc, ↓zd, ↓ze, ↓zg, ↓zh, ↓zi, ↓zj, ↓zk, ↓zl, ↓zn, ↓zo, ↓zp, ↓zq, ↓zr, ↓zt, ↓zu, ↓zv, ↓zw, ↓zx, ↓zy, ↓zz, ↓zba, ↓zbb, ↓zbc, ↓zbd, ↓zbe, ↓zbf, ↓zbg, ↓zbh, ↓zbi, ↓zbj, ↓zbk, ↓zbl, ↓zbm, ↓zbn, ↓zbo, ↓zbp, ↓zbq, ↓zbr, ↓zbs, ↓zbt, ↓zbu, ↓zbv, ↓zbw, ↓zbx, ↓zby, ↓zbz, ↓zca, ↓zcb, ↓zcc, ↓zcd, ↓zce, ↓zcf, ↓zcg, ↓zch, ↓zci, ↓zcj, ↓zck, ↓zcl, ↓zcm, ↓zcn, ↓zco, ↓zcp, ↓zcq, ↓zcr, ↓zcs, ↓zct, ↓zcu, ↓zcv, ↓zcw, ↓mt, zcx, kwl, ziw, zcy, zcz, zda, zdb, zdc, zix, ziy, ziz, zja, zdd, zde, zdf, zdg, zdh, zdi, zdj, zdk, zdl, zdm, zdn, zdo, zdp, zdq, zjb, Int.reduceEq, Int.reduceNe, zjc, zjd, Nat.reduceEqDiff, Int.reduceLT, Int.reduceLE, Int.reduceNeg, Int.reduceToNat, zje, kdC, zdr, zjf, zjg, nk1, nk2, nk3, nk4, nk5, zjh, zds, zdt, zdu, zdv, ic1, ic2, ic3, ic4, ic5, ic6, zdw, String.reduceBEq, p60, p50, AH.set_self, AH.set_ne, Kx.more, Kx.comp, zji, zjj, zjk, ↓zdx, ↓zdy, ↓zdz, ↓zea, ↓zeb, ↓zec, ↓zed, ↓zee, ↓zef, ↓zeg, ↓zeh, ↓zei, ↓zej, ↓zek, ↓zel, ↓zem, ↓zen, ↓zeo, ↓zep, ↓zeq, ↓zer, ↓zes, ↓zet, ↓zeu, ↓zev, ↓zew, ↓zex, ↓zey, ↓zez, ↓zfa, ↓zfb, ↓zfc, ↓zfd, ↓zfe, ↓zff, ↓zfg, ↓zfh, ↓zfi, ↓zfj, ↓zfk, ↓zfl, ↓zfm, ↓zfn, ↓zfo, ↓zfp, ↓zfq, ↓zfr, ↓zfs, ↓mtE, ↓zft, ↓zfu, ↓zfv, ↓zfw, ↓zfx, ↓zfy, ↓zfz, ↓zga, ↓zgb, ↓zgc, ↓zgd, ↓zge, ↓zgf, ↓zgg, zgh, zgi, zgj, zgk, zgl, zgm, zgn, zgo, zgp, zgq, zgr, zgs, zgt, zgu, zgv, zgw, zgx, zgy, zgz, zha, zhb, zhc, zhd, zhe, zhf, zhg, zhh, zhi, zhj, zhk, zhl, zhm, zhn, zho, zhp, zhq, zhr, zhs, zht, zhu, zhv, zhw, ↓zhx, ↓zhy, ↓zhz, ↓zia, ↓zib, zic, zid, zie, zif, zig, zih, ↓zii, ↓zij, ↓zik, ↓zil, ↓zim, ↓zin, ↓zio, ↓ziq, ↓zir, pk0, pk1, pk2, pk3, pk4, pk5, pk6, zjl, zjm, zjn, zjo, zjp, zjq, zjr, zjs, zjt, zju, zjv, zjw, zjx, zjy, zjz, zka, zkb, zkc, zkd, zke, zkf, zkg, zkh, zki, zkj, reduceCtorEq, zkk, zkl, zkm, zkn, zko, String.reduceEq, Nat.reduceAdd, Nat.reduceLeDiff, Nat.reduceLT, zkp, zkq, zkr, zks, ↓zis, zit, ↓ziu, ziv, *])
    refine ⟨l, sp, f1, 37, scr, st, fwd st es own, rfl, hl, by decide, hsp, hf1, ndf, by omega, hcf.out, ft.size, ?_⟩
    intro H₁₇ o2 two e17 n17 _ ho2 pm2 low2
    replace hrd := e17 _ _ hrd
    replace hsp := e17 _ _ hsp
    replace hf1 := e17 _ _ hf1
    replace ho1 := e17 _ _ ho1
    clear e17 n17 hl
    have nd1 : (keys one).Nodup := pm1.nodup_iff.mpr ndf
    have nd2 : (keys two).Nodup := pm2.nodup_iff.mpr ndf
    have l1 : one.length ≤ 13 := by rw [← keys_length, pm1.length_eq, keys_length]; exact hfl
    have l2 : two.length ≤ 13 := by rw [← keys_length, pm2.length_eq, keys_length]; exact hfl
    have hc1 : ∀ x ∈ st.comes, x ∈ keys one := fun x hx => pm1.mem_iff.mpr (hcf.out x hx)
    have hc2 : ∀ x ∈ st.comes, x ∈ keys two := fun x hx => pm2.mem_iff.mpr (hcf.out x hx)
    replace hc1 := Box.mk hc1
    replace hc2 := Box.mk hc2
    have z1 : (dI one).length ≤ sizeLine := by rw [dI_length]; exact Nat.le_trans l1 (by decide)
    have z2 : (dI two).length ≤ sizeLine := by rw [dI_length]; exact Nat.le_trans l2 (by decide)
    have zf : (dI (fwd st es own)).length ≤ sizeLine := by rw [dI_length]; exact Nat.le_trans hfl (by decide)
    have hge := Box.mk ft.goes
    have hsz := ft.size
    have gnd := ft.gnd
    clear pm1 pm2
    -- the middle
    refine seqsL_cons ?_
    (simp (maxSteps := 1000000) (implicitDefEqProofs := false) only [↓zb, ↓reduceIte, zc, ↓zd, ↓ze, ↓zg, ↓zh, ↓zi, ↓zj, ↓zk, ↓zl, ↓zn, ↓zo, ↓zp, ↓zq, ↓zr, ↓zt, ↓zu, ↓zv, ↓zw, ↓zx, ↓zy, ↓zz, ↓zba, ↓zbb, ↓zbc, ↓zbd, ↓zbe, ↓zbf, ↓zbg, ↓zbh, ↓zbi, ↓zbj, ↓zbk, ↓zbl, ↓zbm, ↓zbn, ↓zbo, ↓zbp, ↓zbq, ↓zbr, ↓zbs, ↓zbt, ↓zbu, ↓zbv, ↓zbw, ↓zbx, ↓zby, ↓zbz, ↓zca, ↓zcb, ↓zcc, ↓zcd, ↓zce, ↓zcf, ↓zcg, ↓zch, ↓zci, ↓zcj, ↓zck, ↓zcl, ↓zcm, ↓zcn, ↓zco, ↓zcp, ↓zcq, ↓zcr, ↓zcs, ↓zct, ↓zcu, ↓zcv, ↓zcw, ↓mt, zcx, kwl, ziw, zcy, zcz, zda, zdb, zdc, zix, ziy, ziz, zja, zdd, zde, zdf, zdg, zdh, zdi, zdj, zdk, zdl, zdm, zdn, zdo, zdp, zdq, zjb, Int.reduceEq, Int.reduceNe, zjc, zjd, Nat.reduceEqDiff, Int.reduceLT, Int.reduceLE, Int.reduceNeg, Int.reduceToNat, zje, kdC, zdr, zjf, zjg, nk1, nk2, nk3, nk4, nk5, zjh, zds, zdt, zdu, zdv, ic1, ic2, ic3, ic4, ic5, ic6, zdw, String.reduceBEq, p60, p50, AH.set_self, AH.set_ne, Kx.more, Kx.comp, zji, zjj, zjk, ↓zdx, ↓zdy, ↓zdz, ↓zea, ↓zeb, ↓zec, ↓zed, ↓zee, ↓zef, ↓zeg, ↓zeh, ↓zei, ↓zej, ↓zek, ↓zel, ↓zem, ↓zen, ↓zeo, ↓zep, ↓zeq, ↓zer, ↓zes, ↓zet, ↓zeu, ↓zev, ↓zew, ↓zex, ↓zey, ↓zez, ↓zfa, ↓zfb, ↓zfc, ↓zfd, ↓zfe, ↓zff, ↓zfg, ↓zfh, ↓zfi, ↓zfj, ↓zfk, ↓zfl, ↓zfm, ↓zfn, ↓zfo, ↓zfp, ↓zfq, ↓zfr, ↓zfs, ↓mtE, ↓zft, ↓zfu, ↓zfv, ↓zfw, ↓zfx, ↓zfy, ↓zfz, ↓zga, ↓zgb, ↓zgc, ↓zgd, ↓zge, ↓zgf, ↓zgg, zgh, zgi, zgj, zgk, zgl, zgm, zgn, zgo, zgp, zgq, zgr, zgs, zgt, zgu, zgv, zgw, zgx, zgy, zgz, zha, zhb, zhc, zhd, zhe, zhf, zhg, zhh, zhi, zhj, zhk, zhl, zhm, zhn, zho, zhp, zhq, zhr, zhs, zht, zhu, zhv, zhw, ↓zhx, ↓zhy, ↓zhz, ↓zia, ↓zib, zic, zid, zie, zif, zig, zih, ↓zii, ↓zij, ↓zik, ↓zil, ↓zim, ↓zin, ↓zio, ↓ziq, ↓zir, pk0, pk1, pk2, pk3, pk4, pk5, pk6, zjl, zjm, zjn, zjo, zjp, zjq, zjr, zjs, zjt, zju, zjv, zjw, zjx, zjy, zjz, zka, zkb, zkc, zkd, zke, zkf, zkg, zkh, zki, zkj, reduceCtorEq, zkk, zkl, zkm, zkn, zko, String.reduceEq, Nat.reduceAdd, Nat.reduceLeDiff, Nat.reduceLT, zkp, zkq, zkr, zks, ↓zis, zit, ↓ziu, ziv, *])
    refine made_of fun K1 d1 k1 _ _ g1 => ?_
    replace hrd := k1 _ _ hrd
    replace hsp := k1 _ _ hsp
    replace hf1 := k1 _ _ hf1
    replace ho2 := k1 _ _ ho2
    (simp (maxSteps := 1000000) (implicitDefEqProofs := false) only [↓zb, ↓reduceIte, zc, ↓zd, ↓ze, ↓zg, ↓zh, ↓zi, ↓zj, ↓zk, ↓zl, ↓zn, ↓zo, ↓zp, ↓zq, ↓zr, ↓zt, ↓zu, ↓zv, ↓zw, ↓zx, ↓zy, ↓zz, ↓zba, ↓zbb, ↓zbc, ↓zbd, ↓zbe, ↓zbf, ↓zbg, ↓zbh, ↓zbi, ↓zbj, ↓zbk, ↓zbl, ↓zbm, ↓zbn, ↓zbo, ↓zbp, ↓zbq, ↓zbr, ↓zbs, ↓zbt, ↓zbu, ↓zbv, ↓zbw, ↓zbx, ↓zby, ↓zbz, ↓zca, ↓zcb, ↓zcc, ↓zcd, ↓zce, ↓zcf, ↓zcg, ↓zch, ↓zci, ↓zcj, ↓zck, ↓zcl, ↓zcm, ↓zcn, ↓zco, ↓zcp, ↓zcq, ↓zcr, ↓zcs, ↓zct, ↓zcu, ↓zcv, ↓zcw, ↓mt, zcx, kwl, ziw, zcy, zcz, zda, zdb, zdc, zix, ziy, ziz, zja, zdd, zde, zdf, zdg, zdh, zdi, zdj, zdk, zdl, zdm, zdn, zdo, zdp, zdq, zjb, Int.reduceEq, Int.reduceNe, zjc, zjd, Nat.reduceEqDiff, Int.reduceLT, Int.reduceLE, Int.reduceNeg, Int.reduceToNat, zje, kdC, zdr, zjf, zjg, nk1, nk2, nk3, nk4, nk5, zjh, zds, zdt, zdu, zdv, ic1, ic2, ic3, ic4, ic5, ic6, zdw, String.reduceBEq, p60, p50, AH.set_self, AH.set_ne, Kx.more, Kx.comp, zji, zjj, zjk, ↓zdx, ↓zdy, ↓zdz, ↓zea, ↓zeb, ↓zec, ↓zed, ↓zee, ↓zef, ↓zeg, ↓zeh, ↓zei, ↓zej, ↓zek, ↓zel, ↓zem, ↓zen, ↓zeo, ↓zep, ↓zeq, ↓zer, ↓zes, ↓zet, ↓zeu, ↓zev, ↓zew, ↓zex, ↓zey, ↓zez, ↓zfa, ↓zfb, ↓zfc, ↓zfd, ↓zfe, ↓zff, ↓zfg, ↓zfh, ↓zfi, ↓zfj, ↓zfk, ↓zfl, ↓zfm, ↓zfn, ↓zfo, ↓zfp, ↓zfq, ↓zfr, ↓zfs, ↓mtE, ↓zft, ↓zfu, ↓zfv, ↓zfw, ↓zfx, ↓zfy, ↓zfz, ↓zga, ↓zgb, ↓zgc, ↓zgd, ↓zge, ↓zgf, ↓zgg, zgh, zgi, zgj, zgk, zgl, zgm, zgn, zgo, zgp, zgq, zgr, zgs, zgt, zgu, zgv, zgw, zgx, zgy, zgz, zha, zhb, zhc, zhd, zhe, zhf, zhg, zhh, zhi, zhj, zhk, zhl, zhm, zhn, zho, zhp, zhq, zhr, zhs, zht, zhu, zhv, zhw, ↓zhx, ↓zhy, ↓zhz, ↓zia, ↓zib, zic, zid, zie, zif, zig, zih, ↓zii, ↓zij, ↓zik, ↓zil, ↓zim, ↓zin, ↓zio, ↓ziq, ↓zir, pk0, pk1, pk2, pk3, pk4, pk5, pk6, zjl, zjm, zjn, zjo, zjp, zjq, zjr, zjs, zjt, zju, zjv, zjw, zjx, zjy, zjz, zka, zkb, zkc, zkd, zke, zkf, zkg, zkh, zki, zkj, reduceCtorEq, zkk, zkl, zkm, zkn, zko, String.reduceEq, Nat.reduceAdd, Nat.reduceLeDiff, Nat.reduceLT, zkp, zkq, zkr, zks, ↓zis, zit, ↓ziu, ziv, *])
    refine made_of fun K2 d2 k2 _ _ g2 => ?_
    replace hrd := k2 _ _ hrd
    replace hsp := k2 _ _ hsp
    replace hf1 := k2 _ _ hf1
    replace ho2 := k2 _ _ ho2
    replace g1 := k2 _ _ g1
    refine ⟨sp, d1, d2, st, one, es, rfl, hsp, g1, g2, nd1, by omega, hc1.out, hge.out, hsz, low1, ?_⟩
    intro K3 mi k3 _ _ hmi
    replace hrd := k3 _ _ hrd
    replace hsp := k3 _ _ hsp
    replace hf1 := k3 _ _ hf1
    replace ho2 := k3 _ _ ho2
    clear k1 k2 k3 g1 g2 ho1
    -- alone
    refine seqsL_cons ?_
    (simp (maxSteps := 1000000) (implicitDefEqProofs := false) only [↓zb, ↓reduceIte, zc, ↓zd, ↓ze, ↓zg, ↓zh, ↓zi, ↓zj, ↓zk, ↓zl, ↓zn, ↓zo, ↓zp, ↓zq, ↓zr, ↓zt, ↓zu, ↓zv, ↓zw, ↓zx, ↓zy, ↓zz, ↓zba, ↓zbb, ↓zbc, ↓zbd, ↓zbe, ↓zbf, ↓zbg, ↓zbh, ↓zbi, ↓zbj, ↓zbk, ↓zbl, ↓zbm, ↓zbn, ↓zbo, ↓zbp, ↓zbq, ↓zbr, ↓zbs, ↓zbt, ↓zbu, ↓zbv, ↓zbw, ↓zbx, ↓zby, ↓zbz, ↓zca, ↓zcb, ↓zcc, ↓zcd, ↓zce, ↓zcf, ↓zcg, ↓zch, ↓zci, ↓zcj, ↓zck, ↓zcl, ↓zcm, ↓zcn, ↓zco, ↓zcp, ↓zcq, ↓zcr, ↓zcs, ↓zct, ↓zcu, ↓zcv, ↓zcw, ↓mt, zcx, kwl, ziw, zcy, zcz, zda, zdb, zdc, zix, ziy, ziz, zja, zdd, zde, zdf, zdg, zdh, zdi, zdj, zdk, zdl, zdm, zdn, zdo, zdp, zdq, zjb, Int.reduceEq, Int.reduceNe, zjc, zjd, Nat.reduceEqDiff, Int.reduceLT, Int.reduceLE, Int.reduceNeg, Int.reduceToNat, zje, kdC, zdr, zjf, zjg, nk1, nk2, nk3, nk4, nk5, zjh, zds, zdt, zdu, zdv, ic1, ic2, ic3, ic4, ic5, ic6, zdw, String.reduceBEq, p60, p50, AH.set_self, AH.set_ne, Kx.more, Kx.comp, zji, zjj, zjk, ↓zdx, ↓zdy, ↓zdz, ↓zea, ↓zeb, ↓zec, ↓zed, ↓zee, ↓zef, ↓zeg, ↓zeh, ↓zei, ↓zej, ↓zek, ↓zel, ↓zem, ↓zen, ↓zeo, ↓zep, ↓zeq, ↓zer, ↓zes, ↓zet, ↓zeu, ↓zev, ↓zew, ↓zex, ↓zey, ↓zez, ↓zfa, ↓zfb, ↓zfc, ↓zfd, ↓zfe, ↓zff, ↓zfg, ↓zfh, ↓zfi, ↓zfj, ↓zfk, ↓zfl, ↓zfm, ↓zfn, ↓zfo, ↓zfp, ↓zfq, ↓zfr, ↓zfs, ↓mtE, ↓zft, ↓zfu, ↓zfv, ↓zfw, ↓zfx, ↓zfy, ↓zfz, ↓zga, ↓zgb, ↓zgc, ↓zgd, ↓zge, ↓zgf, ↓zgg, zgh, zgi, zgj, zgk, zgl, zgm, zgn, zgo, zgp, zgq, zgr, zgs, zgt, zgu, zgv, zgw, zgx, zgy, zgz, zha, zhb, zhc, zhd, zhe, zhf, zhg, zhh, zhi, zhj, zhk, zhl, zhm, zhn, zho, zhp, zhq, zhr, zhs, zht, zhu, zhv, zhw, ↓zhx, ↓zhy, ↓zhz, ↓zia, ↓zib, zic, zid, zie, zif, zig, zih, ↓zii, ↓zij, ↓zik, ↓zil, ↓zim, ↓zin, ↓zio, ↓ziq, ↓zir, pk0, pk1, pk2, pk3, pk4, pk5, pk6, zjl, zjm, zjn, zjo, zjp, zjq, zjr, zjs, zjt, zju, zjv, zjw, zjx, zjy, zjz, zka, zkb, zkc, zkd, zke, zkf, zkg, zkh, zki, zkj, reduceCtorEq, zkk, zkl, zkm, zkn, zko, String.reduceEq, Nat.reduceAdd, Nat.reduceLeDiff, Nat.reduceLT, zkp, zkq, zkr, zks, ↓zis, zit, ↓ziu, ziv, *])
    refine made_of fun K4 d3 k4 _ _ g3 => ?_
    replace hrd := k4 _ _ hrd
    replace hsp := k4 _ _ hsp
    replace hf1 := k4 _ _ hf1
    replace ho2 := k4 _ _ ho2
    replace hmi := k4 _ _ hmi
    (simp (maxSteps := 1000000) (implicitDefEqProofs := false) only [↓zb, ↓reduceIte, zc, ↓zd, ↓ze, ↓zg, ↓zh, ↓zi, ↓zj, ↓zk, ↓zl, ↓zn, ↓zo, ↓zp, ↓zq, ↓zr, ↓zt, ↓zu, ↓zv, ↓zw, ↓zx, ↓zy, ↓zz, ↓zba, ↓zbb, ↓zbc, ↓zbd, ↓zbe, ↓zbf, ↓zbg, ↓zbh, ↓zbi, ↓zbj, ↓zbk, ↓zbl, ↓zbm, ↓zbn, ↓zbo, ↓zbp, ↓zbq, ↓zbr, ↓zbs, ↓zbt, ↓zbu, ↓zbv, ↓zbw, ↓zbx, ↓zby, ↓zbz, ↓zca, ↓zcb, ↓zcc, ↓zcd, ↓zce, ↓zcf, ↓zcg, ↓zch, ↓zci, ↓zcj, ↓zck, ↓zcl, ↓zcm, ↓zcn, ↓zco, ↓zcp, ↓zcq, ↓zcr, ↓zcs, ↓zct, ↓zcu, ↓zcv, ↓zcw, ↓mt, zcx, kwl, ziw, zcy, zcz, zda, zdb, zdc, zix, ziy, ziz, zja, zdd, zde, zdf, zdg, zdh, zdi, zdj, zdk, zdl, zdm, zdn, zdo, zdp, zdq, zjb, Int.reduceEq, Int.reduceNe, zjc, zjd, Nat.reduceEqDiff, Int.reduceLT, Int.reduceLE, Int.reduceNeg, Int.reduceToNat, zje, kdC, zdr, zjf, zjg, nk1, nk2, nk3, nk4, nk5, zjh, zds, zdt, zdu, zdv, ic1, ic2, ic3, ic4, ic5, ic6, zdw, String.reduceBEq, p60, p50, AH.set_self, AH.set_ne, Kx.more, Kx.comp, zji, zjj, zjk, ↓zdx, ↓zdy, ↓zdz, ↓zea, ↓zeb, ↓zec, ↓zed, ↓zee, ↓zef, ↓zeg, ↓zeh, ↓zei, ↓zej, ↓zek, ↓zel, ↓zem, ↓zen, ↓zeo, ↓zep, ↓zeq, ↓zer, ↓zes, ↓zet, ↓zeu, ↓zev, ↓zew, ↓zex, ↓zey, ↓zez, ↓zfa, ↓zfb, ↓zfc, ↓zfd, ↓zfe, ↓zff, ↓zfg, ↓zfh, ↓zfi, ↓zfj, ↓zfk, ↓zfl, ↓zfm, ↓zfn, ↓zfo, ↓zfp, ↓zfq, ↓zfr, ↓zfs, ↓mtE, ↓zft, ↓zfu, ↓zfv, ↓zfw, ↓zfx, ↓zfy, ↓zfz, ↓zga, ↓zgb, ↓zgc, ↓zgd, ↓zge, ↓zgf, ↓zgg, zgh, zgi, zgj, zgk, zgl, zgm, zgn, zgo, zgp, zgq, zgr, zgs, zgt, zgu, zgv, zgw, zgx, zgy, zgz, zha, zhb, zhc, zhd, zhe, zhf, zhg, zhh, zhi, zhj, zhk, zhl, zhm, zhn, zho, zhp, zhq, zhr, zhs, zht, zhu, zhv, zhw, ↓zhx, ↓zhy, ↓zhz, ↓zia, ↓zib, zic, zid, zie, zif, zig, zih, ↓zii, ↓zij, ↓zik, ↓zil, ↓zim, ↓zin, ↓zio, ↓ziq, ↓zir, pk0, pk1, pk2, pk3, pk4, pk5, pk6, zjl, zjm, zjn, zjo, zjp, zjq, zjr, zjs, zjt, zju, zjv, zjw, zjx, zjy, zjz, zka, zkb, zkc, zkd, zke, zkf, zkg, zkh, zki, zkj, reduceCtorEq, zkk, zkl, zkm, zkn, zko, String.reduceEq, Nat.reduceAdd, Nat.reduceLeDiff, Nat.reduceLT, zkp, zkq, zkr, zks, ↓zis, zit, ↓ziu, ziv, *])
    refine made_of fun K5 d4 k5 _ _ g4 => ?_
    replace hrd := k5 _ _ hrd
    replace hsp := k5 _ _ hsp
    replace hf1 := k5 _ _ hf1
    replace ho2 := k5 _ _ ho2
    replace hmi := k5 _ _ hmi
    replace g3 := k5 _ _ g3
    refine ⟨sp, d3, d4, st, two, es, rfl, hsp, g3, g4, nd2, by omega, hc2.out, hge.out, hsz, low2, ?_⟩
    intro K6 al k6 _ _ hal
    replace hrd := k6 _ _ hrd
    replace hsp := k6 _ _ hsp
    replace hf1 := k6 _ _ hf1
    replace ho2 := k6 _ _ ho2
    replace hmi := k6 _ _ hmi
    clear k4 k5 k6 g3 g4
    refine seqsL_env [("_law_elder", .ref rd), ("_law_step_here", .ref sp), ("_law_first", .ref f1), ("_law_other_here", .ref o2), ("_law_middle", .ref mi), ("_law_alone", .ref al)] ⟨?_, ?_, ?_, ?_, ?_, ?_, True.intro⟩ ?_
    · (simp (maxSteps := 1000000) (implicitDefEqProofs := false) only [↓zb, ↓reduceIte, zc, ↓zd, ↓ze, ↓zg, ↓zh, ↓zi, ↓zj, ↓zk, ↓zl, ↓zn, ↓zo, ↓zp, ↓zq, ↓zr, ↓zt, ↓zu, ↓zv, ↓zw, ↓zx, ↓zy, ↓zz, ↓zba, ↓zbb, ↓zbc, ↓zbd, ↓zbe, ↓zbf, ↓zbg, ↓zbh, ↓zbi, ↓zbj, ↓zbk, ↓zbl, ↓zbm, ↓zbn, ↓zbo, ↓zbp, ↓zbq, ↓zbr, ↓zbs, ↓zbt, ↓zbu, ↓zbv, ↓zbw, ↓zbx, ↓zby, ↓zbz, ↓zca, ↓zcb, ↓zcc, ↓zcd, ↓zce, ↓zcf, ↓zcg, ↓zch, ↓zci, ↓zcj, ↓zck, ↓zcl, ↓zcm, ↓zcn, ↓zco, ↓zcp, ↓zcq, ↓zcr, ↓zcs, ↓zct, ↓zcu, ↓zcv, ↓zcw, ↓mt, zcx, kwl, ziw, zcy, zcz, zda, zdb, zdc, zix, ziy, ziz, zja, zdd, zde, zdf, zdg, zdh, zdi, zdj, zdk, zdl, zdm, zdn, zdo, zdp, zdq, zjb, Int.reduceEq, Int.reduceNe, zjc, zjd, Nat.reduceEqDiff, Int.reduceLT, Int.reduceLE, Int.reduceNeg, Int.reduceToNat, zje, kdC, zdr, zjf, zjg, nk1, nk2, nk3, nk4, nk5, zjh, zds, zdt, zdu, zdv, ic1, ic2, ic3, ic4, ic5, ic6, zdw, String.reduceBEq, p60, p50, AH.set_self, AH.set_ne, Kx.more, Kx.comp, zji, zjj, zjk, ↓zdx, ↓zdy, ↓zdz, ↓zea, ↓zeb, ↓zec, ↓zed, ↓zee, ↓zef, ↓zeg, ↓zeh, ↓zei, ↓zej, ↓zek, ↓zel, ↓zem, ↓zen, ↓zeo, ↓zep, ↓zeq, ↓zer, ↓zes, ↓zet, ↓zeu, ↓zev, ↓zew, ↓zex, ↓zey, ↓zez, ↓zfa, ↓zfb, ↓zfc, ↓zfd, ↓zfe, ↓zff, ↓zfg, ↓zfh, ↓zfi, ↓zfj, ↓zfk, ↓zfl, ↓zfm, ↓zfn, ↓zfo, ↓zfp, ↓zfq, ↓zfr, ↓zfs, ↓mtE, ↓zft, ↓zfu, ↓zfv, ↓zfw, ↓zfx, ↓zfy, ↓zfz, ↓zga, ↓zgb, ↓zgc, ↓zgd, ↓zge, ↓zgf, ↓zgg, zgh, zgi, zgj, zgk, zgl, zgm, zgn, zgo, zgp, zgq, zgr, zgs, zgt, zgu, zgv, zgw, zgx, zgy, zgz, zha, zhb, zhc, zhd, zhe, zhf, zhg, zhh, zhi, zhj, zhk, zhl, zhm, zhn, zho, zhp, zhq, zhr, zhs, zht, zhu, zhv, zhw, ↓zhx, ↓zhy, ↓zhz, ↓zia, ↓zib, zic, zid, zie, zif, zig, zih, ↓zii, ↓zij, ↓zik, ↓zil, ↓zim, ↓zin, ↓zio, ↓ziq, ↓zir, pk0, pk1, pk2, pk3, pk4, pk5, pk6, zjl, zjm, zjn, zjo, zjp, zjq, zjr, zjs, zjt, zju, zjv, zjw, zjx, zjy, zjz, zka, zkb, zkc, zkd, zke, zkf, zkg, zkh, zki, zkj, reduceCtorEq, zkk, zkl, zkm, zkn, zko, String.reduceEq, Nat.reduceAdd, Nat.reduceLeDiff, Nat.reduceLT, zkp, zkq, zkr, zks, ↓zis, zit, ↓ziu, ziv, *])
    · (simp (maxSteps := 1000000) (implicitDefEqProofs := false) only [↓zb, ↓reduceIte, zc, ↓zd, ↓ze, ↓zg, ↓zh, ↓zi, ↓zj, ↓zk, ↓zl, ↓zn, ↓zo, ↓zp, ↓zq, ↓zr, ↓zt, ↓zu, ↓zv, ↓zw, ↓zx, ↓zy, ↓zz, ↓zba, ↓zbb, ↓zbc, ↓zbd, ↓zbe, ↓zbf, ↓zbg, ↓zbh, ↓zbi, ↓zbj, ↓zbk, ↓zbl, ↓zbm, ↓zbn, ↓zbo, ↓zbp, ↓zbq, ↓zbr, ↓zbs, ↓zbt, ↓zbu, ↓zbv, ↓zbw, ↓zbx, ↓zby, ↓zbz, ↓zca, ↓zcb, ↓zcc, ↓zcd, ↓zce, ↓zcf, ↓zcg, ↓zch, ↓zci, ↓zcj, ↓zck, ↓zcl, ↓zcm, ↓zcn, ↓zco, ↓zcp, ↓zcq, ↓zcr, ↓zcs, ↓zct, ↓zcu, ↓zcv, ↓zcw, ↓mt, zcx, kwl, ziw, zcy, zcz, zda, zdb, zdc, zix, ziy, ziz, zja, zdd, zde, zdf, zdg, zdh, zdi, zdj, zdk, zdl, zdm, zdn, zdo, zdp, zdq, zjb, Int.reduceEq, Int.reduceNe, zjc, zjd, Nat.reduceEqDiff, Int.reduceLT, Int.reduceLE, Int.reduceNeg, Int.reduceToNat, zje, kdC, zdr, zjf, zjg, nk1, nk2, nk3, nk4, nk5, zjh, zds, zdt, zdu, zdv, ic1, ic2, ic3, ic4, ic5, ic6, zdw, String.reduceBEq, p60, p50, AH.set_self, AH.set_ne, Kx.more, Kx.comp, zji, zjj, zjk, ↓zdx, ↓zdy, ↓zdz, ↓zea, ↓zeb, ↓zec, ↓zed, ↓zee, ↓zef, ↓zeg, ↓zeh, ↓zei, ↓zej, ↓zek, ↓zel, ↓zem, ↓zen, ↓zeo, ↓zep, ↓zeq, ↓zer, ↓zes, ↓zet, ↓zeu, ↓zev, ↓zew, ↓zex, ↓zey, ↓zez, ↓zfa, ↓zfb, ↓zfc, ↓zfd, ↓zfe, ↓zff, ↓zfg, ↓zfh, ↓zfi, ↓zfj, ↓zfk, ↓zfl, ↓zfm, ↓zfn, ↓zfo, ↓zfp, ↓zfq, ↓zfr, ↓zfs, ↓mtE, ↓zft, ↓zfu, ↓zfv, ↓zfw, ↓zfx, ↓zfy, ↓zfz, ↓zga, ↓zgb, ↓zgc, ↓zgd, ↓zge, ↓zgf, ↓zgg, zgh, zgi, zgj, zgk, zgl, zgm, zgn, zgo, zgp, zgq, zgr, zgs, zgt, zgu, zgv, zgw, zgx, zgy, zgz, zha, zhb, zhc, zhd, zhe, zhf, zhg, zhh, zhi, zhj, zhk, zhl, zhm, zhn, zho, zhp, zhq, zhr, zhs, zht, zhu, zhv, zhw, ↓zhx, ↓zhy, ↓zhz, ↓zia, ↓zib, zic, zid, zie, zif, zig, zih, ↓zii, ↓zij, ↓zik, ↓zil, ↓zim, ↓zin, ↓zio, ↓ziq, ↓zir, pk0, pk1, pk2, pk3, pk4, pk5, pk6, zjl, zjm, zjn, zjo, zjp, zjq, zjr, zjs, zjt, zju, zjv, zjw, zjx, zjy, zjz, zka, zkb, zkc, zkd, zke, zkf, zkg, zkh, zki, zkj, reduceCtorEq, zkk, zkl, zkm, zkn, zko, String.reduceEq, Nat.reduceAdd, Nat.reduceLeDiff, Nat.reduceLT, zkp, zkq, zkr, zks, ↓zis, zit, ↓ziu, ziv, *])
    · (simp (maxSteps := 1000000) (implicitDefEqProofs := false) only [↓zb, ↓reduceIte, zc, ↓zd, ↓ze, ↓zg, ↓zh, ↓zi, ↓zj, ↓zk, ↓zl, ↓zn, ↓zo, ↓zp, ↓zq, ↓zr, ↓zt, ↓zu, ↓zv, ↓zw, ↓zx, ↓zy, ↓zz, ↓zba, ↓zbb, ↓zbc, ↓zbd, ↓zbe, ↓zbf, ↓zbg, ↓zbh, ↓zbi, ↓zbj, ↓zbk, ↓zbl, ↓zbm, ↓zbn, ↓zbo, ↓zbp, ↓zbq, ↓zbr, ↓zbs, ↓zbt, ↓zbu, ↓zbv, ↓zbw, ↓zbx, ↓zby, ↓zbz, ↓zca, ↓zcb, ↓zcc, ↓zcd, ↓zce, ↓zcf, ↓zcg, ↓zch, ↓zci, ↓zcj, ↓zck, ↓zcl, ↓zcm, ↓zcn, ↓zco, ↓zcp, ↓zcq, ↓zcr, ↓zcs, ↓zct, ↓zcu, ↓zcv, ↓zcw, ↓mt, zcx, kwl, ziw, zcy, zcz, zda, zdb, zdc, zix, ziy, ziz, zja, zdd, zde, zdf, zdg, zdh, zdi, zdj, zdk, zdl, zdm, zdn, zdo, zdp, zdq, zjb, Int.reduceEq, Int.reduceNe, zjc, zjd, Nat.reduceEqDiff, Int.reduceLT, Int.reduceLE, Int.reduceNeg, Int.reduceToNat, zje, kdC, zdr, zjf, zjg, nk1, nk2, nk3, nk4, nk5, zjh, zds, zdt, zdu, zdv, ic1, ic2, ic3, ic4, ic5, ic6, zdw, String.reduceBEq, p60, p50, AH.set_self, AH.set_ne, Kx.more, Kx.comp, zji, zjj, zjk, ↓zdx, ↓zdy, ↓zdz, ↓zea, ↓zeb, ↓zec, ↓zed, ↓zee, ↓zef, ↓zeg, ↓zeh, ↓zei, ↓zej, ↓zek, ↓zel, ↓zem, ↓zen, ↓zeo, ↓zep, ↓zeq, ↓zer, ↓zes, ↓zet, ↓zeu, ↓zev, ↓zew, ↓zex, ↓zey, ↓zez, ↓zfa, ↓zfb, ↓zfc, ↓zfd, ↓zfe, ↓zff, ↓zfg, ↓zfh, ↓zfi, ↓zfj, ↓zfk, ↓zfl, ↓zfm, ↓zfn, ↓zfo, ↓zfp, ↓zfq, ↓zfr, ↓zfs, ↓mtE, ↓zft, ↓zfu, ↓zfv, ↓zfw, ↓zfx, ↓zfy, ↓zfz, ↓zga, ↓zgb, ↓zgc, ↓zgd, ↓zge, ↓zgf, ↓zgg, zgh, zgi, zgj, zgk, zgl, zgm, zgn, zgo, zgp, zgq, zgr, zgs, zgt, zgu, zgv, zgw, zgx, zgy, zgz, zha, zhb, zhc, zhd, zhe, zhf, zhg, zhh, zhi, zhj, zhk, zhl, zhm, zhn, zho, zhp, zhq, zhr, zhs, zht, zhu, zhv, zhw, ↓zhx, ↓zhy, ↓zhz, ↓zia, ↓zib, zic, zid, zie, zif, zig, zih, ↓zii, ↓zij, ↓zik, ↓zil, ↓zim, ↓zin, ↓zio, ↓ziq, ↓zir, pk0, pk1, pk2, pk3, pk4, pk5, pk6, zjl, zjm, zjn, zjo, zjp, zjq, zjr, zjs, zjt, zju, zjv, zjw, zjx, zjy, zjz, zka, zkb, zkc, zkd, zke, zkf, zkg, zkh, zki, zkj, reduceCtorEq, zkk, zkl, zkm, zkn, zko, String.reduceEq, Nat.reduceAdd, Nat.reduceLeDiff, Nat.reduceLT, zkp, zkq, zkr, zks, ↓zis, zit, ↓ziu, ziv, *])
    · (simp (maxSteps := 1000000) (implicitDefEqProofs := false) only [↓zb, ↓reduceIte, zc, ↓zd, ↓ze, ↓zg, ↓zh, ↓zi, ↓zj, ↓zk, ↓zl, ↓zn, ↓zo, ↓zp, ↓zq, ↓zr, ↓zt, ↓zu, ↓zv, ↓zw, ↓zx, ↓zy, ↓zz, ↓zba, ↓zbb, ↓zbc, ↓zbd, ↓zbe, ↓zbf, ↓zbg, ↓zbh, ↓zbi, ↓zbj, ↓zbk, ↓zbl, ↓zbm, ↓zbn, ↓zbo, ↓zbp, ↓zbq, ↓zbr, ↓zbs, ↓zbt, ↓zbu, ↓zbv, ↓zbw, ↓zbx, ↓zby, ↓zbz, ↓zca, ↓zcb, ↓zcc, ↓zcd, ↓zce, ↓zcf, ↓zcg, ↓zch, ↓zci, ↓zcj, ↓zck, ↓zcl, ↓zcm, ↓zcn, ↓zco, ↓zcp, ↓zcq, ↓zcr, ↓zcs, ↓zct, ↓zcu, ↓zcv, ↓zcw, ↓mt, zcx, kwl, ziw, zcy, zcz, zda, zdb, zdc, zix, ziy, ziz, zja, zdd, zde, zdf, zdg, zdh, zdi, zdj, zdk, zdl, zdm, zdn, zdo, zdp, zdq, zjb, Int.reduceEq, Int.reduceNe, zjc, zjd, Nat.reduceEqDiff, Int.reduceLT, Int.reduceLE, Int.reduceNeg, Int.reduceToNat, zje, kdC, zdr, zjf, zjg, nk1, nk2, nk3, nk4, nk5, zjh, zds, zdt, zdu, zdv, ic1, ic2, ic3, ic4, ic5, ic6, zdw, String.reduceBEq, p60, p50, AH.set_self, AH.set_ne, Kx.more, Kx.comp, zji, zjj, zjk, ↓zdx, ↓zdy, ↓zdz, ↓zea, ↓zeb, ↓zec, ↓zed, ↓zee, ↓zef, ↓zeg, ↓zeh, ↓zei, ↓zej, ↓zek, ↓zel, ↓zem, ↓zen, ↓zeo, ↓zep, ↓zeq, ↓zer, ↓zes, ↓zet, ↓zeu, ↓zev, ↓zew, ↓zex, ↓zey, ↓zez, ↓zfa, ↓zfb, ↓zfc, ↓zfd, ↓zfe, ↓zff, ↓zfg, ↓zfh, ↓zfi, ↓zfj, ↓zfk, ↓zfl, ↓zfm, ↓zfn, ↓zfo, ↓zfp, ↓zfq, ↓zfr, ↓zfs, ↓mtE, ↓zft, ↓zfu, ↓zfv, ↓zfw, ↓zfx, ↓zfy, ↓zfz, ↓zga, ↓zgb, ↓zgc, ↓zgd, ↓zge, ↓zgf, ↓zgg, zgh, zgi, zgj, zgk, zgl, zgm, zgn, zgo, zgp, zgq, zgr, zgs, zgt, zgu, zgv, zgw, zgx, zgy, zgz, zha, zhb, zhc, zhd, zhe, zhf, zhg, zhh, zhi, zhj, zhk, zhl, zhm, zhn, zho, zhp, zhq, zhr, zhs, zht, zhu, zhv, zhw, ↓zhx, ↓zhy, ↓zhz, ↓zia, ↓zib, zic, zid, zie, zif, zig, zih, ↓zii, ↓zij, ↓zik, ↓zil, ↓zim, ↓zin, ↓zio, ↓ziq, ↓zir, pk0, pk1, pk2, pk3, pk4, pk5, pk6, zjl, zjm, zjn, zjo, zjp, zjq, zjr, zjs, zjt, zju, zjv, zjw, zjx, zjy, zjz, zka, zkb, zkc, zkd, zke, zkf, zkg, zkh, zki, zkj, reduceCtorEq, zkk, zkl, zkm, zkn, zko, String.reduceEq, Nat.reduceAdd, Nat.reduceLeDiff, Nat.reduceLT, zkp, zkq, zkr, zks, ↓zis, zit, ↓ziu, ziv, *])
    · (simp (maxSteps := 1000000) (implicitDefEqProofs := false) only [↓zb, ↓reduceIte, zc, ↓zd, ↓ze, ↓zg, ↓zh, ↓zi, ↓zj, ↓zk, ↓zl, ↓zn, ↓zo, ↓zp, ↓zq, ↓zr, ↓zt, ↓zu, ↓zv, ↓zw, ↓zx, ↓zy, ↓zz, ↓zba, ↓zbb, ↓zbc, ↓zbd, ↓zbe, ↓zbf, ↓zbg, ↓zbh, ↓zbi, ↓zbj, ↓zbk, ↓zbl, ↓zbm, ↓zbn, ↓zbo, ↓zbp, ↓zbq, ↓zbr, ↓zbs, ↓zbt, ↓zbu, ↓zbv, ↓zbw, ↓zbx, ↓zby, ↓zbz, ↓zca, ↓zcb, ↓zcc, ↓zcd, ↓zce, ↓zcf, ↓zcg, ↓zch, ↓zci, ↓zcj, ↓zck, ↓zcl, ↓zcm, ↓zcn, ↓zco, ↓zcp, ↓zcq, ↓zcr, ↓zcs, ↓zct, ↓zcu, ↓zcv, ↓zcw, ↓mt, zcx, kwl, ziw, zcy, zcz, zda, zdb, zdc, zix, ziy, ziz, zja, zdd, zde, zdf, zdg, zdh, zdi, zdj, zdk, zdl, zdm, zdn, zdo, zdp, zdq, zjb, Int.reduceEq, Int.reduceNe, zjc, zjd, Nat.reduceEqDiff, Int.reduceLT, Int.reduceLE, Int.reduceNeg, Int.reduceToNat, zje, kdC, zdr, zjf, zjg, nk1, nk2, nk3, nk4, nk5, zjh, zds, zdt, zdu, zdv, ic1, ic2, ic3, ic4, ic5, ic6, zdw, String.reduceBEq, p60, p50, AH.set_self, AH.set_ne, Kx.more, Kx.comp, zji, zjj, zjk, ↓zdx, ↓zdy, ↓zdz, ↓zea, ↓zeb, ↓zec, ↓zed, ↓zee, ↓zef, ↓zeg, ↓zeh, ↓zei, ↓zej, ↓zek, ↓zel, ↓zem, ↓zen, ↓zeo, ↓zep, ↓zeq, ↓zer, ↓zes, ↓zet, ↓zeu, ↓zev, ↓zew, ↓zex, ↓zey, ↓zez, ↓zfa, ↓zfb, ↓zfc, ↓zfd, ↓zfe, ↓zff, ↓zfg, ↓zfh, ↓zfi, ↓zfj, ↓zfk, ↓zfl, ↓zfm, ↓zfn, ↓zfo, ↓zfp, ↓zfq, ↓zfr, ↓zfs, ↓mtE, ↓zft, ↓zfu, ↓zfv, ↓zfw, ↓zfx, ↓zfy, ↓zfz, ↓zga, ↓zgb, ↓zgc, ↓zgd, ↓zge, ↓zgf, ↓zgg, zgh, zgi, zgj, zgk, zgl, zgm, zgn, zgo, zgp, zgq, zgr, zgs, zgt, zgu, zgv, zgw, zgx, zgy, zgz, zha, zhb, zhc, zhd, zhe, zhf, zhg, zhh, zhi, zhj, zhk, zhl, zhm, zhn, zho, zhp, zhq, zhr, zhs, zht, zhu, zhv, zhw, ↓zhx, ↓zhy, ↓zhz, ↓zia, ↓zib, zic, zid, zie, zif, zig, zih, ↓zii, ↓zij, ↓zik, ↓zil, ↓zim, ↓zin, ↓zio, ↓ziq, ↓zir, pk0, pk1, pk2, pk3, pk4, pk5, pk6, zjl, zjm, zjn, zjo, zjp, zjq, zjr, zjs, zjt, zju, zjv, zjw, zjx, zjy, zjz, zka, zkb, zkc, zkd, zke, zkf, zkg, zkh, zki, zkj, reduceCtorEq, zkk, zkl, zkm, zkn, zko, String.reduceEq, Nat.reduceAdd, Nat.reduceLeDiff, Nat.reduceLT, zkp, zkq, zkr, zks, ↓zis, zit, ↓ziu, ziv, *])
    · (simp (maxSteps := 1000000) (implicitDefEqProofs := false) only [↓zb, ↓reduceIte, zc, ↓zd, ↓ze, ↓zg, ↓zh, ↓zi, ↓zj, ↓zk, ↓zl, ↓zn, ↓zo, ↓zp, ↓zq, ↓zr, ↓zt, ↓zu, ↓zv, ↓zw, ↓zx, ↓zy, ↓zz, ↓zba, ↓zbb, ↓zbc, ↓zbd, ↓zbe, ↓zbf, ↓zbg, ↓zbh, ↓zbi, ↓zbj, ↓zbk, ↓zbl, ↓zbm, ↓zbn, ↓zbo, ↓zbp, ↓zbq, ↓zbr, ↓zbs, ↓zbt, ↓zbu, ↓zbv, ↓zbw, ↓zbx, ↓zby, ↓zbz, ↓zca, ↓zcb, ↓zcc, ↓zcd, ↓zce, ↓zcf, ↓zcg, ↓zch, ↓zci, ↓zcj, ↓zck, ↓zcl, ↓zcm, ↓zcn, ↓zco, ↓zcp, ↓zcq, ↓zcr, ↓zcs, ↓zct, ↓zcu, ↓zcv, ↓zcw, ↓mt, zcx, kwl, ziw, zcy, zcz, zda, zdb, zdc, zix, ziy, ziz, zja, zdd, zde, zdf, zdg, zdh, zdi, zdj, zdk, zdl, zdm, zdn, zdo, zdp, zdq, zjb, Int.reduceEq, Int.reduceNe, zjc, zjd, Nat.reduceEqDiff, Int.reduceLT, Int.reduceLE, Int.reduceNeg, Int.reduceToNat, zje, kdC, zdr, zjf, zjg, nk1, nk2, nk3, nk4, nk5, zjh, zds, zdt, zdu, zdv, ic1, ic2, ic3, ic4, ic5, ic6, zdw, String.reduceBEq, p60, p50, AH.set_self, AH.set_ne, Kx.more, Kx.comp, zji, zjj, zjk, ↓zdx, ↓zdy, ↓zdz, ↓zea, ↓zeb, ↓zec, ↓zed, ↓zee, ↓zef, ↓zeg, ↓zeh, ↓zei, ↓zej, ↓zek, ↓zel, ↓zem, ↓zen, ↓zeo, ↓zep, ↓zeq, ↓zer, ↓zes, ↓zet, ↓zeu, ↓zev, ↓zew, ↓zex, ↓zey, ↓zez, ↓zfa, ↓zfb, ↓zfc, ↓zfd, ↓zfe, ↓zff, ↓zfg, ↓zfh, ↓zfi, ↓zfj, ↓zfk, ↓zfl, ↓zfm, ↓zfn, ↓zfo, ↓zfp, ↓zfq, ↓zfr, ↓zfs, ↓mtE, ↓zft, ↓zfu, ↓zfv, ↓zfw, ↓zfx, ↓zfy, ↓zfz, ↓zga, ↓zgb, ↓zgc, ↓zgd, ↓zge, ↓zgf, ↓zgg, zgh, zgi, zgj, zgk, zgl, zgm, zgn, zgo, zgp, zgq, zgr, zgs, zgt, zgu, zgv, zgw, zgx, zgy, zgz, zha, zhb, zhc, zhd, zhe, zhf, zhg, zhh, zhi, zhj, zhk, zhl, zhm, zhn, zho, zhp, zhq, zhr, zhs, zht, zhu, zhv, zhw, ↓zhx, ↓zhy, ↓zhz, ↓zia, ↓zib, zic, zid, zie, zif, zig, zih, ↓zii, ↓zij, ↓zik, ↓zil, ↓zim, ↓zin, ↓zio, ↓ziq, ↓zir, pk0, pk1, pk2, pk3, pk4, pk5, pk6, zjl, zjm, zjn, zjo, zjp, zjq, zjr, zjs, zjt, zju, zjv, zjw, zjx, zjy, zjz, zka, zkb, zkc, zkd, zke, zkf, zkg, zkh, zki, zkj, reduceCtorEq, zkk, zkl, zkm, zkn, zko, String.reduceEq, Nat.reduceAdd, Nat.reduceLeDiff, Nat.reduceLT, zkp, zkq, zkr, zks, ↓zis, zit, ↓ziu, ziv, *])
    clear hρ
    intro ρ₄ hρ
    simp only [tabAll, and_true] at hρ
    have lm : (bwd st one es).length ≤ 15 := Nat.le_trans bwd_length (by omega)
    have la : (bwd st two es).length ≤ 15 := Nat.le_trans bwd_length (by omega)
    have zm : (dI (bwd st one es)).length ≤ sizeLine := by rw [dI_length]; exact Nat.le_trans lm (by decide)
    have za : (dI (bwd st two es)).length ≤ sizeLine := by rw [dI_length]; exact Nat.le_trans la (by decide)
    have ag1 := agree_bwd (rd := one) (el := es) hsz gnd
    have ag2 := agree_bwd (rd := two) (el := es) hsz gnd
    have gm := Box.mk (goes_bwd (st := st) (rd := one) (el := es))
    have ga := Box.mk (goes_bwd (st := st) (rd := two) (el := es))
    have nda := bwd_nodup (st := st) (rd := two) (el := es) nd2
    have lowf : Low st (fwd st es own) := by
      cases st <;> simp only [Low, Stp.sizeOk, fwd] at hsz ⊢
      rw [val_put, if_pos rfl]
      exact ⟨Int.fmod_nonneg_of_pos _ (by omega), Int.fmod_lt_of_pos _ (by omega)⟩
    refine seqsL_cons ?_
    (simp (maxSteps := 1000000) (implicitDefEqProofs := false) only [↓zb, ↓reduceIte, zc, ↓zd, ↓ze, ↓zg, ↓zh, ↓zi, ↓zj, ↓zk, ↓zl, ↓zn, ↓zo, ↓zp, ↓zq, ↓zr, ↓zt, ↓zu, ↓zv, ↓zw, ↓zx, ↓zy, ↓zz, ↓zba, ↓zbb, ↓zbc, ↓zbd, ↓zbe, ↓zbf, ↓zbg, ↓zbh, ↓zbi, ↓zbj, ↓zbk, ↓zbl, ↓zbm, ↓zbn, ↓zbo, ↓zbp, ↓zbq, ↓zbr, ↓zbs, ↓zbt, ↓zbu, ↓zbv, ↓zbw, ↓zbx, ↓zby, ↓zbz, ↓zca, ↓zcb, ↓zcc, ↓zcd, ↓zce, ↓zcf, ↓zcg, ↓zch, ↓zci, ↓zcj, ↓zck, ↓zcl, ↓zcm, ↓zcn, ↓zco, ↓zcp, ↓zcq, ↓zcr, ↓zcs, ↓zct, ↓zcu, ↓zcv, ↓zcw, ↓mt, zcx, kwl, ziw, zcy, zcz, zda, zdb, zdc, zix, ziy, ziz, zja, zdd, zde, zdf, zdg, zdh, zdi, zdj, zdk, zdl, zdm, zdn, zdo, zdp, zdq, zjb, Int.reduceEq, Int.reduceNe, zjc, zjd, Nat.reduceEqDiff, Int.reduceLT, Int.reduceLE, Int.reduceNeg, Int.reduceToNat, zje, kdC, zdr, zjf, zjg, nk1, nk2, nk3, nk4, nk5, zjh, zds, zdt, zdu, zdv, ic1, ic2, ic3, ic4, ic5, ic6, zdw, String.reduceBEq, p60, p50, AH.set_self, AH.set_ne, Kx.more, Kx.comp, zji, zjj, zjk, ↓zdx, ↓zdy, ↓zdz, ↓zea, ↓zeb, ↓zec, ↓zed, ↓zee, ↓zef, ↓zeg, ↓zeh, ↓zei, ↓zej, ↓zek, ↓zel, ↓zem, ↓zen, ↓zeo, ↓zep, ↓zeq, ↓zer, ↓zes, ↓zet, ↓zeu, ↓zev, ↓zew, ↓zex, ↓zey, ↓zez, ↓zfa, ↓zfb, ↓zfc, ↓zfd, ↓zfe, ↓zff, ↓zfg, ↓zfh, ↓zfi, ↓zfj, ↓zfk, ↓zfl, ↓zfm, ↓zfn, ↓zfo, ↓zfp, ↓zfq, ↓zfr, ↓zfs, ↓mtE, ↓zft, ↓zfu, ↓zfv, ↓zfw, ↓zfx, ↓zfy, ↓zfz, ↓zga, ↓zgb, ↓zgc, ↓zgd, ↓zge, ↓zgf, ↓zgg, zgh, zgi, zgj, zgk, zgl, zgm, zgn, zgo, zgp, zgq, zgr, zgs, zgt, zgu, zgv, zgw, zgx, zgy, zgz, zha, zhb, zhc, zhd, zhe, zhf, zhg, zhh, zhi, zhj, zhk, zhl, zhm, zhn, zho, zhp, zhq, zhr, zhs, zht, zhu, zhv, zhw, ↓zhx, ↓zhy, ↓zhz, ↓zia, ↓zib, zic, zid, zie, zif, zig, zih, ↓zii, ↓zij, ↓zik, ↓zil, ↓zim, ↓zin, ↓zio, ↓ziq, ↓zir, pk0, pk1, pk2, pk3, pk4, pk5, pk6, zjl, zjm, zjn, zjo, zjp, zjq, zjr, zjs, zjt, zju, zjv, zjw, zjx, zjy, zjz, zka, zkb, zkc, zkd, zke, zkf, zkg, zkh, zki, zkj, reduceCtorEq, zkk, zkl, zkm, zkn, zko, String.reduceEq, Nat.reduceAdd, Nat.reduceLeDiff, Nat.reduceLT, zkp, zkq, zkr, zks, ↓zis, zit, ↓ziu, ziv, *])
    -- the first question
    refine seqsL_cons ?_
    (simp (maxSteps := 1000000) (implicitDefEqProofs := false) only [↓zb, ↓reduceIte, zc, ↓zd, ↓ze, ↓zg, ↓zh, ↓zi, ↓zj, ↓zk, ↓zl, ↓zn, ↓zo, ↓zp, ↓zq, ↓zr, ↓zt, ↓zu, ↓zv, ↓zw, ↓zx, ↓zy, ↓zz, ↓zba, ↓zbb, ↓zbc, ↓zbd, ↓zbe, ↓zbf, ↓zbg, ↓zbh, ↓zbi, ↓zbj, ↓zbk, ↓zbl, ↓zbm, ↓zbn, ↓zbo, ↓zbp, ↓zbq, ↓zbr, ↓zbs, ↓zbt, ↓zbu, ↓zbv, ↓zbw, ↓zbx, ↓zby, ↓zbz, ↓zca, ↓zcb, ↓zcc, ↓zcd, ↓zce, ↓zcf, ↓zcg, ↓zch, ↓zci, ↓zcj, ↓zck, ↓zcl, ↓zcm, ↓zcn, ↓zco, ↓zcp, ↓zcq, ↓zcr, ↓zcs, ↓zct, ↓zcu, ↓zcv, ↓zcw, ↓mt, zcx, kwl, ziw, zcy, zcz, zda, zdb, zdc, zix, ziy, ziz, zja, zdd, zde, zdf, zdg, zdh, zdi, zdj, zdk, zdl, zdm, zdn, zdo, zdp, zdq, zjb, Int.reduceEq, Int.reduceNe, zjc, zjd, Nat.reduceEqDiff, Int.reduceLT, Int.reduceLE, Int.reduceNeg, Int.reduceToNat, zje, kdC, zdr, zjf, zjg, nk1, nk2, nk3, nk4, nk5, zjh, zds, zdt, zdu, zdv, ic1, ic2, ic3, ic4, ic5, ic6, zdw, String.reduceBEq, p60, p50, AH.set_self, AH.set_ne, Kx.more, Kx.comp, zji, zjj, zjk, ↓zdx, ↓zdy, ↓zdz, ↓zea, ↓zeb, ↓zec, ↓zed, ↓zee, ↓zef, ↓zeg, ↓zeh, ↓zei, ↓zej, ↓zek, ↓zel, ↓zem, ↓zen, ↓zeo, ↓zep, ↓zeq, ↓zer, ↓zes, ↓zet, ↓zeu, ↓zev, ↓zew, ↓zex, ↓zey, ↓zez, ↓zfa, ↓zfb, ↓zfc, ↓zfd, ↓zfe, ↓zff, ↓zfg, ↓zfh, ↓zfi, ↓zfj, ↓zfk, ↓zfl, ↓zfm, ↓zfn, ↓zfo, ↓zfp, ↓zfq, ↓zfr, ↓zfs, ↓mtE, ↓zft, ↓zfu, ↓zfv, ↓zfw, ↓zfx, ↓zfy, ↓zfz, ↓zga, ↓zgb, ↓zgc, ↓zgd, ↓zge, ↓zgf, ↓zgg, zgh, zgi, zgj, zgk, zgl, zgm, zgn, zgo, zgp, zgq, zgr, zgs, zgt, zgu, zgv, zgw, zgx, zgy, zgz, zha, zhb, zhc, zhd, zhe, zhf, zhg, zhh, zhi, zhj, zhk, zhl, zhm, zhn, zho, zhp, zhq, zhr, zhs, zht, zhu, zhv, zhw, ↓zhx, ↓zhy, ↓zhz, ↓zia, ↓zib, zic, zid, zie, zif, zig, zih, ↓zii, ↓zij, ↓zik, ↓zil, ↓zim, ↓zin, ↓zio, ↓ziq, ↓zir, pk0, pk1, pk2, pk3, pk4, pk5, pk6, zjl, zjm, zjn, zjo, zjp, zjq, zjr, zjs, zjt, zju, zjv, zjw, zjx, zjy, zjz, zka, zkb, zkc, zkd, zke, zkf, zkg, zkh, zki, zkj, reduceCtorEq, zkk, zkl, zkm, zkn, zko, String.reduceEq, Nat.reduceAdd, Nat.reduceLeDiff, Nat.reduceLT, zkp, zkq, zkr, zks, ↓zis, zit, ↓ziu, ziv, *])
    refine made_of fun K7 d5 k7 _ _ g5 => ?_
    replace hrd := k7 _ _ hrd
    replace hsp := k7 _ _ hsp
    replace hf1 := k7 _ _ hf1
    replace hmi := k7 _ _ hmi
    replace hal := k7 _ _ hal
    (simp (maxSteps := 1000000) (implicitDefEqProofs := false) only [↓zb, ↓reduceIte, zc, ↓zd, ↓ze, ↓zg, ↓zh, ↓zi, ↓zj, ↓zk, ↓zl, ↓zn, ↓zo, ↓zp, ↓zq, ↓zr, ↓zt, ↓zu, ↓zv, ↓zw, ↓zx, ↓zy, ↓zz, ↓zba, ↓zbb, ↓zbc, ↓zbd, ↓zbe, ↓zbf, ↓zbg, ↓zbh, ↓zbi, ↓zbj, ↓zbk, ↓zbl, ↓zbm, ↓zbn, ↓zbo, ↓zbp, ↓zbq, ↓zbr, ↓zbs, ↓zbt, ↓zbu, ↓zbv, ↓zbw, ↓zbx, ↓zby, ↓zbz, ↓zca, ↓zcb, ↓zcc, ↓zcd, ↓zce, ↓zcf, ↓zcg, ↓zch, ↓zci, ↓zcj, ↓zck, ↓zcl, ↓zcm, ↓zcn, ↓zco, ↓zcp, ↓zcq, ↓zcr, ↓zcs, ↓zct, ↓zcu, ↓zcv, ↓zcw, ↓mt, zcx, kwl, ziw, zcy, zcz, zda, zdb, zdc, zix, ziy, ziz, zja, zdd, zde, zdf, zdg, zdh, zdi, zdj, zdk, zdl, zdm, zdn, zdo, zdp, zdq, zjb, Int.reduceEq, Int.reduceNe, zjc, zjd, Nat.reduceEqDiff, Int.reduceLT, Int.reduceLE, Int.reduceNeg, Int.reduceToNat, zje, kdC, zdr, zjf, zjg, nk1, nk2, nk3, nk4, nk5, zjh, zds, zdt, zdu, zdv, ic1, ic2, ic3, ic4, ic5, ic6, zdw, String.reduceBEq, p60, p50, AH.set_self, AH.set_ne, Kx.more, Kx.comp, zji, zjj, zjk, ↓zdx, ↓zdy, ↓zdz, ↓zea, ↓zeb, ↓zec, ↓zed, ↓zee, ↓zef, ↓zeg, ↓zeh, ↓zei, ↓zej, ↓zek, ↓zel, ↓zem, ↓zen, ↓zeo, ↓zep, ↓zeq, ↓zer, ↓zes, ↓zet, ↓zeu, ↓zev, ↓zew, ↓zex, ↓zey, ↓zez, ↓zfa, ↓zfb, ↓zfc, ↓zfd, ↓zfe, ↓zff, ↓zfg, ↓zfh, ↓zfi, ↓zfj, ↓zfk, ↓zfl, ↓zfm, ↓zfn, ↓zfo, ↓zfp, ↓zfq, ↓zfr, ↓zfs, ↓mtE, ↓zft, ↓zfu, ↓zfv, ↓zfw, ↓zfx, ↓zfy, ↓zfz, ↓zga, ↓zgb, ↓zgc, ↓zgd, ↓zge, ↓zgf, ↓zgg, zgh, zgi, zgj, zgk, zgl, zgm, zgn, zgo, zgp, zgq, zgr, zgs, zgt, zgu, zgv, zgw, zgx, zgy, zgz, zha, zhb, zhc, zhd, zhe, zhf, zhg, zhh, zhi, zhj, zhk, zhl, zhm, zhn, zho, zhp, zhq, zhr, zhs, zht, zhu, zhv, zhw, ↓zhx, ↓zhy, ↓zhz, ↓zia, ↓zib, zic, zid, zie, zif, zig, zih, ↓zii, ↓zij, ↓zik, ↓zil, ↓zim, ↓zin, ↓zio, ↓ziq, ↓zir, pk0, pk1, pk2, pk3, pk4, pk5, pk6, zjl, zjm, zjn, zjo, zjp, zjq, zjr, zjs, zjt, zju, zjv, zjw, zjx, zjy, zjz, zka, zkb, zkc, zkd, zke, zkf, zkg, zkh, zki, zkj, reduceCtorEq, zkk, zkl, zkm, zkn, zko, String.reduceEq, Nat.reduceAdd, Nat.reduceLeDiff, Nat.reduceLT, zkp, zkq, zkr, zks, ↓zis, zit, ↓ziu, ziv, *])
    refine made_of fun K8 d6 k8 _ _ g6 => ?_
    replace hrd := k8 _ _ hrd
    replace hsp := k8 _ _ hsp
    replace hf1 := k8 _ _ hf1
    replace hmi := k8 _ _ hmi
    replace hal := k8 _ _ hal
    replace g5 := k8 _ _ g5
    refine ⟨sp, d5, d6, st, two, bwd st one es, rfl, hsp, g5, g6, nd2, by omega, hc2.out, gm.out, hsz, low2, ?_⟩
    intro K9 b1 k9 _ _ hb1
    replace hrd := k9 _ _ hrd
    replace hsp := k9 _ _ hsp
    replace hf1 := k9 _ _ hf1
    replace hmi := k9 _ _ hmi
    replace hal := k9 _ _ hal
    rw [bwd_same ag1] at hb1
    clear k7 k8 k9 g5 g6 ho2
    have hq := dEq_self nda
    have hq' := dSc_dI (bwd st two es) (bwd st two es)
    (simp (maxSteps := 1000000) (implicitDefEqProofs := false) only [↓zb, ↓reduceIte, zc, ↓zd, ↓ze, ↓zg, ↓zh, ↓zi, ↓zj, ↓zk, ↓zl, ↓zn, ↓zo, ↓zp, ↓zq, ↓zr, ↓zt, ↓zu, ↓zv, ↓zw, ↓zx, ↓zy, ↓zz, ↓zba, ↓zbb, ↓zbc, ↓zbd, ↓zbe, ↓zbf, ↓zbg, ↓zbh, ↓zbi, ↓zbj, ↓zbk, ↓zbl, ↓zbm, ↓zbn, ↓zbo, ↓zbp, ↓zbq, ↓zbr, ↓zbs, ↓zbt, ↓zbu, ↓zbv, ↓zbw, ↓zbx, ↓zby, ↓zbz, ↓zca, ↓zcb, ↓zcc, ↓zcd, ↓zce, ↓zcf, ↓zcg, ↓zch, ↓zci, ↓zcj, ↓zck, ↓zcl, ↓zcm, ↓zcn, ↓zco, ↓zcp, ↓zcq, ↓zcr, ↓zcs, ↓zct, ↓zcu, ↓zcv, ↓zcw, ↓mt, zcx, kwl, ziw, zcy, zcz, zda, zdb, zdc, zix, ziy, ziz, zja, zdd, zde, zdf, zdg, zdh, zdi, zdj, zdk, zdl, zdm, zdn, zdo, zdp, zdq, zjb, Int.reduceEq, Int.reduceNe, zjc, zjd, Nat.reduceEqDiff, Int.reduceLT, Int.reduceLE, Int.reduceNeg, Int.reduceToNat, zje, kdC, zdr, zjf, zjg, nk1, nk2, nk3, nk4, nk5, zjh, zds, zdt, zdu, zdv, ic1, ic2, ic3, ic4, ic5, ic6, zdw, String.reduceBEq, p60, p50, AH.set_self, AH.set_ne, Kx.more, Kx.comp, zji, zjj, zjk, ↓zdx, ↓zdy, ↓zdz, ↓zea, ↓zeb, ↓zec, ↓zed, ↓zee, ↓zef, ↓zeg, ↓zeh, ↓zei, ↓zej, ↓zek, ↓zel, ↓zem, ↓zen, ↓zeo, ↓zep, ↓zeq, ↓zer, ↓zes, ↓zet, ↓zeu, ↓zev, ↓zew, ↓zex, ↓zey, ↓zez, ↓zfa, ↓zfb, ↓zfc, ↓zfd, ↓zfe, ↓zff, ↓zfg, ↓zfh, ↓zfi, ↓zfj, ↓zfk, ↓zfl, ↓zfm, ↓zfn, ↓zfo, ↓zfp, ↓zfq, ↓zfr, ↓zfs, ↓mtE, ↓zft, ↓zfu, ↓zfv, ↓zfw, ↓zfx, ↓zfy, ↓zfz, ↓zga, ↓zgb, ↓zgc, ↓zgd, ↓zge, ↓zgf, ↓zgg, zgh, zgi, zgj, zgk, zgl, zgm, zgn, zgo, zgp, zgq, zgr, zgs, zgt, zgu, zgv, zgw, zgx, zgy, zgz, zha, zhb, zhc, zhd, zhe, zhf, zhg, zhh, zhi, zhj, zhk, zhl, zhm, zhn, zho, zhp, zhq, zhr, zhs, zht, zhu, zhv, zhw, ↓zhx, ↓zhy, ↓zhz, ↓zia, ↓zib, zic, zid, zie, zif, zig, zih, ↓zii, ↓zij, ↓zik, ↓zil, ↓zim, ↓zin, ↓zio, ↓ziq, ↓zir, pk0, pk1, pk2, pk3, pk4, pk5, pk6, zjl, zjm, zjn, zjo, zjp, zjq, zjr, zjs, zjt, zju, zjv, zjw, zjx, zjy, zjz, zka, zkb, zkc, zkd, zke, zkf, zkg, zkh, zki, zkj, reduceCtorEq, zkk, zkl, zkm, zkn, zko, String.reduceEq, Nat.reduceAdd, Nat.reduceLeDiff, Nat.reduceLT, zkp, zkq, zkr, zks, ↓zis, zit, ↓ziu, ziv, *])
    -- the last
    refine seqsL_cons ?_
    (simp (maxSteps := 1000000) (implicitDefEqProofs := false) only [↓zb, ↓reduceIte, zc, ↓zd, ↓ze, ↓zg, ↓zh, ↓zi, ↓zj, ↓zk, ↓zl, ↓zn, ↓zo, ↓zp, ↓zq, ↓zr, ↓zt, ↓zu, ↓zv, ↓zw, ↓zx, ↓zy, ↓zz, ↓zba, ↓zbb, ↓zbc, ↓zbd, ↓zbe, ↓zbf, ↓zbg, ↓zbh, ↓zbi, ↓zbj, ↓zbk, ↓zbl, ↓zbm, ↓zbn, ↓zbo, ↓zbp, ↓zbq, ↓zbr, ↓zbs, ↓zbt, ↓zbu, ↓zbv, ↓zbw, ↓zbx, ↓zby, ↓zbz, ↓zca, ↓zcb, ↓zcc, ↓zcd, ↓zce, ↓zcf, ↓zcg, ↓zch, ↓zci, ↓zcj, ↓zck, ↓zcl, ↓zcm, ↓zcn, ↓zco, ↓zcp, ↓zcq, ↓zcr, ↓zcs, ↓zct, ↓zcu, ↓zcv, ↓zcw, ↓mt, zcx, kwl, ziw, zcy, zcz, zda, zdb, zdc, zix, ziy, ziz, zja, zdd, zde, zdf, zdg, zdh, zdi, zdj, zdk, zdl, zdm, zdn, zdo, zdp, zdq, zjb, Int.reduceEq, Int.reduceNe, zjc, zjd, Nat.reduceEqDiff, Int.reduceLT, Int.reduceLE, Int.reduceNeg, Int.reduceToNat, zje, kdC, zdr, zjf, zjg, nk1, nk2, nk3, nk4, nk5, zjh, zds, zdt, zdu, zdv, ic1, ic2, ic3, ic4, ic5, ic6, zdw, String.reduceBEq, p60, p50, AH.set_self, AH.set_ne, Kx.more, Kx.comp, zji, zjj, zjk, ↓zdx, ↓zdy, ↓zdz, ↓zea, ↓zeb, ↓zec, ↓zed, ↓zee, ↓zef, ↓zeg, ↓zeh, ↓zei, ↓zej, ↓zek, ↓zel, ↓zem, ↓zen, ↓zeo, ↓zep, ↓zeq, ↓zer, ↓zes, ↓zet, ↓zeu, ↓zev, ↓zew, ↓zex, ↓zey, ↓zez, ↓zfa, ↓zfb, ↓zfc, ↓zfd, ↓zfe, ↓zff, ↓zfg, ↓zfh, ↓zfi, ↓zfj, ↓zfk, ↓zfl, ↓zfm, ↓zfn, ↓zfo, ↓zfp, ↓zfq, ↓zfr, ↓zfs, ↓mtE, ↓zft, ↓zfu, ↓zfv, ↓zfw, ↓zfx, ↓zfy, ↓zfz, ↓zga, ↓zgb, ↓zgc, ↓zgd, ↓zge, ↓zgf, ↓zgg, zgh, zgi, zgj, zgk, zgl, zgm, zgn, zgo, zgp, zgq, zgr, zgs, zgt, zgu, zgv, zgw, zgx, zgy, zgz, zha, zhb, zhc, zhd, zhe, zhf, zhg, zhh, zhi, zhj, zhk, zhl, zhm, zhn, zho, zhp, zhq, zhr, zhs, zht, zhu, zhv, zhw, ↓zhx, ↓zhy, ↓zhz, ↓zia, ↓zib, zic, zid, zie, zif, zig, zih, ↓zii, ↓zij, ↓zik, ↓zil, ↓zim, ↓zin, ↓zio, ↓ziq, ↓zir, pk0, pk1, pk2, pk3, pk4, pk5, pk6, zjl, zjm, zjn, zjo, zjp, zjq, zjr, zjs, zjt, zju, zjv, zjw, zjx, zjy, zjz, zka, zkb, zkc, zkd, zke, zkf, zkg, zkh, zki, zkj, reduceCtorEq, zkk, zkl, zkm, zkn, zko, String.reduceEq, Nat.reduceAdd, Nat.reduceLeDiff, Nat.reduceLT, zkp, zkq, zkr, zks, ↓zis, zit, ↓ziu, ziv, *])
    refine made_of fun L1 d7 k1 _ _ g7 => ?_
    replace hrd := k1 _ _ hrd
    replace hsp := k1 _ _ hsp
    replace hf1 := k1 _ _ hf1
    replace hmi := k1 _ _ hmi
    replace hal := k1 _ _ hal
    (simp (maxSteps := 1000000) (implicitDefEqProofs := false) only [↓zb, ↓reduceIte, zc, ↓zd, ↓ze, ↓zg, ↓zh, ↓zi, ↓zj, ↓zk, ↓zl, ↓zn, ↓zo, ↓zp, ↓zq, ↓zr, ↓zt, ↓zu, ↓zv, ↓zw, ↓zx, ↓zy, ↓zz, ↓zba, ↓zbb, ↓zbc, ↓zbd, ↓zbe, ↓zbf, ↓zbg, ↓zbh, ↓zbi, ↓zbj, ↓zbk, ↓zbl, ↓zbm, ↓zbn, ↓zbo, ↓zbp, ↓zbq, ↓zbr, ↓zbs, ↓zbt, ↓zbu, ↓zbv, ↓zbw, ↓zbx, ↓zby, ↓zbz, ↓zca, ↓zcb, ↓zcc, ↓zcd, ↓zce, ↓zcf, ↓zcg, ↓zch, ↓zci, ↓zcj, ↓zck, ↓zcl, ↓zcm, ↓zcn, ↓zco, ↓zcp, ↓zcq, ↓zcr, ↓zcs, ↓zct, ↓zcu, ↓zcv, ↓zcw, ↓mt, zcx, kwl, ziw, zcy, zcz, zda, zdb, zdc, zix, ziy, ziz, zja, zdd, zde, zdf, zdg, zdh, zdi, zdj, zdk, zdl, zdm, zdn, zdo, zdp, zdq, zjb, Int.reduceEq, Int.reduceNe, zjc, zjd, Nat.reduceEqDiff, Int.reduceLT, Int.reduceLE, Int.reduceNeg, Int.reduceToNat, zje, kdC, zdr, zjf, zjg, nk1, nk2, nk3, nk4, nk5, zjh, zds, zdt, zdu, zdv, ic1, ic2, ic3, ic4, ic5, ic6, zdw, String.reduceBEq, p60, p50, AH.set_self, AH.set_ne, Kx.more, Kx.comp, zji, zjj, zjk, ↓zdx, ↓zdy, ↓zdz, ↓zea, ↓zeb, ↓zec, ↓zed, ↓zee, ↓zef, ↓zeg, ↓zeh, ↓zei, ↓zej, ↓zek, ↓zel, ↓zem, ↓zen, ↓zeo, ↓zep, ↓zeq, ↓zer, ↓zes, ↓zet, ↓zeu, ↓zev, ↓zew, ↓zex, ↓zey, ↓zez, ↓zfa, ↓zfb, ↓zfc, ↓zfd, ↓zfe, ↓zff, ↓zfg, ↓zfh, ↓zfi, ↓zfj, ↓zfk, ↓zfl, ↓zfm, ↓zfn, ↓zfo, ↓zfp, ↓zfq, ↓zfr, ↓zfs, ↓mtE, ↓zft, ↓zfu, ↓zfv, ↓zfw, ↓zfx, ↓zfy, ↓zfz, ↓zga, ↓zgb, ↓zgc, ↓zgd, ↓zge, ↓zgf, ↓zgg, zgh, zgi, zgj, zgk, zgl, zgm, zgn, zgo, zgp, zgq, zgr, zgs, zgt, zgu, zgv, zgw, zgx, zgy, zgz, zha, zhb, zhc, zhd, zhe, zhf, zhg, zhh, zhi, zhj, zhk, zhl, zhm, zhn, zho, zhp, zhq, zhr, zhs, zht, zhu, zhv, zhw, ↓zhx, ↓zhy, ↓zhz, ↓zia, ↓zib, zic, zid, zie, zif, zig, zih, ↓zii, ↓zij, ↓zik, ↓zil, ↓zim, ↓zin, ↓zio, ↓ziq, ↓zir, pk0, pk1, pk2, pk3, pk4, pk5, pk6, zjl, zjm, zjn, zjo, zjp, zjq, zjr, zjs, zjt, zju, zjv, zjw, zjx, zjy, zjz, zka, zkb, zkc, zkd, zke, zkf, zkg, zkh, zki, zkj, reduceCtorEq, zkk, zkl, zkm, zkn, zko, String.reduceEq, Nat.reduceAdd, Nat.reduceLeDiff, Nat.reduceLT, zkp, zkq, zkr, zks, ↓zis, zit, ↓ziu, ziv, *])
    refine made_of fun L2 d8 k2 _ _ g8 => ?_
    replace hrd := k2 _ _ hrd
    replace hsp := k2 _ _ hsp
    replace hf1 := k2 _ _ hf1
    replace hal := k2 _ _ hal
    replace g7 := k2 _ _ g7
    refine ⟨sp, d7, d8, st, fwd st es own, bwd st one es, rfl, hsp, g7, g8, ndf, by omega, hcf.out, gm.out, hsz, lowf, ?_⟩
    intro L3 b2 k3 _ _ hb2
    replace hrd := k3 _ _ hrd
    replace hsp := k3 _ _ hsp
    replace hf1 := k3 _ _ hf1
    replace hal := k3 _ _ hal
    clear k1 k2 k3 g7 g8 hmi hb1
    have hw1 := dEq_of (bwd_nodup (st := st) (el := bwd st one es) ndf) ft.nd (bwd_fwd (n := own) ft ag1)
    have hw1' := dSc_dI (bwd st (fwd st es own) (bwd st one es)) es
    (simp (maxSteps := 1000000) (implicitDefEqProofs := false) only [↓zb, ↓reduceIte, zc, ↓zd, ↓ze, ↓zg, ↓zh, ↓zi, ↓zj, ↓zk, ↓zl, ↓zn, ↓zo, ↓zp, ↓zq, ↓zr, ↓zt, ↓zu, ↓zv, ↓zw, ↓zx, ↓zy, ↓zz, ↓zba, ↓zbb, ↓zbc, ↓zbd, ↓zbe, ↓zbf, ↓zbg, ↓zbh, ↓zbi, ↓zbj, ↓zbk, ↓zbl, ↓zbm, ↓zbn, ↓zbo, ↓zbp, ↓zbq, ↓zbr, ↓zbs, ↓zbt, ↓zbu, ↓zbv, ↓zbw, ↓zbx, ↓zby, ↓zbz, ↓zca, ↓zcb, ↓zcc, ↓zcd, ↓zce, ↓zcf, ↓zcg, ↓zch, ↓zci, ↓zcj, ↓zck, ↓zcl, ↓zcm, ↓zcn, ↓zco, ↓zcp, ↓zcq, ↓zcr, ↓zcs, ↓zct, ↓zcu, ↓zcv, ↓zcw, ↓mt, zcx, kwl, ziw, zcy, zcz, zda, zdb, zdc, zix, ziy, ziz, zja, zdd, zde, zdf, zdg, zdh, zdi, zdj, zdk, zdl, zdm, zdn, zdo, zdp, zdq, zjb, Int.reduceEq, Int.reduceNe, zjc, zjd, Nat.reduceEqDiff, Int.reduceLT, Int.reduceLE, Int.reduceNeg, Int.reduceToNat, zje, kdC, zdr, zjf, zjg, nk1, nk2, nk3, nk4, nk5, zjh, zds, zdt, zdu, zdv, ic1, ic2, ic3, ic4, ic5, ic6, zdw, String.reduceBEq, p60, p50, AH.set_self, AH.set_ne, Kx.more, Kx.comp, zji, zjj, zjk, ↓zdx, ↓zdy, ↓zdz, ↓zea, ↓zeb, ↓zec, ↓zed, ↓zee, ↓zef, ↓zeg, ↓zeh, ↓zei, ↓zej, ↓zek, ↓zel, ↓zem, ↓zen, ↓zeo, ↓zep, ↓zeq, ↓zer, ↓zes, ↓zet, ↓zeu, ↓zev, ↓zew, ↓zex, ↓zey, ↓zez, ↓zfa, ↓zfb, ↓zfc, ↓zfd, ↓zfe, ↓zff, ↓zfg, ↓zfh, ↓zfi, ↓zfj, ↓zfk, ↓zfl, ↓zfm, ↓zfn, ↓zfo, ↓zfp, ↓zfq, ↓zfr, ↓zfs, ↓mtE, ↓zft, ↓zfu, ↓zfv, ↓zfw, ↓zfx, ↓zfy, ↓zfz, ↓zga, ↓zgb, ↓zgc, ↓zgd, ↓zge, ↓zgf, ↓zgg, zgh, zgi, zgj, zgk, zgl, zgm, zgn, zgo, zgp, zgq, zgr, zgs, zgt, zgu, zgv, zgw, zgx, zgy, zgz, zha, zhb, zhc, zhd, zhe, zhf, zhg, zhh, zhi, zhj, zhk, zhl, zhm, zhn, zho, zhp, zhq, zhr, zhs, zht, zhu, zhv, zhw, ↓zhx, ↓zhy, ↓zhz, ↓zia, ↓zib, zic, zid, zie, zif, zig, zih, ↓zii, ↓zij, ↓zik, ↓zil, ↓zim, ↓zin, ↓zio, ↓ziq, ↓zir, pk0, pk1, pk2, pk3, pk4, pk5, pk6, zjl, zjm, zjn, zjo, zjp, zjq, zjr, zjs, zjt, zju, zjv, zjw, zjx, zjy, zjz, zka, zkb, zkc, zkd, zke, zkf, zkg, zkh, zki, zkj, reduceCtorEq, zkk, zkl, zkm, zkn, zko, String.reduceEq, Nat.reduceAdd, Nat.reduceLeDiff, Nat.reduceLT, zkp, zkq, zkr, zks, ↓zis, zit, ↓ziu, ziv, *])
    refine made_of fun L4 d9 k4 _ _ g9 => ?_
    replace hrd := k4 _ _ hrd
    replace hsp := k4 _ _ hsp
    replace hal := k4 _ _ hal
    (simp (maxSteps := 1000000) (implicitDefEqProofs := false) only [↓zb, ↓reduceIte, zc, ↓zd, ↓ze, ↓zg, ↓zh, ↓zi, ↓zj, ↓zk, ↓zl, ↓zn, ↓zo, ↓zp, ↓zq, ↓zr, ↓zt, ↓zu, ↓zv, ↓zw, ↓zx, ↓zy, ↓zz, ↓zba, ↓zbb, ↓zbc, ↓zbd, ↓zbe, ↓zbf, ↓zbg, ↓zbh, ↓zbi, ↓zbj, ↓zbk, ↓zbl, ↓zbm, ↓zbn, ↓zbo, ↓zbp, ↓zbq, ↓zbr, ↓zbs, ↓zbt, ↓zbu, ↓zbv, ↓zbw, ↓zbx, ↓zby, ↓zbz, ↓zca, ↓zcb, ↓zcc, ↓zcd, ↓zce, ↓zcf, ↓zcg, ↓zch, ↓zci, ↓zcj, ↓zck, ↓zcl, ↓zcm, ↓zcn, ↓zco, ↓zcp, ↓zcq, ↓zcr, ↓zcs, ↓zct, ↓zcu, ↓zcv, ↓zcw, ↓mt, zcx, kwl, ziw, zcy, zcz, zda, zdb, zdc, zix, ziy, ziz, zja, zdd, zde, zdf, zdg, zdh, zdi, zdj, zdk, zdl, zdm, zdn, zdo, zdp, zdq, zjb, Int.reduceEq, Int.reduceNe, zjc, zjd, Nat.reduceEqDiff, Int.reduceLT, Int.reduceLE, Int.reduceNeg, Int.reduceToNat, zje, kdC, zdr, zjf, zjg, nk1, nk2, nk3, nk4, nk5, zjh, zds, zdt, zdu, zdv, ic1, ic2, ic3, ic4, ic5, ic6, zdw, String.reduceBEq, p60, p50, AH.set_self, AH.set_ne, Kx.more, Kx.comp, zji, zjj, zjk, ↓zdx, ↓zdy, ↓zdz, ↓zea, ↓zeb, ↓zec, ↓zed, ↓zee, ↓zef, ↓zeg, ↓zeh, ↓zei, ↓zej, ↓zek, ↓zel, ↓zem, ↓zen, ↓zeo, ↓zep, ↓zeq, ↓zer, ↓zes, ↓zet, ↓zeu, ↓zev, ↓zew, ↓zex, ↓zey, ↓zez, ↓zfa, ↓zfb, ↓zfc, ↓zfd, ↓zfe, ↓zff, ↓zfg, ↓zfh, ↓zfi, ↓zfj, ↓zfk, ↓zfl, ↓zfm, ↓zfn, ↓zfo, ↓zfp, ↓zfq, ↓zfr, ↓zfs, ↓mtE, ↓zft, ↓zfu, ↓zfv, ↓zfw, ↓zfx, ↓zfy, ↓zfz, ↓zga, ↓zgb, ↓zgc, ↓zgd, ↓zge, ↓zgf, ↓zgg, zgh, zgi, zgj, zgk, zgl, zgm, zgn, zgo, zgp, zgq, zgr, zgs, zgt, zgu, zgv, zgw, zgx, zgy, zgz, zha, zhb, zhc, zhd, zhe, zhf, zhg, zhh, zhi, zhj, zhk, zhl, zhm, zhn, zho, zhp, zhq, zhr, zhs, zht, zhu, zhv, zhw, ↓zhx, ↓zhy, ↓zhz, ↓zia, ↓zib, zic, zid, zie, zif, zig, zih, ↓zii, ↓zij, ↓zik, ↓zil, ↓zim, ↓zin, ↓zio, ↓ziq, ↓zir, pk0, pk1, pk2, pk3, pk4, pk5, pk6, zjl, zjm, zjn, zjo, zjp, zjq, zjr, zjs, zjt, zju, zjv, zjw, zjx, zjy, zjz, zka, zkb, zkc, zkd, zke, zkf, zkg, zkh, zki, zkj, reduceCtorEq, zkk, zkl, zkm, zkn, zko, String.reduceEq, Nat.reduceAdd, Nat.reduceLeDiff, Nat.reduceLT, zkp, zkq, zkr, zks, ↓zis, zit, ↓ziu, ziv, *])
    refine made_of fun L5 d10 k5 _ _ g10 => ?_
    replace hrd := k5 _ _ hrd
    replace hsp := k5 _ _ hsp
    replace g9 := k5 _ _ g9
    refine ⟨sp, d9, d10, st, fwd st es own, bwd st two es, rfl, hsp, g9, g10, ndf, by omega, hcf.out, ga.out, hsz, lowf, ?_⟩
    intro L6 b3 k6 _ _ hb3
    replace hrd := k6 _ _ hrd
    have hw2 := dEq_of (bwd_nodup (st := st) (el := bwd st two es) ndf) ft.nd (bwd_fwd (n := own) ft ag2)
    have hw2' := dSc_dI (bwd st (fwd st es own) (bwd st two es)) es
    clear k4 k5 k6 g9 g10 hb2
    have h := h.out
    (simp (maxSteps := 1000000) (implicitDefEqProofs := false) only [↓zb, ↓reduceIte, zc, ↓zd, ↓ze, ↓zg, ↓zh, ↓zi, ↓zj, ↓zk, ↓zl, ↓zn, ↓zo, ↓zp, ↓zq, ↓zr, ↓zt, ↓zu, ↓zv, ↓zw, ↓zx, ↓zy, ↓zz, ↓zba, ↓zbb, ↓zbc, ↓zbd, ↓zbe, ↓zbf, ↓zbg, ↓zbh, ↓zbi, ↓zbj, ↓zbk, ↓zbl, ↓zbm, ↓zbn, ↓zbo, ↓zbp, ↓zbq, ↓zbr, ↓zbs, ↓zbt, ↓zbu, ↓zbv, ↓zbw, ↓zbx, ↓zby, ↓zbz, ↓zca, ↓zcb, ↓zcc, ↓zcd, ↓zce, ↓zcf, ↓zcg, ↓zch, ↓zci, ↓zcj, ↓zck, ↓zcl, ↓zcm, ↓zcn, ↓zco, ↓zcp, ↓zcq, ↓zcr, ↓zcs, ↓zct, ↓zcu, ↓zcv, ↓zcw, ↓mt, zcx, kwl, ziw, zcy, zcz, zda, zdb, zdc, zix, ziy, ziz, zja, zdd, zde, zdf, zdg, zdh, zdi, zdj, zdk, zdl, zdm, zdn, zdo, zdp, zdq, zjb, Int.reduceEq, Int.reduceNe, zjc, zjd, Nat.reduceEqDiff, Int.reduceLT, Int.reduceLE, Int.reduceNeg, Int.reduceToNat, zje, kdC, zdr, zjf, zjg, nk1, nk2, nk3, nk4, nk5, zjh, zds, zdt, zdu, zdv, ic1, ic2, ic3, ic4, ic5, ic6, zdw, String.reduceBEq, p60, p50, AH.set_self, AH.set_ne, Kx.more, Kx.comp, zji, zjj, zjk, ↓zdx, ↓zdy, ↓zdz, ↓zea, ↓zeb, ↓zec, ↓zed, ↓zee, ↓zef, ↓zeg, ↓zeh, ↓zei, ↓zej, ↓zek, ↓zel, ↓zem, ↓zen, ↓zeo, ↓zep, ↓zeq, ↓zer, ↓zes, ↓zet, ↓zeu, ↓zev, ↓zew, ↓zex, ↓zey, ↓zez, ↓zfa, ↓zfb, ↓zfc, ↓zfd, ↓zfe, ↓zff, ↓zfg, ↓zfh, ↓zfi, ↓zfj, ↓zfk, ↓zfl, ↓zfm, ↓zfn, ↓zfo, ↓zfp, ↓zfq, ↓zfr, ↓zfs, ↓mtE, ↓zft, ↓zfu, ↓zfv, ↓zfw, ↓zfx, ↓zfy, ↓zfz, ↓zga, ↓zgb, ↓zgc, ↓zgd, ↓zge, ↓zgf, ↓zgg, zgh, zgi, zgj, zgk, zgl, zgm, zgn, zgo, zgp, zgq, zgr, zgs, zgt, zgu, zgv, zgw, zgx, zgy, zgz, zha, zhb, zhc, zhd, zhe, zhf, zhg, zhh, zhi, zhj, zhk, zhl, zhm, zhn, zho, zhp, zhq, zhr, zhs, zht, zhu, zhv, zhw, ↓zhx, ↓zhy, ↓zhz, ↓zia, ↓zib, zic, zid, zie, zif, zig, zih, ↓zii, ↓zij, ↓zik, ↓zil, ↓zim, ↓zin, ↓zio, ↓ziq, ↓zir, pk0, pk1, pk2, pk3, pk4, pk5, pk6, zjl, zjm, zjn, zjo, zjp, zjq, zjr, zjs, zjt, zju, zjv, zjw, zjx, zjy, zjz, zka, zkb, zkc, zkd, zke, zkf, zkg, zkh, zki, zkj, reduceCtorEq, zkk, zkl, zkm, zkn, zko, String.reduceEq, Nat.reduceAdd, Nat.reduceLeDiff, Nat.reduceLT, zkp, zkq, zkr, zks, ↓zis, zit, ↓ziu, ziv, *])

def defsL : List Nat := [4, 5, 6, 7, 8, 10, 11, 12, 13, 14, 15]
def keepL : List Nat := [1, 2, 4, 5, 6, 7, 8, 10, 11, 12, 13, 14, 15]

theorem lawL {C : Cx} {p : Program} {loose : List Str} {mean : ExcName → Option Value} (T : Top p loose mean C.mg C.mb C.h₀) (hr : recs p = rowRecs pw defsL) (hf : freeOk p loose (gvB.map (·.1)) = true) :
    ∃ a, C.mg "law" = some (.ref a) ∧ ∀ (scr : List Int) l H, AH.get H l = some (.rlist (scr.map V.int)) → TopTo C 3 (.ref a) [.ref l] (fun v => v = .bool true) H := by
  have gv : ∀ q ∈ gvB, ∃ cv, GV C q.1 = some cv ∧ toV cv = q.2 := by
    intro q hq
    have hm : q.1 ∈ gvB.map (·.1) := List.mem_map.mpr ⟨q, hq, rfl⟩
    simp only [gvB, List.mem_cons, List.not_mem_nil, or_false] at hq
    rcases hq with rfl | rfl | rfl | rfl | rfl <;> exact gv_free T hf hm rfl rfl
  have G0 : ∀ d, GenT C d gvB [] true := fun d => ⟨gv, fun x h => by cases h⟩
  obtain ⟨a1, _, m1, c1, f1⟩ := fnAt_row T hr 4 "begun_from" ["step"] (by decide) rfl ⟨rfl, rfl, rfl, rfl, rfl⟩ rfl
  obtain ⟨a2, _, m2, c2, f2⟩ := fnAt_row T hr 5 "brought" ["step"] (by decide) rfl ⟨rfl, rfl, rfl, rfl, rfl⟩ rfl
  obtain ⟨a3, _, m3, c3, f3⟩ := fnAt_row T hr 6 "staying_of" ["reading", "gone"] (by decide) rfl ⟨rfl, rfl, rfl, rfl, rfl⟩ rfl
  obtain ⟨a4, _, m4, c4, f4⟩ := fnAt_row T hr 7 "forth" ["step", "reading", "own"] (by decide) rfl ⟨rfl, rfl, rfl, rfl, rfl⟩ rfl
  obtain ⟨a5, _, m5, c5, f5⟩ := fnAt_row T hr 8 "back" ["step", "reading", "elder"] (by decide) rfl ⟨rfl, rfl, rfl, rfl, rfl⟩ rfl
  obtain ⟨a6, _, m6, c6, f6⟩ := fnAt_row T hr 10 "_law_cell_at" ["_law_script", "_law_k"] (by decide) rfl ⟨rfl, rfl, rfl, rfl, rfl⟩ rfl
  obtain ⟨a7, _, m7, c7, f7⟩ := fnAt_row T hr 11 "_law_pool" ["_law_cell"] (by decide) rfl ⟨rfl, rfl, rfl, rfl, rfl⟩ rfl
  obtain ⟨a8, _, m8, c8, f8⟩ := fnAt_row T hr 12 "_law_number" ["_law_cell"] (by decide) rfl ⟨rfl, rfl, rfl, rfl, rfl⟩ rfl
  obtain ⟨a9, _, m9, c9, f9⟩ := fnAt_row T hr 13 "_law_step" ["_law_kind", "_law_names", "_law_new", "_law_size", "_law_n"] (by decide) rfl ⟨rfl, rfl, rfl, rfl, rfl⟩ rfl
  obtain ⟨a10, _, m10, c10, f10⟩ := fnAt_row T hr 14 "_law_other" ["_law_script", "_law_at", "_law_step_here", "_law_reading"] (by decide) rfl ⟨rfl, rfl, rfl, rfl, rfl⟩ rfl
  obtain ⟨a12, m12, _, _, f12⟩ := fnAt_row T hr 15 "law" ["_law_script"] (by decide) rfl ⟨rfl, rfl, rfl, rfl, rfl⟩ rfl
  have hcell : ∀ d fz vs Q X H, T_cell fz vs Q X H → CallsTo C fz (d + 1) true (.ref a6) vs Q X H := fun d _ _ _ _ _ h => ok_cell f6 (G0 d) h
  have hnum : ∀ d fz vs Q X H, T_number fz vs Q X H → CallsTo C fz (d + 1) true (.ref a8) vs Q X H := fun d _ _ _ _ _ h => ok_number f8 (G0 d) h
  have GF : GenT C 1 gvB ctF true := ⟨gv, fun x h => by
    simp only [ctF, List.mem_cons, List.not_mem_nil, or_false] at h
    rcases h with rfl | rfl
    · exact ⟨_, m3, c3, fun fz vs Q X H h => ok_staying f3 (G0 0) h⟩
    · exact ⟨_, m1, c1, fun fz vs Q X H h => ok_begun f1 (G0 0) h⟩⟩
  have GB : GenT C 1 gvB ctB true := ⟨gv, fun x h => by
    simp only [ctB, List.mem_cons, List.not_mem_nil, or_false] at h
    rcases h with rfl | rfl
    · exact ⟨_, m3, c3, fun fz vs Q X H h => ok_staying f3 (G0 0) h⟩
    · exact ⟨_, m2, c2, fun fz vs Q X H h => ok_brought f2 (G0 0) h⟩⟩
  have GO : GenT C 1 gvB ctO true := ⟨gv, fun x h => by
    simp only [ctO, List.mem_cons, List.not_mem_nil, or_false] at h
    rcases h with rfl | rfl
    · exact ⟨_, m6, c6, hcell 0⟩
    · exact ⟨_, m8, c8, hnum 0⟩⟩
  have GL : GenT C 2 gvB ctL true := ⟨gv, fun x h => by
    simp only [ctL, List.mem_cons, List.not_mem_nil, or_false] at h
    rcases h with rfl | rfl | rfl | rfl | rfl | rfl | rfl
    · exact ⟨_, m7, c7, fun fz vs Q X H h => ok_pool f7 (G0 1) h⟩
    · exact ⟨_, m6, c6, hcell 1⟩
    · exact ⟨_, m8, c8, hnum 1⟩
    · exact ⟨_, m9, c9, fun fz vs Q X H h => ok_step f9 (G0 1) h⟩
    · exact ⟨_, m4, c4, fun fz vs Q X H h => ok_forth f4 GF h⟩
    · exact ⟨_, m10, c10, fun fz vs Q X H h => ok_other f10 GO h⟩
    · exact ⟨_, m5, c5, fun fz vs Q X H h => ok_back f5 GB h⟩⟩
  exact ⟨a12, m12, fun scr l H hl => ok_law f12 GL hl rfl⟩
end Mine

namespace Mine
open PySem PySem.W PyProof.Rows
def viewOf (p : Program) (is : List Nat) : Program := { p with main := { p.main with body := is.filterMap fun i => p.main.body[i]? } }
end Mine
open PySem PySem.W PyProof.Rows
set_option maxRecDepth 100000 in
set_option maxHeartbeats 8000000 in
theorem PySem.Challenge.cw_uf040039_05_holds : PySem.Challenge.rw_uf040039_05.Holds := by
  w_on; o_law
  refine holds_open (q := Mine.viewOf PySem.Challenge.pw_uf040039_05 Mine.keepL) (loose := []) (Xt := fun s => xlAt (Mine.viewOf PySem.Challenge.pw_uf040039_05 Mine.keepL) [] s && recOk (RowW.records (OpenRow.toRowW (OpenLaw.row PySem.Challenge.rw_uf040039_05))) s) (XP := XL (Mine.viewOf PySem.Challenge.pw_uf040039_05 Mine.keepL) []) (Yf := Hook.obs Hook.none) (Ya := Hook.val Hook.none) (YP := Hook.says Hook.none) (N := 3000) ?hl (Hook.of Hook.none) (Hook.keeps Hook.none) (fun s e => xl_of s (Bool.and_eq_true_iff.mp e).1) XL.keeps (by rfl) (by rfl) (by rfl) (fun s e => recFacts_of (Bool.and_eq_true_iff.mp e).2) (by rfl) (by first | assumption | decide +kernel) (by decide +kernel) ⟨rfl, rfl, rfl, rfl, rfl, by decide +kernel⟩ ?hw ?hc
  case hl => exact fun w => by kernel_rfl
  case hw => w_witness2
  case hc =>
    intro w s₀ s₁ mg mb G Y fa o pm cd doc dV kV ho hd hcd hD hmg hg args vals as hpre hlay hrd hwl hlo
    refine Ground.open G ?_
    intro T B D TE TW
    wrow_args hpre hlay hrd hwl hlo
    all_goals (
      clear hd hcd hD Y B D TE TW ho
      refine Mine.law_entry (d := 3) T (by decide +kernel) hg hmg ‹_› ‹_› ‹_› (by decide) (Mine.well_dict ‹_›) ?_ ?_
      · obtain ⟨a, ha, hl⟩ := Mine.lawL (C := Mine.cxOf _ w s₁ T (by decide +kernel)) T rfl (by decide +kernel)
        exact ⟨a, ha, fun l H e => hl _ l H e⟩
      · exact ⟨fun _ => rfl, by with_unfolding_all rfl, fun _ => by constructor⟩)
