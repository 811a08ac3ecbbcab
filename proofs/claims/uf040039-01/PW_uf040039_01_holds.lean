import PyProof.Rows.All
import KE.KDictSum
import KE.KEqDict
import Wide.All
import OpenK.AllK
import Wide.FinOn
import PySem.Challenge.RW_uf040039_01
set_option Elab.async false
set_option autoImplicit false
set_option linter.unusedVariables false
set_option linter.unusedSimpArgs false
namespace Mine
open PySem PySem.Calls
inductive V where
  | none | ell | nimp
  | bool (b : Bool) | int (i : Int) | flt (x : UInt64) | str (s : Str) | bytes (b : Array UInt8)
  | typ (n : String) | bi (id : String) | ref (a : Nat)
  deriving DecidableEq, Inhabited
def toV : Value → V
  | .none => .none | .ellipsis => .ell | .notImplemented => .nimp
  | .bool b => .bool b | .int i _ => .int i | .float x _ => .flt x | .str s _ => .str s | .bytes b _ => .bytes b
  | .type n => .typ n | .builtin id => .bi id | .ref a => .ref a
theorem toV_int {v : Value} {i : Int} (h : toV v = .int i) : ∃ t, v = .int i t := by cases v <;> simp [toV] at h; subst h; exact ⟨_, rfl⟩
theorem toV_str {v : Value} {x : Str} (h : toV v = .str x) : ∃ t, v = .str x t := by cases v <;> simp [toV] at h; subst h; exact ⟨_, rfl⟩
theorem toV_bool {v : Value} {b : Bool} (h : toV v = .bool b) : v = .bool b := by cases v <;> simp [toV] at h; subst h; rfl
theorem toV_ref {v : Value} {a : Nat} (h : toV v = .ref a) : v = .ref a := by cases v <;> simp [toV] at h; subst h; rfl
theorem toV_none {v : Value} (h : toV v = .none) : v = .none := by cases v <;> simp [toV] at h; rfl
inductive Node where
  | list (xs : List V)
  | rlist (xs : List V)
  | tuple (xs : List V)
  | sdict (es : List (Str × V))
  | idict (es : List (Int × V))
  | rng (a b c : Int)
  | inst (cls : Nat) (d : Nat)
  | exc (i : Nat)
def Node.isRO : Node → Bool
  | .rlist _ => true
  | _ => false
structure AH where
  get : Nat → Option Node
def AH.set (H : AH) (a : Nat) (n : Node) : AH := ⟨fun b => if b = a then some n else H.get b⟩
theorem AH.set_self (H : AH) (a : Nat) (n : Node) : (H.set a n).get a = some n := by simp [AH.set]
theorem AH.set_ne (H : AH) {a b : Nat} (n : Node) (h : b ≠ a) : (H.set a n).get b = H.get b := by simp [AH.set, h]
structure Cx where
  prog : Program
  w : World
  h₀ : Heap
  mg : Str → Option Value
  mb : Str → Option Value
  gens : Array GenState
  os : OsState
  ex : List Addr
  gns : h₀.Ns mainGlobals mg
  bns : h₀.Ns builtinsNs mb
  nolim : h₀.NoLimit
  mods : ∃ o, h₀.get? sysModules = some o
abbrev Cx.M (C : Cx) : Model := model C.prog C.w
def ObjIs (C : Cx) (o : Obj) : Node → Prop
  | .list xs => xs.length < 2 ^ 62 ∧ ∃ vs k, o = { cls := .type "list", data := .seq vs k } ∧ vs.toList.map toV = xs
  | .rlist xs => xs.length < 2 ^ 62 ∧ o.cls = .type "list" ∧ o.dict = none ∧ ∃ vs k, o.data = .seq vs k ∧ vs.toList.map toV = xs
  | .tuple xs => xs.length < 2 ^ 62 ∧ o.cls = .type "tuple" ∧ o.dict = none ∧ ∃ vs k, o.data = .seq vs k ∧ vs.toList.map toV = xs
  | .sdict es => es.length < 2 ^ 62 ∧ ∃ kvs, o.IsDictOf (strKind C.prog C.w) kvs ∧ kvs.map (fun p => (p.1, toV p.2)) = es
  | .idict es => es.length < 2 ^ 62 ∧ ∃ kvs, o.IsDictOf (intKind C.prog C.w) kvs ∧ kvs.map (fun p => (p.1, toV p.2)) = es
  | .rng a b c => ∃ t u v, o = { cls := .type "range", data := .fields #[.int a t, .int b u, .int c v] }
  | .inst c d => o.cls = .ref c ∧ o.dict = some d ∧ o.data = .plain
  | .exc i => ∃ a, C.ex[i]? = some a ∧ o.cls = .ref a
def NodeAt (C : Cx) (h : Heap) (a : Addr) (n : Node) : Prop := ∃ o, h.get? a = some o ∧ ObjIs C o n
def Node.seqL : Node → Option (List V)
  | .list xs | .rlist xs => some xs
  | _ => none
theorem NodeAt.isList {C : Cx} {h : Heap} {a : Addr} {n : Node} {xs : List V} (x : NodeAt C h a n) (e : n.seqL = some xs) : ∃ vs, h.IsList a vs ∧ vs.toList.map toV = xs ∧ xs.length < 2 ^ 62 := by
  obtain ⟨o, ho, r⟩ := x
  cases n <;> simp [Node.seqL] at e <;> subst e
  · obtain ⟨hz, vs, k, rfl, hv⟩ := r; exact ⟨vs, ⟨_, ho, rfl, k, rfl⟩, hv, hz⟩
  · obtain ⟨hz, hc, hd, vs, k, hs, hv⟩ := r; exact ⟨vs, ⟨_, ho, hc, k, hs⟩, hv, hz⟩
theorem NodeAt.plainList {C : Cx} {h : Heap} {a : Addr} {xs : List V} (x : NodeAt C h a (.list xs)) : ∃ vs, h.PlainList a vs ∧ vs.toList.map toV = xs ∧ xs.length < 2 ^ 62 := by
  obtain ⟨o, ho, hz, vs, k, rfl, hv⟩ := x; exact ⟨vs, ⟨k, ho⟩, hv, hz⟩
theorem NodeAt.isTuple {C : Cx} {h : Heap} {a : Addr} {xs : List V} (x : NodeAt C h a (.tuple xs)) : ∃ vs, h.IsTuple a vs ∧ vs.toList.map toV = xs ∧ xs.length < 2 ^ 62 := by
  obtain ⟨o, ho, hz, hc, hd, vs, k, hs, hv⟩ := x; exact ⟨vs, ⟨_, ho, hc, k, hs⟩, hv, hz⟩
theorem NodeAt.sdict {C : Cx} {h : Heap} {a : Addr} {es : List (Str × V)} (x : NodeAt C h a (.sdict es)) : ∃ kvs, h.DictOf (strKind C.prog C.w) a kvs ∧ kvs.map (fun p => (p.1, toV p.2)) = es ∧ es.length < 2 ^ 62 := by
  obtain ⟨o, ho, hz, kvs, hd, he⟩ := x; exact ⟨kvs, Heap.dictOf_iff.mpr ⟨o, ho, hd⟩, he, hz⟩
theorem NodeAt.idict {C : Cx} {h : Heap} {a : Addr} {es : List (Int × V)} (x : NodeAt C h a (.idict es)) : ∃ kvs, h.DictOf (intKind C.prog C.w) a kvs ∧ kvs.map (fun p => (p.1, toV p.2)) = es ∧ es.length < 2 ^ 62 := by
  obtain ⟨o, ho, hz, kvs, hd, he⟩ := x; exact ⟨kvs, Heap.dictOf_iff.mpr ⟨o, ho, hd⟩, he, hz⟩
def Node.seq : Node → Option (List V)
  | .list xs | .rlist xs | .tuple xs => some xs
  | _ => none
theorem NodeAt.at {C : Cx} {h h' : Heap} {a : Addr} {n : Node} (x : NodeAt C h a n) (k : ∀ o, h.get? a = some o → h'.get? a = some o) : NodeAt C h' a n :=
  let ⟨o, ho, r⟩ := x; ⟨o, k o ho, r⟩
def Kept (o : Obj) (x : Option Obj) : Prop := ∃ sl, x = some { o with slots := sl } ∧ ((∀ es ep, o.data ≠ .dict es ep) → sl = o.slots)
theorem Kept.refl (o : Obj) : Kept o (some o) := ⟨o.slots, rfl, fun _ => rfl⟩
theorem Kept.same {o : Obj} {x : Option Obj} (h : Kept o x) (hc : ∀ es ep, o.data ≠ .dict es ep) : x = some o := by
  obtain ⟨sl, e, q⟩ := h; rw [q hc] at e; exact e
theorem Kept.trans {o : Obj} {x y : Option Obj} (h : Kept o x) (k : ∀ o', x = some o' → Kept o' y) : Kept o y := by
  obtain ⟨sl, e, q⟩ := h
  obtain ⟨sl', e', q'⟩ := k _ e
  exact ⟨sl', e', fun hc => (q' hc).trans (q hc)⟩
structure Snap where
  h : Heap
  H : AH
  own : List Addr
  fz : List Addr
def ownOf (env : Env) : List Addr := env.locals :: env.cells.map (·.2)
structure EnvOk (env : Env) : Prop where
  kind : env.scope.kind = .function
  globals : env.globals = mainGlobals
  builtins : env.builtins = builtinsNs
  apart : (ownOf env).Nodup
  cell : ∀ x, env.kindOf x = some .cell ∨ env.kindOf x = some .free → ∃ c, env.cells.lookup x = some c
def VarAt (env : Env) (m : Str → Option Value) (h : Heap) (x : Str) (v : Value) : Prop :=
  (env.kindOf x = some .local ∧ m x = some v) ∨ ((env.kindOf x = some .cell ∨ env.kindOf x = some .free) ∧ ∃ c, env.cells.lookup x = some c ∧ h.IsCell c (some v))
structure Inv (C : Cx) (sn : Snap) (env : Env) (ρ : Str → Option V) (H : AH) (s : Shared) : Prop where
  ok : EnvOk env
  base : ∀ b o, C.h₀.get? b = some o → s.heap.get? b = some o
  nodes : ∀ a n, H.get a = some n → NodeAt C s.heap a n
  new : ∀ a n, H.get a = some n → n.isRO = false → C.h₀.get? a = none
  hid : ∀ b o, sn.h.get? b = some o → sn.H.get b = none → b ∉ sn.own → H.get b = none ∧ Kept o (s.heap.get? b)
  fresh : ∀ b ∈ ownOf env, H.get b = none ∧ C.h₀.get? b = none
  vars : ∃ m, s.heap.Ns env.locals m ∧ ∀ x v, ρ x = some v → ∃ cv, VarAt env m s.heap x cv ∧ toV cv = v
  cells : ∀ p ∈ env.cells, ∃ v, s.heap.IsCell p.2 v
  gens : s.gens = C.gens
  os : s.os = C.os
  mine : ∀ b ∈ ownOf env, ∀ o, sn.h.get? b = some o → b ∈ sn.own
  frz : ∀ b ∈ sn.fz, s.heap.get? b = sn.h.get? b ∧ ∃ n, H.get b = some n
  live : ∀ b o, sn.h.get? b = some o → ∃ o', s.heap.get? b = some o'
section
variable {C : Cx} {sn : Snap} {env : Env} {ρ : Str → Option V} {H : AH} {s : Shared}
theorem Inv.none_of_new (I : Inv C sn env ρ H s) {a : Addr} (h : s.heap.get? a = none) : H.get a = none := by
  cases q : H.get a with
  | none => rfl
  | some n => obtain ⟨o, ho, _⟩ := I.nodes a n q; rw [h] at ho; cases ho
theorem get_size (h : Heap) : h.get? h.objs.size = none := by
  cases q : h.get? h.objs.size with
  | none => rfl
  | some o => exact absurd (Heap.lt_size q) (Nat.lt_irrefl _)
theorem Inv.toks (I : Inv C sn env ρ H s) (tk : Nat) : Inv C sn env ρ H { s with toks := tk } :=
  ⟨I.ok, I.base, I.nodes, I.new, I.hid, I.fresh, I.vars, I.cells, I.gens, I.os, I.mine, I.frz, I.live⟩
theorem VarAt.keeps {m : Str → Option Value} {h h' : Heap} {x : Str} {v : Value} (a : VarAt env m h x v) (k : ∀ b ∈ ownOf env, ∀ o, h.get? b = some o → h'.get? b = some o) : VarAt env m h' x v := by
  rcases a with a | ⟨a, c, hc, o, ho, hd⟩
  · exact .inl a
  · refine .inr ⟨a, c, hc, o, k c ?_ o ho, hd⟩
    exact List.mem_cons_of_mem _ (List.mem_map.mpr ⟨_, mem_of_lookup hc, rfl⟩)
theorem Inv.keeps (I : Inv C sn env ρ H s) {h' : Heap} {tk : Nat} (k : ∀ b o, s.heap.get? b = some o → h'.get? b = some o) : Inv C sn env ρ H { s with heap := h', toks := tk } where
  ok := I.ok
  base := fun b o e => k b o (I.base b o e)
  nodes := fun a n e => (I.nodes a n e).at (k a)
  new := I.new
  hid := fun b o e e1 e2 => by
    obtain ⟨q, r⟩ := I.hid b o e e1 e2
    refine ⟨q, r.trans fun o' ho' => ?_⟩
    rw [show ({ s with heap := h', toks := tk } : Shared).heap.get? b = some o' from k b o' ho']; exact Kept.refl _
  fresh := I.fresh
  vars := by
    obtain ⟨m, hn, hv⟩ := I.vars
    refine ⟨m, hn.keeps k, fun x v e => ?_⟩
    obtain ⟨cv, a, b⟩ := hv x v e
    exact ⟨cv, a.keeps fun b _ o => k b o, b⟩
  cells := fun p e => let ⟨v, q⟩ := I.cells p e; ⟨v, q.keeps k⟩
  gens := I.gens
  os := I.os
  mine := I.mine
  frz := fun b hb => by
    obtain ⟨q, n, e⟩ := I.frz b hb
    obtain ⟨o, ho, _⟩ := I.nodes b n e
    exact ⟨by rw [← q, ho]; exact k b o ho, n, e⟩
  live := fun b o e => let ⟨o', h⟩ := I.live b o e; ⟨o', k b o' h⟩
theorem Inv.come (I : Inv C sn env ρ H s) {h' : Heap} {tk : Nat} {a : Addr} {n : Node} (k : ∀ b o, s.heap.get? b = some o → h'.get? b = some o) (ha : s.heap.get? a = none) (hn : NodeAt C h' a n) :
    Inv C sn env ρ (H.set a n) { s with heap := h', toks := tk } := by
  have J := I.keeps (tk := tk) k
  refine ⟨J.ok, J.base, fun b m e => ?_, fun b m e r => ?_, fun b o e e1 e2 => ?_, fun b hb => ?_, J.vars, J.cells, J.gens, J.os, J.mine, fun b hb => ?_, J.live⟩
  · by_cases h : b = a
    · subst h; rw [AH.set_self] at e; cases e; exact hn
    · rw [AH.set_ne _ _ h] at e; exact J.nodes b m e
  · by_cases h : b = a
    · subst h
      cases q : C.h₀.get? b with
      | none => rfl
      | some o => have := I.base b o q; rw [ha] at this; cases this
    · rw [AH.set_ne _ _ h] at e; exact I.new b m e r
  · obtain ⟨q, r⟩ := J.hid b o e e1 e2
    refine ⟨?_, r⟩
    rw [AH.set_ne _ _ ?_]; exact q
    rintro rfl
    obtain ⟨q', r'⟩ := I.hid b o e e1 e2
    rw [ha] at r'; obtain ⟨_, x, _⟩ := r'; cases x
  · obtain ⟨q, r⟩ := I.fresh b hb
    refine ⟨?_, r⟩
    rw [AH.set_ne _ _ ?_]; exact q
    rintro rfl
    rcases List.mem_cons.mp hb with e | hb
    · obtain ⟨m, hm, _⟩ := I.vars
      obtain ⟨o, _, _, ho, _⟩ := hm
      rw [← e] at ho; rw [ha] at ho; cases ho
    · obtain ⟨p, hp, rfl⟩ := List.mem_map.mp hb
      obtain ⟨v, o, ho, _⟩ := I.cells p hp
      rw [ha] at ho; cases ho
  · obtain ⟨q, m, e⟩ := J.frz b hb
    refine ⟨q, m, ?_⟩
    rw [AH.set_ne _ _ ?_]; exact e
    rintro rfl
    rw [I.none_of_new ha] at e; cases e
theorem Inv.own_there (I : Inv C sn env ρ H s) {b : Addr} (hb : b ∈ ownOf env) : ∃ o, s.heap.get? b = some o := by
  rcases List.mem_cons.mp hb with rfl | hb
  · obtain ⟨m, ⟨o, _, _, ho, _⟩, _⟩ := I.vars; exact ⟨o, ho⟩
  · obtain ⟨p, hp, rfl⟩ := List.mem_map.mp hb
    obtain ⟨v, o, ho, _⟩ := I.cells p hp; exact ⟨o, ho⟩
theorem Inv.turn (I : Inv C sn env ρ H s) {h' : Heap} {tk : Nat} {a : Addr} {n n' : Node} (hn : H.get a = some n) (hro : n.isRO = false) (hfz : a ∉ sn.fz) (k : Heap.ExtBut a s.heap h') (hn' : NodeAt C h' a n') :
    Inv C sn env ρ (H.set a n') { s with heap := h', toks := tk } := by
  have hne : ∀ b, H.get b = none → b ≠ a := fun b e q => by rw [q, hn] at e; cases e
  refine ⟨I.ok, fun b o e => ?_, fun b m e => ?_, fun b m e r => ?_, fun b o e e1 e2 => ?_, fun b hb => ?_, ?_, fun p hp => ?_, I.gens, I.os, I.mine, fun b hb => ?_, fun b o e => ?_⟩
  · refine k b o ?_ (I.base b o e)
    rintro rfl
    have := I.new b n hn hro; rw [this] at e; cases e
  · by_cases h : b = a
    · subst h; rw [AH.set_self] at e; cases e; exact hn'
    · rw [AH.set_ne _ _ h] at e; exact (I.nodes b m e).at fun o ho => k b o h ho
  · by_cases h : b = a
    · subst h; exact I.new b n hn hro
    · rw [AH.set_ne _ _ h] at e; exact I.new b m e r
  · obtain ⟨q, r⟩ := I.hid b o e e1 e2
    have hb := hne b q
    refine ⟨by rw [AH.set_ne _ _ hb]; exact q, r.trans fun o' ho' => ?_⟩
    rw [show ({ s with heap := h', toks := tk } : Shared).heap.get? b = some o' from k b o' hb ho']; exact Kept.refl _
  · obtain ⟨q, r⟩ := I.fresh b hb
    exact ⟨by rw [AH.set_ne _ _ (hne b q)]; exact q, r⟩
  · obtain ⟨m, hm, hv⟩ := I.vars
    refine ⟨m, hm.extBut k (hne _ (I.fresh _ (List.mem_cons_self ..)).1), fun x v e => ?_⟩
    obtain ⟨cv, x1, x2⟩ := hv x v e
    exact ⟨cv, x1.keeps fun b hb o ho => k b o (hne b (I.fresh b hb).1) ho, x2⟩
  · obtain ⟨v, o, ho, hd⟩ := I.cells p hp
    exact ⟨v, o, k _ o (hne _ (I.fresh _ (List.mem_cons_of_mem _ (List.mem_map.mpr ⟨p, hp, rfl⟩))).1) ho, hd⟩
  · obtain ⟨q, m, e⟩ := I.frz b hb
    have hba : b ≠ a := by rintro rfl; exact hfz hb
    obtain ⟨o, ho, _⟩ := I.nodes b m e
    exact ⟨by rw [← q, ho]; exact k b o hba ho, m, by rw [AH.set_ne _ _ hba]; exact e⟩
  · obtain ⟨o', h⟩ := I.live b o e
    by_cases hba : b = a
    · subst hba; obtain ⟨o'', h'', _⟩ := hn'; exact ⟨o'', h''⟩
    · exact ⟨o', k b o' hba h⟩
end
def TM {α : Type} (C : Cx) (sn : Snap) (A : Around) (env : Env) (ρ : Str → Option V) (m : Sem α) (Q : α → AH → Prop) (E : Value → Shared → Prop) (H : AH) : Prop :=
  ∀ s, Inv C sn env ρ H s → wpAny C.M A m (fun a s' => ∃ H', Inv C sn env ρ H' s' ∧ Q a H') E s
section
variable {α β : Type} {C : Cx} {sn : Snap} {A : Around} {env : Env} {ρ : Str → Option V} {H : AH} {E : Value → Shared → Prop}
theorem TM.pure {a : α} {Q : α → AH → Prop} (h : Q a H) : TM C sn A env ρ (pure a) Q E H := fun _ I => wpAny_pure ⟨H, I, h⟩
theorem TM.bind {m : Sem α} {f : α → Sem β} {Q : β → AH → Prop} (h : TM C sn A env ρ m (fun a H' => TM C sn A env ρ (f a) Q E H') E H) : TM C sn A env ρ (m >>= f) Q E H :=
  fun s I => wpAny_bind (wpAny_mono (h s I) (fun _ _ ⟨_, I', h'⟩ => h' _ I') fun _ _ e => e)
theorem TM.mono {m : Sem α} {Q Q' : α → AH → Prop} (h : TM C sn A env ρ m Q E H) (k : ∀ a H', Q a H' → Q' a H') : TM C sn A env ρ m Q' E H :=
  fun s I => wpAny_mono (h s I) (fun _ _ ⟨H', I', h'⟩ => ⟨H', I', k _ _ h'⟩) fun _ _ e => e
theorem TM.standAt {pos : Pos} {Q : Unit → AH → Prop} (h : Q () H) : TM C sn A env ρ (standAt pos) Q E H := fun _ I => wpAny_standAt ⟨H, I, h⟩
theorem TM.holding {vs : List Value} {m : Sem α} {Q : α → AH → Prop} (h : TM C sn A env ρ m Q E H) : TM C sn A env ρ (holding vs m) Q E H := fun s I => wpAny_holding (h s I)
theorem TM.operate {vs : List Value} {m : Sem Value} {Q : Value → AH → Prop} (h : TM C sn A env ρ m Q E H) : TM C sn A env ρ (operate vs m) Q E H :=
  fun s I Γ p hΓ => by rw [Sem.wp_operate]; exact h s I Γ p hΓ
theorem TM.point {Q : Unit → AH → Prop} (h : Q () H) : TM C sn A env ρ PySem.point Q E H := fun _ I => wpAny_point ⟨H, I, h⟩
theorem TM.release {vs k : List Value} {Q : Unit → AH → Prop} (h : Q () H) : TM C sn A env ρ (release vs k) Q E H :=
  fun s I Γ p hΓ => by rw [Sem.wp_release]; exact ⟨H, I, h⟩
theorem TM.mkInt {i : Int} {Q : Value → AH → Prop} (h : ∀ t, Q (.int i t) H) : TM C sn A env ρ (mkInt i) Q E H := fun _ I => wpAny_mkInt ⟨H, I.toks _, h _⟩
theorem TM.mkText {x : Str} {Q : Value → AH → Prop} (h : ∀ t, Q (.str x t) H) : TM C sn A env ρ (mkText x) Q E H := fun _ I => wpAny_mkText ⟨H, I.toks _, h _⟩
theorem TM.ite {c : Prop} [Decidable c] {a b : Sem α} {Q : α → AH → Prop} (h : if c then TM C sn A env ρ a Q E H else TM C sn A env ρ b Q E H) : TM C sn A env ρ (if c then a else b) Q E H := by
  split <;> simp_all
end
end Mine
namespace Mine
open PySem PySem.Calls
def upd (ρ : Str → Option V) (x : Str) (v : V) : Str → Option V := fun y => if y = x then some v else ρ y
def TR {α : Type} (C : Cx) (sn : Snap) (A : Around) (env : Env) (m : Sem α) (Q : α → (Str → Option V) → AH → Prop) (E : Value → Shared → Prop) (ρ : Str → Option V) (H : AH) : Prop :=
  ∀ s, Inv C sn env ρ H s → wpAny C.M A m (fun a s' => ∃ ρ' H', Inv C sn env ρ' H' s' ∧ Q a ρ' H') E s
section
variable {α β : Type} {C : Cx} {sn : Snap} {A : Around} {env : Env} {ρ : Str → Option V} {H : AH} {E : Value → Shared → Prop} {s : Shared}
theorem TR.of {m : Sem α} {Q : α → (Str → Option V) → AH → Prop} (h : TM C sn A env ρ m (fun a H' => Q a ρ H') E H) : TR C sn A env m Q E ρ H :=
  fun s I => wpAny_mono (h s I) (fun _ _ ⟨H', I', q⟩ => ⟨ρ, H', I', q⟩) fun _ _ e => e
theorem TR.pure {a : α} {Q : α → (Str → Option V) → AH → Prop} (h : Q a ρ H) : TR C sn A env (pure a) Q E ρ H := fun _ I => wpAny_pure ⟨ρ, H, I, h⟩
theorem TR.bind {m : Sem α} {f : α → Sem β} {Q : β → (Str → Option V) → AH → Prop} (h : TR C sn A env m (fun a ρ' H' => TR C sn A env (f a) Q E ρ' H') E ρ H) : TR C sn A env (m >>= f) Q E ρ H :=
  fun s I => wpAny_bind (wpAny_mono (h s I) (fun _ _ ⟨_, _, I', h'⟩ => h' _ I') fun _ _ e => e)
theorem TR.mono {m : Sem α} {Q Q' : α → (Str → Option V) → AH → Prop} (h : TR C sn A env m Q E ρ H) (k : ∀ a ρ' H', Q a ρ' H' → Q' a ρ' H') : TR C sn A env m Q' E ρ H :=
  fun s I => wpAny_mono (h s I) (fun _ _ ⟨ρ', H', I', h'⟩ => ⟨ρ', H', I', k _ _ _ h'⟩) fun _ _ e => e
theorem TM.loadVar {x : Str} {v : V} {Q : Value → AH → Prop} (hx : ρ x = some v) (h : ∀ cv, toV cv = v → Q cv H) (hn : (x == ("__classdict__" : Str)) = false) : TM C sn A env ρ (loadName env x) Q E H := by
  intro s I
  obtain ⟨m, hm, hv⟩ := I.vars
  obtain ⟨cv, a, e⟩ := hv x v hx
  rcases a with ⟨hk, hx'⟩ | ⟨hk, c, hc, hcell⟩
  · exact wpAny_loadName_local I.ok.kind hk hm hx' ⟨H, I, h cv e⟩
  · rcases hk with hk | hk
    · exact wpAny_loadName_cell I.ok.kind hk hc hcell ⟨H, I, h cv e⟩
    · exact wpAny_loadName_free I.ok.kind hk hc hcell ⟨H, I, h cv e⟩ hn
theorem cell_inj {cs : List (Str × Addr)} (nd : (cs.map (·.2)).Nodup) {x y : Str} {c : Addr} (hx : (x, c) ∈ cs) (hy : (y, c) ∈ cs) : x = y := by
  induction cs with
  | nil => cases hx
  | cons p r ih =>
    rw [List.map_cons, List.nodup_cons] at nd
    rcases List.mem_cons.mp hx with e | hx <;> rcases List.mem_cons.mp hy with e' | hy
    · rw [← e'] at e; exact (Prod.mk.inj e).1
    · exact absurd (List.mem_map.mpr ⟨_, hy, by rw [← e]⟩) nd.1
    · exact absurd (List.mem_map.mpr ⟨_, hx, by rw [← e']⟩) nd.1
    · exact ih nd.2 hx hy
theorem Inv.own (I : Inv C sn env ρ H s) {h' : Heap} {tk : Nat} {a : Addr} {ρ' : Str → Option V} (ha : a ∈ ownOf env) (k : Heap.ExtBut a s.heap h')
    (hv : ∃ m, h'.Ns env.locals m ∧ ∀ x v, ρ' x = some v → ∃ cv, VarAt env m h' x cv ∧ toV cv = v) (hc : ∀ p ∈ env.cells, ∃ v, h'.IsCell p.2 v) : Inv C sn env ρ' H { s with heap := h', toks := tk } := by
  obtain ⟨f1, f2⟩ := I.fresh a ha
  refine ⟨I.ok, fun b o e => ?_, fun b m e => ?_, I.new, fun b o e e1 e2 => ?_, I.fresh, hv, hc, I.gens, I.os, I.mine, fun b hb => ?_, fun b o e => ?_⟩
  · refine k b o ?_ (I.base b o e)
    rintro rfl; rw [f2] at e; cases e
  · refine (I.nodes b m e).at fun o ho => k b o ?_ ho
    rintro rfl; rw [f1] at e; cases e
  · obtain ⟨q, r⟩ := I.hid b o e e1 e2
    refine ⟨q, r.trans fun o' ho' => ?_⟩
    have hb : b ≠ a := by rintro rfl; exact e2 (I.mine b ha o e)
    rw [show ({ s with heap := h', toks := tk } : Shared).heap.get? b = some o' from k b o' hb ho']; exact Kept.refl _
  · obtain ⟨q, m, e⟩ := I.frz b hb
    have hba : b ≠ a := by rintro rfl; rw [f1] at e; cases e
    obtain ⟨o, ho, _⟩ := I.nodes b m e
    exact ⟨by rw [← q, ho]; exact k b o hba ho, m, e⟩
  · obtain ⟨o', h⟩ := I.live b o e
    by_cases hba : b = a
    · subst hba
      rcases List.mem_cons.mp ha with rfl | ha
      · obtain ⟨m, ⟨o'', _, _, h'', _⟩, _⟩ := hv; exact ⟨o'', h''⟩
      · obtain ⟨p, hp, rfl⟩ := List.mem_map.mp ha
        obtain ⟨v, o'', h'', _⟩ := hc p hp; exact ⟨o'', h''⟩
    · exact ⟨o', k b o' hba h⟩
theorem TR.storeVar {x : Str} {cv : Value} {Q : Unit → (Str → Option V) → AH → Prop} (hk : env.kindOf x = some .local ∨ env.kindOf x = some .cell) (h : Q () (upd ρ x (toV cv)) H) :
    TR C sn A env (storeName env x cv) Q E ρ H := by
  intro s I
  obtain ⟨m, hm, hv⟩ := I.vars
  rcases hk with hk | hk
  · refine wpAny_storeName_local hk hm (fun h' hn hs => ⟨_, H, I.own (List.mem_cons_self ..) hs.extBut ⟨_, hn, fun y v e => ?_⟩ fun p hp => ?_, h⟩) (by rw [I.ok.kind]; rfl)
    · by_cases hy : y = x
      · subst hy; simp [upd] at e; exact ⟨cv, .inl ⟨hk, by simp⟩, e⟩
      · simp only [upd, hy, if_false] at e
        obtain ⟨cv', a, b⟩ := hv y v e
        refine ⟨cv', ?_, b⟩
        rcases a with ⟨q1, q2⟩ | ⟨q1, c, hc, hcell⟩
        · exact .inl ⟨q1, by simp [hy, q2]⟩
        · refine .inr ⟨q1, c, hc, hcell.sameBut hs ?_⟩
          rintro rfl
          exact (List.nodup_cons.mp I.ok.apart).1 (List.mem_map.mpr ⟨_, mem_of_lookup hc, rfl⟩)
    · obtain ⟨v, q⟩ := I.cells p hp
      refine ⟨v, q.sameBut hs ?_⟩
      intro e
      exact (List.nodup_cons.mp I.ok.apart).1 (e ▸ List.mem_map.mpr ⟨p, hp, rfl⟩)
  · obtain ⟨c, hc⟩ := I.ok.cell x (.inl hk)
    have hmem := mem_of_lookup hc
    obtain ⟨v₀, hcell⟩ := I.cells _ hmem
    have nd := List.nodup_cons.mp I.ok.apart
    refine wpAny_storeName_cell I.ok.kind hk hc hcell fun h' hn hs => ⟨_, H, I.own (List.mem_cons_of_mem _ (List.mem_map.mpr ⟨_, hmem, rfl⟩)) hs.extBut ⟨m, hm.sameBut hs ?_, fun y v e => ?_⟩ fun p hp => ?_, h⟩
    · intro e; exact nd.1 (e ▸ List.mem_map.mpr ⟨_, hmem, rfl⟩)
    · by_cases hy : y = x
      · subst hy; simp [upd] at e; exact ⟨cv, .inr ⟨.inl hk, c, hc, hn⟩, e⟩
      · simp only [upd, hy, if_false] at e
        obtain ⟨cv', a, b⟩ := hv y v e
        refine ⟨cv', ?_, b⟩
        rcases a with q | ⟨q1, c', hc', hcell'⟩
        · exact .inl q
        · refine .inr ⟨q1, c', hc', hcell'.sameBut hs ?_⟩
          rintro rfl
          exact hy (cell_inj nd.2 (mem_of_lookup hc') hmem)
    · by_cases hpc : p.2 = c
      · exact ⟨some cv, hpc ▸ hn⟩
      · obtain ⟨v, q⟩ := I.cells p hp
        exact ⟨v, q.sameBut hs hpc⟩
theorem TM.loadGlob {x : Str} {v : Value} {Q : Value → AH → Prop} (hk : env.kindOf x = some .globalImplicit) (hv : C.mg x = some v) (h : Q v H) : TM C sn A env ρ (loadName env x) Q E H := by
  intro s I
  unfold loadName
  simp only [Env.blockKind, I.ok.kind, hk, ScopeKind.isAnnotationScope, Bool.false_and, Bool.false_eq_true, if_false]
  have hg : s.heap.Ns env.globals C.mg := by rw [I.ok.globals]; exact C.gns.keeps I.base
  exact loadGlobal_global hg hv ⟨H, I, h⟩
theorem TM.loadBi {x : Str} {v : Value} {Q : Value → AH → Prop} (hk : env.kindOf x = some .globalImplicit) (hm : C.mg x = none) (hv : C.mb x = some v) (h : Q v H) : TM C sn A env ρ (loadName env x) Q E H := by
  intro s I
  unfold loadName
  simp only [Env.blockKind, I.ok.kind, hk, ScopeKind.isAnnotationScope, Bool.false_and, Bool.false_eq_true, if_false]
  have hg : s.heap.Ns env.globals C.mg := by rw [I.ok.globals]; exact C.gns.keeps I.base
  have hb : s.heap.Ns env.builtins C.mb := by rw [I.ok.builtins]; exact C.bns.keeps I.base
  exact loadGlobal_builtin hg hm hb hv ⟨H, I, h⟩
end
end Mine
namespace Mine
open PySem PySem.Calls
def DivOk (y : Int) : Prop := y ≠ 0 ∧ y.natAbs.log2 < 9000
theorem mulOk_left {a b : Int} (h1 : -(2 ^ 64) < a) (h2 : a < 2 ^ 64) : IntMulOk a b := .of_left (intBits_le_64 h1 h2)
def strRep (x : Str) (n : Int) : Str := Txt.mul x n
def made (fz : List Nat) (n : Node) (Q : V → AH → Prop) (H : AH) : Prop := ∀ a, H.get a = none → a ∉ fz → Q (.ref a) (H.set a n)
section
variable {C : Cx} {sn : Snap} {A : Around} {env : Env} {ρ : Str → Option V} {H : AH} {E : Value → Shared → Prop} {Q : V → AH → Prop}
theorem toks_still {s : Shared} (I : Inv C sn env ρ H s) {v : Value} (h : Q (toV v) H) (tk : Nat) : ∃ H', Inv C sn env ρ H' { s with toks := tk } ∧ Q (toV v) H' := ⟨H, I.toks tk, h⟩
theorem Inv.notFz {s : Shared} (I : Inv C sn env ρ H s) {a : Nat} (h : H.get a = none) : a ∉ sn.fz := fun hb => by
  obtain ⟨_, n, e⟩ := I.frz a hb; rw [h] at e; cases e
theorem map_size {vs : Array Value} {xs : List V} (h : vs.toList.map toV = xs) : vs.size = xs.length := by rw [← h]; simp
theorem map_get {vs : Array Value} {xs : List V} (h : vs.toList.map toV = xs) {k : Nat} {x : V} (e : xs[k]? = some x) : ∃ v, vs[k]? = some v ∧ toV v = x := by
  subst h
  simp at e
  exact e
def allBut (h : Heap) (L : Addr) : List (Addr × Obj) := (List.range h.objs.size).filterMap fun b => if b = L then none else (h.get? b).map fun o => (b, o)
theorem mem_allBut {h : Heap} {L b : Addr} {o : Obj} : (b, o) ∈ allBut h L ↔ h.get? b = some o ∧ b ≠ L := by
  unfold allBut
  rw [List.mem_filterMap]
  constructor
  · rintro ⟨c, _, hc⟩
    split at hc
    · cases hc
    · rename_i hne
      cases q : h.get? c with
      | none => rw [q] at hc; cases hc
      | some o' => rw [q] at hc; simp at hc; obtain ⟨rfl, rfl⟩ := hc; exact ⟨q, hne⟩
  · rintro ⟨e, hne⟩
    exact ⟨b, List.mem_range.mpr (Heap.lt_size e), by rw [if_neg hne, e]; rfl⟩
open PyProof.Rows in
theorem Inv.fr {s : Shared} (I : Inv C sn env ρ H s) : ∃ m, (Fr {} env.locals s.heap m ∧ News {} env.locals s.heap (allBut s.heap env.locals)) ∧
    ∀ h' tk, Fr {} env.locals h' m → News {} env.locals h' (allBut s.heap env.locals) → Inv C sn env ρ H { s with heap := h', toks := tk } := by
  obtain ⟨m, hm, hv⟩ := I.vars
  have e0 : ∀ b, Heap.get? {} b = none := fun b => by
    cases q : Heap.get? {} b with
    | none => rfl
    | some o => exact absurd (Heap.lt_size q) (Nat.not_lt_zero _)
  refine ⟨m, ⟨⟨hm, fun b o e => (by rw [e0] at e; cases e), Nat.zero_le _⟩, fun p hp => ?_⟩, fun h' tk F N => ?_⟩
  · obtain ⟨b, o⟩ := p
    obtain ⟨q1, q2⟩ := mem_allBut.mp hp
    exact ⟨q1, q2, e0 b⟩
  · have k : Heap.ExtBut env.locals s.heap h' := fun b o hb e => (N (b, o) (mem_allBut.mpr ⟨e, hb⟩)).1
    have nd := List.nodup_cons.mp I.ok.apart
    refine I.own (List.mem_cons_self ..) k ⟨m, F.ns, fun x v e => ?_⟩ fun p hp => ?_
    · obtain ⟨cv, a, b⟩ := hv x v e
      refine ⟨cv, ?_, b⟩
      rcases a with a | ⟨a, c, hc, o, ho, hd⟩
      · exact .inl a
      · refine .inr ⟨a, c, hc, o, k c o ?_ ho, hd⟩
        rintro rfl; exact nd.1 (List.mem_map.mpr ⟨_, mem_of_lookup hc, rfl⟩)
    · obtain ⟨v, o, ho, hd⟩ := I.cells p hp
      refine ⟨v, o, k _ o ?_ ho, hd⟩
      intro e; exact nd.1 (e ▸ List.mem_map.mpr ⟨p, hp, rfl⟩)
open PyProof.Rows in
theorem Inv.frCome {s : Shared} (I : Inv C sn env ρ H s) {m : Str → Option Value} {h' : Heap} {tk : Nat} {D : Addr} {o : Obj} {n : Node}
    (keep : ∀ h' tk, Fr {} env.locals h' m → News {} env.locals h' (allBut s.heap env.locals) → Inv C sn env ρ H { s with heap := h', toks := tk })
    (F : Fr {} env.locals h' m) (N : News {} env.locals h' ((D, o) :: allBut s.heap env.locals)) (hD : s.heap.get? D = none) (ho : ObjIs C o n) :
    Inv C sn env ρ (H.set D n) { s with heap := h', toks := tk } := by
  have J := keep h' tk F fun p hp => N p (List.mem_cons_of_mem _ hp)
  have hn : NodeAt C h' D n := ⟨o, (N _ (List.mem_cons_self ..)).1, ho⟩
  have hDL := (N _ (List.mem_cons_self ..)).2.1
  refine ⟨J.ok, J.base, fun b m e => ?_, fun b m e r => ?_, fun b o e e1 e2 => ?_, fun b hb => ?_, J.vars, J.cells, J.gens, J.os, J.mine, fun b hb => ?_, J.live⟩
  · by_cases h : b = D
    · subst h; rw [AH.set_self] at e; cases e; exact hn
    · rw [AH.set_ne _ _ h] at e; exact J.nodes b m e
  · by_cases h : b = D
    · subst h
      cases q : C.h₀.get? b with
      | none => rfl
      | some o => have := I.base b o q; rw [hD] at this; cases this
    · rw [AH.set_ne _ _ h] at e; exact I.new b m e r
  · obtain ⟨q, r⟩ := J.hid b o e e1 e2
    refine ⟨?_, r⟩
    rw [AH.set_ne _ _ ?_]; exact q
    rintro rfl
    obtain ⟨q', r'⟩ := I.hid b o e e1 e2
    rw [hD] at r'; obtain ⟨_, x, _⟩ := r'; cases x
  · obtain ⟨q, r⟩ := I.fresh b hb
    refine ⟨?_, r⟩
    rw [AH.set_ne _ _ ?_]; exact q
    rintro rfl
    obtain ⟨o', ho'⟩ := I.own_there hb
    rw [hD] at ho'; cases ho'
  · obtain ⟨q, m, e⟩ := J.frz b hb
    refine ⟨q, m, ?_⟩
    rw [AH.set_ne _ _ ?_]; exact e
    rintro rfl
    rw [I.none_of_new hD] at e; cases e
theorem TM.bin_list {p q : Nat} {n k : Node} {xs ys : List V} (hp : H.get p = some n) (hq : H.get q = some k) (en : n.seqL = some xs) (ek : k.seqL = some ys) (hz : xs.length + ys.length ≤ sizeLine)
    (h : made sn.fz (.list (xs ++ ys)) Q H) : TM C sn A env ρ (binaryOp .Add (.ref p) (.ref q)) (fun v H' => Q (toV v) H') E H := by
  intro s I
  obtain ⟨vs, hvs, e1, z1⟩ := (I.nodes p n hp).isList en
  obtain ⟨ws, hws, e2, z2⟩ := (I.nodes q k hq).isList ek
  obtain ⟨m, ⟨F, N⟩, keep⟩ := I.fr
  have hD : s.heap.get? s.heap.objs.size = none := get_size _
  refine PyProof.Rows.add_arrays F N hvs hws (fun h' F' N' => ⟨_, I.frCome keep F' N' hD ?_, h _ (I.none_of_new hD) (I.notFz (I.none_of_new hD))⟩) (by rw [map_size e1, map_size e2]; exact hz)
  refine ⟨?_, _, _, rfl, ?_⟩
  · rw [List.length_append]; rw [sizeLine_eq] at hz; omega
  · simp [e1, e2]
theorem TM.bin_tuple {p q : Nat} {xs ys : List V} (hp : H.get p = some (.tuple xs)) (hq : H.get q = some (.tuple ys)) (nx : xs ≠ []) (ny : ys ≠ []) (hz : xs.length + ys.length ≤ sizeLine)
    (h : made sn.fz (.tuple (xs ++ ys)) Q H) : TM C sn A env ρ (binaryOp .Add (.ref p) (.ref q)) (fun v H' => Q (toV v) H') E H := by
  intro s I
  obtain ⟨vs, hvs, e1, z1⟩ := (I.nodes p _ hp).isTuple
  obtain ⟨ws, hws, e2, z2⟩ := (I.nodes q _ hq).isTuple
  obtain ⟨m, ⟨F, N⟩, keep⟩ := I.fr
  have hD : s.heap.get? s.heap.objs.size = none := get_size _
  refine PyProof.Rows.add_tuples (vs := vs.toList) (ws := ws.toList) F N hvs hws (fun e => ?_) (fun _ e => ?_) (fun _ _ h' F' N' => ⟨_, I.frCome keep F' N' hD ?_, h _ (I.none_of_new hD) (I.notFz (I.none_of_new hD))⟩) (by simp [map_size e1, map_size e2]; exact hz)
  · rw [e] at e1; exact absurd e1.symm nx
  · rw [e] at e2; exact absurd e2.symm ny
  refine ⟨?_, rfl, rfl, _, _, rfl, ?_⟩
  · rw [List.length_append]; rw [sizeLine_eq] at hz; omega
  · simp [e1, e2]
theorem TM.bin_str {x y : Str} {t u : Tok} (hz : x.length + y.length ≤ sizeLine) (h : Q (.str (x ++ y)) H) : TM C sn A env ρ (binaryOp .Add (.str x t) (.str y u)) (fun v H' => Q (toV v) H') E H :=
  fun _ I => PyProof.Rows.add_str (fun t' tk => toks_still I (v := .str _ t') h tk) hz
theorem TM.bin_rep {x : Str} {y : Int} {t u : Tok} (hz : MulOk x y) (h : Q (.str (strRep x y)) H) : TM C sn A env ρ (binaryOp .Mult (.str x t) (.int y u)) (fun v H' => Q (toV v) H') E H :=
  fun _ I => SB.mul hz (fun t' tk => toks_still I (v := .str _ t') h tk)
end
end Mine
namespace Mine
open PySem PySem.Calls PySem.SeqAt
def scEq : V → V → Option Bool
  | .none, .none => some true
  | .bool a, .bool b => some (a == b)
  | .int a, .int b => some (a == b)
  | .str a, .str b => some (a == b)
  | .bool a, .int b => some ((if a then 1 else 0) == b)
  | .int a, .bool b => some (a == (if b then 1 else 0))
  | .none, .bool _ | .none, .int _ | .none, .str _ => some false
  | .bool _, .none | .bool _, .str _ => some false
  | .int _, .none | .int _, .str _ => some false
  | .str _, .none | .str _, .bool _ | .str _, .int _ => some false
  | _, _ => none
theorem eqAt_sc {A : Around} {s : Shared} {a b : Value} {r : Bool} (h : scEq (toV a) (toV b) = some r) : EqAt A s a b r ∧ RcAt A s a b r ∧ RcNeAt A s a b (!r) := by
  cases a <;> cases b <;> simp only [toV, scEq, Option.some.injEq, reduceCtorEq] at h <;> subst h
  · exact ⟨EqAt.same _, RcAt.none_none, RcNeAt.none_none⟩
  · exact ⟨EqAt.none_bool _, RcAt.none_bool _, RcNeAt.none_bool _⟩
  · exact ⟨EqAt.none_int _ _, RcAt.none_int _ _, RcNeAt.none_int _ _⟩
  · exact ⟨EqAt.none_str _ _, RcAt.none_str _ _, RcNeAt.none_str _ _⟩
  · exact ⟨EqAt.bool_none _, RcAt.bool_none _, RcNeAt.bool_none _⟩
  · exact ⟨EqAt.bool_bool _ _, RcAt.bool_bool _ _, RcNeAt.bool_bool _ _⟩
  · exact ⟨EqAt.bool_int _ _ _, RcAt.bool_int _ _ _, RcNeAt.bool_int _ _ _⟩
  · exact ⟨EqAt.bool_str _ _ _, RcAt.bool_str _ _ _, RcNeAt.bool_str _ _ _⟩
  · exact ⟨EqAt.int_none _ _, RcAt.int_none _ _, RcNeAt.int_none _ _⟩
  · exact ⟨EqAt.int_bool _ _ _, RcAt.int_bool _ _ _, RcNeAt.int_bool _ _ _⟩
  · exact ⟨EqAt.int_int _ _ _ _, RcAt.int_int _ _ _ _, RcNeAt.int_int _ _ _ _⟩
  · exact ⟨EqAt.int_str _ _ _ _, RcAt.int_str _ _ _ _, RcNeAt.int_str _ _ _ _⟩
  · exact ⟨EqAt.str_none _ _, RcAt.str_none _ _, RcNeAt.str_none _ _⟩
  · exact ⟨EqAt.str_bool _ _ _, RcAt.str_bool _ _ _, RcNeAt.str_bool _ _ _⟩
  · exact ⟨EqAt.str_int _ _ _ _, RcAt.str_int _ _ _ _, RcNeAt.str_int _ _ _ _⟩
  · exact ⟨EqAt.str_str _ _ _ _, RcAt.str_str _ _ _ _, RcNeAt.str_str _ _ _ _⟩
inductive EqV (H : AH) : V → V → Bool → Nat → Prop
  | sc {a b r} : scEq a b = some r → EqV H a b r 0
  | len {p q n k xs ys} : H.get p = some n → H.get q = some k → n.seqL = some xs → k.seqL = some ys → xs.length ≠ ys.length → EqV H (.ref p) (.ref q) false 0
  | list {p q n k xs ys e d} : H.get p = some n → H.get q = some k → n.seqL = some xs → k.seqL = some ys → xs.length = ys.length → (p = q → (List.range xs.length).all e = true) →
      (∀ (j : Nat) x y, xs[j]? = some x → ys[j]? = some y → EqV H x y (e j) d) → EqV H (.ref p) (.ref q) ((List.range xs.length).all e) (d + 1)
  | tuple {p q xs ys e d} : H.get p = some (.tuple xs) → H.get q = some (.tuple ys) → (p = q → ((List.range (min xs.length ys.length)).all e && xs.length == ys.length) = true) →
      (∀ (j : Nat) x y, xs[j]? = some x → ys[j]? = some y → EqV H x y (e j) d) → EqV H (.ref p) (.ref q) ((List.range (min xs.length ys.length)).all e && xs.length == ys.length) (d + 1)
def NodesIn (C : Cx) (H : AH) (h : Heap) : Prop := ∀ a n, H.get a = some n → NodeAt C h a n
theorem EqAt.of_rc {A : Around} {s : Shared} {p q : Addr} {r : Bool} (h : p = q → r = true) (rc : RcAt A s (.ref p) (.ref q) r) : EqAt A s (.ref p) (.ref q) r := by
  by_cases e : p = q
  · rw [h e]; subst e; exact EqAt.same _
  · exact EqAt.of_refs e rc
theorem EqV.sound {C : Cx} {H : AH} {a b : V} {r : Bool} {d : Nat} (h : EqV H a b r d) : ∀ {A : Around} {s : Shared} {x y : Value}, NodesIn C H s.heap → A.units + d < cLine → toV x = a → toV y = b →
    EqAt A s x y r ∧ RcAt A s x y r ∧ RcNeAt A s x y (!r) := by
  induction h with
  | sc h => intro A s x y _ _ ex ey; subst ex ey; exact eqAt_sc h
  | len hp hq en ek hne =>
    intro A s x y N hu ex ey
    have := toV_ref ex; subst this
    have := toV_ref ey; subst this
    obtain ⟨vs, hvs, e1, z1⟩ := (N _ _ hp).isList en
    obtain ⟨ws, hws, e2, z2⟩ := (N _ _ hq).isList ek
    have hsz : (vs.size != ws.size) = true := by rw [map_size e1, map_size e2]; simpa using hne
    have rc := RcAt.lists_lengths hvs hws hsz hu
    refine ⟨EqAt.of_rc (fun e => ?_) rc, rc, RcNeAt.lists_lengths hvs hws hsz hu⟩
    subst e
    rw [hp] at hq; cases hq; rw [en] at ek; cases ek; exact absurd rfl hne
  | @list p q n k xs ys e d hp hq en ek hl hpq _ ih =>
    intro A s x y N hu ex ey
    have := toV_ref ex; subst this
    have := toV_ref ey; subst this
    obtain ⟨vs, hvs, e1, z1⟩ := (N _ _ hp).isList en
    obtain ⟨ws, hws, e2, z2⟩ := (N _ _ hq).isList ek
    have hsz : vs.size = ws.size := by rw [map_size e1, map_size e2]; exact hl
    have hu' : A.units < cLine := by omega
    have he : ∀ j (h1 : j < vs.size) (h2 : j < ws.size), EqAt A.in1 s vs[j] ws[j] (e j) := fun j h1 h2 =>
      (ih j (toV vs[j]) (toV ws[j]) (by rw [← e1]; simp [h1]) (by rw [← e2]; simp [h2]) (A := A.in1) N (by show A.units + 1 + d < cLine; omega) rfl rfl).1
    have rc := RcAt.lists hvs hws hsz hu' he
    rw [map_size e1] at rc
    refine ⟨EqAt.of_rc hpq rc, rc, ?_⟩
    have := RcNeAt.lists hvs hws hsz hu' he
    rw [map_size e1] at this; exact this
  | @tuple p q xs ys e d hp hq hpq _ ih =>
    intro A s x y N hu ex ey
    have := toV_ref ex; subst this
    have := toV_ref ey; subst this
    obtain ⟨vs, hvs, e1, z1⟩ := (N _ _ hp).isTuple
    obtain ⟨ws, hws, e2, z2⟩ := (N _ _ hq).isTuple
    have hu' : A.units < cLine := by omega
    have he : ∀ j (h1 : j < vs.size) (h2 : j < ws.size), EqAt A.in1 s vs[j] ws[j] (e j) := fun j h1 h2 =>
      (ih j (toV vs[j]) (toV ws[j]) (by rw [← e1]; simp [h1]) (by rw [← e2]; simp [h2]) (A := A.in1) N (by show A.units + 1 + d < cLine; omega) rfl rfl).1
    have rc := RcAt.tuples hvs hws hu' he
    rw [map_size e1, map_size e2] at rc
    refine ⟨EqAt.of_rc hpq rc, rc, ?_⟩
    have := RcNeAt.tuples hvs hws hu' he
    rw [map_size e1, map_size e2] at this; exact this
end Mine
namespace Mine
open PySem PySem.Calls PySem.SeqAt
def Room (A : Around) : Prop := A.units + 200 < cLine
def deepest : Nat := 90
def opEq (a b : V) (Q : Bool → Prop) (H : AH) : Prop :=
  match scEq a b with
  | some r => Q r
  | none => ∃ r d, EqV H a b r d ∧ d ≤ deepest ∧ Q r
def strIn (y x : Str) : Bool := !(Builtin.Str.occurrences x y 0 x.length 1).isEmpty
def opIn (v b : V) (Q : Bool → Prop) (H : AH) : Prop :=
  match b with
  | .str x => (match v with | .str y => Q (strIn y x) | _ => False)
  | .ref p => (match H.get p with
    | some (.list xs) | some (.rlist xs) | some (.tuple xs) => ∃ e : V → Bool, (∀ y ∈ xs, ∃ d, EqV H y v (e y) d ∧ d ≤ deepest) ∧ Q (xs.any e)
    | some (.sdict es) => (match v with | .str k => Q (es.any fun p => p.1 = k) | _ => False)
    | some (.idict es) => (match v with | .int k => Q (es.any fun p => p.1 = k) | _ => False)
    | _ => False)
  | _ => False
def dget {K : Type} [DecidableEq K] (es : List (K × V)) (k : K) : Option V := (es.find? fun p => p.1 = k).map (·.2)
def dEq {K : Type} [DecidableEq K] (es fs : List (K × V)) : Bool := es.length == fs.length && es.all fun p => match dget fs p.1 with | some w => (scEq p.2 w).getD false | none => false
def dSc {K : Type} [DecidableEq K] (es fs : List (K × V)) : Prop := ∀ p ∈ es, ∀ w, dget fs p.1 = some w → (scEq p.2 w).isSome = true
def opEq2 (a b : V) (Q : Bool → Prop) (H : AH) : Prop :=
  match a, b with
  | .ref p, .ref q => (match H.get p, H.get q with
    | some (.sdict es), some (.sdict fs) => dSc es fs ∧ Q (dEq es fs)
    | some (.idict es), some (.idict fs) => dSc es fs ∧ Q (dEq es fs)
    | _, _ => opEq (.ref p) (.ref q) Q H)
  | a, b => opEq a b Q H
def pick (xs : List V) (k : Int) : Option V := if 0 ≤ k then xs[k.toNat]? else if -(xs.length : Int) ≤ k then xs[(k + xs.length).toNat]? else none
def dput {K : Type} [DecidableEq K] (es : List (K × V)) (k : K) (v : V) : List (K × V) :=
  if es.any (fun p => p.1 = k) then es.map (fun p => if p.1 = k then (p.1, v) else p) else es ++ [(k, v)]
section
variable {C : Cx} {sn : Snap} {A : Around} {env : Env} {ρ : Str → Option V} {H : AH} {E : Value → Shared → Prop}
theorem Inv.nodesIn {s : Shared} (I : Inv C sn env ρ H s) : NodesIn C H s.heap := I.nodes
theorem Inv.notMods {s : Shared} (I : Inv C sn env ρ H s) {a : Addr} {n : Node} (h : H.get a = some n) (hr : n.isRO = false) : (a == sysModules) = false := by
  obtain ⟨o, ho⟩ := C.mods
  have := I.new a n h hr
  rw [beq_eq_false_iff_ne]
  rintro rfl
  rw [ho] at this; cases this
theorem dget_map {K : Type} [DecidableEq K] {kvs : List (K × Value)} {es : List (K × V)} (h : kvs.map (fun p => (p.1, toV p.2)) = es) (k : K) : dget es k = (valueAt kvs k).map toV := by
  subst h
  unfold dget valueAt
  induction kvs with
  | nil => rfl
  | cons p r ih =>
    simp only [List.map_cons, List.find?_cons]
    by_cases e : p.1 = k
    · simp [e]
    · simpa [e] using ih
theorem any_map {K : Type} [DecidableEq K] {kvs : List (K × Value)} {es : List (K × V)} (h : kvs.map (fun p => (p.1, toV p.2)) = es) (k : K) : (es.any fun p => p.1 = k) = (valueAt kvs k).isSome := by
  subst h
  unfold valueAt
  induction kvs with
  | nil => rfl
  | cons p r ih =>
    simp only [List.map_cons, List.any_cons, List.find?_cons]
    by_cases e : p.1 = k
    · simp [e]
    · simp [e] at ih ⊢; simpa using ih
theorem dput_map {K : Type} [DecidableEq K] {kvs : List (K × Value)} {es : List (K × V)} (h : kvs.map (fun p => (p.1, toV p.2)) = es) (k : K) (v : Value) : (stored kvs k v).map (fun p => (p.1, toV p.2)) = dput es k (toV v) := by
  subst h
  unfold stored dput
  have : (List.any (List.map (fun p => (p.1, toV p.2)) kvs) fun p => decide (p.1 = k)) = kvs.any fun p => decide (p.1 = k) := by
    rw [List.any_map]; rfl
  rw [this]
  split
  · rw [List.map_map, List.map_map]
    apply List.map_congr_left
    intro p _
    simp only [Function.comp]
    split <;> rfl
  · simp
theorem TM.opIn_ {a b : Value} {Q : Bool → Prop} (hr : Room A) (h : opIn (toV a) (toV b) Q H) :
    TM C sn A env ρ (compareOp .In a b) (fun v H' => (∃ r, v = .bool r ∧ Q r) ∧ H' = H) E H ∧ TM C sn A env ρ (compareOp .NotIn a b) (fun v H' => (∃ r, v = .bool (!r) ∧ Q r) ∧ H' = H) E H := by
  have hu : A.units + 200 < cLine := hr
  unfold opIn at h
  split at h
  · rename_i x eb
    split at h
    · rename_i y ea
      obtain ⟨t, rfl⟩ := toV_str ea
      obtain ⟨u, rfl⟩ := toV_str eb
      exact ⟨fun s I => P.in_str ⟨H, I, ⟨_, rfl, h⟩, rfl⟩, fun s I => P.notIn_str ⟨H, I, ⟨_, rfl, h⟩, rfl⟩⟩
    · exact h.elim
  · rename_i p eb
    have := toV_ref eb; subst this
    have lists : ∀ n xs, H.get p = some n → n.seqL = some xs → (∃ e : V → Bool, (∀ y ∈ xs, ∃ d, EqV H y (toV a) (e y) d ∧ d ≤ deepest) ∧ Q (xs.any e)) →
        TM C sn A env ρ (compareOp .In a (.ref p)) (fun v H' => (∃ r, v = .bool r ∧ Q r) ∧ H' = H) E H ∧ TM C sn A env ρ (compareOp .NotIn a (.ref p)) (fun v H' => (∃ r, v = .bool (!r) ∧ Q r) ∧ H' = H) E H := by
      rintro n xs hp en ⟨e, he, q⟩
      have key : ∀ s, Inv C sn env ρ H s → ∃ vs, s.heap.IsList p vs ∧ (∀ y, y ∈ vs → EqAt A.in1 s y a (e (toV y))) ∧ Q (vs.any fun y => e (toV y)) := fun s I => by
        obtain ⟨vs, hvs, e1, z1⟩ := (I.nodes p n hp).isList en
        refine ⟨vs, hvs, fun y hy => ?_, ?_⟩
        · obtain ⟨d, hd, hle⟩ := he (toV y) (by rw [← e1]; exact List.mem_map.mpr ⟨y, by simpa using hy, rfl⟩)
          exact (hd.sound (A := A.in1) I.nodesIn (by show A.units + 1 + d < cLine; unfold deepest at hle; omega) rfl rfl).1
        · rw [← e1, List.any_map] at q
          rw [← Array.any_toList]; exact q
      exact ⟨fun s I => let ⟨vs, h1, h2, h3⟩ := key s I; in_listAt _ h1 h2 ⟨H, I, ⟨_, rfl, h3⟩, rfl⟩, fun s I => let ⟨vs, h1, h2, h3⟩ := key s I; notIn_listAt _ h1 h2 ⟨H, I, ⟨_, rfl, h3⟩, rfl⟩⟩
    split at h
    · rename_i xs hp; exact lists _ xs hp rfl h
    · rename_i xs hp; exact lists _ xs hp rfl h
    · rename_i xs hp
      obtain ⟨e, he, q⟩ := h
      have key : ∀ s, Inv C sn env ρ H s → ∃ vs, s.heap.IsTuple p vs ∧ (∀ y, y ∈ vs → EqAt A.in1 s y a (e (toV y))) ∧ Q (vs.any fun y => e (toV y)) := fun s I => by
        obtain ⟨vs, hvs, e1, z1⟩ := (I.nodes p _ hp).isTuple
        refine ⟨vs, hvs, fun y hy => ?_, ?_⟩
        · obtain ⟨d, hd, hle⟩ := he (toV y) (by rw [← e1]; exact List.mem_map.mpr ⟨y, by simpa using hy, rfl⟩)
          exact (hd.sound (A := A.in1) I.nodesIn (by show A.units + 1 + d < cLine; unfold deepest at hle; omega) rfl rfl).1
        · rw [← e1, List.any_map] at q
          rw [← Array.any_toList]; exact q
      exact ⟨fun s I => let ⟨vs, h1, h2, h3⟩ := key s I; in_tupleAt _ h1 h2 ⟨H, I, ⟨_, rfl, h3⟩, rfl⟩, fun s I => let ⟨vs, h1, h2, h3⟩ := key s I; notIn_tupleAt _ h1 h2 ⟨H, I, ⟨_, rfl, h3⟩, rfl⟩⟩
    · rename_i es hp
      split at h
      · rename_i k ea
        obtain ⟨t, rfl⟩ := toV_str ea
        refine ⟨fun s I => ?_, fun s I => ?_⟩
        all_goals
          obtain ⟨kvs, hd, e1, _⟩ := (I.nodes p _ hp).sdict
          rw [any_map e1] at h
        · exact wpAny_in_of (strKind_is _ _ k t) (I.notMods hp rfl) hd.mapOf ⟨H, I.toks _, ⟨_, rfl, h⟩, rfl⟩
        · exact wpAny_notIn_of (strKind_is _ _ k t) (I.notMods hp rfl) hd.mapOf ⟨H, I.toks _, ⟨_, rfl, h⟩, rfl⟩
      · exact h.elim
    · rename_i es hp
      split at h
      · rename_i k ea
        obtain ⟨t, rfl⟩ := toV_int ea
        refine ⟨fun s I => ?_, fun s I => ?_⟩
        all_goals
          obtain ⟨kvs, hd, e1, _⟩ := (I.nodes p _ hp).idict
          rw [any_map e1] at h
        · exact wpAny_in_of (intKind_is _ _ k t) (I.notMods hp rfl) hd.mapOf ⟨H, I.toks _, ⟨_, rfl, h⟩, rfl⟩
        · exact wpAny_notIn_of (intKind_is _ _ k t) (I.notMods hp rfl) hd.mapOf ⟨H, I.toks _, ⟨_, rfl, h⟩, rfl⟩
      · exact h.elim
    · exact h.elim
  · exact h.elim
end
end Mine
namespace Mine
open PySem PySem.Calls PySem.SeqAt
section
variable {C : Cx} {sn : Snap} {A : Around} {env : Env} {ρ : Str → Option V} {H : AH} {E : Value → Shared → Prop}
theorem hits_of {K : Type} [DecidableEq K] {A : Around} {s : Shared} {kb : List (K × Value)} {fs : List (K × V)} (hb : kb.map (fun p => (p.1, toV p.2)) = fs) : ∀ (ka : List (K × Value)) (es : List (K × V)), ka.map (fun p => (p.1, toV p.2)) = es → dSc es fs →
    W.KeqHits A s kb ka (es.all fun p => match dget fs p.1 with | some w => (scEq p.2 w).getD false | none => false)
  | [], _, rfl, _ => .nil
  | (k, v) :: r, _, rfl, h => by
    simp only [List.map_cons, List.all_cons]
    have hr := hits_of (A := A) (s := s) hb r _ rfl fun p hp => h p (List.mem_cons_of_mem _ hp)
    have hd := dget_map hb k
    cases q : valueAt kb k with
    | none =>
      rw [q] at hd
      simp only [Option.map_none] at hd
      rw [hd]
      exact .miss q
    | some y =>
      rw [q] at hd
      simp only [Option.map_some] at hd
      rw [hd]
      obtain ⟨e, he⟩ := Option.isSome_iff_exists.mp (h (k, toV v) (by simp) (toV y) hd)
      simp only [he, Option.getD_some]
      exact .hit q (eqAt_sc he).1 hr
theorem pick_get {vs : Array Value} {xs : List V} {k : Int} {v : V} (e1 : vs.toList.map toV = xs) (hz : xs.length < 2 ^ 62) (h : pick xs k = some v) :
    ∃ cv, toV cv = v ∧ ((0 ≤ k ∧ k < 2 ^ 62 ∧ vs[k.toNat]? = some cv) ∨ (k < 0 ∧ -(vs.size : Int) ≤ k ∧ -(2 ^ 62) ≤ k ∧ vs[(k + vs.size).toNat]? = some cv)) := by
  unfold pick at h
  have hs := map_size e1
  split at h
  · rename_i h0
    obtain ⟨cv, q1, q2⟩ := map_get e1 h
    refine ⟨cv, q2, .inl ⟨h0, ?_, q1⟩⟩
    have := (Array.getElem?_eq_some_iff.mp q1).1
    omega
  · rename_i h0
    split at h
    · rename_i h1
      obtain ⟨cv, q1, q2⟩ := map_get e1 h
      refine ⟨cv, q2, .inr ⟨by omega, by rw [hs]; exact h1, by omega, by rw [hs]; exact q1⟩⟩
    · cases h
theorem subscripted_any (slice : Expr) (o i : Value) : ∃ ops, subscripted slice false o i = operate ops (getItem o i) := by
  unfold subscripted
  split
  · exact ⟨_, rfl⟩
  · rename_i h; cases h
  · exact ⟨_, rfl⟩
theorem tail_of {s : Shared} {value slice : Expr} {o i : Value} {T id : String} {Q : Value → Shared → Prop} (hT : s.TypeIs o T)
    (hl : typeLookup (.type T) "__getitem__" = pure (some (.builtin id))) (hg : wpAny C.M A (getItem o i) Q E s) : wpAny C.M A (PyProof.Rows.subscriptTail value slice o i) Q E s := by
  obtain ⟨ops, e⟩ := subscripted_any slice o i
  exact PyProof.Rows.tail_any hT hl hg e
end
end Mine
namespace Mine
open PySem PySem.Calls PySem.SeqAt
def plainArgs (args : List (Bool × Sem Value)) : Prop := ∀ x ∈ args, x.1 = false
section
variable {α : Type} {C : Cx} {sn : Snap} {A : Around} {env : Env} {ρ : Str → Option V} {H : AH} {E : Value → Shared → Prop}
def TMs (C : Cx) (sn : Snap) (A : Around) (env : Env) (ρ : Str → Option V) (E : Value → Shared → Prop) : List (Sem Value) → (List Value → AH → Prop) → AH → Prop
  | [], Q, H => Q [] H
  | t :: ts, Q, H => TM C sn A env ρ t (fun v H' => TMs C sn A env ρ E ts (fun vs H'' => Q (v :: vs) H'') H') E H
theorem tm_spliced {args : List (Bool × Sem Value)} {Q : List Value → AH → Prop} (hp : plainArgs args) (h : TMs C sn A env ρ E (args.map (·.2)) Q H) : TM C sn A env ρ (spliced args) Q E H := by
  induction args generalizing H Q with
  | nil => exact .pure h
  | cons x r ih =>
    obtain ⟨b, t⟩ := x
    have hb : b = false := hp _ (List.mem_cons_self ..)
    subst hb
    rw [PySem.spliced]
    refine .bind (TM.mono h fun v H' h' => ?_)
    simp only [Bool.false_eq_true, if_false]
    refine .bind (.pure (.bind (.holding ?_)))
    exact (ih (fun y hy => hp y (List.mem_cons_of_mem _ hy)) h').mono fun vs H'' q => .pure q
theorem tm_evalArgs {f : Value} {args : List (Bool × Sem Value)} {Q : Args → AH → Prop} (hp : plainArgs args) (h : TMs C sn A env ρ E (args.map (·.2)) (fun vs H' => Q ⟨vs, []⟩ H') H) :
    TM C sn A env ρ (evalArgs f true args []) Q E H := by
  have hs := tm_spliced hp h
  unfold PySem.evalArgs
  match args, hp, hs with
  | [], _, hs =>
    show TM C sn A env ρ (PySem.spliced [] >>= _) Q E H
    refine .bind (hs.mono fun vs H' q => ?_)
    refine .holding ?_
    exact .bind (.pure (.bind (.pure (.pure q))))
  | (true, x) :: rest, hp, _ => exact absurd (hp _ (List.mem_cons_self ..)) (by simp)
  | (false, x) :: rest, _, hs =>
    show TM C sn A env ρ (PySem.spliced ((false, x) :: rest) >>= _) Q E H
    refine .bind (hs.mono fun vs H' q => ?_)
    refine .holding ?_
    exact .bind (.pure (.bind (.pure (.pure q))))
theorem tm_callWith_other {pos : Pos} {f : Value} {first : List Value} {args : List (Bool × Sem Value)} {Q : Value → AH → Prop} (hf : ∀ a, f ≠ .ref a) (hp : plainArgs args)
    (h : TMs C sn A env ρ E (args.map (·.2)) (fun vs H' => TM C sn A env ρ (call f (first ++ vs)) Q E H') H) : TM C sn A env ρ (callWith pos f first args []) Q E H := by
  have hk : keeperOf f = pure .machine := by cases f <;> first | rfl | exact absurd rfl (hf _)
  have ha : args.any (·.1) = false := by rw [List.any_eq_false]; intro x hx; rw [hp x hx]; simp
  unfold callWith
  refine .bind (.holding (tm_evalArgs hp ?_))
  have mono : ∀ {ts : List (Sem Value)} {Q Q' : List Value → AH → Prop} {H : AH}, TMs C sn A env ρ E ts Q H → (∀ vs H', Q vs H' → Q' vs H') → TMs C sn A env ρ E ts Q' H := by
    intro ts
    induction ts with
    | nil => intro Q Q' H h k; exact k _ _ h
    | cons t r ih => intro Q Q' H h k; exact TM.mono h fun v H' h' => ih h' fun vs H'' q => k _ _ q
  refine mono h fun vs H' q => .bind (.standAt ?_)
  rw [hk]
  simp only [ha, List.any_nil, Bool.or_false]
  refine .bind (.pure ?_)
  exact .bind (q.mono fun r H'' qr => .bind (.holding (.point (.pure qr))))
theorem TMs.mono {ts : List (Sem Value)} {Q Q' : List Value → AH → Prop} (h : TMs C sn A env ρ E ts Q H) (k : ∀ vs H', Q vs H' → Q' vs H') : TMs C sn A env ρ E ts Q' H := by
  induction ts generalizing Q Q' H with
  | nil => exact k _ _ h
  | cons t r ih => exact TM.mono h fun v H' h' => ih h' fun vs H'' q => k _ _ q
theorem TM.keep {vs : List Value} {m : Sem α} {Q : α → AH → Prop} (h : TM C sn A env ρ m Q E H) : TM C sn A env ρ (m.keep vs) Q E H := fun s I => wpAny_keep (h s I)
end
end Mine
namespace Mine
open PySem PySem.Calls PySem.SeqAt
def kindV (H : AH) : V → Option String
  | .none => some "NoneType"
  | .bool _ => some "bool"
  | .int _ => some "int"
  | .str _ => some "str"
  | .ref p => match H.get p with
    | some (.list _) | some (.rlist _) => some "list"
    | some (.tuple _) => some "tuple"
    | some (.sdict _) | some (.idict _) => some "dict"
    | _ => none
  | _ => none
def isiT (K T : String) : Bool := K == T || (K == "bool" && T == "int")
def isiTypes : List String := ["str", "int", "bool", "tuple", "list", "dict"]
section
variable {C : Cx} {sn : Snap} {A : Around} {env : Env} {ρ : Str → Option V} {H : AH} {E : Value → Shared → Prop} {Q : V → AH → Prop}
theorem tm_len_str {x : Str} {t : Tok} (hz : x.length < 2 ^ 62) (h : Q (.int x.length) H) : TM C sn A env ρ (call (.builtin "len") [.str x t]) (fun v H' => Q (toV v) H') E H :=
  fun s I => PyProof.Rows.len_str (by omega) (toks_still I (v := .int _ _) h _)
theorem tm_len_list {p : Nat} {n : Node} {xs : List V} (hp : H.get p = some n) (en : n.seqL = some xs) (h : Q (.int xs.length) H) : TM C sn A env ρ (call (.builtin "len") [.ref p]) (fun v H' => Q (toV v) H') E H := by
  intro s I
  obtain ⟨vs, hvs, e1, z1⟩ := (I.nodes p n hp).isList en
  refine call_len_list hvs (by rw [map_size e1]; omega) ?_
  rw [map_size e1]; exact toks_still I (v := .int _ _) h _
theorem tm_len_tuple {p : Nat} {xs : List V} (hp : H.get p = some (.tuple xs)) (h : Q (.int xs.length) H) : TM C sn A env ρ (call (.builtin "len") [.ref p]) (fun v H' => Q (toV v) H') E H := by
  intro s I
  obtain ⟨vs, hvs, e1, z1⟩ := (I.nodes p _ hp).isTuple
  refine PyProof.Rows.len_tuple (t := p) hvs (by rw [map_size e1]; omega) ?_
  rw [map_size e1]; exact toks_still I (v := .int _ _) h _
theorem tm_len_dict {K : Type} [DecidableEq K] {knd : KeyKind C.prog C.w K} {p : Nat} {kvs : List (K × Value)} {es : List (K × V)} {s : Shared} (I : Inv C sn env ρ H s) (hd : s.heap.DictOf knd p kvs) (e1 : kvs.map (fun p => (p.1, toV p.2)) = es)
    (hz : es.length < 2 ^ 62) (hm : (p == sysModules) = false) (h : Q (.int es.length) H) : wpAny C.M A (call (.builtin "len") [.ref p]) (fun v s' => ∃ H', Inv C sn env ρ H' s' ∧ Q (toV v) H') E s := by
  have hl : kvs.length = es.length := by rw [← e1]; simp
  refine call_len_dict hm hd (by omega) ?_
  rw [hl]; exact toks_still I (v := .int _ _) h _
theorem isi_facts {T : String} (hT : isiTypes.contains T = true) : typeOf (.type T) = pure (.type "type") := by
  simp only [isiTypes, List.contains_cons, List.contains_nil, Bool.or_false, Bool.or_eq_true, beq_iff_eq] at hT
  rcases hT with rfl | rfl | rfl | rfl | rfl | rfl
  · exact F.isi_meta_str
  · exact F.isi_meta_int
  · exact F.isi_meta_bool
  · exact F.isi_meta_tuple
  · exact F.isi_meta_list
  · exact F.isi_meta_dict
def servedKinds : List String := ["NoneType", "bool", "int", "str", "list", "tuple", "dict"]
theorem sub_facts {K T : String} (hK : servedKinds.contains K = true) (hT : isiTypes.contains T = true) : isSubtype (.type K) (.type T) = pure (isiT K T) := by
  simp only [servedKinds, isiTypes, List.contains_cons, List.contains_nil, Bool.or_false, Bool.or_eq_true, beq_iff_eq] at hK hT
  rcases hK with rfl | rfl | rfl | rfl | rfl | rfl | rfl <;> rcases hT with rfl | rfl | rfl | rfl | rfl | rfl <;> (rw [isSubtype_type]; kernel_rfl)
theorem tm_isi {a : Value} {K T : String} (hT : isiTypes.contains T = true) (hk : kindV H (toV a) = some K) (h : Q (.bool (isiT K T)) H) :
    TM C sn A env ρ (call (.builtin "isinstance") [a, .type T]) (fun v H' => Q (toV v) H') E H := by
  intro s I
  have hty := isi_facts hT
  have typ : servedKinds.contains K = true ∧ s.TypeIs a K := by
    unfold kindV at hk
    cases a <;> simp only [toV, reduceCtorEq, Option.some.injEq] at hk
    case ref p =>
      split at hk <;> simp only [reduceCtorEq, Option.some.injEq] at hk <;> subst hk
      · rename_i xs hp; obtain ⟨vs, hvs, _⟩ := (I.nodes p _ hp).isList rfl; exact ⟨by decide, hvs.typeIs⟩
      · rename_i xs hp; obtain ⟨vs, hvs, _⟩ := (I.nodes p _ hp).isList rfl; exact ⟨by decide, hvs.typeIs⟩
      · rename_i xs hp; obtain ⟨vs, hvs, _⟩ := (I.nodes p _ hp).isTuple; obtain ⟨o, ho, hc, _⟩ := hvs; exact ⟨by decide, o, ho, hc⟩
      · rename_i xs hp; obtain ⟨kvs, hd, _⟩ := (I.nodes p _ hp).sdict; exact ⟨by decide, hd.typeIs⟩
      · rename_i xs hp; obtain ⟨kvs, hd, _⟩ := (I.nodes p _ hp).idict; exact ⟨by decide, hd.typeIs⟩
    all_goals (subst hk; exact ⟨by decide, rfl⟩)
  have hsub := sub_facts typ.1 hT
  cases hb : isiT K T with
  | true =>
    rw [hb] at hsub h
    exact call_isinstance (isinstance_true hty hsub) ⟨typ.2, H, I, h⟩
  | false =>
    rw [hb] at hsub h
    have hne : ∀ K', K = K' → (Value.type K' == Value.type T) = false := by
      rintro K' rfl
      rw [beq_eq_false_iff_ne]
      intro e
      injection e with e
      subst e
      simp [isiT] at hb
    have fin : ∃ H', Inv C sn env ρ H' { s with toks := s.toks + 1 } ∧ Q (toV (.bool false)) H' := ⟨H, I.toks _, h⟩
    unfold kindV at hk
    cases a <;> simp only [toV, reduceCtorEq, Option.some.injEq] at hk
    case ref p =>
      obtain ⟨o, ho, hc⟩ := typ.2
      split at hk <;> simp only [reduceCtorEq, Option.some.injEq] at hk <;> subst hk
      · exact call_isinstance (isinstance_false_list (hne _ rfl) hty hsub) ⟨⟨o, ho, hc⟩, fin⟩
      · exact call_isinstance (isinstance_false_list (hne _ rfl) hty hsub) ⟨⟨o, ho, hc⟩, fin⟩
      · exact call_isinstance (isinstance_false_tuple (hne _ rfl) hty hsub) ⟨⟨o, ho, hc⟩, fin⟩
      · exact call_isinstance (isinstance_false_dict (hne _ rfl) hty hsub) ⟨⟨o, ho, hc⟩, fin⟩
      · exact call_isinstance (isinstance_false_dict (hne _ rfl) hty hsub) ⟨⟨o, ho, hc⟩, fin⟩
    · subst hk; exact call_isinstance (isinstance_false_none (hne _ rfl) hty hsub) fin
    · subst hk; exact call_isinstance (isinstance_false_bool (hne _ rfl) hty hsub) fin
    · subst hk; exact call_isinstance (isinstance_false_int (hne _ rfl) hty hsub) fin
    · subst hk; exact call_isinstance (isinstance_false_str (hne _ rfl) hty hsub) fin
theorem map_cons' {vs : List Value} {x : V} {r : List V} (h : vs.map toV = x :: r) : ∃ v us, vs = v :: us ∧ toV v = x ∧ us.map toV = r := List.map_eq_cons_iff.mp h
theorem map_one {vs : List Value} {x : V} (h : vs.map toV = [x]) : ∃ v, vs = [v] ∧ toV v = x := by
  obtain ⟨v, us, rfl, e, h⟩ := map_cons' h
  rw [List.map_eq_nil_iff.mp h]
  exact ⟨v, rfl, e⟩
theorem map_two {vs : List Value} {x y : V} (h : vs.map toV = [x, y]) : ∃ v u, vs = [v, u] ∧ toV v = x ∧ toV u = y := by
  obtain ⟨v, us, rfl, e, h⟩ := map_cons' h
  obtain ⟨u, rfl, e'⟩ := map_one h
  exact ⟨v, u, rfl, e, e'⟩
theorem tm_list_copy {p : Nat} {n : Node} {xs : List V} (hp : H.get p = some n) (en : n.seq = some xs) (hz : xs.length ≤ sizeLine) (h : made sn.fz (.list xs) Q H) :
    TM C sn A env ρ (call (.type "list") [.ref p]) (fun v H' => Q (toV v) H') E H := by
  intro s I
  have hD : s.heap.get? s.heap.objs.size = none := get_size _
  have fin : ∀ (items : Array Value) h' c', items.toList.map toV = xs → (∀ b o', s.heap.get? b = some o' → h'.get? b = some o') → h'.get? s.heap.objs.size = some { cls := .type "list", dict := none, data := .seq items c', slots := #[] } →
      ∃ H', Inv C sn env ρ H' { s with heap := h' } ∧ Q (toV (.ref s.heap.objs.size)) H' := fun items h' c' e k ho =>
    ⟨_, I.come (n := .list xs) (tk := s.toks) k hD ⟨_, ho, by rw [sizeLine_eq] at hz; omega, items, c', rfl, e⟩, h _ (I.none_of_new hD) (I.notFz (I.none_of_new hD))⟩
  cases n <;> simp [Node.seq] at en <;> subst en
  · obtain ⟨vs, ⟨o, ho, hc, k, hd⟩, e1, z1⟩ := (I.nodes p _ hp).isList rfl
    exact call_list_seq p (.inl rfl) ho hc hd (fun h' c' k ho => fin vs h' c' e1 k ho) (by rw [map_size e1]; exact hz)
  · obtain ⟨vs, ⟨o, ho, hc, k, hd⟩, e1, z1⟩ := (I.nodes p _ hp).isList rfl
    exact call_list_seq p (.inl rfl) ho hc hd (fun h' c' k ho => fin vs h' c' e1 k ho) (by rw [map_size e1]; exact hz)
  · obtain ⟨vs, ⟨o, ho, hc, k, hd⟩, e1, z1⟩ := (I.nodes p _ hp).isTuple
    exact call_list_seq p (.inr rfl) ho hc hd (fun h' c' k ho => fin vs h' c' e1 k ho) (by rw [map_size e1]; exact hz)
theorem tm_tuple_of {p : Nat} {n : Node} {xs : List V} (hp : H.get p = some n) (en : n.seqL = some xs) (hz : xs.length ≤ sizeLine) (h : made sn.fz (.tuple xs) Q H) :
    TM C sn A env ρ (call (.type "tuple") [.ref p]) (fun v H' => Q (toV v) H') E H := by
  intro s I
  obtain ⟨vs, hvs, e1, z1⟩ := (I.nodes p _ hp).isList en
  refine call_tuple_list hvs (fun h' k => ?_) (by rw [map_size e1]; exact hz)
  have J : Inv C sn env ρ H { s with heap := h' } := I.keeps (tk := s.toks) k
  have hD : h'.get? h'.objs.size = none := get_size _
  exact ⟨_, J.come (n := .tuple xs) (tk := s.toks) (fun b o e => Heap.get?_push_of_some _ e) hD ⟨_, Heap.get?_push_size _ rfl, by rw [sizeLine_eq] at hz; omega, rfl, rfl, vs, 0, rfl, e1⟩, h _ (J.none_of_new hD) (J.notFz (J.none_of_new hD))⟩
theorem tm_dict_copy {K : Type} [DecidableEq K] {knd : KeyKind C.prog C.w K} {p : Nat} {kvs : List (K × Value)} {n : Node} {s : Shared} (I : Inv C sn env ρ H s) (hd : s.heap.DictOf knd p kvs)
    (hz : kvs.length ≤ sizeLine) (hm : (p == sysModules) = false) (hn : ∀ o : Obj, o.IsDictOf knd kvs → ObjIs C o n) (h : made sn.fz n Q H) : wpAny C.M A (call (.type "dict") [.ref p]) (fun v s' => ∃ H', Inv C sn env ρ H' s' ∧ Q (toV v) H') E s := by
  have hD : s.heap.get? s.heap.objs.size = none := get_size _
  refine kt_call_dict hm hd hz fun h' hd' hs => ?_
  obtain ⟨o, ho, hio⟩ := Heap.dictOf_iff.mp hd'
  exact ⟨_, I.come (tk := s.toks) (fun b o e => hs.extBut b o (Nat.ne_of_lt (Heap.lt_size e)) (Heap.get?_push_of_some _ e)) hD ⟨o, ho, hn o hio⟩, h _ (I.none_of_new hD) (I.notFz (I.none_of_new hD))⟩
end
end Mine
namespace Mine
open PySem PySem.Calls PySem.SeqAt
def dmerge {K : Type} [DecidableEq K] (es fs : List (K × V)) : List (K × V) := fs.foldl (fun acc p => dput acc p.1 p.2) es
section
variable {C : Cx} {sn : Snap} {A : Around} {env : Env} {ρ : Str → Option V} {H : AH} {E : Value → Shared → Prop} {Q : V → AH → Prop}
theorem map_three {vs : List Value} {x y z : V} (h : vs.map toV = [x, y, z]) : ∃ v u t, vs = [v, u, t] ∧ toV v = x ∧ toV u = y ∧ toV t = z := by
  obtain ⟨v, us, rfl, e, h⟩ := map_cons' h
  obtain ⟨u, t, rfl, e', e''⟩ := map_two h
  exact ⟨v, u, t, rfl, e, e', e''⟩
theorem dput_length {K : Type} [DecidableEq K] (es : List (K × V)) (k : K) (v : V) : (dput es k v).length ≤ es.length + 1 := by
  unfold dput; split <;> simp
theorem dmerge_length {K : Type} [DecidableEq K] (es fs : List (K × V)) : (dmerge es fs).length ≤ es.length + fs.length := by
  unfold dmerge
  induction fs generalizing es with
  | nil => simp
  | cons p r ih =>
    have := ih (dput es p.1 p.2)
    have := dput_length es p.1 p.2
    simp only [List.foldl_cons, List.length_cons] at *
    omega
theorem dmerge_map {K : Type} [DecidableEq K] {kvs more : List (K × Value)} {es fs : List (K × V)} (h : kvs.map (fun p => (p.1, toV p.2)) = es) (h' : more.map (fun p => (p.1, toV p.2)) = fs) :
    (merged kvs more).map (fun p => (p.1, toV p.2)) = dmerge es fs := by
  subst h'
  unfold merged dmerge
  induction more generalizing kvs es with
  | nil => simpa using h
  | cons p r ih =>
    simp only [List.foldl_cons, List.map_cons]
    exact ih (dput_map h p.1 p.2)
theorem ext_update (h : Heap) (a : Addr) (f : Obj → Obj) : Heap.ExtBut a h (h.update a f) := (Heap.SameBut.update ..).extBut
theorem Inv.turnList {s : Shared} (I : Inv C sn env ρ H s) {p : Nat} {xs ys : List V} {vs : Array Value} {k : Nat} (hp : H.get p = some (.list xs)) (hfz : p ∉ sn.fz) (ho : s.heap.get? p = some { cls := .type "list", data := .seq vs k })
    (f : Array Value → Array Value) (hf : (f vs).toList.map toV = ys) (hz : ys.length < 2 ^ 62) : Inv C sn env ρ (H.set p (.list ys)) { s with heap := s.heap.update p (Obj.mapSeq f) } :=
  I.turn (n' := .list ys) (tk := s.toks) hp rfl hfz (ext_update _ _ _) ⟨_, IsL.update (n := k) ho f, hz, _, _, rfl, hf⟩
theorem sdict_nil {o : Obj} : ObjIs C o (.sdict []) ↔ ObjIs C o (.idict []) := by
  constructor
  · rintro ⟨z, kvs, ⟨es, ep, h1, h2, h3, h4, h5⟩, e⟩
    have : kvs = [] := by simpa using e
    subst this
    have hl := h4.length
    have : es = #[] := by rw [← Array.toList_eq_nil_iff]; exact List.length_eq_zero_iff.mp hl
    subst this
    exact ⟨by simp, [], ⟨#[], ep, h1, h2, fun _ h => by simp at h, .nil, by simp⟩, rfl⟩
  · rintro ⟨z, kvs, ⟨es, ep, h1, h2, h3, h4, h5⟩, e⟩
    have : kvs = [] := by simpa using e
    subst this
    have hl := h4.length
    have : es = #[] := by rw [← Array.toList_eq_nil_iff]; exact List.length_eq_zero_iff.mp hl
    subst this
    exact ⟨by simp, [], ⟨#[], ep, h1, h2, fun _ h => by simp at h, .nil, by simp⟩, rfl⟩
theorem Inv.asInt {s : Shared} (I : Inv C sn env ρ H s) {p : Nat} (hp : H.get p = some (.sdict [])) : ∃ kvs, s.heap.DictOf (intKind C.prog C.w) p kvs ∧ kvs = [] := by
  obtain ⟨o, ho, hi⟩ := I.nodes p _ hp
  obtain ⟨z, kvs, hd, e⟩ := sdict_nil.mp hi
  exact ⟨kvs, Heap.dictOf_iff.mpr ⟨o, ho, hd⟩, by simpa using e⟩
theorem strs_values {vs : Array Value} {ss : List Str} (h : vs.toList.map toV = ss.map V.str) : ∃ l : List (Str × Tok), vs = (strValues l).toArray ∧ l.map (·.1) = ss := by
  obtain ⟨l⟩ := vs
  simp only at h
  induction l generalizing ss with
  | nil => cases ss with
    | nil => exact ⟨[], rfl, rfl⟩
    | cons _ _ => simp at h
  | cons v r ih => cases ss with
    | nil => simp at h
    | cons x xs =>
      simp only [List.map_cons, List.cons.injEq] at h
      obtain ⟨t, rfl⟩ := toV_str h.1
      obtain ⟨l, e1, e2⟩ := ih h.2
      refine ⟨(x, t) :: l, ?_, by simp [e2]⟩
      simp only [strValues, List.map_cons] at e1 ⊢
      have := congrArg Array.toList e1
      simp at this
      rw [this]
theorem tm_dict_get {K : Type} [DecidableEq K] {knd : KeyKind C.prog C.w K} {p : Nat} {k : K} {key d : Value} {kvs : List (K × Value)} {es : List (K × V)} {s : Shared} (I : Inv C sn env ρ H s) (hkey : knd.is k key = true)
    (hd : s.heap.DictOf knd p kvs) (e1 : kvs.map (fun p => (p.1, toV p.2)) = es) (hm : (p == sysModules) = false) (h : Q ((dget es k).getD (toV d)) H) :
    wpAny C.M A (call (.builtin "dict.get") [.ref p, key, d]) (fun v s' => ∃ H', Inv C sn env ρ H' s' ∧ Q (toV v) H') E s := by
  refine call_meetsIn PySem.F.slot_dict_get hd.typeIs PySem.F.entry_dict_get (PySem.F.args_dict_get_3 _ _ _) (meets_dict_get_default knd p hkey hm d) ⟨_, hd.mapOf, ?_⟩
  refine ⟨H, I.toks _, ?_⟩
  rw [dget_map e1] at h
  cases q : valueAt kvs k with
  | none => rw [q] at h; simpa using h
  | some v => rw [q] at h; simpa using h
theorem tm_dict_clear {K : Type} [DecidableEq K] {knd : KeyKind C.prog C.w K} {p : Nat} {kvs : List (K × Value)} {n : Node} {s : Shared} (I : Inv C sn env ρ H s) (hp : H.get p = some n) (hr : n.isRO = false) (hfz : p ∉ sn.fz)
    (hd : s.heap.DictOf knd p kvs) (hz : kvs.length ≤ sizeLine) (hn : ∀ o : Obj, o.IsDictOf knd [] → ObjIs C o (.sdict [])) (h : Q .none (H.set p (.sdict []))) :
    wpAny C.M A (call (.builtin "dict.clear") [.ref p]) (fun v s' => ∃ H', Inv C sn env ρ H' s' ∧ Q (toV v) H') E s := by
  refine call_meetsIn PySem.F.slot_dict_clear hd.typeIs PySem.F.entry_dict_clear (PySem.F.args_dict_clear_1 _) (meets_dict_clear knd p) ⟨_, hd, hz, fun h' hd' hs => ?_⟩
  obtain ⟨ob, ho, hio⟩ := Heap.dictOf_iff.mp hd'
  exact ⟨_, I.turn (n' := .sdict []) (tk := s.toks) hp hr hfz hs.extBut ⟨ob, ho, hn ob hio⟩, h⟩
theorem tm_dict_update {K : Type} [DecidableEq K] {knd : KeyKind C.prog C.w K} {p q : Nat} {kvs more : List (K × Value)} {n n' : Node} {s : Shared} (I : Inv C sn env ρ H s) (hp : H.get p = some n) (hr : n.isRO = false) (hfz : p ∉ sn.fz) (hpq : p ≠ q)
    (hd : s.heap.DictOf knd p kvs) (hd2 : s.heap.DictOf knd q more) (hz : kvs.length + more.length ≤ sizeLine) (hm : (q == sysModules) = false) (hn : ∀ o : Obj, o.IsDictOf knd (merged kvs more) → ObjIs C o n') (h : Q .none (H.set p n')) :
    wpAny C.M A (call (.builtin "dict.update") [.ref p, .ref q]) (fun v s' => ∃ H', Inv C sn env ρ H' s' ∧ Q (toV v) H') E s := by
  refine call_meetsIn PySem.F.slot_dict_update hd.typeIs PySem.F.entry_dict_update (PySem.F.args_dict_update_2 _ _) (meets_dict_update knd p q hpq hm) ⟨_, _, hd, hd2, hz, fun h' hd' _ hs => ?_⟩
  obtain ⟨ob, ho, hio⟩ := Heap.dictOf_iff.mp hd'
  exact ⟨_, I.turn (n' := n') (tk := s.toks) hp hr hfz hs.extBut ⟨ob, ho, hn ob hio⟩, h⟩
end
end Mine
namespace Mine
open PySem PySem.Calls PySem.SeqAt
def rngItems (a b c : Int) : List V := (List.range (Builtin.Range.rangeSize a b c).toNat).map fun i => V.int (a + (i : Nat) * c)
def ItemsV (H : AH) (v : V) (xs : List V) : Prop :=
  match v with
  | .str x => xs = x.cps.toList.map fun c => V.str ⟨#[c]⟩
  | .ref p => (match H.get p with
    | some (.list ys) | some (.rlist ys) | some (.tuple ys) => xs = ys
    | some (.sdict es) => xs = es.map fun e => V.str e.1
    | some (.idict es) => xs = es.map fun e => V.int e.1
    | some (.rng a b c) => (-(2 ^ 60) ≤ a ∧ a ≤ 2 ^ 60 ∧ -(2 ^ 60) ≤ b ∧ b ≤ 2 ^ 60 ∧ 1 ≤ c ∧ c ≤ 2 ^ 20) ∧ xs = rngItems a b c
    | _ => False)
  | _ => False
def srcOf : V → List Nat
  | .ref p => [p]
  | _ => []
theorem small_range {a b c : Int} (h : -(2 ^ 60) ≤ a ∧ a ≤ 2 ^ 60 ∧ -(2 ^ 60) ≤ b ∧ b ≤ 2 ^ 60 ∧ 1 ≤ c ∧ c ≤ 2 ^ 20) : Builtin.Range.small a b c = true := by
  obtain ⟨h1, h2, h3, h4, h5, h6⟩ := h
  have hs : Builtin.Range.rangeSize a b c ≤ 2 ^ 62 ∧ 0 ≤ Builtin.Range.rangeSize a b c := by
    unfold Builtin.Range.rangeSize
    rw [if_pos (by omega)]
    split
    · have e1 : (b - a - 1) / c ≤ b - a - 1 := Int.ediv_le_self _ (by omega)
      have e2 : 0 ≤ (b - a - 1) / c := Int.ediv_nonneg (by omega) (by omega)
      omega
    · omega
  unfold Builtin.Range.small Builtin.Range.rangeFitsLong
  rw [if_pos (show c > 0 by omega)]
  simp only [Bool.and_eq_true, Bool.or_eq_true, decide_eq_true_eq, beq_iff_eq]
  omega
section
variable {C : Cx} {sn : Snap} {A : Around} {env : Env} {ρ : Str → Option V} {H : AH} {E : Value → Shared → Prop} {Q : V → AH → Prop}
structure Begun (C : Cx) (v : V) (xs : List V) (h : Heap) (I : Addr) (St : Nat → Heap → Prop) (P : Nat → Value → Prop) : Prop where
  walks : ∀ A' : Around, A'.handled = none → Walks C.prog C.w A' I (I :: srcOf v) [I] xs.length P St
  start : St 0 h
  item : ∀ i cx, P i cx → xs[i]? = some (toV cx)
  obj : ∀ i h, St i h → ∃ o vs, h.get? I = some o ∧ o.data = .fields vs
theorem begun_iter {v : Value} {xs : List V} {s : Shared} {R : Value → Shared → Prop} (I : Inv C sn env ρ H s) (hx : ItemsV H (toV v) xs)
    (h : ∀ o St P, Begun C (toV v) xs (s.heap.push o) s.heap.objs.size St P → R (.ref s.heap.objs.size) { s with heap := s.heap.push o }) : wpAny C.M A (pyIter v) R E s := by
  unfold ItemsV at hx
  generalize ev : toV v = u at hx h
  split at hx
  · rename_i x
    obtain ⟨t, rfl⟩ := toV_str ev
    have it : ∀ i cx, SignAt x i cx → xs[i]? = some (toV cx) := by
      rintro i cx ⟨c, u, e, rfl⟩
      subst hx
      simp [toV, e]
    have hsz : xs.length = x.cps.size := by subst hx; simp
    refine wpAny_pyIter_strU ?_
    cases ha : x.cps.all (· < 128)
    · refine h _ (fun i h => h.IsStrIter s.heap.objs.size "str_iterator" x t i) (SignAt x) ⟨fun A' hA => ?_, ⟨_, Heap.get?_push_size _ rfl, by simp [strIterType, ha], rfl⟩, it, fun i h ⟨o, ho, _, hd⟩ => ⟨o, _, ho, hd⟩⟩
      rw [hsz]
      exact (Walks.strWide hA _ x t).mono_fp (by simp [srcOf])
    · refine h _ (fun i h => h.IsStrIter s.heap.objs.size "str_ascii_iterator" x t i) (SignAt x) ⟨fun A' hA => ?_, ⟨_, Heap.get?_push_size _ rfl, by simp [strIterType, ha], rfl⟩, it, fun i h ⟨o, ho, _, hd⟩ => ⟨o, _, ho, hd⟩⟩
      rw [hsz]
      exact (Walks.strAscii hA _ x t).mono_fp (by simp [srcOf])
  · rename_i p
    have := toV_ref ev; subst this
    have lists : ∀ n ys, H.get p = some n → n.seqL = some ys → xs = ys → wpAny C.M A (pyIter (.ref p)) R E s := by
      rintro n ys hp en rfl
      obtain ⟨vs, hvs, e1, z1⟩ := (I.nodes p n hp).isList en
      have hlt : p ≠ s.heap.objs.size := by obtain ⟨o, ho, _⟩ := id hvs; exact Nat.ne_of_lt (Heap.lt_size ho)
      refine wpAny_pyIter_list hvs (h _ (fun i h => h.IsListIter s.heap.objs.size p i ∧ h.IsList p vs) (fun i v => vs[i]? = some v) ⟨fun A' hA => ?_, ⟨⟨_, Heap.get?_push_size _ rfl, rfl, rfl⟩, hvs.push _⟩, fun i cx e => ?_, fun i h ⟨⟨o, ho, _, hd⟩, _⟩ => ⟨o, _, ho, hd⟩⟩)
      · have := Walks.list (prog := C.prog) (w := C.w) hA s.heap.objs.size p hlt vs
        rw [← map_size e1]
        exact this.mono_fp (by simp [srcOf])
      · rw [← e1]; simp [e]
    split at hx
    · rename_i ys hp; exact lists _ ys hp rfl hx
    · rename_i ys hp; exact lists _ ys hp rfl hx
    · rename_i ys hp
      subst hx
      obtain ⟨vs, hvs, e1, z1⟩ := (I.nodes p _ hp).isTuple
      have hlt : p ≠ s.heap.objs.size := by obtain ⟨o, ho, _⟩ := id hvs; exact Nat.ne_of_lt (Heap.lt_size ho)
      refine wpAny_pyIter_tuple hvs (h _ (fun i h => h.IsTupleIter s.heap.objs.size p i ∧ h.IsTuple p vs) (fun i v => vs[i]? = some v) ⟨fun A' hA => ?_, ⟨⟨_, Heap.get?_push_size _ rfl, rfl, rfl⟩, ?_⟩, fun i cx e => ?_, fun i h ⟨⟨o, ho, _, hd⟩, _⟩ => ⟨o, _, ho, hd⟩⟩)
      · have := Walks.tuple (prog := C.prog) (w := C.w) hA s.heap.objs.size p hlt vs
        rw [← map_size e1]
        exact this.mono_fp (by simp [srcOf])
      · exact hvs.at fun o e => Heap.get?_push_of_some _ e
      · rw [← e1]; simp [e]
    · rename_i es hp
      subst hx
      obtain ⟨kvs, hd, e1, z1⟩ := (I.nodes p _ hp).sdict
      obtain ⟨ep, hd⟩ := hd.dictAt
      have hlt : p ≠ s.heap.objs.size := Nat.ne_of_lt hd.lt_size
      refine wpAny_pyIter_dict (I.notMods hp rfl) hd (h _ (fun i h => h.IsKeyIter s.heap.objs.size p i kvs.length ep ∧ h.DictAt (strKind C.prog C.w) p kvs ep) (fun i v => ∃ k x, kvs[i]? = some (k, x) ∧ (strKind C.prog C.w).is k v = true) ⟨fun A' hA => ?_, ⟨⟨_, Heap.get?_push_size _ rfl, rfl, rfl⟩, hd.push _⟩, ?_, fun i h ⟨⟨o, ho, _, hd⟩, _⟩ => ⟨o, _, ho, hd⟩⟩)
      · have := Walks.dictKeys (prog := C.prog) (w := C.w) (knd := strKind C.prog C.w) hA s.heap.objs.size p hlt kvs ep
        rw [show (es.map fun e => V.str e.1).length = kvs.length by rw [← e1]; simp]
        exact this.mono_fp (by simp [srcOf])
      · rintro i cx ⟨k, x, e, hk⟩
        obtain ⟨t, rfl⟩ := Value.isStrOf_shape (show Value.isStrOf k cx = true from hk)
        rw [← e1]; simp [e, toV]
    · rename_i es hp
      subst hx
      obtain ⟨kvs, hd, e1, z1⟩ := (I.nodes p _ hp).idict
      obtain ⟨ep, hd⟩ := hd.dictAt
      have hlt : p ≠ s.heap.objs.size := Nat.ne_of_lt hd.lt_size
      refine wpAny_pyIter_dict (I.notMods hp rfl) hd (h _ (fun i h => h.IsKeyIter s.heap.objs.size p i kvs.length ep ∧ h.DictAt (intKind C.prog C.w) p kvs ep) (fun i v => ∃ k x, kvs[i]? = some (k, x) ∧ (intKind C.prog C.w).is k v = true) ⟨fun A' hA => ?_, ⟨⟨_, Heap.get?_push_size _ rfl, rfl, rfl⟩, hd.push _⟩, ?_, fun i h ⟨⟨o, ho, _, hd⟩, _⟩ => ⟨o, _, ho, hd⟩⟩)
      · have := Walks.dictKeys (prog := C.prog) (w := C.w) (knd := intKind C.prog C.w) hA s.heap.objs.size p hlt kvs ep
        rw [show (es.map fun e => V.int e.1).length = kvs.length by rw [← e1]; simp]
        exact this.mono_fp (by simp [srcOf])
      · rintro i cx ⟨k, x, e, hk⟩
        obtain ⟨t, rfl⟩ := Value.isInt_shape (show Value.isInt k cx = true from hk)
        rw [← e1]; simp [e, toV]
    · rename_i a b c hp
      obtain ⟨hsm, rfl⟩ := hx
      obtain ⟨o, ho, t, u, w, rfl⟩ := I.nodes p _ hp
      have e0 := PyProof.Rows.rangeSize_toNat a b c
      refine wpAny_pyIter_range ho (small_range hsm) (h _ (fun i h => IsRangeIter h s.heap.objs.size (a + (i : Nat) * c) (((Builtin.Range.rangeSize a b c).toNat : Int) - (i : Nat)) c) (fun i v => ∃ t, v = .int (a + i * c) t ∧ i < (Builtin.Range.rangeSize a b c).toNat) ⟨fun A' hA => ?_, ?_, ?_, fun i h ho => ⟨_, _, ho, rfl⟩⟩)
      · have W := Walks.range (prog := C.prog) (w := C.w) hA s.heap.objs.size a c (Builtin.Range.rangeSize a b c).toNat
        rw [show (rngItems a b c).length = (Builtin.Range.rangeSize a b c).toNat by simp [rngItems]]
        refine ⟨by simp, fun i h h' st hk => W.frame i h h' st fun b hb o e => hk b (by simp at hb; simp [hb]) o e, fun i s Q E hi st hQ => ?_, fun s Q E st hQ => W.done s Q E st hQ, fun i s Q E st hQ => W.self i s Q E st hQ⟩
        exact W.item i s Q E hi st fun v h' tk ⟨t, e⟩ st' k => hQ v h' tk ⟨t, e, hi⟩ st' k
      · show IsRangeIter _ _ _ _ _
        rw [← e0]
        have := Heap.get?_push_size s.heap (o := { cls := .type "range_iterator", data := .fields #[rawInt a, rawInt (Builtin.Range.rangeSize a b c), rawInt c] }) rfl
        simpa [IsRangeIter] using this
      · rintro i cx ⟨t, rfl, hi⟩
        simp [rngItems, hi, toV]
    · exact False.elim hx
  · exact False.elim hx
def opRange (fz : List Nat) (vs : List V) (Q : V → AH → Prop) (H : AH) : Prop :=
  match vs with
  | [.int b] => made fz (.rng 0 b 1) Q H
  | [.int a, .int b] => made fz (.rng a b 1) Q H
  | [.int a, .int b, .int c] => DivOk c ∧ made fz (.rng a b c) Q H
  | _ => False
theorem tm_range {vs : List Value} (h : opRange sn.fz (vs.map toV) Q H) : TM C sn A env ρ (call (.type "range") vs) (fun v H' => Q (toV v) H') E H := by
  generalize ev : vs.map toV = us at h
  unfold opRange at h
  split at h
  · obtain ⟨v, rfl, e⟩ := map_one ev
    obtain ⟨t, rfl⟩ := toV_int e
    intro s I
    have hD : s.heap.get? s.heap.objs.size = none := get_size _
    refine call_range_1 ⟨_, I.come (n := .rng _ _ _) (fun b o e => Heap.get?_push_of_some _ e) hD ⟨_, Heap.get?_push_size _ rfl, _, _, _, rfl⟩, h _ (I.none_of_new hD) (I.notFz (I.none_of_new hD))⟩
  · obtain ⟨v, u, rfl, e, e'⟩ := map_two ev
    obtain ⟨t, rfl⟩ := toV_int e
    obtain ⟨t', rfl⟩ := toV_int e'
    intro s I
    have hD : s.heap.get? s.heap.objs.size = none := get_size _
    refine call_range_2 ⟨_, I.come (n := .rng _ _ _) (fun b o e => Heap.get?_push_of_some _ e) hD ⟨_, Heap.get?_push_size _ rfl, _, _, _, rfl⟩, h _ (I.none_of_new hD) (I.notFz (I.none_of_new hD))⟩
  · obtain ⟨v, u, x, rfl, e, e', e''⟩ := map_three ev
    obtain ⟨t, rfl⟩ := toV_int e
    obtain ⟨t', rfl⟩ := toV_int e'
    obtain ⟨t'', rfl⟩ := toV_int e''
    intro s I
    have hD : s.heap.get? s.heap.objs.size = none := get_size _
    refine call_range_3 h.1.1 ⟨_, I.come (n := .rng _ _ _) (tk := s.toks) (fun b o e => Heap.get?_push_of_some _ e) hD ⟨_, Heap.get?_push_size _ rfl, _, _, _, rfl⟩, h.2 _ (I.none_of_new hD) (I.notFz (I.none_of_new hD))⟩ (.inl (PyProof.noPylong_of_log2 h.1.2))
  · exact False.elim h
end
end Mine
namespace Mine
open PySem PySem.Calls PySem.SeqAt
theorem Kept.data {o : Obj} {x : Option Obj} (h : Kept o x) : ∃ o', x = some o' ∧ o'.data = o.data ∧ o'.cls = o.cls := by
  obtain ⟨sl, rfl, _⟩ := h; exact ⟨_, rfl, rfl, rfl⟩
theorem Kept.ns {h h' : Heap} {a : Addr} {m : Str → Option Value} (hn : h.Ns a m) (k : ∀ o, h.get? a = some o → Kept o (h'.get? a)) : h'.Ns a m := by
  obtain ⟨o, es, ep, ho, hd, r⟩ := hn
  obtain ⟨o', ho', hd', _⟩ := (k o ho).data
  exact ⟨o', es, ep, ho', hd'.trans hd, r⟩
theorem Kept.cell {h h' : Heap} {a : Addr} {v : Option Value} (hn : h.IsCell a v) (k : ∀ o, h.get? a = some o → Kept o (h'.get? a)) : h'.IsCell a v := by
  obtain ⟨o, ho, hd⟩ := hn
  obtain ⟨o', ho', hd', _⟩ := (k o ho).data
  exact ⟨o', ho', hd'.trans hd⟩
section
variable {C : Cx} {sn : Snap} {A : Around} {env env' : Env} {ρ ρ' : Str → Option V} {H H' : AH} {s s' : Shared}
theorem Inv.over (I : Inv C sn env ρ H s) {own' fz' : List Addr} (J : Inv C ⟨s.heap, H, own', fz'⟩ env' ρ' H' s') {b : Addr} {o : Obj} (hb : s.heap.get? b = some o) (hn : H.get b = none) (ho : b ∉ own') :
    H'.get b = none ∧ Kept o (s'.heap.get? b) := J.hid b o hb hn ho
theorem Inv.back (I : Inv C sn env ρ H s) (J : Inv C ⟨s.heap, H, [], sn.fz⟩ env' ρ' H' s') : Inv C sn env ρ H' s' := by
  have own : ∀ b ∈ ownOf env, ∀ o, s.heap.get? b = some o → H'.get b = none ∧ Kept o (s'.heap.get? b) := fun b hb o ho => I.over J ho (I.fresh b hb).1 (by simp)
  refine ⟨I.ok, J.base, J.nodes, J.new, fun b o e e1 e2 => ?_, fun b hb => ?_, ?_, fun p hp => ?_, J.gens, J.os, I.mine, fun b hb => ?_, fun b o e => ?_⟩
  · obtain ⟨q, r⟩ := I.hid b o e e1 e2
    obtain ⟨o', ho', _⟩ := r.data
    obtain ⟨q', r'⟩ := I.over J ho' q (by simp)
    exact ⟨q', r.trans fun o'' ho'' => by rw [ho'] at ho''; cases ho''; exact r'⟩
  · obtain ⟨o, ho⟩ := I.own_there hb
    exact ⟨(own b hb o ho).1, (I.fresh b hb).2⟩
  · obtain ⟨m, hm, hv⟩ := I.vars
    refine ⟨m, Kept.ns hm fun o ho => (own _ (List.mem_cons_self ..) o ho).2, fun x v e => ?_⟩
    obtain ⟨cv, a, q⟩ := hv x v e
    refine ⟨cv, ?_, q⟩
    rcases a with a | ⟨a, c, hc, hcell⟩
    · exact .inl a
    · exact .inr ⟨a, c, hc, Kept.cell hcell fun o ho => (own c (List.mem_cons_of_mem _ (List.mem_map.mpr ⟨_, mem_of_lookup hc, rfl⟩)) o ho).2⟩
  · obtain ⟨v, hcell⟩ := I.cells p hp
    exact ⟨v, Kept.cell hcell fun o ho => (own p.2 (List.mem_cons_of_mem _ (List.mem_map.mpr ⟨p, hp, rfl⟩)) o ho).2⟩
  · exact ⟨(J.frz b hb).1.trans (I.frz b hb).1, (J.frz b hb).2⟩
  · obtain ⟨o', ho'⟩ := I.live b o e
    exact J.live b o' ho'
theorem Inv.again (I : Inv C sn env ρ H s) {fz' : List Addr} (hf : ∀ b ∈ sn.fz, b ∈ fz') (J : Inv C ⟨s.heap, H, ownOf env, fz'⟩ env ρ' H' s') : Inv C sn env ρ' H' s' := by
  refine ⟨I.ok, J.base, J.nodes, J.new, fun b o e e1 e2 => ?_, J.fresh, J.vars, J.cells, J.gens, J.os, I.mine, fun b hb => ?_, fun b o e => ?_⟩
  · obtain ⟨q, r⟩ := I.hid b o e e1 e2
    obtain ⟨o', ho', _⟩ := r.data
    have hb : b ∉ ownOf env := fun hb => e2 (I.mine b hb o e)
    obtain ⟨q', r'⟩ := I.over J ho' q hb
    exact ⟨q', r.trans fun o'' ho'' => by rw [ho'] at ho''; cases ho''; exact r'⟩
  · exact ⟨(J.frz b (hf b hb)).1.trans (I.frz b hb).1, (J.frz b (hf b hb)).2⟩
  · obtain ⟨o', ho'⟩ := I.live b o e
    exact J.live b o' ho'
theorem Inv.snap (I : Inv C sn env ρ H s) {fz' : List Addr} (hf : ∀ b ∈ fz', ∃ n, H.get b = some n) : Inv C ⟨s.heap, H, ownOf env, fz'⟩ env ρ H s where
  ok := I.ok
  base := I.base
  nodes := I.nodes
  new := I.new
  hid := fun b o e e1 _ => ⟨e1, by rw [e]; exact Kept.refl o⟩
  fresh := I.fresh
  vars := I.vars
  cells := I.cells
  gens := I.gens
  os := I.os
  mine := fun b hb _ _ => hb
  frz := fun b hb => ⟨rfl, hf b hb⟩
  live := fun b o e => ⟨o, e⟩
end
def Junk (C : Cx) (sn : Snap) (env : Env) (H : AH) (b : Addr) : Prop := H.get b = none ∧ b ∉ ownOf env ∧ C.h₀.get? b = none ∧ sn.h.get? b = none
structure FlyS (C : Cx) (sn : Snap) (env : Env) (ρ : Str → Option V) (H : AH) (cls : Value) (e : Value) (st : Option Value) (s : Shared) : Prop where
  inv : Inv C sn env ρ H s
  exc : ∃ a oe vs, e = .ref a ∧ s.heap.get? a = some oe ∧ oe.cls = cls ∧ oe.data = .fields vs ∧ 1 < vs.size ∧ Junk C sn env H a ∧
    (match st with
    | none => vs[1]? = some .none
    | some fl => ∃ T oT ts, vs[1]? = some (.ref T) ∧ T ≠ a ∧ Junk C sn env H T ∧ s.heap.get? T = some oT ∧ oT.data = .fields ts ∧ ts[3]? = some fl)
def Fly (C : Cx) (sn : Snap) (env : Env) (ρ : Str → Option V) (H : AH) (cls : Value) (e : Value) (s : Shared) : Prop :=
  ∃ st, (st = none ∨ st = some .none ∨ st = some (rawInt env.locals)) ∧ FlyS C sn env ρ H cls e st s
abbrev Exc := Value → (Str → Option V) → AH → Prop
def Exits (C : Cx) (sn : Snap) (env : Env) (X : Exc) (E : Value → Shared → Prop) : Prop := ∀ cls ρ H e s, X cls ρ H → Fly C sn env ρ H cls e s → E e s
structure Stk (C : Cx) (sn : Snap) (A : Around) (env : Env) : Prop where
  frame : env.frame = some env.locals
  stack : ∃ outer, A.frames = some (env :: outer) ∧ ∀ f ∈ outer, f.scope.kind ≠ .module ∧ ∃ b o, f.frame = some b ∧ sn.h.get? b = some o ∧ (∃ es ep, o.data = .dict es ep) ∧ sn.H.get b = none ∧ b ∉ sn.own ∧ C.h₀.get? b = none
section
variable {C : Cx} {sn : Snap} {A : Around} {env : Env} {ρ : Str → Option V} {H : AH} {s : Shared} {E : Value → Shared → Prop}
theorem Inv.slots (I : Inv C sn env ρ H s) {h' : Heap} {fr : List Addr} (jk : Addr → Prop) (hj : ∀ b, jk b → Junk C sn env H b)
    (hfr : ∀ b ∈ fr, b = env.locals ∨ ∃ o, sn.h.get? b = some o ∧ (∃ es ep, o.data = .dict es ep) ∧ sn.H.get b = none ∧ b ∉ sn.own ∧ C.h₀.get? b = none)
    (k1 : ∀ b o, s.heap.get? b = some o → b ∉ fr → ¬ jk b → h'.get? b = some o) (k2 : ∀ b ∈ fr, ∀ o, s.heap.get? b = some o → ∃ sl, h'.get? b = some { o with slots := sl }) :
    Inv C sn env ρ H { s with heap := h' } := by
  have base : ∀ b ∈ fr, C.h₀.get? b = none := fun b hb => by
    rcases hfr b hb with rfl | ⟨o, _, _, _, _, h⟩
    · exact (I.fresh _ (List.mem_cons_self ..)).2
    · exact h
  have vis : ∀ b ∈ fr, H.get b = none := fun b hb => by
    rcases hfr b hb with rfl | ⟨o, e, _, e1, e2, _⟩
    · exact (I.fresh _ (List.mem_cons_self ..)).1
    · exact (I.hid b o e e1 e2).1
  have up : ∀ b o, s.heap.get? b = some o → ¬ jk b → ∃ sl, h'.get? b = some { o with slots := sl } := fun b o e hn => by
    by_cases hb : b ∈ fr
    · exact k2 b hb o e
    · exact ⟨o.slots, k1 b o e hb hn⟩
  have ownj : ∀ b ∈ ownOf env, ¬ jk b := fun b hb hjb => (hj b hjb).2.1 hb
  refine ⟨I.ok, fun b o e => ?_, fun b n e => ?_, I.new, fun b o e e1 e2 => ?_, I.fresh, ?_, fun p hp => ?_, I.gens, I.os, I.mine, fun b hb => ?_, fun b o e => ?_⟩
  · refine k1 b o (I.base b o e) (fun hb => ?_) fun hb => ?_
    · rw [base b hb] at e; cases e
    · rw [(hj b hb).2.2.1] at e; cases e
  · refine (I.nodes b n e).at fun o ho => k1 b o ho (fun hb => ?_) fun hb => ?_
    · rw [vis b hb] at e; cases e
    · rw [(hj b hb).1] at e; cases e
  · obtain ⟨q, r⟩ := I.hid b o e e1 e2
    refine ⟨q, ?_⟩
    obtain ⟨sl, e', hq⟩ := r
    have hnj : ¬ jk b := fun hb => by rw [(hj b hb).2.2.2] at e; cases e
    obtain ⟨sl', e''⟩ := up b _ e' hnj
    refine ⟨sl', e'', fun hd => ?_⟩
    by_cases hb : b ∈ fr
    · exfalso
      rcases hfr b hb with rfl | ⟨o', e3, ⟨es, ep, hd'⟩, _⟩
      · exact e2 (I.mine _ (List.mem_cons_self ..) o e)
      · rw [e] at e3; cases e3; exact hd es ep hd'
    · have := k1 b _ e' hb hnj
      rw [show ({ s with heap := h' } : Shared).heap.get? b = h'.get? b from rfl, this] at e''
      injection e'' with e''
      injection e'' with _ _ _ e4
      rw [← e4]; exact hq hd
  · obtain ⟨m, ⟨o, es, ep, ho, hd, r⟩, hv⟩ := I.vars
    obtain ⟨sl, ho'⟩ := up _ o ho (ownj _ (List.mem_cons_self ..))
    refine ⟨m, ⟨_, es, ep, ho', hd, r⟩, fun x v e => ?_⟩
    obtain ⟨cv, a, q⟩ := hv x v e
    refine ⟨cv, ?_, q⟩
    rcases a with a | ⟨a, c, hc, oc, hoc, hdc⟩
    · exact .inl a
    · obtain ⟨sl, hoc'⟩ := up c oc hoc (ownj c (List.mem_cons_of_mem _ (List.mem_map.mpr ⟨_, mem_of_lookup hc, rfl⟩)))
      exact .inr ⟨a, c, hc, _, hoc', hdc⟩
  · obtain ⟨v, oc, hoc, hdc⟩ := I.cells p hp
    obtain ⟨sl, hoc'⟩ := up p.2 oc hoc (ownj p.2 (List.mem_cons_of_mem _ (List.mem_map.mpr ⟨p, hp, rfl⟩)))
    exact ⟨v, _, hoc', hdc⟩
  · obtain ⟨q, n, e⟩ := I.frz b hb
    obtain ⟨o, ho, _⟩ := I.nodes b n e
    refine ⟨?_, n, e⟩
    rw [← q, ho]
    refine k1 b o ho (fun hb => ?_) fun hb => ?_
    · rw [vis b hb] at e; cases e
    · rw [(hj b hb).1] at e; cases e
  · obtain ⟨o', ho'⟩ := I.live b o e
    obtain ⟨sl, h⟩ := up b o' ho' fun hb => by rw [(hj b hb).2.2.2] at e; cases e
    exact ⟨_, h⟩
end
end Mine
namespace Mine
open PySem PySem.Calls PySem.SeqAt PySem.W
section
variable {C : Cx} {sn : Snap} {A : Around} {env : Env} {ρ : Str → Option V} {H : AH} {s : Shared} {E : Value → Shared → Prop} {cls e : Value}
theorem Inv.junk_of_new (I : Inv C sn env ρ H s) {b : Addr} (h : s.heap.get? b = none) : Junk C sn env H b := by
  refine ⟨I.none_of_new h, fun hb => ?_, ?_, ?_⟩
  · obtain ⟨o, ho⟩ := I.own_there hb; rw [h] at ho; cases ho
  · cases q : C.h₀.get? b with
    | none => rfl
    | some o => have := I.base b o q; rw [h] at this; cases this
  · cases q : sn.h.get? b with
    | none => rfl
    | some o => obtain ⟨o', ho'⟩ := I.live b o q; rw [h] at ho'; cases ho'
theorem Stk.facts (S : Stk C sn A env) (I : Inv C sn env ρ H s) : ∃ outer, A.frames = some (env :: outer) ∧
    (∀ b ∈ (env :: outer).filterMap (·.frame), b = env.locals ∨ ∃ o, sn.h.get? b = some o ∧ (∃ es ep, o.data = .dict es ep) ∧ sn.H.get b = none ∧ b ∉ sn.own ∧ C.h₀.get? b = none) ∧
    (∀ b ∈ (env :: outer).filterMap (·.frame), ∃ o, s.heap.get? b = some o ∧ ∀ vs, o.data ≠ .fields vs) ∧
    ∀ B : Heap, (∀ b ∈ (env :: outer).filterMap (·.frame), B.get? b = none) → s.heap.FunFrames B (env :: outer) := by
  obtain ⟨outer, hfr, hout⟩ := S.stack
  have key : ∀ b ∈ (env :: outer).filterMap (·.frame), b = env.locals ∨ ∃ o, sn.h.get? b = some o ∧ (∃ es ep, o.data = .dict es ep) ∧ sn.H.get b = none ∧ b ∉ sn.own ∧ C.h₀.get? b = none := fun b hb => by
    obtain ⟨f, hf, hfb⟩ := List.mem_filterMap.mp hb
    rcases List.mem_cons.mp hf with rfl | hf
    · rw [S.frame] at hfb; exact .inl (Option.some.inj hfb).symm
    · obtain ⟨_, b', o, h1, h2⟩ := hout f hf
      rw [h1] at hfb; cases hfb
      exact .inr ⟨o, h2⟩
  have there : ∀ b ∈ (env :: outer).filterMap (·.frame), ∃ o, s.heap.get? b = some o ∧ ∀ vs, o.data ≠ .fields vs := fun b hb => by
    rcases key b hb with rfl | ⟨o, h1, ⟨es, ep, hd⟩, h3, h4, h5⟩
    · obtain ⟨m, ⟨o, es, ep, ho, hd, _⟩, _⟩ := I.vars
      exact ⟨o, ho, fun vs q => by rw [hd] at q; cases q⟩
    · obtain ⟨o', ho', hd', _⟩ := (I.hid b o h1 h3 h4).2.data
      exact ⟨o', ho', fun vs q => by rw [hd', hd] at q; cases q⟩
  refine ⟨outer, hfr, key, there, fun B hB => ?_⟩
  have fun_all : ∀ l : List Env, (∀ f ∈ l, f ∈ env :: outer) → s.heap.FunFrames B l := by
    intro l
    induction l with
    | nil => intro _; trivial
    | cons f r ih =>
      intro hl
      have hf := hl f (List.mem_cons_self ..)
      refine ⟨?_, ?_, ih fun g hg => hl g (List.mem_cons_of_mem _ hg)⟩
      · rcases List.mem_cons.mp hf with rfl | hf
        · rw [I.ok.kind]; decide
        · exact (hout f hf).1
      · have : ∃ b, f.frame = some b := by
          rcases List.mem_cons.mp hf with rfl | hf
          · exact ⟨_, S.frame⟩
          · obtain ⟨_, b', o, h1, _⟩ := hout f hf; exact ⟨b', h1⟩
        obtain ⟨b, hb⟩ := this
        have hm : b ∈ (env :: outer).filterMap (·.frame) := List.mem_filterMap.mpr ⟨f, hf, hb⟩
        obtain ⟨o, ho, hd⟩ := there b hm
        exact ⟨b, o, hb, hB b hm, ho, hd⟩
  exact fun_all _ fun f hf => hf
theorem FlyS.after {st : Option Value} {a : Addr} {jk : List Addr} {outer : List Env} {B h' : Heap} {fl a0 : Value} (I : Inv C sn env ρ H s) (hj : ∀ b ∈ a :: jk, Junk C sn env H b)
    (key : ∀ b ∈ (env :: outer).filterMap (·.frame), b = env.locals ∨ ∃ o, sn.h.get? b = some o ∧ (∃ es ep, o.data = .dict es ep) ∧ sn.H.get b = none ∧ b ∉ sn.own ∧ C.h₀.get? b = none)
    (there : ∀ b ∈ (env :: outer).filterMap (·.frame), ∃ o, s.heap.get? b = some o ∧ ∀ vs, o.data ≠ .fields vs)
    (hB : B = hideAll s.heap (a :: jk ++ (env :: outer).filterMap (·.frame))) (N : Heap.NotedW B (env :: outer) a cls a0 fl s.heap h') : FlyS C sn env ρ H cls (.ref a) (some fl) { s with heap := h' } := by
  subst hB
  obtain ⟨n1, n2, n3, n4⟩ := N
  have I' : Inv C sn env ρ H { s with heap := h' } := by
    refine I.slots (fr := (env :: outer).filterMap (·.frame)) (fun b => b ∈ a :: jk) hj key (fun b o e h1 h2 => ?_) fun b hb o e => ?_
    · refine n1 b o (hideAll_get _ e fun hm => ?_)
      rcases List.mem_append.mp hm with hm | hm
      · exact h2 hm
      · exact h1 hm
    · obtain ⟨o', ho', hd'⟩ := there b hb
      rw [e] at ho'; cases ho'
      exact n4 b o e hd'
  obtain ⟨oe, vs, T, oT, ts, he, ⟨hc, h0⟩, hd, h1, hT, hTa, hTo, hTd, h3⟩ := n3
  refine ⟨I', a, oe, vs, rfl, he, hc, hd, (Array.getElem?_eq_some_iff.mp h1).1, hj a (List.mem_cons_self ..), T, oT, ts, h1, hTa, ?_, hTo, hTd, h3⟩
  by_cases hTj : T ∈ a :: jk
  · exact hj T hTj
  · refine I.junk_of_new ?_
    cases q : s.heap.get? T with
    | none => rfl
    | some o =>
      exfalso
      by_cases hTf : T ∈ (env :: outer).filterMap (·.frame)
      · obtain ⟨_, o', ho', hd'⟩ := n2.mem hTf
        rw [hTo] at ho'; cases ho'; exact hd' ts hTd
      · have := hideAll_get (a :: jk ++ (env :: outer).filterMap (·.frame)) q fun hm => by
          rcases List.mem_append.mp hm with hm | hm
          · exact hTj hm
          · exact hTf hm
        rw [hT] at this; cases this
theorem Fly.noted (S : Stk C sn A env) (F : Fly C sn env ρ H cls e s) {Q : Unit → Shared → Prop} (h : ∀ s', FlyS C sn env ρ H cls e (some (rawInt env.locals)) s' → Q () s') : wpAny C.M A (noteFrame e env) Q E s := by
  obtain ⟨st, hst, I, a, oe, vs, rfl, he, hc, hd, hsz, hja, htr⟩ := F
  obtain ⟨outer, hfr, key, there, ff⟩ := S.facts I
  obtain ⟨a0, h0⟩ : ∃ a0, vs[0]? = some a0 := ⟨vs[0], by simp⟩
  rcases hst with rfl | rfl | rfl
  · have hj : ∀ b ∈ [a], Junk C sn env H b := fun b hb => by rw [List.mem_singleton.mp hb]; exact hja
    unfold noteFrame
    simp only [S.frame]
    refine wpAny_bind (wpAny_field he hd htr ?_)
    rw [if_neg (by decide)]
    subst hc
    exact wpAny_entryW hfr (ff (hideAll s.heap (a :: [] ++ (env :: outer).filterMap (·.frame))) fun b hb => hideAll_none _ (List.mem_append.mpr (.inr hb))) S.frame he
      (fun b o q => of_hideAll _ q) (hideAll_none _ (List.mem_append.mpr (.inl (List.mem_cons_self ..)))) hd hsz h0 fun h' N => h _ (FlyS.after (st := none) I hj key there rfl N)
  · obtain ⟨T, oT, ts, h1, hTa, hjT, hTo, hTd, h3⟩ := htr
    have hj : ∀ b ∈ [a, T], Junk C sn env H b := fun b hb => by
      rcases List.mem_cons.mp hb with rfl | hb
      · exact hja
      · rw [List.mem_singleton.mp hb]; exact hjT
    exact wpAny_noteFrame_onW hfr (ff (hideAll s.heap (a :: [T] ++ (env :: outer).filterMap (·.frame))) fun b hb => hideAll_none _ (List.mem_append.mpr (.inr hb))) S.frame
      ⟨oe, vs, T, oT, ts, he, ⟨hc, h0⟩, hd, h1, hideAll_none _ (List.mem_append.mpr (.inl (List.mem_cons_of_mem _ (List.mem_cons_self ..)))), hTa, hTo, hTd, h3⟩
      (fun b o q => of_hideAll _ q) (hideAll_none _ (List.mem_append.mpr (.inl (List.mem_cons_self ..)))) fun h' N => h _ (FlyS.after (st := none) I hj key there rfl N)
  · obtain ⟨T, oT, ts, h1, hTa, hjT, hTo, hTd, h3⟩ := htr
    refine wpAny_noteFrame_againW (base := {}) (a0 := a0) S.frame ⟨oe, vs, T, oT, ts, he, ⟨hc, h0⟩, hd, h1, ?_, hTa, hTo, hTd, h3⟩ (h _ ⟨I, a, oe, vs, rfl, he, hc, hd, hsz, hja, T, oT, ts, h1, hTa, hjT, hTo, hTd, h3⟩)
    cases q : Heap.get? {} T with
    | none => rfl
    | some o => exact absurd (Heap.lt_size q) (Nat.not_lt_zero _)
theorem FlyS.setFlight {fl : Value} {f : Option Addr} (F : FlyS C sn env ρ H cls e (some fl) s) {Q : Unit → Shared → Prop} (h : ∀ s', FlyS C sn env ρ H cls e (some (f.elim .none fun b => rawInt b)) s' → Q () s') : wpAny C.M A (setFlight e f) Q E s := by
  obtain ⟨I, a, oe, vs, rfl, he, hc, hd, hsz, hja, T, oT, ts, h1, hTa, hjT, hTo, hTd, h3⟩ := F
  have hsz3 : 3 < ts.size := (Array.getElem?_eq_some_iff.mp h3).1
  unfold PySem.setFlight
  refine wpAny_bind (wpAny_field he hd h1 ?_)
  rw [if_pos (show (Value.ref T != Value.none) = true from by simp)]
  refine wpAny_setField hTo hTd hsz3 (h _ ?_)
  have other : ∀ b, b ≠ T → (s.heap.update T (Obj.mapFields (·.setIfInBounds 3 (f.elim Value.none fun b => rawInt b)))).get? b = s.heap.get? b := fun b hb => Heap.get?_update_other _ _ (Ne.symm hb)
  refine ⟨I.slots (fr := []) (fun b => b = T) (fun b hb => hb ▸ hjT) (by simp) (fun b o q _ hn => (other b hn).trans q) (by simp), a, oe, vs, rfl, (other a (Ne.symm hTa)).trans he, hc, hd, hsz, hja, T, _, _, h1, hTa, hjT,
    Heap.get?_update_self _ hTo (Obj.isFreed_of_fields (Obj.data_mapFields hTd _)), Obj.data_mapFields hTd _, by simp [hsz3]⟩
theorem Exits.own {X : Exc} (S : Stk C sn A env) (hE : Exits C sn env X E) : Exits C sn env X (notedBy C.M A env (cameBackBy C.M A env E)) := by
  intro cls ρ H e s hx F
  unfold notedBy
  refine F.noted S fun s' F' => ?_
  unfold cameBackBy
  obtain ⟨I, a, oe, vs, rfl, he, hc, hd, hsz, hja, T, oT, ts, h1, r⟩ := id F'
  refine wpAny_bind (wpAny_field he hd h1 ?_)
  rw [if_neg (by simp)]
  rw [S.frame]
  exact F'.setFlight fun s'' F'' => hE cls ρ H _ s'' hx ⟨_, .inr (.inr rfl), F''⟩
theorem leaving_fly (S : Stk C sn A env) (F : Fly C sn env ρ H cls e s) {Q : Unit → Shared → Prop} (h : ∀ s', FlyS C sn env ρ H cls e (some .none) s' → Q () s') : wpAny C.M A (leaving env e) Q E s := by
  unfold leaving
  exact wpAny_bind (F.noted S fun s' F' => F'.setFlight h)
end
end Mine
namespace Mine
open PySem PySem.Calls PySem.SeqAt PySem.W
def Frs (C : Cx) (sn : Snap) (A : Around) (env : Env) : Prop :=
  ∃ l, A.frames = some l ∧ ∀ f ∈ l, f.scope.kind ≠ .module ∧ ∃ b, f.frame = some b ∧
    (b = env.locals ∨ ∃ o, sn.h.get? b = some o ∧ (∃ es ep, o.data = .dict es ep) ∧ sn.H.get b = none ∧ b ∉ sn.own ∧ C.h₀.get? b = none)
theorem Stk.frs {C : Cx} {sn : Snap} {A : Around} {env : Env} (S : Stk C sn A env) (hk : env.scope.kind = .function) : Frs C sn A env := by
  obtain ⟨outer, hfr, hout⟩ := S.stack
  refine ⟨_, hfr, fun f hf => ?_⟩
  rcases List.mem_cons.mp hf with rfl | hf
  · exact ⟨by rw [hk]; decide, _, S.frame, .inl rfl⟩
  · obtain ⟨h1, b, o, h2, h3⟩ := hout f hf
    exact ⟨h1, b, h2, .inr ⟨o, h3⟩⟩
structure Good (C : Cx) (fz : List Nat) (d : Nat) (free : Bool) (sn : Snap) (A : Around) (env : Env) : Prop where
  fz : sn.fz = fz
  hd : free = true → A.handled = none
  depth : A.depth + d < recursionLimit
  units : A.units + 3 * d + 300 < cLine
  frs : Frs C sn A env
theorem Good.room {C : Cx} {fz : List Nat} {d : Nat} {free : Bool} {sn : Snap} {A : Around} {env : Env} (G : Good C fz d free sn A env) : Room A := by
  have := G.units; unfold Room; omega
def CallsTo (C : Cx) (fz : List Nat) (d : Nat) (free : Bool) (f : Value) (vs : List V) (Q : V → AH → Prop) (X : Value → AH → Prop) (H : AH) : Prop :=
  ∀ sn A env ρ E cvs, cvs.map toV = vs → Good C fz d free sn A env → Exits C sn env (fun cls ρ' H' => ρ' = ρ ∧ X cls H') E →
    TM C sn A env ρ (call f cvs) (fun v H' => Q (toV v) H') E H
def FnAt (C : Cx) (a : Addr) (ps : List Str) (body : List Stmt) (scope : Scope) : Prop :=
  ∃ o fd, C.h₀.get? a = some o ∧ o.data = .func fd ∧ fd.body = .stmts body ∧ fd.scope = scope ∧ fd.globals = mainGlobals ∧ fd.builtins = builtinsNs ∧ fd.closure = [] ∧
    C.h₀.CodeRec fd.code fd.qualname ∧ ∀ vals : List Value, vals.length = ps.length → bindArgs fd ⟨vals, []⟩ = pure (ps.zip vals)
def nodupS : List Str → Bool
  | [] => true
  | x :: r => !(r.contains x) && nodupS r
theorem nodupS_iff : ∀ {l : List Str}, nodupS l = true → l.Nodup
  | [], _ => List.nodup_nil
  | x :: r, h => by
    simp only [nodupS, Bool.and_eq_true, Bool.not_eq_true', List.contains_eq_mem, decide_eq_false_iff_not] at h
    exact List.nodup_cons.mpr ⟨h.1, nodupS_iff h.2⟩
def scopeOk (scope : Scope) (ps : List Str) : Bool :=
  scope.kind == .function && !scope.isGenerator && !scope.isCoroutine && nodupS (scope.names.map (·.1)) && nodupS ps &&
    (scope.names.all fun x => x.2 != .free) && ps.all fun x => scope.names.lookup x == some .local || scope.names.lookup x == some .cell
def kdOf (scope : Scope) (x : Str) : Option NameKind := scope.names.lookup x
def argsOf (ps : List Str) (vs : List V) (x : Str) : Option V := (ps.zip vs).lookup x
theorem cellsFrom_some : ∀ (names : List (Str × NameKind)) (n : Nat) (acc : List (Str × Addr)) (x : Str), names.lookup x = some .cell ∨ (acc.lookup x).isSome = true → ((cellsFrom n names acc).lookup x).isSome = true
  | [], _, _, x, h => by
    rcases h with h | h
    · cases h
    · exact h
  | (name, kind) :: r, n, acc, x, h => by
    unfold cellsFrom
    by_cases hx : x == name
    · split
      · refine cellsFrom_some r _ _ x (.inr ?_)
        simp [List.lookup_cons, hx]
      · rename_i hk
        refine cellsFrom_some r _ _ x (.inr ?_)
        rcases h with h | h
        · simp only [List.lookup_cons, hx] at h
          cases h; exact absurd rfl hk
        · exact h
    · have hx' : (x == name) = false := by simpa using hx
      rw [List.lookup_cons, hx'] at h
      split
      · refine cellsFrom_some r _ _ x ?_
        rcases h with h | h
        · exact .inl h
        · refine .inr ?_; rw [List.lookup_cons, hx']; exact h
      · exact cellsFrom_some r _ _ x h
theorem cellsFrom_keys : ∀ (names : List (Str × NameKind)) (n : Nat) (acc : List (Str × Addr)), (names.map (·.1)).Nodup → (acc.map (·.1)).Nodup → (∀ x ∈ acc.map (·.1), x ∉ names.map (·.1)) → ((cellsFrom n names acc).map (·.1)).Nodup
  | [], _, _, _, h, _ => h
  | (name, kind) :: r, n, acc, h1, h2, h3 => by
    rw [List.map_cons, List.nodup_cons] at h1
    unfold cellsFrom
    split
    · refine cellsFrom_keys r _ _ h1.2 ?_ fun x hx => ?_
      · rw [List.map_cons, List.nodup_cons]
        exact ⟨fun hm => h3 name hm (by simp), h2⟩
      · rw [List.map_cons] at hx
        rcases List.mem_cons.mp hx with rfl | hx
        · exact h1.1
        · exact fun hm => h3 x hx (by rw [List.map_cons]; exact List.mem_cons_of_mem _ hm)
    · exact cellsFrom_keys r _ _ h1.2 h2 fun x hx hm => h3 x hx (by rw [List.map_cons]; exact List.mem_cons_of_mem _ hm)
theorem lookup_of_mem {α : Type} : ∀ {l : List (Str × α)}, (l.map (·.1)).Nodup → ∀ {p : Str × α}, p ∈ l → l.lookup p.1 = some p.2
  | [], _, _, h => by cases h
  | (k, v) :: r, nd, p, h => by
    rw [List.map_cons, List.nodup_cons] at nd
    rcases List.mem_cons.mp h with rfl | h'
    · simp
    · have : (p.1 == k) = false := by
        simp only [beq_eq_false_iff_ne]; rintro rfl; exact nd.1 (List.mem_map.mpr ⟨p, h', rfl⟩)
      rw [List.lookup_cons, this]; exact lookup_of_mem nd.2 h'
theorem bindL_other (kd : Str → Option NameKind) : ∀ (b : List (Str × Value)) (m : Str → Option Value) (x : Str), x ∉ b.map (·.1) → bindL kd b m x = m x
  | [], _, _, _ => rfl
  | (n, v) :: r, m, x, h => by
    rw [List.map_cons, List.mem_cons, not_or] at h
    unfold bindL
    rw [bindL_other kd r _ x h.2]
    split
    · simp [h.1]
    · rfl
theorem bindC_other (kd : Str → Option NameKind) : ∀ (b : List (Str × Value)) (m : Str → Option Value) (x : Str), x ∉ b.map (·.1) → bindC kd b m x = m x
  | [], _, _, _ => rfl
  | (n, v) :: r, m, x, h => by
    rw [List.map_cons, List.mem_cons, not_or] at h
    unfold bindC
    rw [bindC_other kd r _ x h.2]
    split
    · rfl
    · simp [h.1]
theorem bind_get (kd : Str → Option NameKind) : ∀ (b : List (Str × Value)) (m m' : Str → Option Value) (x : Str) (v : Value), (b.map (·.1)).Nodup → b.lookup x = some v →
    (kd x = some .local → bindL kd b m x = some v) ∧ (kd x ≠ some .local → bindC kd b m' x = some v)
  | [], _, _, _, _, _, h => by cases h
  | (n, u) :: r, m, m', x, v, nd, h => by
    rw [List.map_cons, List.nodup_cons] at nd
    by_cases hx : x = n
    · subst hx
      simp only [List.lookup_cons, beq_self_eq_true] at h
      cases h
      refine ⟨fun hk => ?_, fun hk => ?_⟩
      · unfold bindL; rw [bindL_other kd r _ x nd.1, if_pos hk]; simp
      · unfold bindC; rw [bindC_other kd r _ x nd.1, if_neg hk]; simp
    · have hb : (x == n) = false := by simpa using hx
      rw [List.lookup_cons, hb] at h
      unfold bindL bindC
      exact bind_get kd r _ _ x v nd.2 h
theorem lookup_zip_map : ∀ (ps : List Str) (cvs : List Value) (x : Str), (ps.zip (cvs.map toV)).lookup x = ((ps.zip cvs).lookup x).map toV
  | [], _, _ => by simp
  | _ :: _, [], _ => by simp
  | p :: ps, v :: cvs, x => by
    simp only [List.map_cons, List.zip_cons_cons, List.lookup_cons]
    split <;> first | rfl | exact lookup_zip_map ps cvs x
section
variable {C : Cx} {sn : Snap} {A : Around} {env : Env} {ρ : Str → Option V} {H : AH} {s : Shared} {E : Value → Shared → Prop}
theorem FlyS.back {env' : Env} {ρ' : Str → Option V} {H' : AH} {cls e : Value} {st : Option Value} {s' : Shared} (I : Inv C sn env ρ H s) (F : FlyS C ⟨s.heap, H, [], sn.fz⟩ env' ρ' H' cls e st s') : FlyS C sn env ρ H' cls e st s' := by
  have jk : ∀ b, Junk C ⟨s.heap, H, [], sn.fz⟩ env' H' b → Junk C sn env H' b := fun b hb => by
    have hn : s.heap.get? b = none := hb.2.2.2
    refine ⟨hb.1, fun ho => ?_, hb.2.2.1, ?_⟩
    · obtain ⟨o, ho⟩ := I.own_there ho; rw [hn] at ho; cases ho
    · cases q : sn.h.get? b with
      | none => rfl
      | some o => obtain ⟨o', ho'⟩ := I.live b o q; rw [hn] at ho'; cases ho'
  obtain ⟨J, a, oe, vs, rfl, he, hc, hd, hsz, hja, htr⟩ := F
  refine ⟨I.back J, a, oe, vs, rfl, he, hc, hd, hsz, jk a hja, ?_⟩
  cases st with
  | none => exact htr
  | some fl =>
    obtain ⟨T, oT, ts, h1, h2, h3, h4⟩ := htr
    exact ⟨T, oT, ts, h1, h2, jk T h3, h4⟩
theorem callsTo_of {a : Addr} {ps : List Str} {body : List Stmt} {scope : Scope} {fz : List Nat} {d : Nat} {free : Bool} {vs : List V} {Q : V → AH → Prop} {X : Value → AH → Prop}
    (F : FnAt C a ps body scope) (hs : scopeOk scope ps = true) (hl : vs.length = ps.length)
    (h : ∀ sn A env E, Good C fz d free sn A env → Stk C sn A env → (∀ x, env.kindOf x = kdOf scope x) → Exits C sn env (fun cls _ H' => X cls H') E →
      TR C sn A env (execs body env) (fun f _ H' => Q (match f with | .ret v => toV v | _ => .none) H') E (argsOf ps vs) H) :
    CallsTo C fz (d + 1) free (.ref a) vs Q X H := by
  intro sn A env ρ E cvs hcv G hE s I
  obtain ⟨o, fd, ho, hd, hb, rfl, hg, hbi, hcl, hcd, hba⟩ := F
  simp only [scopeOk, Bool.and_eq_true, beq_iff_eq, Bool.not_eq_true', List.all_eq_true, bne_iff_ne, Bool.or_eq_true] at hs
  obtain ⟨⟨⟨⟨⟨⟨hk, hgen⟩, hco⟩, nd1⟩, nd2⟩, hfree⟩, hps⟩ := hs
  have nd1 := nodupS_iff nd1
  have nd2 := nodupS_iff nd2
  have hlen : cvs.length = ps.length := by rw [← hl, ← hcv]; simp
  have fresh : ∀ b, s.heap.objs.size ≤ b → s.heap.get? b = none := fun b hb => by
    cases q : s.heap.get? b with
    | none => rfl
    | some o => exact absurd (Heap.lt_size q) (Nat.not_lt.mpr hb)
  have hkeys : ∀ x ∈ ps.zip cvs, x.1 ∈ ps := fun x hx => (List.of_mem_zip hx).1
  have hmap : (ps.zip cvs).map (·.1) = ps := by rw [← List.unzip_fst]; simp [List.unzip_zip, hlen]
  refine wpAny_call (codeAny_call_cells (by have := G.depth; omega) (I.base a o ho) hd (C.nolim.keeps I.base) (hcd.keeps I.base) hb (hba cvs hlen) hcl (fun x hx => ?_) (fun s₁ X₁ => ?_) hco hgen hk)
  · rcases hps x.1 (hkeys x hx) with q | q
    · exact .inl q
    · exact .inr ⟨q, cellsFrom_some _ _ _ _ (.inl q)⟩
  have EL : (callEnvC fd s.heap.objs.size a).locals = s.heap.objs.size := rfl
  have EC : (callEnvC fd s.heap.objs.size a).cells = cellsFrom (s.heap.objs.size + 1) fd.scope.names [] := rfl
  generalize hev : callEnvC fd s.heap.objs.size a = env' at X₁ ⊢
  have EK : ∀ x, env'.kindOf x = kdOf fd.scope x := fun x => by subst hev; rfl
  rw [hev] at EL EC
  obtain ⟨h₁, tk, rfl, hkeep⟩ := X₁.done
  have own : ∀ b ∈ ownOf env', s.heap.get? b = none := fun b hb => by
    rcases List.mem_cons.mp hb with rfl | hb
    · exact fresh _ (by rw [EL]; exact Nat.le_refl _)
    · obtain ⟨p, hp, rfl⟩ := List.mem_map.mp hb
      have := X₁.above p.1 p.2 hp
      rw [EL] at this
      exact fresh _ (Nat.le_of_lt this)
  have ckeys : (env'.cells.map (·.1)).Nodup := by rw [EC]; exact cellsFrom_keys _ _ _ nd1 List.nodup_nil (by simp)
  have ok : EnvOk env' := by
    refine ⟨by subst hev; exact hk, by subst hev; exact hg, by subst hev; exact hbi, ?_, fun x hx => ?_⟩
    · unfold ownOf
      refine List.nodup_cons.mpr ⟨fun hm => ?_, ?_⟩
      · obtain ⟨p, hp, e⟩ := List.mem_map.mp hm
        have := X₁.above p.1 p.2 hp
        rw [e] at this; exact Nat.lt_irrefl _ this
      · exact List.pairwise_map.mpr X₁.apart
    · rw [EK] at hx
      rcases hx with hx | hx
      · rw [EC]; exact Option.isSome_iff_exists.mp (cellsFrom_some _ _ _ _ (.inl hx))
      · exact absurd rfl (hfree _ (mem_of_lookup hx))
  have J : Inv C ⟨s.heap, H, [], sn.fz⟩ env' (argsOf ps vs) H { s with heap := h₁, toks := tk } := by
    refine ⟨ok, fun b o e => hkeep b o (I.base b o e), fun b n e => (I.nodes b n e).at (hkeep b), I.new, fun b o e e1 _ => ⟨e1, by rw [show ({ s with heap := h₁, toks := tk } : Shared).heap.get? b = some o from hkeep b o e]; exact Kept.refl o⟩,
      fun b hb => ⟨I.none_of_new (own b hb), ?_⟩, ⟨_, X₁.toInCall.ns, fun x v e => ?_⟩, fun p hp => ⟨_, X₁.cell p.1 p.2 (lookup_of_mem ckeys hp)⟩, I.gens, I.os, fun b hb o e => ?_, fun b hb => ?_, fun b o e => ⟨o, hkeep b o e⟩⟩
    · cases q : C.h₀.get? b with
      | none => rfl
      | some o => have := I.base b o q; rw [own b hb] at this; cases this
    · unfold argsOf at e
      rw [← hcv, lookup_zip_map] at e
      obtain ⟨cv, hcv1, rfl⟩ := Option.map_eq_some_iff.mp e
      refine ⟨cv, ?_, rfl⟩
      have hxp : x ∈ ps := hkeys _ (mem_of_lookup hcv1)
      obtain ⟨g1, g2⟩ := bind_get env'.kindOf (ps.zip cvs) (fun _ => none) (fun _ => none) x cv (by rw [hmap]; exact nd2) hcv1
      rcases hps x hxp with q | q
      · have : env'.kindOf x = some .local := (EK x).trans q
        exact .inl ⟨this, g1 this⟩
      · have hq : env'.kindOf x = some .cell := (EK x).trans q
        obtain ⟨c, hc⟩ := ok.cell x (.inl hq)
        refine .inr ⟨.inl hq, c, hc, ?_⟩
        have := X₁.cell x c hc
        rwa [g2 (by rw [hq]; decide)] at this
    · rw [own b hb] at e; cases e
    · obtain ⟨q, n, e⟩ := I.frz b hb
      obtain ⟨o, ho, _⟩ := I.nodes b n e
      refine ⟨?_, n, e⟩
      show h₁.get? b = s.heap.get? b
      rw [ho]; exact hkeep b o ho
  have S : Stk C ⟨s.heap, H, [], sn.fz⟩ (A.deeper env') env' := by
    obtain ⟨l, hl1, hl2⟩ := G.frs
    refine ⟨by subst hev; rfl, l, by simp [Around.deeper, hl1], fun f hf => ?_⟩
    obtain ⟨h1, b, h2, h3⟩ := hl2 f hf
    refine ⟨h1, b, ?_⟩
    rcases h3 with rfl | ⟨o, e1, ⟨es, ep, hdd⟩, e2, e3, e4⟩
    · obtain ⟨m, ⟨o, es, ep, ho, hdd, _⟩, _⟩ := I.vars
      exact ⟨o, h2, ho, ⟨es, ep, hdd⟩, (I.fresh _ (List.mem_cons_self ..)).1, by simp, (I.fresh _ (List.mem_cons_self ..)).2⟩
    · obtain ⟨q, r⟩ := I.hid b o e1 e2 e3
      obtain ⟨o', ho', hd', _⟩ := r.data
      exact ⟨o', h2, ho', ⟨es, ep, hd'.trans hdd⟩, q, by simp, e4⟩
  have G' : Good C fz d free ⟨s.heap, H, [], sn.fz⟩ (A.deeper env') env' := ⟨G.fz, G.hd, by have := G.depth; simp only [Around.deeper]; omega, by have := G.units; simp only [Around.deeper]; omega, S.frs ok.kind⟩
  refine wpAny_mono (h _ _ env' _ G' S EK ?_ _ J) (fun f s' hf => ?_) fun _ _ e => e
  · intro cls ρ' H' e s' hx Fl
    refine leaving_fly S Fl fun s'' F'' => ?_
    exact hE cls ρ H' e s'' ⟨rfl, hx⟩ ⟨_, .inr (.inl rfl), FlyS.back I F''⟩
  · obtain ⟨ρ', H', J', q⟩ := hf
    refine ⟨H', I.back J', ?_⟩
    cases f <;> exact q
end
end Mine
namespace Mine
open PySem PySem.Calls PySem.SeqAt PySem.W
inductive Flw where
  | next | brk | cont | ret (v : V)
def toF : Flow → Flw
  | .next => .next | .brk => .brk | .cont => .cont | .ret v => .ret (toV v)
abbrev Env' := Str → Option V
section
variable {C : Cx} {sn : Snap} {A : Around} {env : Env} {ρ : Str → Option V} {H : AH} {s : Shared} {E : Value → Shared → Prop} {fz : List Nat} {d : Nat} {free : Bool}
theorem Inv.notOwn (I : Inv C sn env ρ H s) {b : Addr} {o : Obj} (h : sn.h.get? b = some o) (hn : b ∉ sn.own) : b ∉ ownOf env := fun hb => hn (I.mine b hb o h)
theorem FlyS.again {ρ' : Str → Option V} {H' : AH} {cls e : Value} {st : Option Value} {s' : Shared} {fz' : List Addr} (I : Inv C sn env ρ H s) (hf : ∀ b ∈ sn.fz, b ∈ fz') (F : FlyS C ⟨s.heap, H, ownOf env, fz'⟩ env ρ' H' cls e st s') :
    FlyS C sn env ρ' H' cls e st s' := by
  have jk : ∀ b, Junk C ⟨s.heap, H, ownOf env, fz'⟩ env H' b → Junk C sn env H' b := fun b hb => by
    have hn : s.heap.get? b = none := hb.2.2.2
    refine ⟨hb.1, hb.2.1, hb.2.2.1, ?_⟩
    cases q : sn.h.get? b with
    | none => rfl
    | some o => obtain ⟨o', ho'⟩ := I.live b o q; rw [hn] at ho'; cases ho'
  obtain ⟨J, a, oe, vs, rfl, he, hc, hd, hsz, hja, htr⟩ := F
  refine ⟨I.again hf J, a, oe, vs, rfl, he, hc, hd, hsz, jk a hja, ?_⟩
  cases st with
  | none => exact htr
  | some fl =>
    obtain ⟨T, oT, ts, h1, h2, h3, h4⟩ := htr
    exact ⟨T, oT, ts, h1, h2, jk T h3, h4⟩
theorem Exits.again {X : Exc} {fz' : List Addr} (I : Inv C sn env ρ H s) (hf : ∀ b ∈ sn.fz, b ∈ fz') (hE : Exits C sn env X E) : Exits C ⟨s.heap, H, ownOf env, fz'⟩ env X E :=
  fun cls ρ' H' e s' hx ⟨st, hst, F⟩ => hE cls ρ' H' e s' hx ⟨st, hst, F.again I hf⟩
theorem Stk.again {fz' : List Addr} (S : Stk C sn A env) (I : Inv C sn env ρ H s) : Stk C ⟨s.heap, H, ownOf env, fz'⟩ A env := by
  obtain ⟨outer, h1, h2⟩ := S.stack
  refine ⟨S.frame, outer, h1, fun f hf => ?_⟩
  obtain ⟨k1, b, o, k2, k3, ⟨es, ep, k4⟩, k5, k6, k7⟩ := h2 f hf
  obtain ⟨q, r⟩ := I.hid b o k3 k5 k6
  obtain ⟨o', ho', hd', _⟩ := r.data
  exact ⟨k1, b, o', k2, ho', ⟨es, ep, hd'.trans k4⟩, q, I.notOwn k3 k6, k7⟩
theorem Frs.again {fz' : List Addr} (S : Frs C sn A env) (I : Inv C sn env ρ H s) : Frs C ⟨s.heap, H, ownOf env, fz'⟩ A env := by
  obtain ⟨l, h1, h2⟩ := S
  refine ⟨l, h1, fun f hf => ?_⟩
  obtain ⟨k1, b, k2, k3⟩ := h2 f hf
  refine ⟨k1, b, k2, ?_⟩
  rcases k3 with k3 | ⟨o, k3, ⟨es, ep, k4⟩, k5, k6, k7⟩
  · exact .inl k3
  · obtain ⟨q, r⟩ := I.hid b o k3 k5 k6
    obtain ⟨o', ho', hd', _⟩ := r.data
    exact .inr ⟨o', ho', ⟨es, ep, hd'.trans k4⟩, q, I.notOwn k3 k6, k7⟩
theorem Good.again {more : List Nat} (G : Good C fz d free sn A env) (I : Inv C sn env ρ H s) : Good C (more ++ fz) d free ⟨s.heap, H, ownOf env, more ++ sn.fz⟩ A env :=
  ⟨by rw [← G.fz], G.hd, G.depth, G.units, G.frs.again I⟩
theorem ItemsV.src {v : V} {xs : List V} (h : ItemsV H v xs) : ∀ b ∈ srcOf v, ∃ n, H.get b = some n := by
  intro b hb
  unfold srcOf at hb
  split at hb
  · rw [List.mem_singleton] at hb
    subst hb
    unfold ItemsV at h
    simp only at h
    split at h <;> first | exact ⟨_, by assumption⟩ | exact h.elim
  · cases hb
def turnEnd (R : Flw → Env' → AH → Prop) (J : Env' → AH → Prop) : Flw → Env' → AH → Prop
  | .next => J
  | .cont => J
  | .brk => R .next
  | .ret v => R (.ret v)
theorem tr_for {x : Str} {px pos : Pos} {iter : Expr} {body : List Stmt} {R : Flw → Env' → AH → Prop} {X : Exc}
    (G : Good C fz d true sn A env) (S : Stk C sn A env) (hE : Exits C sn env X E) (hk : env.kindOf x = some .local ∨ env.kindOf x = some .cell) (hs : ∀ v, foldedSetIterable iter env v = pure v)
    (h : TM C sn A env ρ (eval iter env) (fun v H₁ => ∃ xs, ItemsV H₁ (toV v) xs ∧ ∃ J : Nat → Env' → AH → Prop, J 0 ρ H₁ ∧
      (∀ k y ρ' H', xs[k]? = some y → J k ρ' H' → ∀ sn' E', Good C (srcOf (toV v) ++ fz) d true sn' A env → Stk C sn' A env → Exits C sn' env X E' →
        TR C sn' A env (execs body env) (fun f ρ'' H'' => turnEnd R (J (k + 1)) (toF f) ρ'' H'') E' (upd ρ' x y) H') ∧
      ∀ ρ' H', J xs.length ρ' H' → R .next ρ' H') E H) :
    TR C sn A env (exec (.For (.Name x px) iter body [] pos) env) (fun f ρ' H' => R (toF f) ρ' H') E ρ H := by
  intro s I
  refine wpAny_For (wpAny_mono (h s I) (fun v s₁ hv => ?_) fun _ _ e => e) hs
  obtain ⟨H₁, I₁, xs, hx, J, j0, hbody, hend⟩ := hv
  refine begun_iter I₁ hx fun o St P B => ?_
  have I₂ : Inv C sn env ρ H₁ { s₁ with heap := s₁.heap.push o } := I₁.keeps (tk := s₁.toks) fun b o e => Heap.get?_push_of_some _ e
  have jk : Junk C sn env H₁ s₁.heap.objs.size := I₁.junk_of_new (get_size _)
  generalize s₁.heap.objs.size = It at B jk
  have W := B.walks A (G.hd rfl)
  have hE' := Exits.own S hE
  refine codeAny_forLoop (fun n s' => ∃ k ρ' H', n = xs.length + 1 - k ∧ k ≤ xs.length ∧ Inv C sn env ρ' H' s' ∧ J k ρ' H' ∧ St k s'.heap ∧ Junk C sn env H' It ∧ ∀ b ∈ srcOf (toV v), ∃ n, H'.get b = some n) ?_ (xs.length + 1)
    ⟨0, ρ, H₁, rfl, Nat.zero_le _, I₂, j0, B.start, jk, hx.src⟩
  rintro n s' ⟨k, ρ', H', rfl, hkl, I', hJ, st, jk', src⟩
  by_cases hlt : k < xs.length
  · refine W.item k s' _ _ hlt st fun cv h' tk hP st' hkeep => ?_
    have I3 : Inv C sn env ρ' H' { s' with heap := h', toks := tk } :=
      (I'.slots (fr := []) (h' := h') (fun b => b = It) (fun b hb => hb ▸ jk') (by simp) (fun b o e _ hn => hkeep b o (by simpa using hn) e) (by simp)).toks tk
    have I4 := I3.snap (fz' := srcOf (toV v) ++ sn.fz) fun b hb => by
      rcases List.mem_append.mp hb with hb | hb
      · exact src b hb
      · exact (I'.frz b hb).2
    have hf : ∀ b ∈ sn.fz, b ∈ srcOf (toV v) ++ sn.fz := fun b hb => List.mem_append.mpr (.inr hb)
    refine wpAny_assign_Name (wpAny_mono (TR.storeVar (cv := cv) hk (Q := fun _ ρ'' H'' => ρ'' = upd ρ' x (toV cv) ∧ H'' = H') ⟨rfl, rfl⟩ _ I4) (fun _ s4 h4 => ?_) fun _ _ e => e)
    obtain ⟨_, _, I5, e5, e6⟩ := h4
    rw [e5, e6] at I5
    refine wpAny_mono (hbody k (toV cv) ρ' H' (B.item k cv hP) hJ _ _ (G.again I3) (S.again I3) (hE'.again I3 hf) s4 I5) (fun f s5 h5 => ?_) fun _ _ e => e
    obtain ⟨ρ'', H'', J5, q⟩ := h5
    have Ifin := I3.again hf J5
    obtain ⟨oI, vsI, hoI, hdI⟩ := B.obj _ _ st'
    obtain ⟨hI1, hI2⟩ := J5.hid It oI hoI jk'.1 jk'.2.1
    have hI3 := hI2.same fun es ep e => by rw [hdI] at e; cases e
    have more : ∃ m, m < xs.length + 1 - k ∧ (J (k + 1) ρ'' H'' → ∃ k' ρ' H', m = xs.length + 1 - k' ∧ k' ≤ xs.length ∧ Inv C sn env ρ' H' s5 ∧ J k' ρ' H' ∧ St k' s5.heap ∧ Junk C sn env H' It ∧ ∀ b ∈ srcOf (toV v), ∃ n, H'.get b = some n) := by
      refine ⟨xs.length + 1 - (k + 1), by omega, fun hJ' => ⟨k + 1, ρ'', H'', rfl, hlt, Ifin, hJ', W.frame _ _ _ st' fun b hb o e => ?_, ⟨hI1, jk'.2⟩, fun b hb => (J5.frz b (List.mem_append.mpr (.inl hb))).2⟩⟩
      rcases List.mem_cons.mp hb with rfl | hb
      · rw [hoI] at e; cases e; exact hI3
      · exact (J5.frz b (List.mem_append.mpr (.inl hb))).1.trans e
    obtain ⟨m, hm, hmore⟩ := more
    cases f with
    | next => exact ⟨m, hm, hmore q⟩
    | cont => exact ⟨m, hm, hmore q⟩
    | brk => exact ⟨ρ'', H'', Ifin, q⟩
    | ret v => exact ⟨ρ'', H'', Ifin, q⟩
  · have hk0 : k = xs.length := by omega
    subst hk0
    refine W.done s' _ _ st fun h' tk hkeep => ?_
    have I3 : Inv C sn env ρ' H' { s' with heap := h', toks := tk } :=
      (I'.slots (fr := []) (h' := h') (fun b => b = It) (fun b hb => hb ▸ jk') (by simp) (fun b o e _ hn => hkeep b o (by simpa using hn) e) (by simp)).toks tk
    exact wpAny_execs_nil ⟨ρ', H', I3, hend ρ' H' hJ⟩
theorem tr_while {test : Expr} {body : List Stmt} {pos : Pos} {R : Flw → Env' → AH → Prop} {X : Exc} (S : Stk C sn A env) (hE : Exits C sn env X E) (J : Nat → Env' → AH → Prop) {n : Nat} (h0 : J n ρ H)
    (h : ∀ n ρ' H' E', J n ρ' H' → Exits C sn env X E' → TR C sn A env (isTrue test env (eval test env)) (fun b ρ₁ H₁ => if b then TR C sn A env (execs body env) (fun f ρ'' H'' => turnEnd R (fun ρ H => ∃ m, m < n ∧ J m ρ H) (toF f) ρ'' H'') E' ρ₁ H₁ else R .next ρ₁ H₁) E' ρ' H') :
    TR C sn A env (exec (.While test body [] pos) env) (fun f ρ' H' => R (toF f) ρ' H') E ρ H := by
  intro s I
  have hE' := Exits.own S hE
  rw [exec_While]
  refine wpAny_bind (wpAny_standAt (wpAny_runOwn ?_))
  refine codeAny_whileLoop (fun n s' => ∃ ρ' H', Inv C sn env ρ' H' s' ∧ J n ρ' H') ?_ n ⟨ρ, H, I, h0⟩
  rintro n s' ⟨ρ', H', I', hJ⟩
  refine wpAny_mono (h n ρ' H' _ hJ hE' s' I') (fun b s₁ hb => ?_) fun _ _ e => e
  obtain ⟨ρ₁, H₁, I₁, q⟩ := hb
  cases b with
  | false => exact wpAny_execs_nil ⟨ρ₁, H₁, I₁, q⟩
  | true =>
    refine wpAny_mono (q s₁ I₁) (fun f s₂ hf => ?_) fun _ _ e => e
    obtain ⟨ρ₂, H₂, I₂, q₂⟩ := hf
    cases f with
    | next => obtain ⟨m, hm, j⟩ := q₂; exact ⟨m, hm, ρ₂, H₂, I₂, j⟩
    | cont => obtain ⟨m, hm, j⟩ := q₂; exact ⟨m, hm, ρ₂, H₂, I₂, j⟩
    | brk => exact ⟨ρ₂, H₂, I₂, q₂⟩
    | ret v => exact ⟨ρ₂, H₂, I₂, q₂⟩
end
end Mine
namespace Mine
open PySem PySem.Calls PySem.SeqAt PySem.W
def kdC (scope : Scope) (kd : Str → Option NameKind) (y : Str) : Option NameKind :=
  (scope.names.map fun x => if x.2 == .free && kd x.1 == some .cell then (x.1, NameKind.cell) else x).lookup y
def capt (scope : Scope) (kd : Str → Option NameKind) (ρ : Env') : Env' := fun y => if kdC scope kd y = some .cell then ρ y else none
def compOk (scope : Scope) (kd : Str → Option NameKind) (x : Str) : Bool :=
  scope.kind == .function && nodupS (scope.names.map (·.1)) && scope.names.lookup x == some .local &&
    scope.names.all fun y => y.2 != .cell && (y.2 != .free || kd y.1 == some .cell)
def clOf (env : Env) : List (Str × NameKind) → List (Str × Addr) → List (Str × Addr)
  | [], acc => acc
  | (n, k) :: r, acc => if k == .free then clOf env r ((n, (env.cells.lookup n).getD 0) :: acc) else clOf env r acc
theorem closureFor_of {scope : Scope} {env : Env} (h : ∀ y ∈ scope.names, y.2 = .free → ∃ c, env.cells.lookup y.1 = some c) : closureFor scope env = pure (clOf env scope.names []) := by
  have key : ∀ (names : List (Str × NameKind)) (acc : List (Str × Addr)), (∀ y ∈ names, y.2 = .free → ∃ c, env.cells.lookup y.1 = some c) →
      (forIn names acc fun (x : Str × NameKind) (r : List (Str × Addr)) => (if x.2 == .free then (do let c ← cellOf env x.1; pure (ForInStep.yield ((x.1, c) :: r))) else pure (ForInStep.yield r) : Sem (ForInStep (List (Str × Addr))))) = pure (clOf env names acc) := by
    intro names
    induction names with
    | nil => intro acc _; rfl
    | cons y r ih =>
      intro acc hy
      obtain ⟨n, k⟩ := y
      rw [List.forIn_cons]
      unfold clOf
      by_cases hk : k = .free
      · subst hk
        obtain ⟨c, hc⟩ := hy (n, .free) (List.mem_cons_self ..) rfl
        have hc : env.cells.lookup n = some c := hc
        simp only [beq_self_eq_true, if_true, hc, Option.getD_some]
        have : cellOf env n = pure c := by unfold cellOf; rw [hc]
        rw [this]
        exact ih _ fun y h => hy y (List.mem_cons_of_mem _ h)
      · have hb : (k == NameKind.free) = false := by simpa using hk
        simp only [hb, Bool.false_eq_true, if_false]
        exact ih _ fun y h => hy y (List.mem_cons_of_mem _ h)
  unfold closureFor
  have := key scope.names [] h
  simp only [bind_pure]
  exact this
theorem clOf_mem {env : Env} : ∀ (names : List (Str × NameKind)) (acc : List (Str × Addr)) (p : Str × Addr), p ∈ clOf env names acc ↔ p ∈ acc ∨ ((p.1, NameKind.free) ∈ names ∧ p.2 = (env.cells.lookup p.1).getD 0)
  | [], acc, p => by simp [clOf]
  | (n, k) :: r, acc, p => by
    unfold clOf
    by_cases hk : k = .free
    · subst hk
      simp only [beq_self_eq_true, if_true]
      rw [clOf_mem r _ p]
      constructor
      · rintro (h | ⟨h1, h2⟩)
        · rcases List.mem_cons.mp h with rfl | h
          · exact .inr ⟨List.mem_cons_self .., rfl⟩
          · exact .inl h
        · exact .inr ⟨List.mem_cons_of_mem _ h1, h2⟩
      · rintro (h | ⟨h1, h2⟩)
        · exact .inl (List.mem_cons_of_mem _ h)
        · rcases List.mem_cons.mp h1 with e | h1
          · refine .inl ?_
            obtain ⟨p1, p2⟩ := p
            injection e with e1 e2
            simp only at e1 h2
            subst e1; subst h2
            exact List.mem_cons_self ..
          · exact .inr ⟨h1, h2⟩
    · have hb : (k == NameKind.free) = false := by simpa using hk
      simp only [hb, Bool.false_eq_true, if_false]
      rw [clOf_mem r _ p]
      constructor
      · rintro (h | ⟨h1, h2⟩)
        · exact .inl h
        · exact .inr ⟨List.mem_cons_of_mem _ h1, h2⟩
      · rintro (h | ⟨h1, h2⟩)
        · exact .inl h
        · rcases List.mem_cons.mp h1 with e | h1
          · injection e with e1 e2; exact absurd e2.symm hk
          · exact .inr ⟨h1, h2⟩
theorem clOf_keys {env : Env} : ∀ (names : List (Str × NameKind)) (acc : List (Str × Addr)), (names.map (·.1)).Nodup → (acc.map (·.1)).Nodup → (∀ x ∈ acc.map (·.1), x ∉ names.map (·.1)) → ((clOf env names acc).map (·.1)).Nodup
  | [], _, _, h, _ => h
  | (n, k) :: r, acc, h1, h2, h3 => by
    rw [List.map_cons, List.nodup_cons] at h1
    unfold clOf
    split
    · refine clOf_keys r _ h1.2 ?_ fun x hx => ?_
      · rw [List.map_cons, List.nodup_cons]
        exact ⟨fun hm => h3 n hm (by simp), h2⟩
      · rw [List.map_cons] at hx
        rcases List.mem_cons.mp hx with rfl | hx
        · exact h1.1
        · exact fun hm => h3 x hx (by rw [List.map_cons]; exact List.mem_cons_of_mem _ hm)
    · exact clOf_keys r _ h1.2 h2 fun x hx hm => h3 x hx (by rw [List.map_cons]; exact List.mem_cons_of_mem _ hm)
section
variable {C : Cx} {sn : Snap} {A : Around} {env cenv : Env} {ρ ρ' : Str → Option V} {H H' : AH} {s s' : Shared} {E : Value → Shared → Prop} {fz : List Nat} {d : Nat} {free : Bool} {kd : Str → Option NameKind} {scope : Scope}
theorem Inv.reveal (I : Inv C sn env ρ H s) {a : Addr} {n : Node} (j : Junk C sn env H a) (hn : NodeAt C s.heap a n) : Inv C sn env ρ (H.set a n) s := by
  refine ⟨I.ok, I.base, fun b m e => ?_, fun b m e r => ?_, fun b o e e1 e2 => ?_, fun b hb => ?_, I.vars, I.cells, I.gens, I.os, I.mine, fun b hb => ?_, I.live⟩
  · by_cases h : b = a
    · subst h; rw [AH.set_self] at e; cases e; exact hn
    · rw [AH.set_ne _ _ h] at e; exact I.nodes b m e
  · by_cases h : b = a
    · subst h; exact j.2.2.1
    · rw [AH.set_ne _ _ h] at e; exact I.new b m e r
  · obtain ⟨q, r⟩ := I.hid b o e e1 e2
    refine ⟨?_, r⟩
    rw [AH.set_ne _ _ ?_]; exact q
    rintro rfl; rw [j.2.2.2] at e; cases e
  · obtain ⟨q, r⟩ := I.fresh b hb
    refine ⟨?_, r⟩
    rw [AH.set_ne _ _ ?_]; exact q
    rintro rfl; exact j.2.1 hb
  · obtain ⟨q, m, e⟩ := I.frz b hb
    refine ⟨q, m, ?_⟩
    rw [AH.set_ne _ _ ?_]; exact e
    rintro rfl; rw [j.1] at e; cases e
theorem Inv.backC {cl : List (Str × Addr)} {fz' : List Addr} (I : Inv C sn env ρ H s) (J : Inv C ⟨s.heap, H, cl.map (·.2), fz'⟩ cenv ρ' H' s') (hf : ∀ b ∈ sn.fz, b ∈ fz') (hce : cenv.cells = cl)
    (hcl : ∀ p ∈ cl, env.cells.lookup p.1 = some p.2) (hcap : ∀ p ∈ cl, ∀ v, ρ p.1 = some v → ρ' p.1 = some v ∧ cenv.kindOf p.1 = some .cell ∧ cenv.cells.lookup p.1 = some p.2) : Inv C sn env ρ H' s' := by
  have sub : ∀ b ∈ cl.map (·.2), b ∈ ownOf env := fun b hb => by
    obtain ⟨p, hp, rfl⟩ := List.mem_map.mp hb
    exact List.mem_cons_of_mem _ (List.mem_map.mpr ⟨_, mem_of_lookup (hcl p hp), rfl⟩)
  have subc : ∀ b ∈ cl.map (·.2), b ∈ ownOf cenv := fun b hb => by unfold ownOf; rw [hce]; exact List.mem_cons_of_mem _ hb
  have nd := List.nodup_cons.mp I.ok.apart
  have keep : ∀ b o, s.heap.get? b = some o → H.get b = none → b ∉ cl.map (·.2) → H'.get b = none ∧ Kept o (s'.heap.get? b) := fun b o h1 h2 h3 => J.hid b o h1 h2 h3
  have cells : ∀ p ∈ env.cells, ∃ v, s'.heap.IsCell p.2 v := fun p hp => by
    by_cases hm : p.2 ∈ cl.map (·.2)
    · obtain ⟨q, hq, e⟩ := List.mem_map.mp hm
      rw [← e]; exact J.cells q (by rw [hce]; exact hq)
    · obtain ⟨v, o, ho, hd⟩ := I.cells p hp
      have hown : p.2 ∈ ownOf env := List.mem_cons_of_mem _ (List.mem_map.mpr ⟨p, hp, rfl⟩)
      exact ⟨v, Kept.cell ⟨o, ho, hd⟩ fun o' ho' => by rw [ho] at ho'; cases ho'; exact (keep _ o ho (I.fresh _ hown).1 hm).2⟩
  refine ⟨I.ok, J.base, J.nodes, J.new, fun b o e e1 e2 => ?_, fun b hb => ?_, ?_, cells, J.gens, J.os, I.mine, fun b hb => ?_, fun b o e => ?_⟩
  · obtain ⟨q, r⟩ := I.hid b o e e1 e2
    obtain ⟨o', ho', _⟩ := r.data
    obtain ⟨q', r'⟩ := keep b o' ho' q fun hm => I.notOwn e e2 (sub b hm)
    exact ⟨q', r.trans fun o'' ho'' => by rw [ho'] at ho''; cases ho''; exact r'⟩
  · refine ⟨?_, (I.fresh b hb).2⟩
    by_cases hm : b ∈ cl.map (·.2)
    · exact (J.fresh b (subc b hm)).1
    · obtain ⟨o, ho⟩ := I.own_there hb
      exact (keep b o ho (I.fresh b hb).1 hm).1
  · obtain ⟨m, hm, hv⟩ := I.vars
    have hL : env.locals ∉ cl.map (·.2) := fun h => nd.1 (by
      obtain ⟨p, hp, e⟩ := List.mem_map.mp h
      rw [← e]; exact List.mem_map.mpr ⟨_, mem_of_lookup (hcl p hp), rfl⟩)
    refine ⟨m, Kept.ns hm fun o ho => (keep _ o ho (I.fresh _ (List.mem_cons_self ..)).1 hL).2, fun x v e => ?_⟩
    obtain ⟨cv, a, q⟩ := hv x v e
    rcases a with a | ⟨a, c, hc, hcell⟩
    · exact ⟨cv, .inl a, q⟩
    · by_cases hm : c ∈ cl.map (·.2)
      · obtain ⟨p, hp, e'⟩ := List.mem_map.mp hm
        have hpx : p.1 = x := by
          have h1 := mem_of_lookup (hcl p hp)
          rw [e'] at h1
          exact cell_inj nd.2 h1 (mem_of_lookup hc)
        obtain ⟨k1, k2, k3⟩ := hcap p hp v (by rw [hpx]; exact e)
        obtain ⟨m', _, hv'⟩ := J.vars
        obtain ⟨cv', a', q'⟩ := hv' _ v k1
        rcases a' with ⟨a', _⟩ | ⟨_, c', hc', hcell'⟩
        · rw [k2] at a'; cases a'
        · rw [k3] at hc'; cases hc'
          exact ⟨cv', .inr ⟨a, c, hc, e' ▸ hcell'⟩, q'⟩
      · refine ⟨cv, .inr ⟨a, c, hc, Kept.cell hcell fun o ho => (keep c o ho (I.fresh c ?_).1 hm).2⟩, q⟩
        exact List.mem_cons_of_mem _ (List.mem_map.mpr ⟨_, mem_of_lookup hc, rfl⟩)
  · exact ⟨(J.frz b (hf b hb)).1.trans (I.frz b hb).1, (J.frz b (hf b hb)).2⟩
  · obtain ⟨o', ho'⟩ := I.live b o e
    exact J.live b o' ho'
end
end Mine
namespace Mine
open PySem PySem.Calls PySem.SeqAt PySem.W
section
variable {C : Cx} {sn : Snap} {A : Around} {env cenv : Env} {ρ ρ' : Str → Option V} {H H' : AH} {s s' : Shared} {E : Value → Shared → Prop} {fz : List Nat} {d : Nat} {free : Bool} {kd : Str → Option NameKind} {scope : Scope}
def CompFin (C : Cx) (sn : Snap) (env : Env) (ρ : Env') (n : Nat) (J : Nat → List V → AH → Prop) (PP : Value → Addr → Shared → Prop) : Prop :=
  ∀ acc D ys vs H' s', Inv C sn env ρ H' s' → Junk C sn env H' acc → s'.heap.PlainList acc vs → vs.toList.map toV = ys → ys.length ≤ n → acc ≠ D → Junk C sn env H' D → (∃ m, s'.heap.Ns D m) → J n ys H' → PP (.ref acc) D s'
def CompTurn (C : Cx) (sn : Snap) (A : Around) (cenv : Env) (ρ : Env') (ifs : List Expr) (elt : Expr) (E : Value → Shared → Prop) (J : List V → AH → Prop) (ys : List V) (H : AH) : Prop :=
  match ifs with
  | [] => TM C sn A cenv ρ (eval elt cenv) (fun v H₃ => J (ys ++ [toV v]) H₃) E H
  | c :: _ => TM C sn A cenv ρ (isTrue c cenv (eval c cenv)) (fun ok H'' => if ok then TM C sn A cenv ρ (eval elt cenv) (fun v H₃ => J (ys ++ [toV v]) H₃) E H'' else J ys H'') E H
theorem comp_core {elt iter : Expr} {x : Str} {px pos : Pos} {ifs : List Expr} {v : Value} {xs : List V} {PP : Value → Addr → Result → Shared → Prop}
    (I₁ : Inv C sn env ρ H s) (G : Good C fz d true sn A env) (hkd : ∀ y, env.kindOf y = kd y) (hok : compOk scope kd x = true) (hx : ItemsV H (toV v) xs) (hz : xs.length ≤ sizeLine) (hif : ifs.length ≤ 1)
    (J : Nat → List V → AH → Prop) (j0 : J 0 [] H)
    (turn : ∀ k y ys H', xs[k]? = some y → J k ys H' → ∀ sn' cenv E', Good C (srcOf (toV v) ++ fz) d true sn' A cenv → (∀ y, cenv.kindOf y = kdC scope kd y) →
      CompTurn C sn' A cenv (upd (capt scope kd ρ) x y) ifs elt E' (J (k + 1)) ys H')
    (fin : CompFin C sn env ρ xs.length J fun acc D s' => PP acc D (.ok .next) s') :
    wpAny C.M A (pyIter v) (fun it s₂ => wpAny C.M A (newList []) (fun acc s₃ => wpAny C.M A (newFunctionEnv scope env.globals (clOf env scope.names []) [] env.qual none .none (some env)) (fun cenv s₄ =>
      codeAny C.M A (.compStart (.ListComp elt [⟨.Name x px, iter, ifs, 0⟩] scope pos) 0 it acc { cenv with scope := relabel scope env }) (PP acc cenv.locals) s₄) E s₃) E s₂) E s := by
  simp only [compOk, Bool.and_eq_true, beq_iff_eq, List.all_eq_true, bne_iff_ne, Bool.or_eq_true] at hok
  obtain ⟨⟨⟨hkind, hnd⟩, hxl⟩, hall⟩ := hok
  have hnd := nodupS_iff hnd
  have hcellS : ∀ y ∈ scope.names, y.2 ≠ .cell := fun y hy => (hall y hy).1
  have hfreeS : ∀ y ∈ scope.names, y.2 = .free → kd y.1 = some .cell := fun y hy h => by
    rcases (hall y hy).2 with q | q
    · exact absurd h q
    · exact q
  have hne : ∀ z, H.get z = none → ∀ b n, H.get b = some n → b ≠ z := fun z h b n h' e => by rw [e, h] at h'; cases h'
  generalize hcl : clOf env scope.names [] = cl
  have clm : ∀ p ∈ cl, (p.1, NameKind.free) ∈ scope.names ∧ env.cells.lookup p.1 = some p.2 := fun p hp => by
    rw [← hcl, clOf_mem] at hp
    rcases hp with hp | ⟨h1, h2⟩
    · cases hp
    · obtain ⟨c, hc⟩ := I₁.ok.cell p.1 (.inl ((hkd _).trans (hfreeS _ h1 rfl)))
      rw [hc] at h2
      exact ⟨h1, by rw [hc, h2]; rfl⟩
  have clk : (cl.map (·.1)).Nodup := by rw [← hcl]; exact clOf_keys _ _ hnd List.nodup_nil (by simp)
  have clown : ∀ b ∈ cl.map (·.2), b ∈ ownOf env := fun b hb => by
    obtain ⟨p, hp, rfl⟩ := List.mem_map.mp hb
    exact List.mem_cons_of_mem _ (List.mem_map.mpr ⟨_, mem_of_lookup (clm p hp).2, rfl⟩)
  have apart := List.nodup_cons.mp I₁.ok.apart
  -- the kinds within
  have kC : ∀ D y, (compEnvC scope cl D env).kindOf y = kdC scope kd y := fun D y => by
    show (relabel scope env).names.lookup y = _
    unfold relabel kdC
    congr 1
    apply List.map_congr_left
    rintro ⟨n, k⟩ _
    simp only [hkd, I₁.ok.kind, beq_self_eq_true, Bool.and_true]
  have kC_cell : ∀ y, kdC scope kd y = some .cell ∨ kdC scope kd y = some .free → (y, NameKind.free) ∈ scope.names ∧ kdC scope kd y = some .cell := fun y h => by
    have : ∃ k, (y, k) ∈ (scope.names.map fun x => if x.2 == .free && kd x.1 == some .cell then (x.1, NameKind.cell) else x) ∧ kdC scope kd y = some k ∧ (k = .cell ∨ k = .free) := by
      rcases h with h | h
      · exact ⟨_, mem_of_lookup h, h, .inl rfl⟩
      · exact ⟨_, mem_of_lookup h, h, .inr rfl⟩
    obtain ⟨k, hm, hk, hkk⟩ := this
    obtain ⟨⟨n, k0⟩, hy, e⟩ := List.mem_map.mp hm
    split at e
    · rename_i hc
      simp only [Bool.and_eq_true, beq_iff_eq] at hc
      injection e with e1 e2
      subst e1; subst e2
      obtain ⟨c1, c2⟩ := hc
      have c1 : k0 = NameKind.free := c1
      subst c1
      exact ⟨hy, hk⟩
    · rename_i hc
      injection e with e1 e2
      subst e1; subst e2
      rcases hkk with rfl | rfl
      · exact absurd rfl (hcellS _ hy)
      · have := hfreeS _ hy rfl
        simp only at this
        simp [this] at hc
  have kC_free : ∀ y, (y, NameKind.free) ∈ scope.names → kdC scope kd y = some .cell := fun y hy => by
    have hm : (y, NameKind.cell) ∈ (scope.names.map fun x => if x.2 == .free && kd x.1 == some .cell then (x.1, NameKind.cell) else x) := by
      refine List.mem_map.mpr ⟨_, hy, ?_⟩
      have := hfreeS _ hy rfl
      simp only at this
      simp [this]
    have hk : ((scope.names.map fun x => if x.2 == .free && kd x.1 == some .cell then (x.1, NameKind.cell) else x).map (·.1)).Nodup := by
      rw [List.map_map, show ((fun x : Str × NameKind => x.1) ∘ fun x => if x.2 == .free && kd x.1 == some .cell then (x.1, NameKind.cell) else x) = (·.1) from ?_]
      · exact hnd
      · funext x
        simp only [Function.comp]
        split <;> rfl
    exact lookup_of_mem hk hm
  have clLook : ∀ p ∈ cl, cl.lookup p.1 = some p.2 := fun p hp => lookup_of_mem clk hp
  have clSome : ∀ y, (y, NameKind.free) ∈ scope.names → ∃ c, cl.lookup y = some c ∧ env.cells.lookup y = some c := fun y hy => by
    obtain ⟨c, hc⟩ := I₁.ok.cell y (.inl ((hkd _).trans (hfreeS _ hy rfl)))
    have hm : (y, c) ∈ cl := by rw [← hcl, clOf_mem]; exact .inr ⟨hy, by simp [hc]⟩
    exact ⟨c, clLook _ hm, hc⟩
  have kx : kdC scope kd x = some .local := by
    have := lookup_relabel_local (env := env) hxl
    rw [← kC 0 x]; exact this
  refine begun_iter I₁ hx fun o St P B => ?_
  refine wpAny_newObj_type ?_
  refine wpAny_newFunctionEnv hcellS (by intro y hy; simp at hy) (fun h₄ hns hsb => ?_) hkind
  dsimp only at hns hsb ⊢
  generalize hh2 : s.heap.push o = h2 at hns hsb ⊢
  generalize hh3 : h2.push { cls := .type "list", dict := none, data := .seq ([] : List Value).toArray } = h3 at hns hsb ⊢
  have z2 : h2.objs.size = s.heap.objs.size + 1 := by rw [← hh2, Heap.size_push]
  have z3 : h3.objs.size = s.heap.objs.size + 2 := by rw [← hh3, Heap.size_push, z2]
  have new : ∀ b, s.heap.objs.size ≤ b → s.heap.get? b = none := fun b hb => by
    cases q : s.heap.get? b with
    | none => rfl
    | some o => exact absurd (Heap.lt_size q) (Nat.not_lt.mpr hb)
  have keep2 : ∀ b o', h2.get? b = some o' → h₄.get? b = some o' := fun b o' e => by
    refine hsb.extBut b o' (Nat.ne_of_lt ?_) (Heap.get?_push_of_some _ (hh3 ▸ Heap.get?_push_of_some _ e))
    exact Nat.lt_of_lt_of_le (Heap.lt_size e) (by rw [z3, z2]; exact Nat.le_succ _)
  have keep : ∀ b o', s.heap.get? b = some o' → h₄.get? b = some o' := fun b o' e => keep2 b o' (hh2 ▸ Heap.get?_push_of_some _ e)
  have hacc : h₄.PlainList h2.objs.size #[] := ⟨_, hsb.extBut _ _ (Nat.ne_of_lt (by rw [z3, z2]; exact Nat.lt_succ_self _)) (Heap.get?_push_of_some _ (hh3 ▸ Heap.get?_push_size _ rfl))⟩
  have W := B.walks A (G.hd rfl)
  rw [hh2] at B
  have st₄ : St 0 h₄ := W.frame _ _ _ B.start fun b _ o' e => keep2 b o' e
  have nIt : s.heap.get? s.heap.objs.size = none := new _ (Nat.le_refl _)
  have nAcc : s.heap.get? h2.objs.size = none := new _ (by omega)
  have nD : s.heap.get? h3.objs.size = none := new _ (by omega)
  have dIA : s.heap.objs.size ≠ h2.objs.size := by omega
  have dAD : h2.objs.size ≠ h3.objs.size := by omega
  have dID : s.heap.objs.size ≠ h3.objs.size := by omega
  generalize s.heap.objs.size = It at *
  generalize h2.objs.size = acc at *
  generalize h3.objs.size = D at *
  -- the comprehension's own state
  have ownC : ∀ b ∈ ownOf (compEnvC scope cl D env), b = D ∨ b ∈ cl.map (·.2) := fun b hb => List.mem_cons.mp hb
  have okC : EnvOk (compEnvC scope cl D env) := by
    refine ⟨hkind, I₁.ok.globals, I₁.ok.builtins, ?_, fun y hy => ?_⟩
    · refine List.nodup_cons.mpr ⟨fun hm => ?_, ?_⟩
      · obtain ⟨o', ho'⟩ := I₁.own_there (clown _ hm)
        have ho' : s.heap.get? D = some o' := ho'
        rw [nD] at ho'; cases ho'
      · refine List.pairwise_map.mpr ?_
        have : cl.Pairwise fun a b => a.1 ≠ b.1 := List.pairwise_map.mp clk
        refine this.imp_of_mem fun {a b} ha hb hab e => hab ?_
        have h1 := mem_of_lookup (clm a ha).2
        have h2 := mem_of_lookup (clm b hb).2
        rw [e] at h1
        exact cell_inj apart.2 h1 h2
    · rw [kC] at hy
      obtain ⟨c, hc, _⟩ := clSome y (kC_cell y hy).1
      exact ⟨c, hc⟩
  have Ic : Inv C ⟨s.heap, H, cl.map (·.2), srcOf (toV v) ++ sn.fz⟩ (compEnvC scope cl D env) (capt scope kd ρ) H { s with heap := h₄ } := by
    refine ⟨okC, fun b o' e => keep b o' (I₁.base b o' e), fun b n e => (I₁.nodes b n e).at (keep b), I₁.new, fun b o' e e1 _ => ⟨e1, by rw [show ({ s with heap := h₄ } : Shared).heap.get? b = some o' from keep b o' e]; exact Kept.refl _⟩,
      fun b hb => ?_, ⟨_, hns, fun y w e => ?_⟩, fun p hp => ?_, I₁.gens, I₁.os, fun b hb o' e => ?_, fun b hb => ?_, fun b o' e => ⟨o', keep b o' e⟩⟩
    · rcases ownC b hb with rfl | hb
      · refine ⟨I₁.none_of_new nD, ?_⟩
        cases q : C.h₀.get? b with
        | none => rfl
        | some o' => have := I₁.base b o' q; rw [nD] at this; cases this
      · exact I₁.fresh b (clown b hb)
    · unfold capt at e
      split at e
      · rename_i hk
        obtain ⟨hf, _⟩ := kC_cell y (.inl hk)
        obtain ⟨c, hc1, hc2⟩ := clSome y hf
        obtain ⟨m, hm, hv⟩ := I₁.vars
        obtain ⟨cv, a, q⟩ := hv y w e
        rcases a with ⟨a, _⟩ | ⟨_, c', hc', hcell⟩
        · rw [hkd, hfreeS _ hf rfl] at a; cases a
        · rw [hc2] at hc'; cases hc'
          exact ⟨cv, .inr ⟨.inl ((kC D y).trans hk), c, hc1, hcell.keeps keep⟩, q⟩
      · cases e
    · obtain ⟨w, q⟩ := I₁.cells _ (mem_of_lookup (clm p hp).2)
      exact ⟨w, q.keeps keep⟩
    · rcases ownC b hb with rfl | hb
      · rw [show (⟨s.heap, H, cl.map (·.2), srcOf (toV v) ++ sn.fz⟩ : Snap).h.get? b = s.heap.get? b from rfl, nD] at e; cases e
      · exact hb
    · have : ∃ n, H.get b = some n := by
        rcases List.mem_append.mp hb with hb | hb
        · exact hx.src b hb
        · exact (I₁.frz b hb).2
      obtain ⟨n, e⟩ := this
      obtain ⟨o', ho', _⟩ := I₁.nodes b n e
      refine ⟨?_, n, e⟩
      show h₄.get? b = s.heap.get? b
      rw [ho']; exact keep b o' ho'
  have kC' := kC D
  generalize hce : compEnvC scope cl D env = cenv at Ic okC ownC kC' ⊢
  have hcells : cenv.cells = cl := by rw [← hce]; rfl
  have hlocals : cenv.locals = D := by rw [← hce]; rfl
  have jOf : ∀ b, s.heap.get? b = none → b ≠ D → Junk C ⟨s.heap, H, cl.map (·.2), srcOf (toV v) ++ sn.fz⟩ cenv H b := fun b hb hbD => by
    refine ⟨I₁.none_of_new hb, fun hm => ?_, ?_, hb⟩
    · have hm : b ∈ D :: cl.map (·.2) := by unfold ownOf at hm; rw [hlocals, hcells] at hm; exact hm
      rcases List.mem_cons.mp hm with rfl | hm
      · exact hbD rfl
      · obtain ⟨o', ho'⟩ := I₁.own_there (clown b hm); rw [hb] at ho'; cases ho'
    · cases q : C.h₀.get? b with
      | none => rfl
      | some o' => have := I₁.base b o' q; rw [hb] at this; cases this
  have Gc : Good C (srcOf (toV v) ++ fz) d true ⟨s.heap, H, cl.map (·.2), srcOf (toV v) ++ sn.fz⟩ A cenv := by
    refine ⟨by rw [← G.fz], G.hd, G.depth, G.units, ?_⟩
    obtain ⟨l, h1, h2⟩ := G.frs
    refine ⟨l, h1, fun f hf => ?_⟩
    obtain ⟨k1, b, k2, k3⟩ := h2 f hf
    refine ⟨k1, b, k2, .inr ?_⟩
    rcases k3 with rfl | ⟨o', k3, ⟨es, ep, k4⟩, k5, k6, k7⟩
    · obtain ⟨m, ⟨o', es, ep, ho', hd', _⟩, _⟩ := I₁.vars
      refine ⟨o', ho', ⟨es, ep, hd'⟩, (I₁.fresh _ (List.mem_cons_self ..)).1, fun hm => ?_, (I₁.fresh _ (List.mem_cons_self ..)).2⟩
      obtain ⟨p, hp, e⟩ := List.mem_map.mp hm
      exact apart.1 (e ▸ List.mem_map.mpr ⟨_, mem_of_lookup (clm p hp).2, rfl⟩)
    · obtain ⟨q, r⟩ := I₁.hid b o' k3 k5 k6
      obtain ⟨o'', ho'', hd'', _⟩ := r.data
      exact ⟨o'', ho'', ⟨es, ep, hd''.trans k4⟩, q, fun hm => I₁.notOwn k3 k6 (clown b hm), k7⟩
  have captx : ∀ (r : Env') y, (∀ z, z ≠ x → r z = capt scope kd ρ z) → upd r x y = upd (capt scope kd ρ) x y := fun r y hr => by
    funext z
    by_cases hz : z = x
    · simp [upd, hz]
    · simp [upd, hz, hr z hz]
  have loop : ∀ s₄ : Shared, s₄ = { s with heap := h₄ } → codeAny C.M A (.compLoop (.ListComp elt [⟨.Name x px, iter, ifs, 0⟩] scope pos) 0 (.ref It) (.ref acc) cenv) (PP (.ref acc) D) s₄ := by
    rintro s₄ rfl
    refine codeAny_compLoop_tests (fun n s' => ∃ k ρ' H' ys vs, n = xs.length + 1 - k ∧ k ≤ xs.length ∧ Inv C ⟨s.heap, H, cl.map (·.2), srcOf (toV v) ++ sn.fz⟩ cenv ρ' H' s' ∧ (∀ z, z ≠ x → ρ' z = capt scope kd ρ z) ∧ J k ys H' ∧ St k s'.heap ∧
      Junk C ⟨s.heap, H, cl.map (·.2), srcOf (toV v) ++ sn.fz⟩ cenv H' It ∧ Junk C ⟨s.heap, H, cl.map (·.2), srcOf (toV v) ++ sn.fz⟩ cenv H' acc ∧ s'.heap.PlainList acc vs ∧ vs.toList.map toV = ys ∧ ys.length ≤ k ∧ ∀ b ∈ srcOf (toV v), ∃ n, H'.get b = some n) ?_ (xs.length + 1)
      ⟨0, _, H, [], #[], rfl, Nat.zero_le _, Ic, fun _ _ => rfl, j0, st₄, jOf It nIt dID, jOf acc nAcc dAD, hacc, rfl, Nat.le_refl _, hx.src⟩
    rintro n s' ⟨k, ρ', H', ys, vs, rfl, hkl, I', hρ, hJ, st, jI, jA, pl, hvs, hyk, src⟩
    by_cases hlt : k < xs.length
    · refine W.item k s' _ _ hlt st fun cv h' tk hP st' hkeep => ?_
      have hIw : ∀ b, b ≠ It → b ∉ [It] := fun b hb hm => hb (List.mem_singleton.mp hm)
      have I3 : Inv C ⟨s.heap, H, cl.map (·.2), srcOf (toV v) ++ sn.fz⟩ cenv ρ' H' { s' with heap := h', toks := tk } :=
        (I'.slots (fr := []) (h' := h') (fun b => b = It) (fun b hb => hb ▸ jI) (by simp) (fun b o e _ hn => hkeep b o (hIw b hn) e) (by simp)).toks tk
      have pl3 : h'.PlainList acc vs := pl.at fun o e => hkeep acc o (hIw acc dIA.symm) e
      have I4 := I3.snap (fz' := srcOf (toV v) ++ sn.fz) fun b hb => (I'.frz b hb).2
      refine wpAny_assign_Name (wpAny_mono (TR.storeVar (cv := cv) (.inl ((kC' x).trans kx)) (Q := fun _ ρ'' H'' => ρ'' = upd ρ' x (toV cv) ∧ H'' = H') ⟨rfl, rfl⟩ _ I4) (fun _ s4 h4 => ?_) fun _ _ e => e)
      obtain ⟨_, _, I5, e5, e6⟩ := h4
      rw [e5, e6, captx _ _ hρ] at I5
      have next : ∀ {H'' : AH} {s5 : Shared}, Inv C ⟨h', H', ownOf cenv, srcOf (toV v) ++ sn.fz⟩ cenv (upd (capt scope kd ρ) x (toV cv)) H'' s5 →
          Inv C ⟨s.heap, H, cl.map (·.2), srcOf (toV v) ++ sn.fz⟩ cenv (upd (capt scope kd ρ) x (toV cv)) H'' s5 ∧ St (k + 1) s5.heap ∧ Junk C ⟨s.heap, H, cl.map (·.2), srcOf (toV v) ++ sn.fz⟩ cenv H'' It ∧
          Junk C ⟨s.heap, H, cl.map (·.2), srcOf (toV v) ++ sn.fz⟩ cenv H'' acc ∧ s5.heap.PlainList acc vs ∧ ∀ b ∈ srcOf (toV v), ∃ n, H''.get b = some n := by
        intro H'' s5 J5
        obtain ⟨oI, vsI, hoI, hdI⟩ := B.obj _ _ st'
        obtain ⟨hI1, hI2⟩ := J5.hid It oI hoI jI.1 jI.2.1
        have hI3 := hI2.same fun es ep e => by rw [hdI] at e; cases e
        obtain ⟨na, hna⟩ := pl3
        obtain ⟨hA1, hA2⟩ := J5.hid acc _ hna jA.1 jA.2.1
        have hA3 := hA2.same fun es ep e => by cases e
        refine ⟨I3.again (fun b hb => hb) J5, W.frame _ _ _ st' fun b hb o e => ?_, ⟨hI1, jI.2⟩, ⟨hA1, jA.2⟩, ⟨na, hA3⟩, fun b hb => (J5.frz b (List.mem_append.mpr (.inl hb))).2⟩
        rcases List.mem_cons.mp hb with rfl | hb
        · rw [hoI] at e; cases e; exact hI3
        · exact (J5.frz b (List.mem_append.mpr (.inl hb))).1.trans e
      have elt_ : ∀ {H'' : AH} {s5 : Shared} {ok : Bool}, Inv C ⟨h', H', ownOf cenv, srcOf (toV v) ++ sn.fz⟩ cenv (upd (capt scope kd ρ) x (toV cv)) H'' s5 →
          (if ok then TM C ⟨h', H', ownOf cenv, srcOf (toV v) ++ sn.fz⟩ A cenv (upd (capt scope kd ρ) x (toV cv)) (eval elt cenv) (fun v H₃ => J (k + 1) (ys ++ [toV v]) H₃) (notedBy C.M A cenv fun e s' => PP (.ref acc) D (.error e) s') H'' else J (k + 1) ys H'') →
          (if ok = true then wpAny C.M A (eval elt cenv) (fun x₁ s₄ =>
              wpAny C.M A (call (.builtin "list.append") [.ref acc, x₁]) (fun _ s₅ => ∃ m, m < xs.length + 1 - k ∧ ∃ k ρ' H' ys vs, m = xs.length + 1 - k ∧ k ≤ xs.length ∧ Inv C ⟨s.heap, H, cl.map (·.2), srcOf (toV v) ++ sn.fz⟩ cenv ρ' H' s₅ ∧ (∀ z, z ≠ x → ρ' z = capt scope kd ρ z) ∧ J k ys H' ∧ St k s₅.heap ∧
      Junk C ⟨s.heap, H, cl.map (·.2), srcOf (toV v) ++ sn.fz⟩ cenv H' It ∧ Junk C ⟨s.heap, H, cl.map (·.2), srcOf (toV v) ++ sn.fz⟩ cenv H' acc ∧ s₅.heap.PlainList acc vs ∧ vs.toList.map toV = ys ∧ ys.length ≤ k ∧ ∀ b ∈ srcOf (toV v), ∃ n, H'.get b = some n)
                (notedBy C.M A cenv fun e s' => PP (.ref acc) D (.error e) s') s₄) (notedBy C.M A cenv fun e s' => PP (.ref acc) D (.error e) s') s5
            else ∃ m, m < xs.length + 1 - k ∧ ∃ k ρ' H' ys vs, m = xs.length + 1 - k ∧ k ≤ xs.length ∧ Inv C ⟨s.heap, H, cl.map (·.2), srcOf (toV v) ++ sn.fz⟩ cenv ρ' H' s5 ∧ (∀ z, z ≠ x → ρ' z = capt scope kd ρ z) ∧ J k ys H' ∧ St k s5.heap ∧
      Junk C ⟨s.heap, H, cl.map (·.2), srcOf (toV v) ++ sn.fz⟩ cenv H' It ∧ Junk C ⟨s.heap, H, cl.map (·.2), srcOf (toV v) ++ sn.fz⟩ cenv H' acc ∧ s5.heap.PlainList acc vs ∧ vs.toList.map toV = ys ∧ ys.length ≤ k ∧ ∀ b ∈ srcOf (toV v), ∃ n, H'.get b = some n) := by
        intro H'' s5 ok J5 q
        have hupd : ∀ z, z ≠ x → upd (capt scope kd ρ) x (toV cv) z = capt scope kd ρ z := fun z hz => by simp [upd, hz]
        cases ok with
        | false =>
          obtain ⟨n1, n2, n3, n4, n5, n6⟩ := next J5
          exact ⟨xs.length + 1 - (k + 1), by omega, k + 1, _, H'', ys, vs, rfl, hlt, n1, hupd, q, n2, n3, n4, n5, hvs, by omega, n6⟩
        | true =>
          refine wpAny_mono (q s5 J5) (fun y s6 h6 => ?_) fun _ _ e => e
          obtain ⟨H3, J6, hJ6⟩ := h6
          obtain ⟨n1, n2, n3, n4, n5, n6⟩ := next J6
          have hsz : vs.size ≤ sizeLine := by rw [map_size hvs]; omega
          refine wpAny_list_append_plain n5 (fun h7 pl7 sb7 => ?_) hsz
          have I7 : Inv C ⟨s.heap, H, cl.map (·.2), srcOf (toV v) ++ sn.fz⟩ cenv (upd (capt scope kd ρ) x (toV cv)) H3 { s6 with heap := h7 } :=
            n1.slots (fr := []) (h' := h7) (fun b => b = acc) (fun b hb => hb ▸ n4) (by simp) (fun b o e _ hn => sb7.extBut b o hn e) (by simp)
          refine ⟨xs.length + 1 - (k + 1), by omega, k + 1, _, H3, ys ++ [toV y], vs.push y, rfl, hlt, I7, hupd, hJ6, W.frame _ _ _ n2 fun b hb o e => sb7.extBut b o ?_ e, n3, n4, pl7, by rw [Array.toList_push, List.map_append, hvs]; rfl, by simp; omega, n6⟩
          rcases List.mem_cons.mp hb with rfl | hb
          · exact dIA
          · rintro rfl
            obtain ⟨n, hn⟩ := n6 b hb
            rw [n4.1] at hn; cases hn
      match ifs, hif with
      | [], _ =>
        exact wpAny_tests_nil (elt_ (ok := true) I5 fun s5 I5' => turn k (toV cv) ys H' (B.item k cv hP) hJ _ cenv (notedBy C.M A cenv fun e s' => PP (.ref acc) D (.error e) s') (Gc.again (more := []) I3) kC' s5 I5')
      | [c], _ =>
        refine wpAny_tests_one (wpAny_mono (turn k (toV cv) ys H' (B.item k cv hP) hJ _ cenv (notedBy C.M A cenv fun e s' => PP (.ref acc) D (.error e) s') (Gc.again (more := []) I3) kC' s4 I5) (fun ok s5 h5 => ?_) fun _ _ e => e)
        obtain ⟨H'', J5, q⟩ := h5
        exact elt_ J5 q
    · have hk0 : k = xs.length := by omega
      subst hk0
      refine W.done s' _ _ st fun h' tk hkeep => ?_
      have hIw : ∀ b, b ≠ It → b ∉ [It] := fun b hb hm => hb (List.mem_singleton.mp hm)
      have I3 : Inv C ⟨s.heap, H, cl.map (·.2), srcOf (toV v) ++ sn.fz⟩ cenv ρ' H' { s' with heap := h', toks := tk } :=
        (I'.slots (fr := []) (h' := h') (fun b => b = It) (fun b hb => hb ▸ jI) (by simp) (fun b o e _ hn => hkeep b o (hIw b hn) e) (by simp)).toks tk
      have pl3 : h'.PlainList acc vs := pl.at fun o e => hkeep acc o (hIw acc dIA.symm) e
      have If : Inv C sn env ρ H' { s' with heap := h', toks := tk } := by
        refine I₁.backC I3 (fun b hb => List.mem_append.mpr (.inr hb)) hcells (fun p hp => (clm p hp).2) fun p hp w e => ?_
        have hkp := kC_free p.1 (clm p hp).1
        refine ⟨?_, (kC' _).trans hkp, by rw [hcells]; exact clLook p hp⟩
        rw [hρ _ (by rintro e'; rw [e', kx] at hkp; cases hkp)]
        unfold capt
        rw [if_pos hkp]; exact e
      have jk : ∀ b, H'.get b = none → s.heap.get? b = none → Junk C sn env H' b := fun b hb hb' => by
        refine ⟨hb, fun hm => ?_, ?_, ?_⟩
        · obtain ⟨o', ho'⟩ := I₁.own_there hm; rw [hb'] at ho'; cases ho'
        · cases q : C.h₀.get? b with
          | none => rfl
          | some o' => have := I₁.base b o' q; rw [hb'] at this; cases this
        · cases q : sn.h.get? b with
          | none => rfl
          | some o' => obtain ⟨o'', ho''⟩ := I₁.live b o' q; rw [hb'] at ho''; cases ho''
      obtain ⟨m, hm, _⟩ := I3.vars
      rw [hlocals] at hm
      exact fin acc D ys vs H' _ If (jk acc jA.1 nAcc) pl3 hvs hyk dAD (jk D (I3.fresh D (by rw [← hlocals]; exact List.mem_cons_self ..)).1 nD) ⟨m, hm⟩ hJ
  subst hce
  exact codeAny_compStart_list (loop _ rfl) (W.self 0 _ _ _ st₄ (loop _ rfl))
end
end Mine
namespace Mine
open PySem PySem.Calls PySem.SeqAt PySem.W
def swB (kd : Str → Option NameKind) (value : Expr) (t : Str) (pos : Pos) : Bool :=
  match value with
  | .ListComp _ _ s p | .SetComp _ _ s p | .DictComp _ _ _ s p => kd t == some .local && pos.line == p.line && !(s.names.any fun x => x.1 == t && (x.2 == .local || x.2 == .cell))
  | _ => false
section
variable {C : Cx} {sn : Snap} {A : Around} {env : Env} {ρ : Str → Option V} {H : AH} {s : Shared} {E : Value → Shared → Prop} {fz : List Nat} {d : Nat} {kd : Str → Option NameKind} {scope : Scope}
theorem swapsWith_eq (hk : env.scope.kind = .function) (hkd : ∀ y, env.kindOf y = kd y) (value : Expr) (t : Str) (pos : Pos) (line : Nat) : swapsWith value (some (.Name t pos)) line env = pure (swB kd value t pos) := by
  unfold swapsWith swB
  cases value <;> first
    | rfl
    | (simp only [Env.blockKind, hk, hkd, ScopeKind.isAnnotationScope, Bool.false_eq_true, if_false, beq_self_eq_true, Bool.true_and]
       rfl)
def CompGoal (C : Cx) (A : Around) (fz : List Nat) (d : Nat) (kd : Str → Option NameKind) (scope : Scope) (ρ : Env') (x : Str) (ifs : List Expr) (elt : Expr) (v : V) (Q : List V → AH → Prop) (H₁ : AH) : Prop :=
  ∃ xs, ItemsV H₁ v xs ∧ xs.length ≤ sizeLine ∧ ∃ J : Nat → List V → AH → Prop, J 0 [] H₁ ∧
    (∀ k y ys H', xs[k]? = some y → J k ys H' → ∀ sn' cenv E', Good C (srcOf v ++ fz) d true sn' A cenv → (∀ y, cenv.kindOf y = kdC scope kd y) →
      CompTurn C sn' A cenv (upd (capt scope kd ρ) x y) ifs elt E' (J (k + 1)) ys H') ∧
    ∀ ys H', ys.length ≤ xs.length → J xs.length ys H' → Q ys H'
theorem tm_comp {elt iter : Expr} {x : Str} {px pos : Pos} {ifs : List Expr} {Q : V → AH → Prop}
    (G : Good C fz d true sn A env) (hkd : ∀ y, env.kindOf y = kd y) (hok : compOk scope kd x = true) (hif : ifs.length ≤ 1) (hs : ∀ v, foldedSetIterable iter env v = pure v)
    (h : TM C sn A env ρ (eval iter env) (fun v H₁ => CompGoal C A fz d kd scope ρ x ifs elt (toV v) (fun ys H' => made fz (.list ys) Q H') H₁) E H) :
    TM C sn A env ρ (eval (.ListComp elt [⟨.Name x px, iter, ifs, 0⟩] scope pos) env) (fun v H' => Q (toV v) H') E H := by
  intro s I
  have hok' := hok
  simp only [compOk, Bool.and_eq_true, beq_iff_eq, List.all_eq_true, bne_iff_ne, Bool.or_eq_true] at hok'
  obtain ⟨⟨⟨hkind, hnd⟩, hxl⟩, hall⟩ := hok'
  have hnd := nodupS_iff hnd
  rw [eval_ListComp]
  refine wpAny_comprehension_free (use := none) rfl hs (closureFor_of fun y hy hf => ?_) hkind (fun y hy hl => ?_) (wpAny_mono (h s I) (fun v s₁ hv => ?_) fun _ _ e => e)
  · rcases (hall y hy).2 with q | q
    · exact absurd hf q
    · exact I.ok.cell y.1 (.inl ((hkd _).trans q))
  · have := lookup_of_mem hnd hy
    rwa [hl] at this
  obtain ⟨H₁, I₁, xs, hx, hz, J, j0, turn, hQ⟩ := hv
  refine comp_core (PP := fun acc D => compPost C.M A E none _ acc D) I₁ G hkd hok hx hz hif J j0 turn fun acc D ys vs H' s' I' jA pl hvs hle dAD jD hns hJ => ?_
  obtain ⟨m, hm⟩ := hns
  refine ⟨m, hm, fun h' sb => ?_⟩
  have I2 : Inv C sn env ρ H' { s' with heap := h' } := I'.slots (fr := []) (h' := h') (fun b => b = D) (fun b hb => hb ▸ jD) (by simp) (fun b o e _ hn => sb.extBut b o hn e) (by simp)
  obtain ⟨n, hn⟩ := pl.extBut sb.extBut dAD
  have hlen : ys.length < 2 ^ 62 := Nat.lt_of_le_of_lt (Nat.le_trans hle hz) (by unfold sizeLine; decide)
  refine ⟨_, I2.reveal (n := .list ys) jA ⟨_, hn, hlen, vs, n, rfl, hvs⟩, hQ ys H' hle hJ acc jA.1 ?_⟩
  rw [← G.fz]; exact I2.notFz jA.1
theorem tr_comp_assign {elt iter : Expr} {x t : Str} {px pt pos spos : Pos} {ifs : List Expr} {Q : Env' → AH → Prop}
    (G : Good C fz d true sn A env) (hkd : ∀ y, env.kindOf y = kd y) (hok : compOk scope kd x = true) (hif : ifs.length ≤ 1) (hs : ∀ v, foldedSetIterable iter env v = pure v)
    (hk : env.scope.kind = .function) (hsw : swB kd (.ListComp elt [⟨.Name x px, iter, ifs, 0⟩] scope pos) t pt = true)
    (h : TM C sn A env ρ (eval iter env) (fun v H₁ => CompGoal C A fz d kd scope ρ x ifs elt (toV v) (fun ys H' => made fz (.list ys) (fun v H'' => Q (upd ρ t v) H'') H') H₁) E H) :
    TR C sn A env (exec (.Assign [.Name t pt] (.ListComp elt [⟨.Name x px, iter, ifs, 0⟩] scope pos) spos) env) (fun f ρ' H' => toF f = .next ∧ Q ρ' H') E ρ H := by
  intro s I
  have hok' := hok
  simp only [compOk, Bool.and_eq_true, beq_iff_eq, List.all_eq_true, bne_iff_ne, Bool.or_eq_true] at hok'
  obtain ⟨⟨⟨hkind, hnd⟩, hxl⟩, hall⟩ := hok'
  have hnd := nodupS_iff hnd
  have hkt : env.kindOf t = some .local := by
    rw [hkd]; simp only [swB, Bool.and_eq_true, beq_iff_eq] at hsw; exact hsw.1.1
  rw [exec_Assign_Name_used (hs := by rw [swapsWith_eq hk hkd, hsw])]
  refine wpAny_bind (wpAny_standAt (wpAny_bind ?_))
  show wpAny _ A (do let _ ← comprehension (.ListComp elt [⟨.Name x px, iter, ifs, 0⟩] scope pos) scope env _ (newList []) false (eval iter env) (some (assign (.Name t pt) env))) _ _ s
  refine wpAny_bind (wpAny_mono (wpAny_comprehension_free (use := some (assign (.Name t pt) env)) (Q := fun _ s' => ∃ ρ' H', Inv C sn env ρ' H' s' ∧ Q ρ' H') rfl hs (closureFor_of fun y hy hf => ?_) hkind (fun y hy hl => ?_)
    (wpAny_mono (h s I) (fun v s₁ hv => ?_) fun _ _ e => e)) (fun _ s' hq => ?_) fun _ _ e => e)
  · rcases (hall y hy).2 with q | q
    · exact absurd hf q
    · exact I.ok.cell y.1 (.inl ((hkd _).trans q))
  · have := lookup_of_mem hnd hy
    rwa [hl] at this
  · obtain ⟨H₁, I₁, xs, hx, hz, J, j0, turn, hQ⟩ := hv
    refine comp_core (PP := fun acc D => compPost C.M A E (some (assign (.Name t pt) env)) _ acc D) I₁ G hkd hok hx hz hif J j0 turn fun acc D ys vs H' s' I' jA pl hvs hle dAD jD hns hJ => ?_
    have hlen : ys.length < 2 ^ 62 := Nat.lt_of_le_of_lt (Nat.le_trans hle hz) (by unfold sizeLine; decide)
    obtain ⟨n, hn⟩ := pl
    have I2 := I'.reveal (n := .list ys) jA ⟨_, hn, hlen, vs, n, rfl, hvs⟩
    have hq := hQ ys H' hle hJ acc jA.1 (by rw [← G.fz]; exact I'.notFz jA.1)
    have I3 := I2.snap (fz' := sn.fz) fun b hb => (I2.frz b hb).2
    obtain ⟨m, hm⟩ := hns
    have hDn : (H'.set acc (.list ys)).get D = none := by rw [AH.set_ne _ _ dAD.symm]; exact jD.1
    show wpAny _ A (assign (.Name t pt) env (.ref acc)) _ _ s'
    refine wpAny_assign_Name (wpAny_mono (TR.storeVar (cv := .ref acc) (.inl hkt) (Q := fun _ ρ'' H'' => ρ'' = upd ρ t (.ref acc) ∧ H'' = H'.set acc (.list ys)) ⟨rfl, rfl⟩ _ I3) (fun _ s4 h4 => ?_) fun _ _ e => e)
    obtain ⟨_, _, I5, e5, e6⟩ := h4
    rw [e5, e6] at I5
    have I6 := I2.again (fun b hb => hb) I5
    refine ⟨m, Kept.ns hm fun o ho => (I5.hid D o ho hDn jD.2.1).2, fun h' sb => ⟨_, _, I6.slots (fr := []) (h' := h') (fun b => b = D) (fun b hb => hb ▸ ⟨hDn, jD.2⟩) (by simp) (fun b o e _ hn => sb.extBut b o hn e) (by simp), hq⟩⟩
  · obtain ⟨ρ', H', I', q⟩ := hq
    exact wpAny_pure (wpAny_pure ⟨ρ', H', I', rfl, q⟩)
end
end Mine
namespace Mine
open PySem PySem.Calls PySem.SeqAt PySem.W
def opTruth (v : V) (k : Bool → Prop) (H : AH) : Prop :=
  match v with
  | .bool b => k b
  | .none => k false
  | .int i => k (i != 0)
  | .ref p => (match H.get p with
    | some (.list xs) | some (.rlist xs) => k (!xs.isEmpty)
    | some (.sdict es) => k (!es.isEmpty)
    | _ => False)
  | _ => False
def opSlice (fz : List Nat) (o lo hi : V) (Q : V → AH → Prop) (H : AH) : Prop :=
  match o with
  | .ref p => (match H.get p with
    | some (.list xs) | some (.rlist xs) => xs.length ≤ sizeLine ∧ (match lo, hi with
      | .none, .int b => 0 ≤ b ∧ made fz (.list (xs.take b.toNat)) Q H
      | .int a, .none => 0 ≤ a ∧ made fz (.list (xs.drop a.toNat)) Q H
      | .int a, .int b => 0 ≤ a ∧ a ≤ b ∧ b ≤ xs.length ∧ made fz (.list ((xs.drop a.toNat).take (b - a).toNat)) Q H
      | _, _ => False)
    | _ => False)
  | _ => False
section
variable {C : Cx} {sn : Snap} {A : Around} {env : Env} {ρ : Str → Option V} {H : AH} {s : Shared} {E : Value → Shared → Prop} {fz : List Nat} {d : Nat}
theorem part_of {v : Value} (h : toV v = .none) : IsPart v none := by have := toV_none h; subst this; exact .none
theorem part_int {v : Value} {i : Int} (h : toV v = .int i) : IsPart v (some i) := by obtain ⟨t, rfl⟩ := toV_int h; exact .int i t
theorem tm_slice {value : Expr} {lower upper : Option Expr} {pp pos : Pos} {o : Value} {Q : V → AH → Prop}
    (h : TM C sn A env ρ (evalPart lower env) (fun l H₁ => TM C sn A env ρ (evalPart upper env) (fun u H₂ => opSlice sn.fz (toV o) (toV l) (toV u) Q H₂) E H₁) E H) :
    ∀ s, Inv C sn env ρ H s → wpAny C.M A (eval (.Slice lower upper none pp) env) (fun i s' => wpAny C.M A (standAt pos >>= fun _ => PyProof.Rows.subscriptTail value (.Slice lower upper none pp) o i) (fun v s'' => ∃ H', Inv C sn env ρ H' s'' ∧ Q (toV v) H') E s') E s := by
  intro s I
  refine (wpAny_Slice (wpAny_mono (h s I) (fun l s₁ h₁ => ?_) fun _ _ e => e))
  obtain ⟨H₁, I₁, h₁⟩ := h₁
  refine wpAny_mono (h₁ s₁ I₁) (fun u s₂ h₂ => ?_) fun _ _ e => e
  obtain ⟨H₂, I₂, h₂⟩ := h₂
  rw [evalPart_none]
  refine wpAny_pure (wpAny_bind (wpAny_standAt ?_))
  unfold opSlice at h₂
  split at h₂
  · rename_i p eo
    have := toV_ref eo; subst this
    have lists : ∀ n xs, H₂.get p = some n → n.seqL = some xs → (xs.length ≤ sizeLine ∧ (match toV l, toV u with
      | .none, .int b => 0 ≤ b ∧ made sn.fz (.list (xs.take b.toNat)) Q H₂
      | .int a, .none => 0 ≤ a ∧ made sn.fz (.list (xs.drop a.toNat)) Q H₂
      | .int a, .int b => 0 ≤ a ∧ a ≤ b ∧ b ≤ xs.length ∧ made sn.fz (.list ((xs.drop a.toNat).take (b - a).toNat)) Q H₂
      | _, _ => False)) → wpAny C.M A (PyProof.Rows.subscriptTail value (.Slice lower upper none pp) (.ref p) (.ref s₂.heap.objs.size)) (fun v s' => ∃ H', Inv C sn env ρ H' s' ∧ Q (toV v) H') E { s₂ with heap := s₂.heap.push { cls := .type "slice", data := .fields #[l, u, .none] } } := by
      intro n xs hp en h
      obtain ⟨vs, hvs, e1, z1⟩ := (I₂.nodes p n hp).isList en
      have hm := map_size e1
      have I₃ : Inv C sn env ρ H₂ { s₂ with heap := s₂.heap.push { cls := .type "slice", data := .fields #[l, u, .none] } } := I₂.keeps (tk := s₂.toks) fun b o e => Heap.get?_push_of_some _ e
      have hvs' : (s₂.heap.push { cls := .type "slice", data := .fields #[l, u, .none] }).IsList p vs := hvs.push _
      refine tail_of hvs'.typeIs slot_list_getitem.lookup ?_
      have fin : ∀ {lo hi : Option Int} {ys : List V}, IsPart l lo → IsPart u hi → (slicePick vs lo hi none).toList.map toV = ys → ys.length < 2 ^ 62 → made sn.fz (.list ys) Q H₂ →
          wpAny C.M A (getItem (.ref p) (.ref s₂.heap.objs.size)) (fun v s' => ∃ H', Inv C sn env ρ H' s' ∧ Q (toV v) H') E { s₂ with heap := s₂.heap.push { cls := .type "slice", data := .fields #[l, u, .none] } } := by
        intro lo hi ys pl pu hy hlen hq
        refine wpAny_getItem_list_slice hvs' (Heap.IsSliceOf.new _ _ _ _) pl pu .none (by simp) ?_ (by rw [hm]; exact h.1)
        have hD := get_size (s₂.heap.push { cls := .type "slice", data := .fields #[l, u, .none] })
        refine ⟨_, I₃.come (n := .list ys) (tk := s₂.toks) (fun b o e => Heap.get?_push_of_some _ e) hD ⟨_, Heap.get?_push_size _ rfl, hlen, _, _, rfl, hy⟩, hq _ (I₃.none_of_new hD) (I₃.notFz (I₃.none_of_new hD))⟩
      obtain ⟨hz, h⟩ := h
      split at h
      · rename_i b el eu
        obtain ⟨hb, hq⟩ := h
        obtain ⟨b, rfl⟩ := Int.eq_ofNat_of_zero_le hb
        refine fin (part_of el) (part_int eu) ?_ ?_ hq
        · rw [slicePick_upto']; simp [List.map_take, e1]
        · rw [List.length_take]; omega
      · rename_i a el eu
        obtain ⟨hb, hq⟩ := h
        obtain ⟨a, rfl⟩ := Int.eq_ofNat_of_zero_le hb
        refine fin (part_int el) (part_of eu) ?_ ?_ hq
        · rw [slicePick_from']; simp [List.map_drop, e1]
        · rw [List.length_drop]; omega
      · rename_i a b el eu
        obtain ⟨ha, hab, hb, hq⟩ := h
        obtain ⟨a, rfl⟩ := Int.eq_ofNat_of_zero_le ha
        obtain ⟨b, rfl⟩ := Int.eq_ofNat_of_zero_le (Int.le_trans ha hab)
        refine fin (part_int el) (part_int eu) ?_ ?_ hq
        · rw [slicePick_run _ _ _ (by omega) (by omega)]
          have : ((b : Int) - (a : Int)).toNat = b - a := by omega
          simp [List.map_take, List.map_drop, e1, this]
        · rw [List.length_take, List.length_drop]; omega
      · exact h.elim
    split at h₂
    · rename_i xs hp; exact lists _ xs hp rfl h₂
    · rename_i xs hp; exact lists _ xs hp rfl h₂
    · exact h₂.elim
  · exact h₂.elim
set_option maxRecDepth 20000 in
theorem tm_seqDisplay {items : Sem (List Value)} {T : String} {mk : List V → Node} {Q : V → AH → Prop} (hT : ∀ (vs : List Value), vs.length < 2 ^ 62 → ObjIs C { cls := .type T, data := .seq vs.toArray } (mk (vs.map toV)))
    (h : TM C sn A env ρ items (fun vs H' => vs.length ≤ sizeLine ∧ made sn.fz (mk (vs.map toV)) Q H') E H) :
    TM C sn A env ρ (items >>= fun vs => newObj (.type T) (.seq vs.toArray)) (fun v H' => Q (toV v) H') E H := by
  refine .bind (h.mono fun vs H' hq => ?_)
  intro s I
  obtain ⟨hz, hq⟩ := hq
  have hD := get_size s.heap
  refine wpAny_newObj_type ⟨_, I.come (n := mk (vs.map toV)) (tk := s.toks) (fun b o e => Heap.get?_push_of_some _ e) hD ⟨_, Heap.get?_push_size _ rfl, hT vs ?_⟩, hq _ (I.none_of_new hD) (I.notFz (I.none_of_new hD))⟩ ?_
  · exact Nat.lt_of_le_of_lt hz (by unfold sizeLine; decide)
  · show vs.toArray.size ≤ sizeLine
    rw [List.size_toArray]; exact hz
end
end Mine
namespace Mine
open PySem PySem.Calls PySem.SeqAt PySem.W PyProof.Rows
theorem strsAre_of : ∀ {vs : List Value} {ss : List Str}, vs.map toV = ss.map V.str → StrsAre vs ss
  | [], [], _ => .nil
  | [], _ :: _, h => by cases h
  | _ :: _, [], h => by cases h
  | v :: vs, x :: ss, h => by
    rw [List.map_cons, List.map_cons] at h
    injection h with h1 h2
    obtain ⟨t, rfl⟩ := toV_str h1
    exact .cons x t (strsAre_of h2)
theorem strsAre_to {vs : List Value} {ss : List Str} (h : StrsAre vs ss) : vs.map toV = ss.map V.str := by
  induction h with
  | nil => rfl
  | cons y t _ ih => rw [List.map_cons, List.map_cons, ih]; rfl
def textsOf (H : AH) (v : V) (ss : List Str) : Prop :=
  match v with
  | .ref p => (match H.get p with
    | some (.list xs) => xs = ss.map V.str
    | some (.sdict es) => es.map (·.1) = ss
    | _ => False)
  | _ => False
def opSorted (fz : List Nat) (vs : List V) (Q : V → AH → Prop) (H : AH) : Prop :=
  match vs with
  | [v] => ∃ ss, textsOf H v ss ∧ ss.length < 64 ∧ ∀ ss', ss'.Perm ss → sortedS ss' = true → made fz (.list (ss'.map V.str)) Q H
  | _ => False
def opAll (vs : List V) (Q : V → AH → Prop) (H : AH) : Prop :=
  match vs with
  | [.ref p] => (match H.get p with
    | some (.list xs) => ∃ bs : List Bool, xs = bs.map V.bool ∧ Q (.bool (bs.all id)) H
    | _ => False)
  | _ => False
section
variable {C : Cx} {sn : Snap} {A : Around} {env : Env} {ρ : Str → Option V} {H : AH} {E : Value → Shared → Prop} {Q : V → AH → Prop}
theorem tm_sorted {vs : List Value} (hh : A.handled = none) (h : opSorted sn.fz (vs.map toV) Q H) : TM C sn A env ρ (call (.builtin "sorted") vs) (fun v H' => Q (toV v) H') E H := by
  unfold opSorted at h
  split at h
  · rename_i v0 e0
    obtain ⟨v, rfl, ev⟩ := map_one e0
    obtain ⟨ss, hss, h64, hQ⟩ := h
    intro s I
    subst ev
    unfold textsOf at hss
    split at hss
    · rename_i p ep
      have := toV_ref ep; subst this
      split at hss
      · rename_i xs hp
        subst hss
        obtain ⟨o, ho, hz, ws, k, rfl, hws⟩ := I.nodes p _ hp
        have hS : StrsAre ws.toList ss := strsAre_of hws
        have hlen : ws.toList.length = ss.length := by have := congrArg List.length hws; simpa using this
        refine sorted_strs (l := p) (vs := ws.toList) ⟨_, ho, rfl, k, by simp⟩ hS (by omega) fun out ss' h1 h2 h3 => ?_
        obtain ⟨e, he⟩ := sortedAll_at s.heap ws.toList out
        have hD : s.heap.get? (s.heap.objs.size + 1) = none := by
          cases q : s.heap.get? (s.heap.objs.size + 1) with
          | none => rfl
          | some o => exact absurd (Heap.lt_size q) (Nat.not_lt.mpr (Nat.le_succ _))
        have hl' : ss'.length = ss.length := h2.length_eq
        refine ⟨_, I.come (n := .list (ss'.map V.str)) (tk := s.toks) (fun b o eb => sortedAll_old eb) hD ⟨_, he, by rw [List.length_map]; omega, out, e, rfl, strsAre_to h1⟩, hQ ss' h2 h3 _ (I.none_of_new hD) (I.notFz (I.none_of_new hD))⟩
      · rename_i es hp
        obtain ⟨kvs, hd, e1, z1⟩ := (I.nodes p _ hp).sdict
        obtain ⟨ep, hd⟩ := hd.dictAt
        have hkl : kvs.length = ss.length := by rw [← hss, ← e1]; simp
        refine call_function_entry kind_sorted plain_sorted entry_sorted (args_sorted1 _) ?_
        unfold Builtin.«sorted»
        refine wpAny_bind (m := checkCount "sorted" 1 1 _) (wpAny_pure ?_)
        refine wpAny_bind (kdu_collect (A := A.in1) (kdl_dict (knd := strKind C.prog C.w) (kvs := kvs) (ep := ep) (I.notMods hp rfl)) hh hd (by rw [hkl]; unfold sizeLine; omega) fun h' tk acc hk hacc => ?_)
        have hal : acc.toList.length = ss.length := by rw [Array.length_toList, hacc.1, hkl]
        have hS : StrsAre acc.toList ss := by
          refine strsAre_of ?_
          apply List.ext_getElem?
          intro i
          rw [List.getElem?_map, List.getElem?_map]
          cases q : acc.toList[i]? with
          | none =>
            have : ss[i]? = none := by rw [List.getElem?_eq_none_iff] at q ⊢; omega
            rw [this]; rfl
          | some v =>
            obtain ⟨k, x, hkx, hkv⟩ := hacc.2 i v (by rw [← Array.getElem?_toList]; exact q)
            obtain ⟨t, rfl⟩ := Value.isStrOf_shape (show Value.isStrOf k v = true from hkv)
            rw [← hss, ← e1]
            simp [hkx, toV]
        refine wpAny_bind (wpAny_newList ?_ (by rw [hal]; unfold sizeLine; omega))
        have hoL : (h'.push (seqObj "list" acc.toList.toArray 0)).get? h'.objs.size = some (seqObj "list" acc.toList.toArray 0) := Heap.get?_push_size _ rfl
        refine wpAny_bind (wpAny_holding (wpAny_call_entry slot_list_sort ⟨_, hoL, rfl⟩ entry_list_sort (list_sort_treeK strKind_oneLt hoL hS.keysOf (fun v₁ v₂ rest e => keyKind_strs (by rw [← e]; exact hS)) (by omega) fun st' a1 a2 => ⟨_, rfl, ?_⟩) (args_list_sort _)))
        obtain ⟨ss', b1, b2, b3⟩ := sorted_out_str hS a1 a2
        refine wpAny_pure ⟨_, rfl, ?_⟩
        have hD : s.heap.get? h'.objs.size = none := by
          cases q : s.heap.get? h'.objs.size with
          | none => rfl
          | some o => exact absurd (Heap.lt_size (hk _ o q)) (Nat.lt_irrefl _)
        have hl' : ss'.length = ss.length := b2.length_eq
        obtain ⟨en, hat⟩ := sortedHeap_at (out := (arrOf st').map (·.2)) hoL
        refine ⟨_, I.come (n := .list (ss'.map V.str)) (a := h'.objs.size) (tk := tk) (fun b o eb => ?_) hD ⟨_, hat, by rw [List.length_map]; omega, _, _, rfl, strsAre_to b1⟩, hQ ss' b2 b3 _ (I.none_of_new hD) (I.notFz (I.none_of_new hD))⟩
        have hb := hk b o eb
        have hlt := Heap.lt_size hb
        rw [sortedHeap_old (Nat.ne_of_lt hlt) (by rw [Heap.size_push]; exact Nat.lt_succ_of_lt hlt)]
        exact Heap.get?_push_of_some _ hb
      · exact hss.elim
    · exact hss.elim
  · exact h.elim
theorem tm_all {vs : List Value} (hh : A.handled = none) (h : opAll (vs.map toV) Q H) : TM C sn A env ρ (call (.builtin "all") vs) (fun v H' => Q (toV v) H') E H := by
  unfold opAll at h
  split at h
  · rename_i p0 e0
    obtain ⟨v, rfl, ev⟩ := map_one e0
    have := toV_ref ev; subst this
    intro s I
    split at h
    · rename_i xs hp
      obtain ⟨bs, rfl, hQ⟩ := h
      refine call_all_walk ?_
      refine begun_iter (v := .ref p0) (xs := bs.map V.bool) I (by show ItemsV H (.ref p0) _; simp [ItemsV, hp]) fun o St P B => ?_
      have W := B.walks A.in1 hh
      refine ⟨_, _, _, _, P, St, fun i => bs.getD i true, rfl, W, B.start, ?_, fun h' tk hk => ?_⟩
      · intro i v s' Q' E' hv hq
        have := B.item i v hv
        rw [List.getElem?_map] at this
        cases q : bs[i]? with
        | none => rw [q] at this; cases this
        | some b =>
          rw [q] at this
          simp only [Option.map_some, Option.some.injEq] at this
          have hvb := toV_bool this.symm
          subst hvb
          have hg : bs.getD i true = b := by simp [List.getD, q]
          have hq : Q' (bs.getD i true) s' := hq
          rw [hg] at hq
          exact wpAny_truthy_bool hq
      · have hall : (List.range (bs.map V.bool).length).all (fun i => bs.getD i true) = bs.all id := by
          rw [List.length_map, Bool.eq_iff_iff, List.all_eq_true, List.all_eq_true]
          constructor
          · intro h b hb
            obtain ⟨i, hi, e⟩ := List.mem_iff_getElem.mp hb
            have := h i (List.mem_range.mpr hi)
            simp [List.getD, hi, e] at this
            exact this
          · intro h i hi
            have hi := List.mem_range.mp hi
            have := h bs[i] (List.getElem_mem hi)
            simpa [List.getD, hi] using this
        rw [hall]
        have hIt : s.heap.get? s.heap.objs.size = none := get_size _
        have I2 : Inv C sn env ρ H { s with heap := s.heap.push o } := I.keeps (tk := s.toks) fun b o e => Heap.get?_push_of_some _ e
        have jk : Junk C sn env H s.heap.objs.size := I.junk_of_new hIt
        exact ⟨H, (I2.slots (fr := []) (h' := h') (fun b => b = s.heap.objs.size) (fun b hb => hb ▸ jk) (by simp) (fun b o e _ hn => hk b o (by simpa using hn) e) (by simp)).toks tk, hQ⟩
    · exact h.elim
  · exact h.elim
end
end Mine
namespace Mine
open PySem PySem.Calls PySem.SeqAt PySem.W PyProof.Rows
section
variable {C : Cx} {sn : Snap} {A : Around} {env : Env} {ρ : Str → Option V} {H : AH} {E : Value → Shared → Prop} {Q : V → AH → Prop}
theorem tm_dict1 {k v : Expr} {pos : Pos} (hsub : ∀ D s', H.get D = none → D ∉ sn.fz → Inv C sn env ρ (H.set D (.sdict [])) s' → wpAny C.M A (eval k env) (fun kv s₁ => ∃ H₁, Inv C ⟨s'.heap, H.set D (.sdict []), ownOf env, D :: sn.fz⟩ env ρ H₁ s₁ ∧
      wpAny C.M A (eval v env) (fun vv s₂ => ∃ H₂ x, toV kv = .str x ∧ Inv C ⟨s'.heap, H.set D (.sdict []), ownOf env, D :: sn.fz⟩ env ρ H₂ s₂ ∧ Q (.ref D) (H₂.set D (.sdict [(x, toV vv)]))) E s₁) E s') :
    TM C sn A env ρ (eval (.Dict [some k] [v] pos) env) (fun v H' => Q (toV v) H') E H := by
  intro s I
  have hD := get_size s.heap
  have hn := I.none_of_new hD
  have hnf : s.heap.objs.size ∉ sn.fz := I.notFz hn
  have hget : (s.heap.push { cls := .type "dict", data := .dict #[] }).get? s.heap.objs.size = some { cls := .type "dict", data := .dict #[] } := Heap.get?_push_size _ rfl
  have hio : Obj.IsDictOf (strKind C.prog C.w) ({ cls := .type "dict", data := .dict #[] } : Obj) [] := ⟨#[], 0, ⟨rfl, rfl, rfl⟩, rfl, fun _ h => by simp at h, .nil, List.nodup_nil⟩
  have I' : Inv C sn env ρ (H.set s.heap.objs.size (.sdict [])) { s with heap := s.heap.push { cls := .type "dict", data := .dict #[] } } :=
    I.come (tk := s.toks) (fun b o e => Heap.get?_push_of_some _ e) hD ⟨_, hget, by simp, [], hio, rfl⟩
  refine wpAny_Dict_walk (knd := strKind C.prog C.w) rfl rfl (by simp) (by simp) (pairTrees_cons_walk ?_)
  refine wpAny_mono (hsub _ _ hn hnf I') (fun kv s₁ h₁ => ?_) fun _ _ e => e
  obtain ⟨H₁, J₁, h₁⟩ := h₁
  refine wpAny_mono h₁ (fun vv s₂ h₂ => ?_) fun _ _ e => e
  obtain ⟨H₂, x, ex, J₂, h₂⟩ := h₂
  obtain ⟨t, rfl⟩ := toV_str ex
  refine pairTrees_nil_walk ?_
  have I₂ : Inv C sn env ρ H₂ s₂ := I'.again (fun b hb => List.mem_cons_of_mem _ hb) J₂
  obtain ⟨hk2, n, hn2⟩ := J₂.frz s.heap.objs.size (List.mem_cons_self ..)
  have hk2 : s₂.heap.get? s.heap.objs.size = some { cls := .type "dict", data := .dict #[] } := hk2.trans hget
  have hro : n.isRO = false := by
    obtain ⟨o, ho, hi⟩ := I₂.nodes _ _ hn2
    rw [hk2] at ho
    cases ho
    cases n <;> first | rfl | (obtain ⟨_, hc, _⟩ := hi; injection hc with hc; exact absurd hc (by decide))
  refine ⟨[(x, vv)], ⟨strKind_is _ _ x t, rfl, True.intro⟩, Heap.dictOf_iff.mpr ⟨_, hk2, hio⟩, fun h' hd' hs => ?_⟩
  obtain ⟨ob, ho, hob⟩ := Heap.dictOf_iff.mp hd'
  exact ⟨_, I₂.turn (h' := h') (tk := s₂.toks + 1) (n' := .sdict [(x, toV vv)]) hn2 hro hnf hs.extBut ⟨ob, ho, by simp, [(x, vv)], by simpa [merged, stored] using hob, rfl⟩, h₂⟩
end
end Mine
namespace Mine
open PySem PySem.Calls PySem.SeqAt PySem.W
def Look (H : AH) (p : Nat) (k : Node → Prop) : Prop := match H.get p with | some n => k n | none => False
def Got {α : Type} (o : Option α) (k : α → Prop) : Prop := match o with | some v => k v | none => False
def req (b : Bool) (P : Prop) : Prop := match b with | true => P | false => False
def br (b : Bool) (A B : Prop) : Prop := match b with | true => A | false => B
def onInt (v : V) (k : Int → Prop) : Prop := match v with | .int i => k i | _ => False
def onStr (v : V) (k : Str → Prop) : Prop := match v with | .str i => k i | _ => False
def onRef (v : V) (k : Nat → Prop) : Prop := match v with | .ref i => k i | _ => False
def onList (n : Node) (k : List V → Prop) : Prop := match n with | .list xs => k xs | .rlist xs => k xs | _ => False
def onSeq (n : Node) (k : List V → Prop) : Prop := match n with | .tuple xs => k xs | n => onList n k
def onOwn (n : Node) (k : List V → Prop) : Prop := match n with | .list xs => k xs | _ => False
theorem look {H : AH} {p : Nat} {k : Node → Prop} {n : Node} (h : H.get p = some n) (r : k n) : Look H p k := by unfold Look; rw [h]; exact r
theorem got {α : Type} {o : Option α} {k : α → Prop} {v : α} (h : o = some v) (r : k v) : Got o k := by subst h; exact r
theorem reqd {b : Bool} {P : Prop} (h : b = true) (r : P) : req b P := by subst h; exact r
theorem reqp {c : Prop} [Decidable c] {P : Prop} (h : c) (r : P) : req (decide c) P := reqd (decide_eq_true h) r
theorem brs {b : Bool} {A B : Prop} (h1 : b = true → A) (h2 : b = false → B) : br b A B := by cases b; exact h2 rfl; exact h1 rfl
theorem brd {c : Prop} [Decidable c] {A B : Prop} (h1 : c → A) (h2 : ¬ c → B) : br (decide c) A B := brs (fun h => h1 (of_decide_eq_true h)) fun h => h2 (of_decide_eq_false h)
theorem brt {b : Bool} {A B : Prop} (h : b = true) (r : A) : br b A B := by subst h; exact r
theorem brf {b : Bool} {A B : Prop} (h : b = false) (r : B) : br b A B := by subst h; exact r
theorem look_out {H : AH} {p : Nat} {k : Node → Prop} (h : Look H p k) : ∃ n, H.get p = some n ∧ k n := by
  unfold Look at h; cases q : H.get p with
  | none => rw [q] at h; exact h.elim
  | some n => rw [q] at h; exact ⟨n, rfl, h⟩
theorem got_out {α : Type} {o : Option α} {k : α → Prop} (h : Got o k) : ∃ v, o = some v ∧ k v := by
  cases o with
  | none => exact h.elim
  | some v => exact ⟨v, rfl, h⟩
theorem req_out {b : Bool} {P : Prop} (h : req b P) : b = true ∧ P := by cases b; exact h.elim; exact ⟨rfl, h⟩
theorem reqp_out {c : Prop} [Decidable c] {P : Prop} (h : req (decide c) P) : c ∧ P := ⟨of_decide_eq_true (req_out h).1, (req_out h).2⟩
theorem onInt_out {v : V} {k : Int → Prop} (h : onInt v k) : ∃ i, v = .int i ∧ k i := by cases v <;> first | exact ⟨_, rfl, h⟩ | exact h.elim
theorem onStr_out {v : V} {k : Str → Prop} (h : onStr v k) : ∃ i, v = .str i ∧ k i := by cases v <;> first | exact ⟨_, rfl, h⟩ | exact h.elim
theorem onRef_out {v : V} {k : Nat → Prop} (h : onRef v k) : ∃ i, v = .ref i ∧ k i := by cases v <;> first | exact ⟨_, rfl, h⟩ | exact h.elim
theorem onList_out {n : Node} {k : List V → Prop} (h : onList n k) : ∃ xs, n.seqL = some xs ∧ k xs := by cases n <;> first | exact ⟨_, rfl, h⟩ | exact h.elim
theorem onOwn_out {n : Node} {k : List V → Prop} (h : onOwn n k) : ∃ xs, n = .list xs ∧ k xs := by cases n <;> first | exact ⟨_, rfl, h⟩ | exact h.elim
theorem onSeq_out {n : Node} {k : List V → Prop} (h : onSeq n k) : ∃ xs, (n.seqL = some xs ∨ n = .tuple xs) ∧ k xs := by
  cases n <;> first | exact ⟨_, .inr rfl, h⟩ | exact ⟨_, .inl rfl, h⟩ | exact h.elim
theorem intV {v : Value} {k : Int → Prop} (h : onInt (toV v) k) : ∃ i t, v = .int i t ∧ k i := by
  obtain ⟨i, e, h⟩ := onInt_out h; obtain ⟨t, rfl⟩ := toV_int e; exact ⟨i, t, rfl, h⟩
theorem strV {v : Value} {k : Str → Prop} (h : onStr (toV v) k) : ∃ i t, v = .str i t ∧ k i := by
  obtain ⟨i, e, h⟩ := onStr_out h; obtain ⟨t, rfl⟩ := toV_str e; exact ⟨i, t, rfl, h⟩
theorem refV {v : Value} {k : Nat → Prop} (h : onRef (toV v) k) : ∃ p, v = .ref p ∧ k p := by
  obtain ⟨i, e, h⟩ := onRef_out h; exact ⟨i, toV_ref e, h⟩
inductive Rep (x : Str) (n : Int) (k : Str → Prop) : Prop
  | mk : MulOk x n → k (strRep x n) → Rep x n k
inductive Cat (x y : Str) (k : Str → Prop) : Prop
  | mk : x.length + y.length ≤ sizeLine → k (x ++ y) → Cat x y k
inductive Mem (H : AH) (xs : List V) (v : V) (k : Bool → Prop) : Prop
  | mk (e : V → Bool) : (∀ y ∈ xs, ∃ d, EqV H y v (e y) d ∧ d ≤ deepest) → k (xs.any e) → Mem H xs v k
inductive Ix (H : AH) (xs : List V) (x : V) (k : Int → Prop) : Prop
  | mk (e : V → Bool) (j : Nat) (y : V) : (∀ y ∈ xs, ∃ d, EqV H y x (e y) d ∧ d ≤ deepest) → xs[j]? = some y → e y = true → (∀ (m : Nat) z, m < j → xs[m]? = some z → e z = false) → k j → Ix H xs x k
inductive Same (H : AH) (a b : V) (k : Bool → Prop) : Prop
  | mk (r : Bool) (d : Nat) : EqV H a b r d → d ≤ deepest → k r → Same H a b k
inductive DEq {K : Type} [DecidableEq K] (es fs : List (K × V)) (k : Bool → Prop) : Prop
  | mk : dSc es fs → k (dEq es fs) → DEq es fs k
inductive Jn (t : Str) (xs : List V) (k : Str → Prop) : Prop
  | mk (ss : List Str) : xs = ss.map V.str → JoinOk t ss = true → k (Txt.join t ss) → Jn t xs k
inductive Gd (o : Option V) (d : V) (k : V → Prop) : Prop
  | mk : k (o.getD d) → Gd o d k
structure Made (fz : List Nat) (n : Node) (Q : V → AH → Prop) (H : AH) : Prop where
  out : made fz n Q H
def oAdd (fz : List Nat) (a b : V) (Q : V → AH → Prop) (H : AH) : Prop :=
  match a with
  | .int x => onInt b fun y => Q (.int (x + y)) H
  | .str x => onStr b fun y => Cat x y fun s => Q (.str s) H
  | .ref p => onRef b fun q => Look H p fun n => Look H q fun m => match n with
    | .tuple xs => (match m with
      | .tuple ys => req (!xs.isEmpty && !ys.isEmpty) (req (decide (xs.length + ys.length ≤ sizeLine)) (Made fz (.tuple (xs ++ ys)) Q H))
      | _ => False)
    | n => onList n fun xs => onList m fun ys => req (decide (xs.length + ys.length ≤ sizeLine)) (Made fz (.list (xs ++ ys)) Q H)
  | _ => False
def oMul (a b : V) (Q : V → AH → Prop) (H : AH) : Prop :=
  match a with
  | .int x => onInt b fun y => IntMulOk x y ∧ Q (.int (x * y)) H
  | .str x => onInt b fun y => Rep x y fun s => Q (.str s) H
  | _ => False
def divOk (y : Int) : Bool := decide (y ≠ 0) && decide (y.natAbs.log2 < 9000)
def oBin (fz : List Nat) (op : Operator) (a b : V) (Q : V → AH → Prop) (H : AH) : Prop :=
  match op with
  | .Add => oAdd fz a b Q H
  | .Sub => onInt a fun x => onInt b fun y => Q (.int (x - y)) H
  | .Mult => oMul a b Q H
  | .FloorDiv => onInt a fun x => onInt b fun y => req (divOk y) (Q (.int (x.fdiv y)) H)
  | .Mod => onInt a fun x => onInt b fun y => req (decide (y ≠ 0)) (Q (.int (x.fmod y)) H)
  | .Pow => onInt a fun x => onInt b fun y => req (decide (2 ≤ x) && decide (1 ≤ y) && !Builtin.Int.intTooBig (((Builtin.Int.intBits x : Nat) : Int) * y)) (Q (.int (x ^ y.toNat)) H)
  | _ => False
section
variable {C : Cx} {sn : Snap} {A : Around} {env : Env} {ρ : Str → Option V} {H : AH} {E : Value → Shared → Prop} {Q : V → AH → Prop}
theorem oAdd_ok {a b : Value} (h : oAdd sn.fz (toV a) (toV b) Q H) : TM C sn A env ρ (binaryOp .Add a b) (fun v H' => Q (toV v) H') E H := by
  cases a <;> try exact h.elim
  case int x t => obtain ⟨y, u, rfl, h⟩ := intV h; exact fun _ I => P.add_int (toks_still I (v := .int _ _) h _)
  case str x t => obtain ⟨y, u, rfl, h⟩ := strV h; obtain ⟨h1, h⟩ := h; exact TM.bin_str h1 h
  case ref p =>
    obtain ⟨q, rfl, h⟩ := refV h
    obtain ⟨n, hn, h⟩ := look_out h
    obtain ⟨m, hm, h⟩ := look_out h
    cases n <;> try exact h.elim
    case tuple xs =>
      cases m <;> try exact h.elim
      case tuple ys =>
        obtain ⟨h1, h⟩ := req_out h
        obtain ⟨h2, h⟩ := reqp_out h
        simp only [Bool.and_eq_true, Bool.not_eq_true', List.isEmpty_eq_false_iff] at h1
        exact TM.bin_tuple hn hm h1.1 h1.2 h2 h.out
    all_goals
      obtain ⟨ys, em, h⟩ := onList_out (n := m) h
      obtain ⟨h1, h⟩ := reqp_out h
      exact TM.bin_list hn hm rfl em h1 h.out
theorem oBin_ok {op : Operator} {a b : Value} (h : oBin sn.fz op (toV a) (toV b) Q H) : TM C sn A env ρ (binaryOp op a b) (fun v H' => Q (toV v) H') E H := by
  cases op <;> try exact h.elim
  case Add => exact oAdd_ok h
  case Sub => obtain ⟨x, t, rfl, h⟩ := intV h; obtain ⟨y, u, rfl, h⟩ := intV h; exact fun _ I => P.sub_int (toks_still I (v := .int _ _) h _)
  case Mult =>
    cases a <;> try exact h.elim
    case int x t => obtain ⟨y, u, rfl, h⟩ := intV h; exact fun _ I => P.mul_int (toks_still I (v := .int _ _) h.2 _) h.1
    case str x t => obtain ⟨y, u, rfl, h⟩ := intV h; obtain ⟨h1, h⟩ := h; exact TM.bin_rep h1 h
  case FloorDiv =>
    obtain ⟨x, t, rfl, h⟩ := intV h; obtain ⟨y, u, rfl, h⟩ := intV h
    obtain ⟨h1, h⟩ := req_out h
    have h1 := Bool.and_eq_true_iff.mp h1
    exact fun _ I => PyProof.Rows.floordiv_int (of_decide_eq_true h1.1) (toks_still I (v := .int _ _) h _) (.inl (PyProof.noPylong_of_log2 (of_decide_eq_true h1.2)))
  case Mod =>
    obtain ⟨x, t, rfl, h⟩ := intV h; obtain ⟨y, u, rfl, h⟩ := intV h
    obtain ⟨h1, h⟩ := reqp_out h
    exact fun _ I => PyProof.Rows.mod_int' h1 (toks_still I (v := .int _ _) h _)
  case Pow =>
    obtain ⟨x, t, rfl, h⟩ := intV h; obtain ⟨y, u, rfl, h⟩ := intV h
    obtain ⟨h1, h⟩ := req_out h
    simp only [Bool.and_eq_true, decide_eq_true_eq, Bool.not_eq_true'] at h1
    obtain ⟨⟨h1, h2⟩, h3⟩ := h1
    exact fun _ I => AutoIntOps.pow_4 (by omega) (by simp; omega) (by simp; omega) (by simp; omega) (by simp [h3]) (toks_still I (v := .int _ _) h _)
end
def oTruth (v : V) (k : Bool → Prop) (H : AH) : Prop :=
  match v with
  | .bool b => k b
  | .none => k false
  | .int i => k (i != 0)
  | .ref p => Look H p fun n => match n with
    | .sdict es => k (!es.isEmpty)
    | n => onList n fun xs => k (!xs.isEmpty)
  | _ => False
inductive ChAt (x : Str) (i : Int) (k : Nat → Prop) : Prop
  | mk (c : Nat) : 0 ≤ i → i < 2 ^ 62 → x.cps[i.toNat]? = some c → k c → ChAt x i k
def oIdx (o i : V) (Q : V → Prop) (H : AH) : Prop :=
  match o with
  | .ref p => Look H p fun n => match n with
    | .sdict es => onStr i fun k => Got (dget es k) Q
    | .idict es => onInt i fun k => Got (dget es k) Q
    | n => onSeq n fun xs => onInt i fun k => Got (pick xs k) Q
  | .str x => onInt i fun k => ChAt x k fun c => Q (.str ⟨#[c]⟩)
  | _ => False
def oIn (v b : V) (Q : Bool → Prop) (H : AH) : Prop :=
  match b with
  | .str x => onStr v fun y => Q (strIn y x)
  | .ref p => Look H p fun n => match n with
    | .sdict es => onStr v fun k => Q (es.any fun p => p.1 = k)
    | .idict es => onInt v fun k => Q (es.any fun p => p.1 = k)
    | n => onSeq n fun xs => Mem H xs v Q
  | _ => False
def isN0 (v : V) (k : Bool → Prop) : Prop := match v with | .none => k true | .bi _ => False | _ => k false
def oCmp (op : CmpOp) (a b : V) (Q : Bool → Prop) (H : AH) : Prop :=
  match op with
  | .Eq => opEq2 a b Q H
  | .NotEq => opEq2 a b (fun r => Q (!r)) H
  | .In => oIn a b Q H
  | .NotIn => oIn a b (fun r => Q (!r)) H
  | .Lt => onInt a fun x => onInt b fun y => Q (decide (x < y))
  | .LtE => onInt a fun x => onInt b fun y => Q (decide (x ≤ y))
  | .Gt => onInt a fun x => onInt b fun y => Q (decide (x > y))
  | .GtE => onInt a fun x => onInt b fun y => Q (decide (x ≥ y))
  | .Is => (match b with | .none => isN0 a Q | _ => False)
  | .IsNot => (match b with | .none => isN0 a fun r => Q (!r) | _ => False)
end Mine
namespace Mine
open PySem PySem.Calls PySem.SeqAt PySem.W
def lEq : List Nat → List Nat → Bool
  | [], [] => true
  | a :: r, b :: q => Nat.beq a b && lEq r q
  | _, _ => false
theorem lEq_iff : ∀ a b : List Nat, lEq a b = decide (a = b)
  | [], [] => rfl
  | [], _ :: _ => rfl
  | _ :: _, [] => rfl
  | a :: r, b :: q => by
    rw [lEq, lEq_iff r q, Bool.eq_iff_iff]
    simp [Nat.beq_eq]
def sEq (a b : Str) : Bool := lEq a.cps.toList b.cps.toList
theorem sEq_iff (a b : Str) : sEq a b = decide (a = b) := by
  unfold sEq
  rw [lEq_iff, Bool.eq_iff_iff]
  simp only [decide_eq_true_eq]
  constructor
  · intro h; obtain ⟨⟨x⟩⟩ := a; obtain ⟨⟨y⟩⟩ := b; simp at h; rw [h]
  · rintro rfl; rfl
theorem sEq_t {a b : Str} (h : sEq a b = true) : a = b := by rw [sEq_iff] at h; exact of_decide_eq_true h
theorem sEq_f {a b : Str} (h : sEq a b = false) : a ≠ b := by rw [sEq_iff] at h; exact of_decide_eq_false h
def scE (a b : V) : Option Bool :=
  match a with
  | .str x => (match b with | .str y => some (sEq x y) | .int _ => some false | .none => some false | .bool _ => some false | _ => none)
  | .int x => (match b with | .int y => some (decide (x = y)) | b => scEq (.int x) b)
  | a => scEq a b
theorem scE_ok {a b : V} {r : Bool} (h : scE a b = some r) : scEq a b = some r := by
  cases a <;> try exact h
  case str x =>
    cases b <;> try exact h
    case str y => rw [← h]; unfold scE scEq; simp only [sEq_iff]; rfl
  case int x =>
    cases b <;> try exact h
def oEq (a b : V) (Q : Bool → Prop) (H : AH) : Prop :=
  match a with
  | .ref p => (match b with
    | .ref q => Look H p fun n => Look H q fun m => (match n with
      | .sdict es => (match m with | .sdict fs => DEq es fs Q | _ => False)
      | .idict es => (match m with | .idict fs => DEq es fs Q | _ => False)
      | _ => Same H (.ref p) (.ref q) Q)
    | _ => False)
  | a => Got (scE a b) Q
def oCmp2 (op : CmpOp) (a b : V) (Q : Bool → Prop) (H : AH) : Prop :=
  match op with
  | .Eq => oEq a b Q H
  | .NotEq => oEq a b (fun r => Q (!r)) H
  | op => oCmp op a b Q H
section
variable {C : Cx} {sn : Snap} {A : Around} {env : Env} {ρ : Str → Option V} {H : AH} {E : Value → Shared → Prop}
theorem eqV_two {a b : Value} {r : Bool} {d : Nat} {Q : Bool → Prop} (hr : Room A) (he : EqV H (toV a) (toV b) r d) (hd : d ≤ deepest) (q : Q r) :
    ∃ r, Q r ∧ ∀ s, Inv C sn env ρ H s → (∀ (P : Value → Shared → Prop), P (.bool r) s → wpAny C.M A (compareOp .Eq a b) P E s) ∧ (∀ (P : Value → Shared → Prop), P (.bool !r) s → wpAny C.M A (compareOp .NotEq a b) P E s) := by
  have hu : A.units + 200 < cLine := hr
  refine ⟨r, q, fun s I => ?_⟩
  have := (he.sound (A := A) (x := a) (y := b) I.nodesIn (by unfold deepest at hd; omega) rfl rfl).2
  exact ⟨fun P hP => this.1 _ _ _ _ hP, fun P hP => this.2 _ _ _ _ hP⟩
theorem dEq_two {K : Type} [DecidableEq K] {knd : KeyKind C.prog C.w K} {p q : Nat} {es fs : List (K × V)} {Q : Bool → Prop} (hr : Room A)
    (hp : ∀ s, Inv C sn env ρ H s → (p == sysModules) = false ∧ ∃ ka, s.heap.DictOf knd p ka ∧ ka.map (fun p => (p.1, toV p.2)) = es) (hq : ∀ s, Inv C sn env ρ H s → (q == sysModules) = false ∧ ∃ ka, s.heap.DictOf knd q ka ∧ ka.map (fun p => (p.1, toV p.2)) = fs)
    (h : DEq es fs Q) : ∃ r, Q r ∧ ∀ s, Inv C sn env ρ H s → (∀ (P : Value → Shared → Prop), P (.bool r) s → wpAny C.M A (compareOp .Eq (.ref p) (.ref q)) P E s) ∧ (∀ (P : Value → Shared → Prop), P (.bool !r) s → wpAny C.M A (compareOp .NotEq (.ref p) (.ref q)) P E s) := by
  have hu : A.units + 200 < cLine := hr
  obtain ⟨h1, h2⟩ := h
  refine ⟨_, h2, fun s I => ?_⟩
  obtain ⟨m1, ka, da, e1⟩ := hp s I
  obtain ⟨m2, kb, db, e2⟩ := hq s I
  have hl : (ka.length == kb.length) = (es.length == fs.length) := by rw [← e1, ← e2]; simp
  exact ⟨fun P hP => W.keq_eq m1 m2 da db (by omega) (fun _ => hits_of e2 ka es e1 h1) (by rw [hl]; exact hP), fun P hP => W.keq_ne m1 m2 da db (by omega) (fun _ => hits_of e2 ka es e1 h1) (by rw [hl]; exact hP)⟩
theorem oEq_ok {a b : Value} {Q : Bool → Prop} (hr : Room A) (h : oEq (toV a) (toV b) Q H) :
    ∃ r, Q r ∧ ∀ s, Inv C sn env ρ H s → (∀ (P : Value → Shared → Prop), P (.bool r) s → wpAny C.M A (compareOp .Eq a b) P E s) ∧ (∀ (P : Value → Shared → Prop), P (.bool !r) s → wpAny C.M A (compareOp .NotEq a b) P E s) := by
  by_cases ha : ∃ p, a = .ref p
  · obtain ⟨p, rfl⟩ := ha
    have hb : ∃ q, b = .ref q := by cases b <;> first | exact ⟨_, rfl⟩ | exact h.elim
    obtain ⟨q, rfl⟩ := hb
    obtain ⟨n, hn, h⟩ := look_out h
    obtain ⟨m, hm, h⟩ := look_out h
    cases n
    case sdict es =>
      cases m <;> try exact h.elim
      exact dEq_two (knd := strKind C.prog C.w) hr (fun s I => ⟨I.notMods hn rfl, let ⟨ka, da, e, _⟩ := (I.nodes p _ hn).sdict; ⟨ka, da, e⟩⟩) (fun s I => ⟨I.notMods hm rfl, let ⟨ka, da, e, _⟩ := (I.nodes q _ hm).sdict; ⟨ka, da, e⟩⟩) h
    case idict es =>
      cases m <;> try exact h.elim
      exact dEq_two (knd := intKind C.prog C.w) hr (fun s I => ⟨I.notMods hn rfl, let ⟨ka, da, e, _⟩ := (I.nodes p _ hn).idict; ⟨ka, da, e⟩⟩) (fun s I => ⟨I.notMods hm rfl, let ⟨ka, da, e, _⟩ := (I.nodes q _ hm).idict; ⟨ka, da, e⟩⟩) h
    all_goals
      obtain ⟨r, d, he, hd, q⟩ := h
      exact eqV_two hr he hd q
  · have h : Got (scE (toV a) (toV b)) Q := by cases a <;> first | exact h | exact absurd ⟨_, rfl⟩ ha
    obtain ⟨r, e, q⟩ := got_out h
    exact eqV_two hr (.sc (scE_ok e)) (Nat.zero_le _) q
theorem oIn_ok {a b : Value} {Q : Bool → Prop} (h : oIn (toV a) (toV b) Q H) : opIn (toV a) (toV b) Q H := by
  cases b <;> try exact h.elim
  case str x t => obtain ⟨y, u, rfl, h⟩ := strV h; exact h
  case ref p =>
    obtain ⟨n, hn, h⟩ := look_out h
    show (match H.get p with
    | some (.list xs) | some (.rlist xs) | some (.tuple xs) => ∃ e : V → Bool, (∀ y ∈ xs, ∃ d, EqV H y (toV a) (e y) d ∧ d ≤ deepest) ∧ Q (xs.any e)
    | some (.sdict es) => (match toV a with | .str k => Q (es.any fun p => p.1 = k) | _ => False)
    | some (.idict es) => (match toV a with | .int k => Q (es.any fun p => p.1 = k) | _ => False)
    | _ => False : Prop)
    rw [hn]
    cases n <;> first | exact h | (obtain ⟨e, h1, h2⟩ := h; exact ⟨e, h1, h2⟩) | exact h.elim | (obtain ⟨y, u, rfl, h⟩ := strV h; exact h) | (obtain ⟨y, u, rfl, h⟩ := intV h; exact h)
theorem isN0_ok {a : Value} {k : Bool → Prop} (h : isN0 (toV a) k) : (∀ id, a ≠ .builtin id) ∧ k (a == Value.none) := by
  cases a <;> first | exact h.elim | exact ⟨fun id e => (nomatch e), h⟩
theorem oCmp_ok {op : CmpOp} {a b : Value} {Q : Bool → Prop} (hr : Room A) (h : oCmp2 op (toV a) (toV b) Q H) :
    TM C sn A env ρ (compareOp op a b) (fun v H' => (∃ r, v = .bool r ∧ Q r) ∧ H' = H) E H := by
  cases op
  case Eq =>
    obtain ⟨r, q, k⟩ := oEq_ok (C := C) (sn := sn) (env := env) (ρ := ρ) (E := E) hr h
    exact fun s I => (k s I).1 _ ⟨H, I, ⟨_, rfl, q⟩, rfl⟩
  case NotEq =>
    obtain ⟨r, q, k⟩ := oEq_ok (Q := fun r => Q (!r)) (C := C) (sn := sn) (env := env) (ρ := ρ) (E := E) hr h
    exact fun s I => (k s I).2 _ ⟨H, I, ⟨_, rfl, q⟩, rfl⟩
  case In => exact (TM.opIn_ hr (oIn_ok h)).1
  case NotIn => exact ((TM.opIn_ hr (oIn_ok (Q := fun r => Q (!r)) h)).2).mono fun v H' ⟨⟨r, e, q⟩, e'⟩ => ⟨⟨_, e, q⟩, e'⟩
  case Lt => obtain ⟨x, t, rfl, h⟩ := intV h; obtain ⟨y, u, rfl, h⟩ := intV h; exact fun s I => P.lt_int ⟨H, I, ⟨_, rfl, h⟩, rfl⟩
  case LtE => obtain ⟨x, t, rfl, h⟩ := intV h; obtain ⟨y, u, rfl, h⟩ := intV h; exact fun s I => P.le_int ⟨H, I, ⟨_, rfl, h⟩, rfl⟩
  case Gt => obtain ⟨x, t, rfl, h⟩ := intV h; obtain ⟨y, u, rfl, h⟩ := intV h; exact fun s I => P.gt_int ⟨H, I, ⟨_, rfl, h⟩, rfl⟩
  case GtE => obtain ⟨x, t, rfl, h⟩ := intV h; obtain ⟨y, u, rfl, h⟩ := intV h; exact fun s I => P.ge_int ⟨H, I, ⟨_, rfl, h⟩, rfl⟩
  case Is =>
    cases b <;> try exact h.elim
    obtain ⟨h1, h2⟩ := isN0_ok (k := Q) h
    refine fun s I => wpAny_is_plain ?_ ⟨H, I, ⟨_, rfl, h2⟩, rfl⟩
    cases a <;> first | rfl | exact absurd rfl (h1 _)
  case IsNot =>
    cases b <;> try exact h.elim
    obtain ⟨h1, h2⟩ := isN0_ok (k := fun r => Q (!r)) h
    refine fun s I => wpAny_isNot_plain ?_ ⟨H, I, ⟨_, rfl, h2⟩, rfl⟩
    cases a <;> first | rfl | exact absurd rfl (h1 _)
theorem oTruth_ok {v : Value} {k : Bool → Prop} (h : oTruth (toV v) k H) : TM C sn A env ρ (truthy v) (fun b H' => k b ∧ H' = H) E H := by
  intro s I
  cases v <;> try exact h.elim
  case none => exact PyProof.Rows.truthy_none ⟨H, I, h, rfl⟩
  case bool b => exact wpAny_truthy_bool ⟨H, I, h, rfl⟩
  case int i t => exact PyProof.Rows.truthy_int ⟨H, I, h, rfl⟩
  case ref p =>
    obtain ⟨n, hn, h⟩ := look_out h
    have lists : ∀ n xs, H.get p = some n → n.seqL = some xs → k (!xs.isEmpty) → wpAny C.M A (PySem.truthy (.ref p)) (fun b s' => ∃ H', Inv C sn env ρ H' s' ∧ k b ∧ H' = H) E s := by
      intro n xs hp en h
      obtain ⟨vs, hvs, e1, z1⟩ := (I.nodes p n hp).isList en
      have hm := map_size e1
      refine wpAny_truthy_list hvs (by omega) ⟨H, I.toks _, ?_, rfl⟩
      have : (!vs.isEmpty) = !xs.isEmpty := by
        unfold Array.isEmpty; rw [hm]; cases xs <;> rfl
      rw [this]; exact h
    cases n <;> try exact h.elim
    case list xs => exact lists _ xs hn rfl h
    case rlist xs => exact lists _ xs hn rfl h
    case sdict es =>
      obtain ⟨kvs, hd, e1, z1⟩ := (I.nodes p _ hn).sdict
      have hl : kvs.length = es.length := by rw [← e1]; simp
      refine wpAny_truthy_dict (I.notMods hn rfl) hd (by omega) ⟨H, I.toks _, ?_, rfl⟩
      have : (!kvs.isEmpty) = !es.isEmpty := by cases kvs <;> cases es <;> simp_all
      rw [this]; exact h
theorem dget_val {K : Type} [DecidableEq K] {kvs : List (K × Value)} {es : List (K × V)} {k : K} {v : V} (e1 : kvs.map (fun p => (p.1, toV p.2)) = es) (h : dget es k = some v) : ∃ cv, valueAt kvs k = some cv ∧ toV cv = v := by
  rw [dget_map e1] at h
  exact Option.map_eq_some_iff.mp h
theorem oIdx_ok {value slice : Expr} {o i : Value} {Q : V → Prop} (h : oIdx (toV o) (toV i) Q H) :
    TM C sn A env ρ (PyProof.Rows.subscriptTail value slice o i) (fun v H' => Q (toV v) ∧ H' = H) E H := by
  intro s I
  cases o <;> try exact h.elim
  case str x t =>
    obtain ⟨k, u, rfl, h⟩ := intV h
    obtain ⟨c, h1, h2, hc, h⟩ := h
    refine tail_of (typeIs_str s x t) PyProof.Rows.slot_str_getitem.lookup (PyProof.Rows.getItem_str (c := c) (by simp; omega) ?_ ⟨H, I.toks _, h, rfl⟩)
    have := (Array.getElem?_eq_some_iff.mp hc).1
    have e : seqIndex? k x.length = some k.toNat := by
      unfold seqIndex? Str.length
      simp; omega
    rw [e]; exact hc
  case ref p =>
    obtain ⟨n, hn, h⟩ := look_out h
    have seqs : onSeq n (fun xs => onInt (toV i) fun k => Got (pick xs k) Q) → wpAny C.M A (PyProof.Rows.subscriptTail value slice (.ref p) i) (fun v s' => ∃ H', Inv C sn env ρ H' s' ∧ Q (toV v) ∧ H' = H) E s := by
      intro hh
      clear h
      obtain ⟨xs, en, hh⟩ := onSeq_out hh
      obtain ⟨k, u, rfl, hh⟩ := intV hh
      obtain ⟨v, hv, h⟩ := got_out hh
      rcases en with en | rfl
      · obtain ⟨vs, hvs, e1, z1⟩ := (I.nodes p n hn).isList en
        obtain ⟨cv, e, q | q⟩ := pick_get e1 z1 hv
        · exact tail_of hvs.typeIs slot_list_getitem.lookup (wpAny_getItem_list hvs q.1 (by omega) q.2.2 ⟨H, I, by rw [e]; exact h, rfl⟩)
        · exact tail_of hvs.typeIs slot_list_getitem.lookup (wpAny_getItem_list_neg hvs q.1 q.2.1 (by omega) q.2.2.2 ⟨H, I, by rw [e]; exact h, rfl⟩)
      · obtain ⟨vs, hvs, e1, z1⟩ := (I.nodes p _ hn).isTuple
        obtain ⟨cv, e, q⟩ := pick_get e1 z1 hv
        have hvs' : PyProof.Rows.IsTup s.heap p vs := hvs
        have key : ∀ j : Nat, seqIndex? k vs.size = some j → vs[j]? = some cv → k < 2 ^ 62 ∧ -(2 ^ 62) ≤ k → wpAny C.M A (PyProof.Rows.subscriptTail value slice (.ref p) (.int k u)) (fun v s' => ∃ H', Inv C sn env ρ H' s' ∧ Q (toV v) ∧ H' = H) E s := fun j h1 h2 h3 =>
          tail_of hvs'.typeIs PyProof.Rows.slot_tuple_getitem.lookup (PyProof.Rows.getItem_tuple hvs' (by omega) (by omega) h1 h2 ⟨H, I, by rw [e]; exact h, rfl⟩)
        rcases q with q | q
        · have := (Array.getElem?_eq_some_iff.mp q.2.2).1
          exact key k.toNat (by unfold seqIndex?; simp; omega) q.2.2 (by omega)
        · have := (Array.getElem?_eq_some_iff.mp q.2.2.2).1
          exact key (k + vs.size).toNat (by unfold seqIndex?; simp; omega) q.2.2.2 (by omega)
    cases n <;> try exact seqs h
    case sdict es =>
      obtain ⟨k, u, rfl, h⟩ := strV h
      obtain ⟨v, hv, h⟩ := got_out h
      obtain ⟨kvs, hd, e1, _⟩ := (I.nodes p _ hn).sdict
      obtain ⟨cv, q, rfl⟩ := dget_val e1 hv
      exact tail_of hd.typeIs slot_dict_getitem.lookup (wpAny_getItem_of (strKind_is _ _ k u) hd.mapOf q ⟨H, I.toks _, h, rfl⟩)
    case idict es =>
      obtain ⟨k, u, rfl, h⟩ := intV h
      obtain ⟨v, hv, h⟩ := got_out h
      obtain ⟨kvs, hd, e1, _⟩ := (I.nodes p _ hn).idict
      obtain ⟨cv, q, rfl⟩ := dget_val e1 hv
      exact tail_of hd.typeIs slot_dict_getitem.lookup (wpAny_getItem_of (intKind_is _ _ k u) hd.mapOf q ⟨H, I.toks _, h, rfl⟩)
end
end Mine
namespace Mine
open PySem PySem.Calls PySem.SeqAt PySem.W PyProof.Rows
def arg0 (vs : List V) (P : Prop) : Prop := match vs with | [] => P | _ => False
def arg1 (vs : List V) (k : V → Prop) : Prop := match vs with | a :: r => arg0 r (k a) | _ => False
def arg2 (vs : List V) (k : V → V → Prop) : Prop := match vs with | a :: r => arg1 r (k a) | _ => False
theorem arg0_out {vs : List Value} {P : Prop} (h : arg0 (vs.map toV) P) : vs = [] ∧ P := by
  cases vs with
  | nil => exact ⟨rfl, h⟩
  | cons _ _ => exact h.elim
theorem arg1_out {vs : List Value} {k : V → Prop} (h : arg1 (vs.map toV) k) : ∃ a, vs = [a] ∧ k (toV a) := by
  cases vs with
  | nil => exact h.elim
  | cons a r => obtain ⟨rfl, h⟩ := arg0_out h; exact ⟨a, rfl, h⟩
theorem arg2_out {vs : List Value} {k : V → V → Prop} (h : arg2 (vs.map toV) k) : ∃ a b, vs = [a, b] ∧ k (toV a) (toV b) := by
  cases vs with
  | nil => exact h.elim
  | cons a r => obtain ⟨b, rfl, h⟩ := arg1_out h; exact ⟨a, b, rfl, h⟩
def oSet (fz : List Nat) (o i v : V) (Q : AH → Prop) (H : AH) : Prop :=
  match o with
  | .ref p => Look H p fun n => req (decide (p ∉ fz)) (match n with
    | .list xs => onInt i fun k => req (decide (0 ≤ k) && decide (k < xs.length)) (Q (H.set p (.list (xs.set k.toNat v))))
    | .sdict es => (match i with
      | .str k => req (decide (es.length ≤ sizeLine)) (Q (H.set p (.sdict (dput es k v))))
      | .int k => (match es with | [] => Q (H.set p (.idict [(k, v)])) | _ => False)
      | _ => False)
    | .idict es => onInt i fun k => req (decide (es.length ≤ sizeLine)) (Q (H.set p (.idict (dput es k v))))
    | _ => False)
  | _ => False
def oSlice (fz : List Nat) (o lo hi : V) (Q : V → AH → Prop) (H : AH) : Prop :=
  onRef o fun p => Look H p fun n => onList n fun xs => req (decide (xs.length ≤ sizeLine)) (match lo with
    | .none => onInt hi fun b => req (decide (0 ≤ b)) (Made fz (.list (xs.take b.toNat)) Q H)
    | .int a => (match hi with
      | .none => req (decide (0 ≤ a)) (Made fz (.list (xs.drop a.toNat)) Q H)
      | .int b => req (decide (0 ≤ a) && decide (a ≤ b) && decide (b ≤ xs.length)) (Made fz (.list ((xs.drop a.toNat).take (b - a).toNat)) Q H)
      | _ => False)
    | _ => False)
inductive Mth where
  | append | extend | lclear | index | get | update | dclear | join
def Mth.name : Mth → Str
  | .append => "append" | .extend => "extend" | .lclear => "clear" | .index => "index" | .get => "get" | .update => "update" | .dclear => "clear" | .join => "join"
def Mth.id : Mth → String
  | .append => "list.append" | .extend => "list.extend" | .lclear => "list.clear" | .index => "list.index" | .get => "dict.get" | .update => "dict.update" | .dclear => "dict.clear" | .join => "str.join"
def Mth.ty : Mth → String
  | .append => "list" | .extend => "list" | .lclear => "list" | .index => "list" | .get => "dict" | .update => "dict" | .dclear => "dict" | .join => "str"
theorem Mth.facts (m : Mth) : PlainAttrs m.ty ∧ Slot m.ty m.name m.id ∧ typeOf (.builtin m.id) = pure (.type "method_descriptor") := by
  cases m
  · exact ⟨F.plainAttrs_list, F.slot_list_append, F.type_list_append⟩
  · exact ⟨F.plainAttrs_list, F.slot_list_extend, F.type_list_extend⟩
  · exact ⟨F.plainAttrs_list, F.slot_list_clear, F.type_list_clear⟩
  · exact ⟨F.plainAttrs_list, F.slot_list_index, F.type_list_index⟩
  · exact ⟨F.plainAttrs_dict, F.slot_dict_get, F.type_dict_get⟩
  · exact ⟨F.plainAttrs_dict, F.slot_dict_update, F.type_dict_update⟩
  · exact ⟨F.plainAttrs_dict, F.slot_dict_clear, F.type_dict_clear⟩
  · exact ⟨F.plainAttrs_str, F.slot_str_join, F.type_str_join⟩
def onL (m : Mth) (P : Prop) : Prop := match m with | .append => P | .extend => P | .lclear => P | .index => P | _ => False
def onD (m : Mth) (P : Prop) : Prop := match m with | .get => P | .update => P | .dclear => P | _ => False
def onJ (m : Mth) (P : Prop) : Prop := match m with | .join => P | _ => False
def oGet (m : Mth) (o : V) (P : Prop) (H : AH) : Prop :=
  match o with
  | .str _ => onJ m P
  | .ref p => Look H p fun n => match n with | .list _ => onL m P | .sdict _ => onD m P | .idict _ => onD m P | _ => False
  | _ => False
def oMeth (fz : List Nat) (m : Mth) (o : V) (vs : List V) (Q : V → AH → Prop) (H : AH) : Prop :=
  match m with
  | .append => arg1 vs fun x => onRef o fun p => Look H p fun n => req (decide (p ∉ fz)) (onOwn n fun xs => req (decide (xs.length ≤ sizeLine)) (Q .none (H.set p (.list (xs ++ [x])))))
  | .extend => arg1 vs fun x => onRef x fun q => onRef o fun p => Look H p fun n => Look H q fun m => req (decide (p ∉ fz)) (onOwn n fun xs => onOwn m fun ys => req (decide (xs.length + ys.length ≤ sizeLine)) (Q .none (H.set p (.list (xs ++ ys)))))
  | .lclear => arg0 vs (onRef o fun p => Look H p fun n => req (decide (p ∉ fz)) (onOwn n fun xs => req (decide (xs.length ≤ sizeLine)) (Q .none (H.set p (.list [])))))
  | .index => arg1 vs fun x => onRef o fun p => Look H p fun n => onOwn n fun xs => Ix H xs x fun j => Q (.int j) H
  | .get => arg2 vs fun k d => onRef o fun p => Look H p fun n => match n with
    | .sdict es => (match k with
      | .str k => Gd (dget es k) d fun v => Q v H
      | .int _ => (match es with | [] => Q d H | _ => False)
      | _ => False)
    | .idict es => onInt k fun k => Gd (dget es k) d fun v => Q v H
    | _ => False
  | .update => arg1 vs fun x => onRef x fun q => onRef o fun p => Look H p fun n => Look H q fun m => req (decide (p ∉ fz) && decide (p ≠ q)) (match n with
    | .sdict es => (match m with | .sdict fs => req (decide (es.length + fs.length ≤ sizeLine)) (Q .none (H.set p (.sdict (dmerge es fs)))) | _ => False)
    | .idict es => (match m with | .idict fs => req (decide (es.length + fs.length ≤ sizeLine)) (Q .none (H.set p (.idict (dmerge es fs)))) | _ => False)
    | _ => False)
  | .dclear => arg0 vs (onRef o fun p => Look H p fun n => req (decide (p ∉ fz)) (match n with
    | .sdict es => req (decide (es.length ≤ sizeLine)) (Q .none (H.set p (.sdict [])))
    | .idict es => req (decide (es.length ≤ sizeLine)) (Q .none (H.set p (.sdict [])))
    | _ => False))
  | .join => arg1 vs fun x => onStr o fun t => onRef x fun p => Look H p fun n => onOwn n fun xs => Jn t xs fun s => Q (.str s) H
section
variable {C : Cx} {sn : Snap} {A : Around} {env : Env} {ρ : Str → Option V} {H : AH} {E : Value → Shared → Prop} {Q : V → AH → Prop}
theorem oSet_ok {o i v : Value} {Q : AH → Prop} (h : oSet sn.fz (toV o) (toV i) (toV v) Q H) : TM C sn A env ρ (setItem o i v) (fun _ H' => Q H') E H := by
  intro s I
  cases o <;> try exact h.elim
  case ref p =>
    replace h := look_out h
    obtain ⟨n, hp, h⟩ := h
    replace h := reqp_out h
    obtain ⟨hf, h⟩ := h
    cases n <;> try exact h.elim
    case list xs =>
      replace h := intV h
      obtain ⟨k, t, rfl, h⟩ := h
      replace h := req_out h
      obtain ⟨h1, h⟩ := h
      simp only [Bool.and_eq_true, decide_eq_true_eq] at h1
      obtain ⟨ob, ho, hz, vs, kk, rfl, e1⟩ := I.nodes p _ hp
      have hs := map_size e1
      refine PySem.W.ki_setAt (n := kk) ho h1.1 (by omega) (by omega) ⟨_, I.turnList (ys := xs.set k.toNat (toV v)) hp hf ho _ ?_ ?_, h⟩
      · rw [Array.toList_setIfInBounds, List.map_set, e1]
      · rw [List.length_set]; exact hz
    case sdict es =>
      cases i <;> try exact h.elim
      case str k t =>
        replace h := reqp_out h
        obtain ⟨h1, h⟩ := h
        obtain ⟨kvs, hd, e1, z1⟩ := (I.nodes p _ hp).sdict
        have hl : kvs.length = es.length := by rw [← e1]; simp
        refine wpAny_setItem_pairs (strKind_is _ _ k t) hd (fun h' hd' hs => ?_) (by rw [hl]; exact h1)
        obtain ⟨ob, ho, hio⟩ := Heap.dictOf_iff.mp hd'
        refine ⟨_, I.turn (n' := .sdict _) hp rfl hf hs.extBut ⟨ob, ho, ?_, _, hio, dput_map e1 k v⟩, h⟩
        have := dput_length es k (toV v); rw [sizeLine_eq] at h1; omega
      case int k t =>
        cases es with
        | cons _ _ => exact h.elim
        | nil =>
          obtain ⟨kvs, hd, rfl⟩ := I.asInt hp
          refine wpAny_setItem_pairs (intKind_is _ _ k t) hd (fun h' hd' hs => ?_) (by simp [sizeLine_eq])
          obtain ⟨ob, ho, hio⟩ := Heap.dictOf_iff.mp hd'
          exact ⟨_, I.turn (n' := .idict [(k, toV v)]) hp rfl hf hs.extBut ⟨ob, ho, by simp, _, hio, by simp [stored]⟩, h⟩
    case idict es =>
      replace h := intV h
      obtain ⟨k, t, rfl, h⟩ := h
      replace h := reqp_out h
      obtain ⟨h1, h⟩ := h
      obtain ⟨kvs, hd, e1, z1⟩ := (I.nodes p _ hp).idict
      have hl : kvs.length = es.length := by rw [← e1]; simp
      refine wpAny_setItem_pairs (intKind_is _ _ k t) hd (fun h' hd' hs => ?_) (by rw [hl]; exact h1)
      obtain ⟨ob, ho, hio⟩ := Heap.dictOf_iff.mp hd'
      refine ⟨_, I.turn (n' := .idict _) hp rfl hf hs.extBut ⟨ob, ho, ?_, _, hio, dput_map e1 k v⟩, h⟩
      have := dput_length es k (toV v); rw [sizeLine_eq] at h1; omega
set_option maxRecDepth 20000 in
theorem oGet_ok {m : Mth} {ov : Value} {pl : Sem Bool} {P : Prop} (h : oGet m (toV ov) P H) : TM C sn A env ρ (getMethod ov m.name pl) (fun r H' => r = (.builtin m.id, [ov]) ∧ P ∧ H' = H) E H := by
  intro s I
  obtain ⟨pa, sl, ty⟩ := m.facts
  cases ov <;> try exact h.elim
  case str x t =>
    have hm : m.ty = "str" ∧ P := by cases m <;> first | exact ⟨rfl, h⟩ | exact h.elim
    rw [hm.1] at pa sl
    exact getMethod_builtin (typeIs_str s x t) pa sl ty (fun a e => by cases e) ⟨H, I, rfl, hm.2, rfl⟩
  case ref p =>
    replace h := look_out h
    obtain ⟨n, hp, h⟩ := h
    cases n <;> try exact h.elim
    case list xs =>
      have hm : m.ty = "list" ∧ P := by cases m <;> first | exact ⟨rfl, h⟩ | exact h.elim
      rw [hm.1] at pa sl
      obtain ⟨o, ho, _, vs, kk, rfl, _⟩ := I.nodes p _ hp
      exact getMethod_builtin ⟨_, ho, rfl⟩ pa sl ty (fun a e => by cases e; exact ⟨_, ho, rfl⟩) ⟨H, I, rfl, hm.2, rfl⟩
    all_goals
      have hm : m.ty = "dict" ∧ P := by cases m <;> first | exact ⟨rfl, h⟩ | exact h.elim
      rw [hm.1] at pa sl
      obtain ⟨o, ho, _, kvs, ⟨_, _, ⟨hc, hd, _⟩, _⟩, _⟩ := I.nodes p _ hp
      exact getMethod_builtin ⟨_, ho, hc⟩ pa sl ty (fun a e => by cases e; exact ⟨_, ho, hd⟩) ⟨H, I, rfl, hm.2, rfl⟩
theorem oMeth_ok {m : Mth} {o : Value} {vs : List Value} (hr : Room A) (h : oMeth sn.fz m (toV o) (vs.map toV) Q H) : TM C sn A env ρ (call (.builtin m.id) (o :: vs)) (fun v H' => Q (toV v) H') E H := by
  have hu : A.units + 200 < cLine := hr
  intro s I
  cases m
  case append =>
    replace h := arg1_out h
    obtain ⟨x, rfl, h⟩ := h
    replace h := refV h
    obtain ⟨p, rfl, h⟩ := h
    replace h := look_out h
    obtain ⟨n, hp, h⟩ := h
    replace h := reqp_out h
    obtain ⟨hf, h⟩ := h
    replace h := onOwn_out h
    obtain ⟨xs, rfl, h⟩ := h
    replace h := reqp_out h
    obtain ⟨hz, h⟩ := h
    obtain ⟨vs, ⟨k, ho⟩, e1, z1⟩ := (I.nodes _ _ hp).plainList
    refine wpAny_list_append_plain ⟨k, ho⟩ (fun h' hl hs => ⟨_, I.turn (n' := .list _) (tk := s.toks) hp rfl hf hs.extBut ?_, h⟩) (by rw [map_size e1]; exact hz)
    obtain ⟨k', ho'⟩ := hl
    refine ⟨_, ho', ?_, _, _, rfl, ?_⟩
    · rw [sizeLine_eq] at hz; simp; omega
    · simp [e1]
  case extend =>
    replace h := arg1_out h
    obtain ⟨x, rfl, h⟩ := h
    replace h := refV h
    obtain ⟨q, rfl, h⟩ := h
    replace h := refV h
    obtain ⟨p, rfl, h⟩ := h
    replace h := look_out h
    obtain ⟨n, hp, h⟩ := h
    replace h := look_out h
    obtain ⟨m, hq, h⟩ := h
    replace h := reqp_out h
    obtain ⟨hf, h⟩ := h
    replace h := onOwn_out h
    obtain ⟨xs, rfl, h⟩ := h
    replace h := onOwn_out h
    obtain ⟨ys, rfl, h⟩ := h
    replace h := reqp_out h
    obtain ⟨h2, h⟩ := h
    obtain ⟨vs, ⟨k, ho⟩, e1, z1⟩ := (I.nodes _ _ hp).plainList
    obtain ⟨ws, ⟨k2, ho2⟩, e2, z2⟩ := (I.nodes _ _ hq).plainList
    have hz : vs.size + ws.size ≤ sizeLine := by rw [map_size e1, map_size e2]; exact h2
    refine call_meets PySem.F.slot_list_extend ⟨_, ho, rfl⟩ PySem.F.entry_list_extend (PySem.F.args_list_extend_2 _ _) (PySem.AutoSeq1.list_extend_list_list_0 _ vs k _ ws k2 ?_ (by omega) (by omega)) ⟨ho, ho2, _, I.turnList (ys := xs ++ ys) hp hf ho _ ?_ ?_, h⟩
    · have : Builtin.List.listTooLong (vs.size + ws.size) = false := by
        unfold Builtin.List.listTooLong
        simp; omega
      rw [this]; simp
    · simp [e1, e2]
    · rw [sizeLine_eq] at h2; simp; omega
  case lclear =>
    replace h := arg0_out h
    obtain ⟨rfl, h⟩ := h
    replace h := refV h
    obtain ⟨p, rfl, h⟩ := h
    replace h := look_out h
    obtain ⟨n, hp, h⟩ := h
    replace h := reqp_out h
    obtain ⟨hf, h⟩ := h
    replace h := onOwn_out h
    obtain ⟨xs, rfl, h⟩ := h
    replace h := reqp_out h
    obtain ⟨hz, h⟩ := h
    obtain ⟨vs, ⟨k, ho⟩, e1, z1⟩ := (I.nodes _ _ hp).plainList
    exact call_meets PySem.F.slot_list_clear ⟨_, ho, rfl⟩ PySem.F.entry_list_clear (PySem.F.args_list_clear_1 _) (PySem.AutoSeq1.list_clear_list_0 _ vs k (by rw [map_size e1]; exact hz)) ⟨ho, _, I.turnList (ys := []) hp hf ho _ (by simp) (by simp), h⟩
  case index =>
    replace h := arg1_out h
    obtain ⟨u, rfl, h⟩ := h
    replace h := refV h
    obtain ⟨p, rfl, h⟩ := h
    replace h := look_out h
    obtain ⟨n, hp, h⟩ := h
    replace h := onOwn_out h
    obtain ⟨xs, rfl, h⟩ := h
    obtain ⟨ee, j, y, he, hj, hy, hno, q⟩ := h
    obtain ⟨vs, ⟨k, ho⟩, e1, z1⟩ := (I.nodes _ _ hp).plainList
    obtain ⟨cv, q1, q2⟩ := map_get e1 hj
    obtain ⟨hlt, q1⟩ := Array.getElem?_eq_some_iff.mp q1
    have hs := map_size e1
    refine call_meets PySem.F.slot_list_index ⟨_, ho, rfl⟩ PySem.F.entry_list_index (PySem.F.args_list_index_2 _ _) (list_indexAt _ vs k none #[] u (fun y => ee (toV y)) j hlt (by omega) (by rw [q1, q2]; exact hy) (fun m hm hmj => ?_)) ⟨ho, fun y hy => ?_, H, I.toks _, q⟩
    · exact hno m (toV vs[m]) hmj (by rw [← e1]; simp [hm])
    · obtain ⟨d, hd, hle⟩ := he (toV y) (by rw [← e1]; exact List.mem_map.mpr ⟨y, by simpa using hy, rfl⟩)
      exact (hd.sound (A := A.in1) I.nodesIn (by show A.units + 1 + d < cLine; unfold deepest at hle; omega) rfl rfl).1
  case get =>
    replace h := arg2_out h
    obtain ⟨key, d, rfl, h⟩ := h
    replace h := refV h
    obtain ⟨p, rfl, h⟩ := h
    replace h := look_out h
    obtain ⟨n, hp, h⟩ := h
    cases n <;> try exact h.elim
    case sdict es =>
      cases key <;> try exact h.elim
      case str k t =>
        obtain ⟨kvs, hd, e1, z1⟩ := (I.nodes _ _ hp).sdict
        obtain ⟨h⟩ := h; exact tm_dict_get I (strKind_is _ _ k t) hd e1 (I.notMods hp rfl) h
      case int k t =>
        cases es with
        | cons _ _ => exact h.elim
        | nil =>
          obtain ⟨kvs, hd, rfl⟩ := I.asInt hp
          exact tm_dict_get (es := []) I (intKind_is _ _ k t) hd rfl (I.notMods hp rfl) h
    case idict es =>
      replace h := intV h
      obtain ⟨k, t, rfl, h⟩ := h
      obtain ⟨kvs, hd, e1, z1⟩ := (I.nodes _ _ hp).idict
      obtain ⟨h⟩ := h; exact tm_dict_get I (intKind_is _ _ k t) hd e1 (I.notMods hp rfl) h
  case update =>
    replace h := arg1_out h
    obtain ⟨x, rfl, h⟩ := h
    replace h := refV h
    obtain ⟨q, rfl, h⟩ := h
    replace h := refV h
    obtain ⟨p, rfl, h⟩ := h
    replace h := look_out h
    obtain ⟨n, hp, h⟩ := h
    replace h := look_out h
    obtain ⟨m, hq, h⟩ := h
    replace h := req_out h
    obtain ⟨hf, h⟩ := h
    simp only [Bool.and_eq_true, decide_eq_true_eq] at hf
    cases n <;> try exact h.elim
    case sdict es =>
      cases m <;> try exact h.elim
      rename_i fs
      replace h := reqp_out h
      obtain ⟨hz, h⟩ := h
      obtain ⟨kvs, hd, e1, z1⟩ := (I.nodes _ _ hp).sdict
      obtain ⟨more, hd2, e2, z2⟩ := (I.nodes _ _ hq).sdict
      have hl : kvs.length = es.length := by rw [← e1]; simp
      have hl2 : more.length = fs.length := by rw [← e2]; simp
      refine tm_dict_update (n' := .sdict (dmerge es fs)) I hp rfl hf.1 hf.2 hd hd2 (by rw [hl, hl2]; exact hz) (I.notMods hq rfl) (fun o ho => ⟨?_, _, ho, dmerge_map e1 e2⟩) h
      have := dmerge_length es fs; rw [sizeLine_eq] at hz; omega
    case idict es =>
      cases m <;> try exact h.elim
      rename_i fs
      replace h := reqp_out h
      obtain ⟨hz, h⟩ := h
      obtain ⟨kvs, hd, e1, z1⟩ := (I.nodes _ _ hp).idict
      obtain ⟨more, hd2, e2, z2⟩ := (I.nodes _ _ hq).idict
      have hl : kvs.length = es.length := by rw [← e1]; simp
      have hl2 : more.length = fs.length := by rw [← e2]; simp
      refine tm_dict_update (n' := .idict (dmerge es fs)) I hp rfl hf.1 hf.2 hd hd2 (by rw [hl, hl2]; exact hz) (I.notMods hq rfl) (fun o ho => ⟨?_, _, ho, dmerge_map e1 e2⟩) h
      have := dmerge_length es fs; rw [sizeLine_eq] at hz; omega
  case dclear =>
    replace h := arg0_out h
    obtain ⟨rfl, h⟩ := h
    replace h := refV h
    obtain ⟨p, rfl, h⟩ := h
    replace h := look_out h
    obtain ⟨n, hp, h⟩ := h
    replace h := reqp_out h
    obtain ⟨hf, h⟩ := h
    cases n <;> try exact h.elim
    case sdict es =>
      replace h := reqp_out h
      obtain ⟨hz, h⟩ := h
      obtain ⟨kvs, hd, e1, z1⟩ := (I.nodes _ _ hp).sdict
      have hl : kvs.length = es.length := by rw [← e1]; simp
      exact tm_dict_clear I hp rfl hf hd (by rw [hl]; exact hz) (fun o ho => ⟨by simp, [], ho, rfl⟩) h
    case idict es =>
      replace h := reqp_out h
      obtain ⟨hz, h⟩ := h
      obtain ⟨kvs, hd, e1, z1⟩ := (I.nodes _ _ hp).idict
      have hl : kvs.length = es.length := by rw [← e1]; simp
      exact tm_dict_clear I hp rfl hf hd (by rw [hl]; exact hz) (fun o ho => sdict_nil.mpr ⟨by simp, [], ho, rfl⟩) h
  case join =>
    replace h := arg1_out h
    obtain ⟨x, rfl, h⟩ := h
    replace h := strV h
    obtain ⟨t, u, rfl, h⟩ := h
    replace h := refV h
    obtain ⟨p, rfl, h⟩ := h
    replace h := look_out h
    obtain ⟨n, hp, h⟩ := h
    replace h := onOwn_out h
    obtain ⟨xs, rfl, h⟩ := h
    obtain ⟨ss, rfl, hok, q⟩ := h
    obtain ⟨vs, ⟨k, ho⟩, e1, z1⟩ := (I.nodes _ _ hp).plainList
    obtain ⟨l, rfl, e2⟩ := strs_values e1
    exact SC.join ⟨_, ho, rfl, k, rfl⟩ e2 hok fun t' tk => toks_still I (v := .str _ t') q tk
theorem oSlice_ok {o l u : Value} (h : oSlice sn.fz (toV o) (toV l) (toV u) Q H) : opSlice sn.fz (toV o) (toV l) (toV u) Q H := by
  replace h := refV h
  obtain ⟨p, rfl, h⟩ := h
  replace h := look_out h
  obtain ⟨n, hp, h⟩ := h
  have key : ∀ xs : List V, (req (decide (xs.length ≤ sizeLine)) (match toV l with
    | .none => onInt (toV u) fun b => req (decide (0 ≤ b)) (Made sn.fz (.list (xs.take b.toNat)) Q H)
    | .int a => (match toV u with
      | .none => req (decide (0 ≤ a)) (Made sn.fz (.list (xs.drop a.toNat)) Q H)
      | .int b => req (decide (0 ≤ a) && decide (a ≤ b) && decide (b ≤ xs.length)) (Made sn.fz (.list ((xs.drop a.toNat).take (b - a).toNat)) Q H)
      | _ => False)
    | _ => False)) → xs.length ≤ sizeLine ∧ (match toV l, toV u with
      | .none, .int b => 0 ≤ b ∧ made sn.fz (.list (xs.take b.toNat)) Q H
      | .int a, .none => 0 ≤ a ∧ made sn.fz (.list (xs.drop a.toNat)) Q H
      | .int a, .int b => 0 ≤ a ∧ a ≤ b ∧ b ≤ xs.length ∧ made sn.fz (.list ((xs.drop a.toNat).take (b - a).toNat)) Q H
      | _, _ => False) := by
    intro xs h
    replace h := reqp_out h
    obtain ⟨h1, h⟩ := h
    refine ⟨h1, ?_⟩
    cases l <;> try exact h.elim
    case none => obtain ⟨b, t, rfl, h⟩ := intV h; exact ⟨(reqp_out h).1, (reqp_out h).2.out⟩
    case int a t =>
      cases u <;> try exact h.elim
      case none => exact ⟨(reqp_out h).1, (reqp_out h).2.out⟩
      case int b t' =>
        replace h := req_out h
        obtain ⟨h2, h⟩ := h
        simp only [Bool.and_eq_true, decide_eq_true_eq] at h2
        exact ⟨h2.1.1, h2.1.2, h2.2, h.out⟩
  show (match H.get p with | some (.list xs) | some (.rlist xs) => _ | _ => False : Prop)
  rw [hp]
  cases n <;> first | exact key _ h | exact h.elim
end
end Mine
namespace Mine
open PySem PySem.Calls PySem.SeqAt PySem.W PyProof.Rows
inductive Bi where
  | len | min | sorted | all | range | int | list | tuple | dict
def Bi.name : Bi → Str
  | .len => "len" | .min => "min" | .sorted => "sorted" | .all => "all" | .range => "range" | .int => "int" | .list => "list" | .tuple => "tuple" | .dict => "dict"
def Bi.val : Bi → Value
  | .len => .builtin "len" | .min => .builtin "min" | .sorted => .builtin "sorted" | .all => .builtin "all" | .range => .type "range" | .int => .type "int" | .list => .type "list" | .tuple => .type "tuple" | .dict => .type "dict"
def Bi.walks : Bi → Bool
  | .min => true | .sorted => true | .all => true | _ => false
theorem Bi.noRef (b : Bi) (a : Addr) : b.val ≠ .ref a := by cases b <;> exact fun e => nomatch e
inductive Srt (fz : List Nat) (v : V) (Q : V → AH → Prop) (H : AH) : Prop
  | mk (ss : List Str) : textsOf H v ss → ss.length < 64 → (∀ ss', ss'.Perm ss → sortedS ss' = true → Made fz (.list (ss'.map V.str)) Q H) → Srt fz v Q H
def oRange (fz : List Nat) (vs : List V) (Q : V → AH → Prop) (H : AH) : Prop :=
  match vs with
  | a :: r => onInt a fun x => (match r with
    | [] => Made fz (.rng 0 x 1) Q H
    | b :: r => onInt b fun y => (match r with
      | [] => Made fz (.rng x y 1) Q H
      | c :: r => onInt c fun z => (match r with | [] => req (divOk z) (Made fz (.rng x y z) Q H) | _ => False)))
  | [] => False
def oBi (fz : List Nat) (b : Bi) (vs : List V) (Q : V → AH → Prop) (H : AH) : Prop :=
  match b with
  | .len => arg1 vs fun v => match v with
    | .str x => req (decide (x.length < 2 ^ 62)) (Q (.int x.length) H)
    | .ref p => Look H p fun n => match n with
      | .sdict es => Q (.int es.length) H
      | .idict es => Q (.int es.length) H
      | n => onSeq n fun xs => Q (.int xs.length) H
    | _ => False
  | .min => arg2 vs fun a b => onInt a fun x => onInt b fun y => Q (.int (if y < x then y else x)) H
  | .sorted => arg1 vs fun v => Srt fz v Q H
  | .all => arg1 vs fun v => onRef v fun p => Look H p fun n => onOwn n fun xs => ∃ bs : List Bool, xs = bs.map V.bool ∧ Q (.bool (bs.all id)) H
  | .range => oRange fz vs Q H
  | .int => arg1 vs fun v => match v with | .bool b => Q (.int (if b then 1 else 0)) H | _ => False
  | .list => arg1 vs fun v => onRef v fun p => Look H p fun n => onSeq n fun xs => req (decide (xs.length ≤ sizeLine)) (Made fz (.list xs) Q H)
  | .tuple => arg1 vs fun v => onRef v fun p => Look H p fun n => onList n fun xs => req (decide (xs.length ≤ sizeLine)) (Made fz (.tuple xs) Q H)
  | .dict => arg1 vs fun v => onRef v fun p => Look H p fun n => match n with
    | .sdict es => req (decide (es.length ≤ sizeLine)) (Made fz (.sdict es) Q H)
    | .idict es => req (decide (es.length ≤ sizeLine)) (Made fz (.idict es) Q H)
    | _ => False
inductive Ty where
  | bool | int | str | list | tuple | dict
def Ty.name : Ty → Str
  | .bool => "bool" | .int => "int" | .str => "str" | .list => "list" | .tuple => "tuple" | .dict => "dict"
def Ty.s : Ty → String
  | .bool => "bool" | .int => "int" | .str => "str" | .list => "list" | .tuple => "tuple" | .dict => "dict"
def Bi.ty : Bi → Option Ty
  | .int => some .int | .list => some .list | .tuple => some .tuple | .dict => some .dict | _ => none
theorem Bi.ty_val {b : Bi} {t : Ty} (h : b.ty = some t) : b.val = .type t.s := by cases b <;> cases h <;> rfl
def isBool : Ty → Bool | .bool => true | .int => true | _ => false
def isInt : Ty → Bool | .int => true | _ => false
def isStr : Ty → Bool | .str => true | _ => false
def isList : Ty → Bool | .list => true | _ => false
def isTuple : Ty → Bool | .tuple => true | _ => false
def isDict : Ty → Bool | .dict => true | _ => false
def oIsi (v : V) (t : Ty) (Q : V → AH → Prop) (H : AH) : Prop :=
  match v with
  | .none => Q (.bool false) H
  | .bool _ => Q (.bool (isBool t)) H
  | .int _ => Q (.bool (isInt t)) H
  | .str _ => Q (.bool (isStr t)) H
  | .ref p => Look H p fun n => match n with
    | .list _ => Q (.bool (isList t)) H
    | .rlist _ => Q (.bool (isList t)) H
    | .tuple _ => Q (.bool (isTuple t)) H
    | .sdict _ => Q (.bool (isDict t)) H
    | .idict _ => Q (.bool (isDict t)) H
    | _ => False
  | _ => False
section
variable {C : Cx} {sn : Snap} {A : Around} {env : Env} {ρ : Str → Option V} {H : AH} {E : Value → Shared → Prop} {Q : V → AH → Prop}
theorem oIsi_ok {a : Value} {t : Ty} (h : oIsi (toV a) t Q H) : TM C sn A env ρ (call (.builtin "isinstance") [a, .type t.s]) (fun v H' => Q (toV v) H') E H := by
  have key : ∀ K b, kindV H (toV a) = some K → isiT K t.s = b → Q (.bool b) H → TM C sn A env ρ (call (.builtin "isinstance") [a, .type t.s]) (fun v H' => Q (toV v) H') E H := fun K b h1 h2 h3 =>
    tm_isi (K := K) (by cases t <;> decide) h1 (by rw [h2]; exact h3)
  cases a <;> try exact h.elim
  case none => exact key "NoneType" false rfl (by cases t <;> decide) h
  case bool b => exact key "bool" _ rfl (by cases t <;> decide) h
  case int b => exact key "int" _ rfl (by cases t <;> decide) h
  case str b => exact key "str" _ rfl (by cases t <;> decide) h
  case ref p =>
    obtain ⟨n, hp, h⟩ := look_out h
    have kv : ∀ K, (match n with | .list _ | .rlist _ => some "list" | .tuple _ => some "tuple" | .sdict _ | .idict _ => some "dict" | _ => none : Option String) = some K → kindV H (toV (.ref p)) = some K := fun K e => by
      show (match H.get p with | some (.list _) | some (.rlist _) => some "list" | some (.tuple _) => some "tuple" | some (.sdict _) | some (.idict _) => some "dict" | _ => none : Option String) = some K
      rw [hp]; cases n <;> exact e
    cases n <;> try exact h.elim
    case list => exact key "list" _ (kv _ rfl) (by cases t <;> decide) h
    case rlist => exact key "list" _ (kv _ rfl) (by cases t <;> decide) h
    case tuple => exact key "tuple" _ (kv _ rfl) (by cases t <;> decide) h
    case sdict => exact key "dict" _ (kv _ rfl) (by cases t <;> decide) h
    case idict => exact key "dict" _ (kv _ rfl) (by cases t <;> decide) h
theorem oBi_ok {b : Bi} {vs : List Value} (hh : b.walks = true → A.handled = none) (h : oBi sn.fz b (vs.map toV) Q H) : TM C sn A env ρ (call b.val vs) (fun v H' => Q (toV v) H') E H := by
  cases b
  case len =>
    replace h := arg1_out h
    obtain ⟨v, rfl, h⟩ := h
    cases v <;> try exact h.elim
    case str x t => exact tm_len_str (reqp_out h).1 (reqp_out h).2
    case ref p =>
      replace h := look_out h
      obtain ⟨n, hp, h⟩ := h
      cases n <;> try exact h.elim
      case list xs => exact tm_len_list hp rfl h
      case rlist xs => exact tm_len_list hp rfl h
      case tuple xs => exact tm_len_tuple hp h
      case sdict es =>
        intro s I
        obtain ⟨kvs, hd, e1, z1⟩ := (I.nodes _ _ hp).sdict
        exact tm_len_dict I hd e1 z1 (I.notMods hp rfl) h
      case idict es =>
        intro s I
        obtain ⟨kvs, hd, e1, z1⟩ := (I.nodes _ _ hp).idict
        exact tm_len_dict I hd e1 z1 (I.notMods hp rfl) h
  case min =>
    replace h := arg2_out h
    obtain ⟨v, u, rfl, h⟩ := h
    replace h := intV h
    obtain ⟨x, t, rfl, h⟩ := h
    replace h := intV h
    obtain ⟨y, t', rfl, h⟩ := h
    intro s I
    refine min_two_ints (hh rfl) fun h' tk k => ⟨H, I.keeps k, ?_⟩
    split <;> rename_i hc <;> simpa [toV, hc] using h
  case sorted =>
    replace h := arg1_out h
    obtain ⟨v, rfl, ss, h1, h2, h3⟩ := h
    exact tm_sorted (hh rfl) ⟨ss, h1, h2, fun ss' a b => (h3 ss' a b).out⟩
  case all =>
    replace h := arg1_out h
    obtain ⟨v, rfl, h⟩ := h
    obtain ⟨p, rfl, h⟩ := refV h
    obtain ⟨n, hp, h⟩ := look_out h
    obtain ⟨xs, rfl, h⟩ := onOwn_out h
    refine tm_all (hh rfl) ?_
    show (match H.get p with | some (.list xs) => _ | _ => False : Prop)
    rw [hp]; exact h
  case range =>
    match vs, h with
    | [], h => exact h.elim
    | a :: r, h =>
      obtain ⟨x, t, rfl, h⟩ := intV h
      match r, h with
      | [], h => exact tm_range (vs := [.int x t]) h.out
      | b :: r, h =>
        obtain ⟨y, t', rfl, h⟩ := intV h
        match r, h with
        | [], h => exact tm_range (vs := [.int x t, .int y t']) h.out
        | c :: r, h =>
          obtain ⟨z, t'', rfl, h⟩ := intV h
          match r, h with
          | [], h =>
            obtain ⟨h1, h⟩ := req_out h
            have h1 := Bool.and_eq_true_iff.mp h1
            exact tm_range (vs := [.int x t, .int y t', .int z t'']) ⟨⟨of_decide_eq_true h1.1, of_decide_eq_true h1.2⟩, h.out⟩
          | _ :: _, h => exact h.elim
  case int =>
    replace h := arg1_out h
    obtain ⟨v, rfl, h⟩ := h
    cases v <;> try exact h.elim
    case bool b => exact fun s I => call_int_bool (toks_still I (v := .int _ _) h _)
  case list =>
    replace h := arg1_out h
    obtain ⟨v, rfl, h⟩ := h
    obtain ⟨p, rfl, h⟩ := refV h
    obtain ⟨n, hp, h⟩ := look_out h
    obtain ⟨xs, en, h⟩ := onSeq_out h
    have hs : n.seq = some xs := by
      rcases en with en | rfl
      · cases n <;> first | exact en | cases en
      · rfl
    exact tm_list_copy hp hs (reqp_out h).1 (reqp_out h).2.out
  case tuple =>
    replace h := arg1_out h
    obtain ⟨v, rfl, h⟩ := h
    obtain ⟨p, rfl, h⟩ := refV h
    obtain ⟨n, hp, h⟩ := look_out h
    obtain ⟨xs, en, h⟩ := onList_out h
    exact tm_tuple_of hp en (reqp_out h).1 (reqp_out h).2.out
  case dict =>
    replace h := arg1_out h
    obtain ⟨v, rfl, h⟩ := h
    replace h := refV h
    obtain ⟨p, rfl, h⟩ := h
    replace h := look_out h
    obtain ⟨n, hp, h⟩ := h
    intro s I
    cases n <;> try exact h.elim
    case sdict es =>
      obtain ⟨kvs, hd, e1, z1⟩ := (I.nodes _ _ hp).sdict
      have hl : kvs.length = es.length := by rw [← e1]; simp
      exact tm_dict_copy (n := .sdict es) I hd (by rw [hl]; exact (reqp_out h).1) (I.notMods hp rfl) (fun o ho => ⟨z1, kvs, ho, e1⟩) (reqp_out h).2.out
    case idict es =>
      obtain ⟨kvs, hd, e1, z1⟩ := (I.nodes _ _ hp).idict
      have hl : kvs.length = es.length := by rw [← e1]; simp
      exact tm_dict_copy (n := .idict es) I hd (by rw [hl]; exact (reqp_out h).1) (I.notMods hp rfl) (fun o ho => ⟨z1, kvs, ho, e1⟩) (reqp_out h).2.out
end
end Mine
namespace Mine
open PySem PySem.Calls PySem.SeqAt PySem.W PyProof.Rows
def tx (l : List Nat) : Str := ⟨⟨l⟩⟩
abbrev Tr := List Nat → List V → (V → AH → Prop) → (Nat → AH → Prop) → AH → Prop
inductive G where
  | val (v : V) | con (T : Tr) (any : Bool) | bi (b : Bi) | isi | ty (t : Ty) | exc (i : Nat) | verr
inductive Cap where
  | own (x : Str) | free (i : Nat) | gl (i : Nat)
inductive CE where
  | none | bool (b : Bool) | int (i : Int) | str (s : List Nat)
  | var (i : Nat) | glob (j : Nat)
  | bin (op : Operator) (a b : CE) | not (a : CE) | neg (a : CE)
  | bop (op : BoolOp) (es : CE) | ife (t a b : CE)
  | cmp (op : CmpOp) (a b : CE) | cmp2 (op op' : CmpOp) (a b c : CE)
  | meth (m : Mth) (o as : CE) | call (j : Nat) (as : CE) | isi (j j' : Nat) (a : CE)
  | list (es : CE) | tup (es : CE) | dict0 | dict1 (k v : CE)
  | sub (o i : CE) | slice (o : CE) | sliceT (o b : CE) | sliceF (o a : CE) | slice2 (o a b : CE)
  | comp (elt it : CE) (caps : List Cap) (x : Nat) | compIf (elt it c : CE) (caps : List Cap) (x : Nat)
  | nil | cons (a r : CE)
inductive PT where
  | nil | n (p q : Pos) (i : Nat) (a b c : PT)
def PT.p : PT → Pos | .n p _ _ _ _ _ => p | .nil => default
def PT.q : PT → Pos | .n _ q _ _ _ _ => q | .nil => default
def PT.i : PT → Nat | .n _ _ i _ _ _ => i | .nil => 0
def PT.a : PT → PT | .n _ _ _ a _ _ => a | .nil => .nil
def PT.b : PT → PT | .n _ _ _ _ b _ => b | .nil => .nil
def PT.c : PT → PT | .n _ _ _ _ _ c => c | .nil => .nil
abbrev Sc := List (Str × NameKind)
abbrev Gx := List (Str × G)
def nameAt (sc : Sc) (i : Nat) : Str := match sc[i]? with | some p => p.1 | none => default
def gnameAt (gx : Gx) (i : Nat) : Str := match gx[i]? with | some p => p.1 | none => default
def capN (sc : Sc) (gx : Gx) : Cap → Str × NameKind
  | .own x => (x, .local) | .free i => (nameAt sc i, .free) | .gl i => (gnameAt gx i, .globalImplicit)
def capR (sc : Sc) (gx : Gx) : Cap → Str × NameKind
  | .own x => (x, .local) | .free i => (nameAt sc i, .cell) | .gl i => (gnameAt gx i, .globalImplicit)
def capS (sc : Sc) (gx : Gx) (caps : List Cap) : Scope := ⟨.function, caps.map (capN sc gx), false, false, []⟩
mutual
def toE : CE → Sc → Gx → PT → Expr
  | .none, _, _, t => .Constant .none t.i t.p
  | .bool b, _, _, t => .Constant (.bool b) t.i t.p
  | .int i, _, _, t => .Constant (.int i) t.i t.p
  | .str s, _, _, t => .Constant (.str (tx s)) t.i t.p
  | .var i, sc, _, t => .Name (nameAt sc i) t.p
  | .glob j, sc, _, t => .Name (nameAt sc j) t.p
  | .bin op a b, sc, gx, t => .BinOp (toE a sc gx t.a) op (toE b sc gx t.b) t.p
  | .not a, sc, gx, t => .UnaryOp .Not (toE a sc gx t.a) t.p
  | .neg a, sc, gx, t => .UnaryOp .USub (toE a sc gx t.a) t.p
  | .bop op es, sc, gx, t => .BoolOp op (toA es sc gx t.a) t.p
  | .ife c a b, sc, gx, t => .IfExp (toE c sc gx t.a) (toE a sc gx t.b) (toE b sc gx t.c) t.p
  | .cmp op a b, sc, gx, t => .Compare (toE a sc gx t.a) [op] [toE b sc gx t.b] t.p
  | .cmp2 op op' a b c, sc, gx, t => .Compare (toE a sc gx t.a) [op, op'] [toE b sc gx t.b, toE c sc gx t.c] t.p
  | .meth m o as, sc, gx, t => .Call (.Attribute (toE o sc gx t.a) m.name t.q) (toA as sc gx t.b) [] t.p
  | .call j as, sc, gx, t => .Call (.Name (nameAt sc j) t.q) (toA as sc gx t.a) [] t.p
  | .isi j j' a, sc, gx, t => .Call (.Name (nameAt sc j) t.q) [toE a sc gx t.a, .Name (nameAt sc j') t.b.p] [] t.p
  | .list es, sc, gx, t => .List (toA es sc gx t.a) t.p
  | .tup es, sc, gx, t => .Tuple (toA es sc gx t.a) t.i t.p
  | .dict0, _, _, t => .Dict [] [] t.p
  | .dict1 k v, sc, gx, t => .Dict [some (toE k sc gx t.a)] [toE v sc gx t.b] t.p
  | .sub o i, sc, gx, t => .Subscript (toE o sc gx t.a) (toE i sc gx t.b) t.p
  | .slice o, sc, gx, t => .Subscript (toE o sc gx t.a) (.Slice none none none t.q) t.p
  | .sliceT o b, sc, gx, t => .Subscript (toE o sc gx t.a) (.Slice none (some (toE b sc gx t.b)) none t.q) t.p
  | .sliceF o b, sc, gx, t => .Subscript (toE o sc gx t.a) (.Slice (some (toE b sc gx t.b)) none none t.q) t.p
  | .slice2 o a b, sc, gx, t => .Subscript (toE o sc gx t.a) (.Slice (some (toE a sc gx t.b)) (some (toE b sc gx t.c)) none t.q) t.p
  | .comp elt it caps x, sc, gx, t => .ListComp (toE elt (caps.map (capR sc gx)) gx t.a) [⟨.Name (nameAt (caps.map (capR sc gx)) x) t.q, toE it sc gx t.b, [], 0⟩] (capS sc gx caps) t.p
  | .compIf elt it c caps x, sc, gx, t => .ListComp (toE elt (caps.map (capR sc gx)) gx t.a) [⟨.Name (nameAt (caps.map (capR sc gx)) x) t.q, toE it sc gx t.b, [toE c (caps.map (capR sc gx)) gx t.c], 0⟩] (capS sc gx caps) t.p
  | .nil, _, _, t => .Constant .none t.i t.p
  | .cons _ _, _, _, t => .Constant .none t.i t.p
def toA : CE → Sc → Gx → PT → List Expr
  | .cons a r, sc, gx, t => toE a sc gx t.a :: toA r sc gx t.b
  | _, _, _, _ => []
end
structure Kids where
  p : Pos
  q : Pos
  i : Nat
  l : List Expr
  as : List Expr
def posOf : Expr → Pos
  | .Name _ p => p | .Attribute _ _ p => p | .Slice _ _ _ p => p | _ => default
def subs : Expr → List Expr
  | .Attribute x _ _ => [x] | .Slice x y _ _ => x.toList ++ y.toList | .Name _ _ => [] | e => [e]
def kids (e : Expr) : Kids :=
  match e with
  | .BinOp l _ r p => ⟨p, p, 0, [l, r], []⟩
  | .UnaryOp _ x p => ⟨p, p, 0, [x], []⟩
  | .BoolOp _ xs p => ⟨p, p, 0, [], xs⟩
  | .IfExp x y z p => ⟨p, p, 0, [x, y, z], []⟩
  | .Compare x _ ys p => ⟨p, p, 0, x :: ys, []⟩
  | .Call f xs _ p => ⟨p, posOf f, 0, subs f ++ xs, xs⟩
  | .List xs p => ⟨p, p, 0, [], xs⟩
  | .Tuple xs i p => ⟨p, p, i, [], xs⟩
  | .Dict ks vs p => ⟨p, p, 0, ks.filterMap id ++ vs, []⟩
  | .Subscript x (.Slice lo hi st q) p => ⟨p, q, 0, x :: subs (.Slice lo hi st q), []⟩
  | .Subscript x y p => ⟨p, p, 0, [x, y], []⟩
  | .ListComp x gens _ p => (match gens with | ⟨tg, y, zs, _⟩ :: _ => ⟨p, posOf tg, 0, x :: y :: zs, []⟩ | [] => ⟨p, p, 0, [], []⟩)
  | .Constant _ i p => ⟨p, p, i, [], []⟩
  | .Name _ p => ⟨p, p, 0, [], []⟩
  | .Attribute x _ p => ⟨p, p, 0, [x], []⟩
  | _ => ⟨default, default, 0, [], []⟩
def Kids.k (K : Kids) (i : Nat) : Expr := match K.l[i]? with | some e => e | none => .Constant .none 0 default
def Kids.t (K : Kids) (a b c : PT) : PT := .n K.p K.q K.i a b c
mutual
/-- the places, out of the text itself -/
def posE : CE → Kids → PT
  | .bin _ a b, K => K.t (posE a (kids (K.k 0))) (posE b (kids (K.k 1))) .nil
  | .not a, K => K.t (posE a (kids (K.k 0))) .nil .nil
  | .neg a, K => K.t (posE a (kids (K.k 0))) .nil .nil
  | .bop _ es, K => K.t (posA es K.as) .nil .nil
  | .ife c a b, K => K.t (posE c (kids (K.k 0))) (posE a (kids (K.k 1))) (posE b (kids (K.k 2)))
  | .cmp _ a b, K => K.t (posE a (kids (K.k 0))) (posE b (kids (K.k 1))) .nil
  | .cmp2 _ _ a b c, K => K.t (posE a (kids (K.k 0))) (posE b (kids (K.k 1))) (posE c (kids (K.k 2)))
  | .meth _ o as, K => K.t (posE o (kids (K.k 0))) (posA as K.as) .nil
  | .call _ as, K => K.t (posA as K.as) .nil .nil
  | .isi _ _ a, K => K.t (posE a (kids (K.k 0))) (.n (kids (K.k 1)).p (kids (K.k 1)).p 0 .nil .nil .nil) .nil
  | .list es, K => K.t (posA es K.as) .nil .nil
  | .tup es, K => K.t (posA es K.as) .nil .nil
  | .dict1 k v, K => K.t (posE k (kids (K.k 0))) (posE v (kids (K.k 1))) .nil
  | .sub o i, K => K.t (posE o (kids (K.k 0))) (posE i (kids (K.k 1))) .nil
  | .slice o, K => K.t (posE o (kids (K.k 0))) .nil .nil
  | .sliceT o b, K => K.t (posE o (kids (K.k 0))) (posE b (kids (K.k 1))) .nil
  | .sliceF o b, K => K.t (posE o (kids (K.k 0))) (posE b (kids (K.k 1))) .nil
  | .slice2 o a b, K => K.t (posE o (kids (K.k 0))) (posE a (kids (K.k 1))) (posE b (kids (K.k 2)))
  | .comp elt it _ _, K => K.t (posE elt (kids (K.k 0))) (posE it (kids (K.k 1))) .nil
  | .compIf elt it c _ _, K => K.t (posE elt (kids (K.k 0))) (posE it (kids (K.k 1))) (posE c (kids (K.k 2)))
  | _, K => K.t .nil .nil .nil
def posA : CE → List Expr → PT
  | .cons a r, x :: xs => .n default default 0 (posE a (kids x)) (posA r xs) .nil
  | _, _ => .nil
end
end Mine
namespace Mine
open PySem PySem.Calls PySem.SeqAt PySem.W PyProof.Rows
structure KK where
  C : Cx
  sc : Sc
  gs : List (Option G)
  gx : Gx
  fz : List Nat
  d : Nat
  free : Bool
  sup : List (List Nat)
abbrev Ev := List (Option V)
abbrev QV := V → AH → Prop
abbrev QX := Nat → AH → Prop
def oVar (ρ : Ev) (i : Nat) (Q : V → Prop) : Prop := match ρ[i]? with | some (some v) => Q v | _ => False
def gAt (K : KK) (j : Nat) (k : G → Prop) : Prop := match K.gs[j]? with | some (some g) => k g | _ => False
def oGlob (g : G) (Q : V → Prop) : Prop := match g with | .val v => Q v | _ => False
def onFn (g : G) (P : Prop) : Prop := match g with | .con _ _ => P | .bi _ => P | _ => False
def oCall (K : KK) (X : QX) (g : G) (vs : List V) (Q : QV) (H : AH) : Prop :=
  match g with
  | .con T _ => T K.fz vs Q X H
  | .bi b => req (K.free || !b.walks) (oBi K.fz b vs Q H)
  | _ => False
def catches (K : KK) (i j : Nat) : Bool := match K.sup[i]? with | some l => l.any (Nat.beq j) | none => false
def onExc (v : V) (k : Nat → Prop) (H : AH) : Prop := onRef v fun p => Look H p fun n => match n with | .exc i => k i | _ => False
def onIs (g g' : G) (P : Prop) : Prop := match g with | .isi => (match g' with | .ty _ => P | .bi b => Got b.ty (fun _ => P) | .exc _ => P | .verr => P | _ => False) | _ => False
def oIsG (K : KK) (g g' : G) (v : V) (Q : QV) (H : AH) : Prop :=
  match g with
  | .isi => (match g' with
    | .ty t => oIsi v t Q H
    | .bi b => Got b.ty fun t => oIsi v t Q H
    | .exc j => onExc v (fun i => req (catches K i j) (Q (.bool true) H)) H
    | .verr => onExc v (fun _ => Q (.bool true) H) H
    | _ => False)
  | _ => False
def hG : Option G → Option G
  | some (.con T true) => some (.con T true)
  | some (.con _ false) => none
  | g => g
def KK.hnd (K : KK) : KK := { K with free := false, gs := K.gs.map hG }
def KK.more (K : KK) (v : V) : KK := { K with fz := srcOf v ++ K.fz }
def capG (gx : Gx) : Cap → Option G
  | .gl i => (match gx[i]? with | some p => some p.2 | none => none)
  | _ => none
def KK.comp (K : KK) (caps : List Cap) (v : V) : KK := { K with sc := caps.map (capR K.sc K.gx), gs := caps.map (capG K.gx), fz := srcOf v ++ K.fz }
def capV (ρ : Ev) : Cap → Option V
  | .free i => (match ρ[i]? with | some v => v | none => none)
  | _ => none
def capE (ρ : Ev) (caps : List Cap) (x : Nat) (y : V) : Ev := (caps.map (capV ρ)).set x (some y)
def nameOk (x : Str) : Bool := x != ("__debug__" : Str) && x != ("__classdict__" : Str)
def capOk (sc : Sc) (gx : Gx) : Cap → Bool
  | .own x => nameOk x
  | .free i => (match sc[i]? with | some p => p.2 == .cell | none => false)
  | .gl i => (match gx[i]? with | some p => nameOk p.1 | none => false)
def isOwn : Option Cap → Bool
  | some (.own _) => true
  | _ => false
def compChk (sc : Sc) (gx : Gx) (caps : List Cap) (x : Nat) : Bool := nodupS (caps.map fun c => (capR sc gx c).1) && caps.all (capOk sc gx) && isOwn caps[x]?
inductive compG (K : KK) (turn : V → (List V → AH → Prop) → List V → AH → Prop) (Q : QV) (v : V) (H₁ : AH) : Prop
  | mk (xs : List V) (hx : ItemsV H₁ v xs) (hz : xs.length ≤ sizeLine) (J : Nat → List V → AH → Prop) (j0 : J 0 [] H₁) (tn : ∀ (k : Nat) y ys H', xs[k]? = some y → J k ys H' → turn y (J (k + 1)) ys H') (fin : ∀ ys H', ys.length ≤ xs.length → J xs.length ys H' → Made K.fz (.list ys) Q H') : compG K turn Q v H₁
def nX : QX := fun _ _ => False
def bAnd (op : BoolOp) (b : Bool) (more : Prop) (stop : Prop) : Prop := match op with | .And => br b more stop | .Or => br b stop more
def isAnd : BoolOp → Bool | .And => true | .Or => false
def oNeg (v : V) (Q : QV) (H : AH) : Prop := onInt v fun i => Q (.int (-i)) H
def oDict1 (k : V) (D : Nat) (v : V) (Q : QV) (H : AH) : Prop := onStr k fun x => Q (.ref D) (H.set D (.sdict [(x, v)]))
mutual
def wE : CE → KK → Ev → QX → QV → AH → Prop
  | .none, _, _, _, Q, H => Q .none H
  | .bool b, _, _, _, Q, H => Q (.bool b) H
  | .int i, _, _, _, Q, H => Q (.int i) H
  | .str s, _, _, _, Q, H => Q (.str (tx s)) H
  | .var i, _, ρ, _, Q, H => oVar ρ i fun v => Q v H
  | .glob j, K, _, _, Q, H => gAt K j fun g => oGlob g fun v => Q v H
  | .bin op a b, K, ρ, X, Q, H => wE a K ρ X (fun x H₁ => wE b K ρ X (fun y H₂ => oBin K.fz op x y Q H₂) H₁) H
  | .not a, K, ρ, X, Q, H => wE a K ρ X (fun v H₁ => oTruth v (fun b => Q (.bool (!b)) H₁) H₁) H
  | .neg a, K, ρ, X, Q, H => wE a K ρ X (fun v H₁ => oNeg v Q H₁) H
  | .bop op es, K, ρ, X, Q, H => wB es op K ρ X Q H
  | .ife t a b, K, ρ, X, Q, H => wT t K ρ X (fun c H₁ => br c (wE a K ρ X Q H₁) (wE b K ρ X Q H₁)) H
  | .cmp op a b, K, ρ, X, Q, H => wE a K ρ X (fun x H₁ => wE b K ρ X (fun y H₂ => oCmp2 op x y (fun r => Q (.bool r) H₂) H₂) H₁) H
  | .cmp2 op op' a b c, K, ρ, X, Q, H => wE a K ρ X (fun x H₁ => wE b K ρ X (fun y H₂ => oCmp2 op x y (fun r => br r (wE c K ρ X (fun z H₃ => oCmp2 op' y z (fun r => Q (.bool r) H₃) H₃) H₂) (Q (.bool false) H₂)) H₂) H₁) H
  | .meth m o as, K, ρ, X, Q, H => wE o K ρ X (fun ov H₁ => oGet m ov (wA as K ρ X (fun vs H₂ => oMeth K.fz m ov vs Q H₂) H₁) H₁) H
  | .call j as, K, ρ, X, Q, H => gAt K j fun g => onFn g (wA as K ρ X (fun vs H₁ => oCall K X g vs Q H₁) H)
  | .isi j j' a, K, ρ, X, Q, H => gAt K j fun g => gAt K j' fun g' => onIs g g' (wE a K ρ X (fun v H₁ => oIsG K g g' v Q H₁) H)
  | .list es, K, ρ, X, Q, H => wA es K ρ X (fun vs H₁ => req (decide (vs.length ≤ 1000)) (Made K.fz (.list vs) Q H₁)) H
  | .tup es, K, ρ, X, Q, H => wA es K ρ X (fun vs H₁ => req (decide (vs.length ≤ 1000)) (Made K.fz (.tuple vs) Q H₁)) H
  | .dict0, K, _, _, Q, H => Made K.fz (.sdict []) Q H
  | .dict1 k v, K, ρ, X, Q, H => ∀ D, H.get D = none → D ∉ K.fz → wE k (K.more (.ref D)) ρ X (fun kv H₁ => wE v (K.more (.ref D)) ρ X (fun vv H₂ => oDict1 kv D vv Q H₂) H₁) (H.set D (.sdict []))
  | .sub o i, K, ρ, X, Q, H => wE o K ρ X (fun ov H₁ => wE i K ρ X (fun iv H₂ => oIdx ov iv (fun r => Q r H₂) H₂) H₁) H
  | .slice o, K, ρ, X, Q, H => wE o K ρ X (fun ov H₁ => oSlice K.fz ov .none .none Q H₁) H
  | .sliceT o b, K, ρ, X, Q, H => wE o K ρ X (fun ov H₁ => wE b K ρ X (fun u H₂ => oSlice K.fz ov .none u Q H₂) H₁) H
  | .sliceF o a, K, ρ, X, Q, H => wE o K ρ X (fun ov H₁ => wE a K ρ X (fun l H₂ => oSlice K.fz ov l .none Q H₂) H₁) H
  | .slice2 o a b, K, ρ, X, Q, H => wE o K ρ X (fun ov H₁ => wE a K ρ X (fun l H₂ => wE b K ρ X (fun u H₃ => oSlice K.fz ov l u Q H₃) H₂) H₁) H
  | .comp elt it caps x, K, ρ, X, Q, H => wE it K ρ X (fun v H₁ => compG K (fun y J ys H' => wE elt (K.comp caps v) (capE ρ caps x y) nX (fun u H₂ => J (ys ++ [u]) H₂) H') Q v H₁) H
  | .compIf elt it c caps x, K, ρ, X, Q, H => wE it K ρ X (fun v H₁ => compG K (fun y J ys H' => wT c (K.comp caps v) (capE ρ caps x y) nX (fun b H₂ => br b (wE elt (K.comp caps v) (capE ρ caps x y) nX (fun u H₃ => J (ys ++ [u]) H₃) H₂) (J ys H₂)) H') Q v H₁) H
  | .nil, _, _, _, _, _ => False
  | .cons _ _, _, _, _, _, _ => False
def wT : CE → KK → Ev → QX → (Bool → AH → Prop) → AH → Prop
  | .not a, K, ρ, X, k, H => wT a K ρ X (fun b H₁ => k (!b) H₁) H
  | .bop op es, K, ρ, X, k, H => wTB es op K ρ X k H
  | .cmp op a b, K, ρ, X, k, H => wE a K ρ X (fun x H₁ => wE b K ρ X (fun y H₂ => oCmp2 op x y (fun r => k r H₂) H₂) H₁) H
  | .cmp2 op op' a b c, K, ρ, X, k, H => wE a K ρ X (fun x H₁ => wE b K ρ X (fun y H₂ => oCmp2 op x y (fun r => br r (wE c K ρ X (fun z H₃ => oCmp2 op' y z (fun r => k r H₃) H₃) H₂) (k false H₂)) H₂) H₁) H
  | .var i, _, ρ, _, k, H => oVar ρ i fun v => oTruth v (fun b => k b H) H
  | .bool b, _, _, _, k, H => k b H
  | .call j as, K, ρ, X, k, H => gAt K j fun g => onFn g (wA as K ρ X (fun vs H₁ => oCall K X g vs (fun v H₂ => oTruth v (fun b => k b H₂) H₂) H₁) H)
  | .isi j j' a, K, ρ, X, k, H => gAt K j fun g => gAt K j' fun g' => onIs g g' (wE a K ρ X (fun v H₁ => oIsG K g g' v (fun v H₂ => oTruth v (fun b => k b H₂) H₂) H₁) H)
  | .meth m o as, K, ρ, X, k, H => wE o K ρ X (fun ov H₁ => oGet m ov (wA as K ρ X (fun vs H₂ => oMeth K.fz m ov vs (fun v H₂ => oTruth v (fun b => k b H₂) H₂) H₂) H₁) H₁) H
  | .sub o i, K, ρ, X, k, H => wE o K ρ X (fun ov H₁ => wE i K ρ X (fun iv H₂ => oIdx ov iv (fun r => oTruth r (fun b => k b H₂) H₂) H₂) H₁) H
  | _, _, _, _, _, _ => False
def wA : CE → KK → Ev → QX → (List V → AH → Prop) → AH → Prop
  | .nil, _, _, _, Q, H => Q [] H
  | .cons a r, K, ρ, X, Q, H => wE a K ρ X (fun v H₁ => wA r K ρ X (fun vs H₂ => Q (v :: vs) H₂) H₁) H
  | _, _, _, _, _, _ => False
def wB : CE → BoolOp → KK → Ev → QX → QV → AH → Prop
  | .cons e .nil, _, K, ρ, X, Q, H => wE e K ρ X Q H
  | .cons e (.cons e' r), op, K, ρ, X, Q, H => wE e K ρ X (fun v H₁ => oTruth v (fun b => bAnd op b (wB (.cons e' r) op K ρ X Q H₁) (Q v H₁)) H₁) H
  | _, _, _, _, _, _, _ => False
def wTB : CE → BoolOp → KK → Ev → QX → (Bool → AH → Prop) → AH → Prop
  | .nil, op, _, _, _, k, H => k (isAnd op) H
  | .cons e r, op, K, ρ, X, k, H => wT e K ρ X (fun b H₁ => bAnd op b (wTB r op K ρ X k H₁) (k b H₁)) H
  | _, _, _, _, _, _, _ => False
end
def notComp : CE → Bool | .comp _ _ _ _ => false | .compIf _ _ _ _ _ => false | _ => true
def notTC : CE → Bool | .comp _ _ _ _ => false | .compIf _ _ _ _ _ => false | .tup _ => false | _ => true
def isCons : CE → Bool | .cons _ _ => true | _ => false
def baseOk : CE → Bool | .call _ as => isCons as | _ => true
def lenA : CE → Nat | .cons _ r => lenA r + 1 | _ => 0
mutual
def chkE : CE → Sc → Gx → Bool → PT → Bool
  | .var i, sc, _, _, _ => (match sc[i]? with | some _ => true | none => false)
  | .bin _ a b, sc, gx, fr, t => chkE a sc gx fr t.a && chkE b sc gx fr t.b
  | .not a, sc, gx, fr, t => chkE a sc gx fr t.a
  | .neg a, sc, gx, fr, t => chkE a sc gx fr t.a
  | .bop _ es, sc, gx, fr, t => chkA es sc gx fr t.a
  | .ife c a b, sc, gx, fr, t => chkE c sc gx fr t.a && (chkE a sc gx fr t.b && chkE b sc gx fr t.c)
  | .cmp _ a b, sc, gx, fr, t => chkE a sc gx fr t.a && chkE b sc gx fr t.b
  | .cmp2 _ _ a b c, sc, gx, fr, t => chkE a sc gx fr t.a && (chkE b sc gx fr t.b && chkE c sc gx fr t.c)
  | .meth _ o as, sc, gx, fr, t => (Nat.beq t.q.endLine t.p.line && (Nat.blt (lenA as) 30 && baseOk o)) && (chkE o sc gx fr t.a && chkA as sc gx fr t.b)
  | .call _ as, sc, gx, fr, t => chkA as sc gx fr t.a
  | .isi _ _ a, sc, gx, fr, t => chkE a sc gx fr t.a
  | .list es, sc, gx, fr, t => chkA es sc gx fr t.a
  | .tup es, sc, gx, fr, t => chkA es sc gx fr t.a
  | .dict1 k v, sc, gx, fr, t => chkE k sc gx fr t.a && chkE v sc gx fr t.b
  | .sub o i, sc, gx, fr, t => chkE o sc gx fr t.a && chkE i sc gx fr t.b
  | .slice o, sc, gx, fr, t => chkE o sc gx fr t.a
  | .sliceT o b, sc, gx, fr, t => chkE o sc gx fr t.a && chkE b sc gx fr t.b
  | .sliceF o b, sc, gx, fr, t => chkE o sc gx fr t.a && chkE b sc gx fr t.b
  | .slice2 o a b, sc, gx, fr, t => chkE o sc gx fr t.a && (chkE a sc gx fr t.b && chkE b sc gx fr t.c)
  | .comp elt it caps x, sc, gx, fr, t => (fr && compChk sc gx caps x) && (chkE it sc gx fr t.b && chkE elt (caps.map (capR sc gx)) gx fr t.a)
  | .compIf elt it c caps x, sc, gx, fr, t => (fr && compChk sc gx caps x) && (chkE it sc gx fr t.b && (chkE elt (caps.map (capR sc gx)) gx fr t.a && chkE c (caps.map (capR sc gx)) gx fr t.c))
  | _, _, _, _, _ => true
def chkA : CE → Sc → Gx → Bool → PT → Bool
  | .cons a r, sc, gx, fr, t => chkE a sc gx fr t.a && chkA r sc gx fr t.b
  | _, _, _, _, _ => true
end
inductive CS where
  | skip
  | ret (e : CE) (r : CS) | ret0 (r : CS) | set (i : Nat) (e : CE) (r : CS) | setSub (o i v : CE) (r : CS) | expr (e : CE) (r : CS)
  | ife (t : CE) (a b r : CS) | for_ (x : Nat) (it : CE) (b r : CS) | while_ (t : CE) (b r : CS) | pass (r : CS) | brk (r : CS) | cont (r : CS)
  | unpack (is : List Nat) (e : CE) (r : CS) | raise (j : Nat) (as : CE) (r : CS) | try_ (b hs r : CS) | hnd (j : Nat) (nm : Option Nat) (b r : CS)
def toN : List Nat → Sc → PT → List Expr
  | i :: is, sc, t => .Name (nameAt sc i) t.p :: toN is sc t.a
  | [], _, _ => []
def posN : List Nat → List Expr → PT
  | _ :: is, e :: es => .n (posOf e) default 0 (posN is es) .nil .nil
  | _, _ => .nil
mutual
def toB : CS → Sc → Gx → PT → List Stmt
  | .ret e r, sc, gx, t => .Return (some (toE e sc gx t.a)) t.p :: toB r sc gx t.c
  | .ret0 r, sc, gx, t => .Return none t.p :: toB r sc gx t.c
  | .set i e r, sc, gx, t => .Assign [.Name (nameAt sc i) t.q] (toE e sc gx t.a) t.p :: toB r sc gx t.c
  | .setSub o i v r, sc, gx, t => .Assign [.Subscript (toE o sc gx t.b.a) (toE i sc gx t.b.b) t.q] (toE v sc gx t.a) t.p :: toB r sc gx t.c
  | .expr e r, sc, gx, t => .Expr (toE e sc gx t.a) t.p :: toB r sc gx t.c
  | .ife c a b r, sc, gx, t => .If (toE c sc gx t.a) (toB a sc gx t.b.a) (toB b sc gx t.b.b) t.p :: toB r sc gx t.c
  | .for_ x it b r, sc, gx, t => .For (.Name (nameAt sc x) t.q) (toE it sc gx t.a) (toB b sc gx t.b) [] t.p :: toB r sc gx t.c
  | .while_ c b r, sc, gx, t => .While (toE c sc gx t.a) (toB b sc gx t.b) [] t.p :: toB r sc gx t.c
  | .pass r, sc, gx, t => .Pass t.p :: toB r sc gx t.c
  | .brk r, sc, gx, t => .Break t.p :: toB r sc gx t.c
  | .cont r, sc, gx, t => .Continue t.p :: toB r sc gx t.c
  | .unpack is e r, sc, gx, t => .Assign [.Tuple (toN is sc t.b) t.i t.q] (toE e sc gx t.a) t.p :: toB r sc gx t.c
  | .raise j as r, sc, gx, t => .Raise (some (.Call (.Name (nameAt sc j) t.q) (toA as sc gx t.a) [] t.b.p)) none t.p :: toB r sc gx t.c
  | .try_ b hs r, sc, gx, t => .Try (toB b sc gx t.a) (toH hs sc gx t.b) [] [] t.p :: toB r sc gx t.c
  | .skip, _, _, _ => []
  | .hnd _ _ _ _, _, _, _ => []
def toH : CS → Sc → Gx → PT → List ExceptHandler
  | .hnd j nm b r, sc, gx, t => .ExceptHandler (some (.Name (nameAt sc j) t.q)) (nm.map (nameAt sc)) (toB b sc gx t.a) t.p :: toH r sc gx t.c
  | _, _, _, _ => []
end
structure SKids where
  p : Pos
  q : Pos
  i : Nat
  e : Kids
  f : Kids
  g : Kids
  a : List Stmt
  b : List Stmt
  h : List ExceptHandler
def noKids : Kids := ⟨default, default, 0, [], []⟩
def skids (s : Stmt) : SKids :=
  match s with
  | .Return (some e) p => ⟨p, p, 0, kids e, noKids, noKids, [], [], []⟩
  | .Return none p => ⟨p, p, 0, noKids, noKids, noKids, [], [], []⟩
  | .Assign (.Name _ q :: _) v p => ⟨p, q, 0, kids v, noKids, noKids, [], [], []⟩
  | .Assign (.Subscript o i q :: _) v p => ⟨p, q, 0, kids v, kids o, kids i, [], [], []⟩
  | .Assign (.Tuple es i q :: _) v p => ⟨p, q, i, kids v, ⟨p, p, 0, [], es⟩, noKids, [], [], []⟩
  | .Expr e p => ⟨p, p, 0, kids e, noKids, noKids, [], [], []⟩
  | .If c a b p => ⟨p, p, 0, kids c, noKids, noKids, a, b, []⟩
  | .For (.Name _ q) it a _ p => ⟨p, q, 0, kids it, noKids, noKids, a, [], []⟩
  | .While c a _ p => ⟨p, p, 0, kids c, noKids, noKids, a, [], []⟩
  | .Pass p => ⟨p, p, 0, noKids, noKids, noKids, [], [], []⟩
  | .Break p => ⟨p, p, 0, noKids, noKids, noKids, [], [], []⟩
  | .Continue p => ⟨p, p, 0, noKids, noKids, noKids, [], [], []⟩
  | .Raise (some e) _ p => ⟨p, (kids e).q, 0, kids e, noKids, noKids, [], [], []⟩
  | .Try a h _ _ p => ⟨p, p, 0, noKids, noKids, noKids, a, [], h⟩
  | _ => ⟨default, default, 0, noKids, noKids, noKids, [], [], []⟩
mutual
def posB : CS → List Stmt → PT
  | .ret e r, s :: ss => .n (skids s).p (skids s).q 0 (posE e (skids s).e) .nil (posB r ss)
  | .set _ e r, s :: ss => .n (skids s).p (skids s).q 0 (posE e (skids s).e) .nil (posB r ss)
  | .setSub o i v r, s :: ss => .n (skids s).p (skids s).q 0 (posE v (skids s).e) (.n default default 0 (posE o (skids s).f) (posE i (skids s).g) .nil) (posB r ss)
  | .expr e r, s :: ss => .n (skids s).p (skids s).q 0 (posE e (skids s).e) .nil (posB r ss)
  | .ife c a b r, s :: ss => .n (skids s).p (skids s).q 0 (posE c (skids s).e) (.n default default 0 (posB a (skids s).a) (posB b (skids s).b) .nil) (posB r ss)
  | .for_ _ it b r, s :: ss => .n (skids s).p (skids s).q 0 (posE it (skids s).e) (posB b (skids s).a) (posB r ss)
  | .while_ c b r, s :: ss => .n (skids s).p (skids s).q 0 (posE c (skids s).e) (posB b (skids s).a) (posB r ss)
  | .unpack is e r, s :: ss => .n (skids s).p (skids s).q (skids s).i (posE e (skids s).e) (posN is (skids s).f.as) (posB r ss)
  | .raise _ as r, s :: ss => .n (skids s).p (skids s).q 0 (posA as (skids s).e.as) (.n (skids s).e.p default 0 .nil .nil .nil) (posB r ss)
  | .try_ b hs r, s :: ss => .n (skids s).p (skids s).q 0 (posB b (skids s).a) (posH hs (skids s).h) (posB r ss)
  | .ret0 r, s :: ss => .n (skids s).p (skids s).q 0 .nil .nil (posB r ss)
  | .pass r, s :: ss => .n (skids s).p (skids s).q 0 .nil .nil (posB r ss)
  | .brk r, s :: ss => .n (skids s).p (skids s).q 0 .nil .nil (posB r ss)
  | .cont r, s :: ss => .n (skids s).p (skids s).q 0 .nil .nil (posB r ss)
  | _, _ => .nil
def posH : CS → List ExceptHandler → PT
  | .hnd _ _ b r, .ExceptHandler c _ ss p :: hs => .n p (match c with | some e => posOf e | none => p) 0 (posB b ss) .nil (posH r hs)
  | _, _ => .nil
end
def storeB (sc : Sc) (i : Nat) : Bool := match sc[i]? with | some p => p.2 == .local || p.2 == .cell | none => false
def localB (sc : Sc) (nm : Option Nat) : Bool := match nm with | some i => (match sc[i]? with | some p => p.2 == .local | none => false) | none => true
def isStm : CS → Bool | .skip => false | .hnd _ _ _ _ => false | _ => true
def isHnd : CS → Bool | .hnd _ _ _ _ => true | _ => false
mutual
def chkB : CS → Sc → Gx → Bool → PT → Bool
  | .ret e r, sc, gx, fr, t => chkE e sc gx fr t.a && chkB r sc gx fr t.c
  | .ret0 r, sc, gx, fr, t => chkB r sc gx fr t.c
  | .set i e r, sc, gx, fr, t => storeB sc i && (chkE e sc gx fr t.a && chkB r sc gx fr t.c)
  | .setSub o i v r, sc, gx, fr, t => notComp v && ((chkE o sc gx fr t.b.a && chkE i sc gx fr t.b.b) && (chkE v sc gx fr t.a && chkB r sc gx fr t.c))
  | .expr e r, sc, gx, fr, t => notComp e && (chkE e sc gx fr t.a && chkB r sc gx fr t.c)
  | .ife c a b r, sc, gx, fr, t => chkE c sc gx fr t.a && ((chkB a sc gx fr t.b.a && chkB b sc gx fr t.b.b) && chkB r sc gx fr t.c)
  | .for_ x it b r, sc, gx, fr, t => (fr && storeB sc x) && (chkE it sc gx fr t.a && (chkB b sc gx fr t.b && chkB r sc gx fr t.c))
  | .while_ c b r, sc, gx, fr, t => chkE c sc gx fr t.a && (chkB b sc gx fr t.b && chkB r sc gx fr t.c)
  | .pass r, sc, gx, fr, t => chkB r sc gx fr t.c
  | .brk r, sc, gx, fr, t => chkB r sc gx fr t.c
  | .cont r, sc, gx, fr, t => chkB r sc gx fr t.c
  | .unpack is e r, sc, gx, fr, t => ((fr && is.all (storeB sc)) && notTC e) && (chkE e sc gx fr t.a && chkB r sc gx fr t.c)
  | .raise _ as r, sc, gx, fr, t => (fr && Nat.blt (lenA as) 30) && (chkA as sc gx fr t.a && chkB r sc gx fr t.c)
  | .try_ b hs r, sc, gx, fr, t => (fr && isHnd hs) && (chkB b sc gx fr t.a && (chkH hs sc gx fr t.b && chkB r sc gx fr t.c))
  | .skip, _, _, _, _ => true
  | .hnd _ _ _ _, _, _, _, _ => true
def chkH : CS → Sc → Gx → Bool → PT → Bool
  | .hnd _ nm b r, sc, gx, fr, t => ((localB sc nm && isStm b) && chkB b sc gx false t.a) && chkH r sc gx fr t.c
  | _, _, _, _, _ => true
end
structure Nx (P : Prop) : Prop where
  out : P
abbrev PS := Flw → Ev → AH → Prop
abbrev XS := Nat → Ev → AH → Prop
def thenR (f : Ev → AH → Prop) (R : PS) : PS := fun fl => match fl with | .next => f | .brk => R .brk | .cont => R .cont | .ret v => R (.ret v)
def turnR (R : PS) (J : Ev → AH → Prop) : PS := fun fl => match fl with | .next => J | .cont => J | .brk => R .next | .ret v => R (.ret v)
inductive forG (ρ : Ev) (body : V → V → PS → Ev → AH → Prop) (R : PS) (v : V) (H₁ : AH) : Prop
  | mk (xs : List V) (hx : ItemsV H₁ v xs) (J : Nat → Ev → AH → Prop) (j0 : J 0 ρ H₁) (tn : ∀ (k : Nat) y ρ' H', xs[k]? = some y → J k ρ' H' → body v y (turnR R (J (k + 1))) ρ' H') (fin : ∀ ρ' H', J xs.length ρ' H' → R .next ρ' H') : forG ρ body R v H₁
inductive whileG (ρ : Ev) (turn : PS → Ev → AH → Prop) (R : PS) (H : AH) : Prop
  | mk (J : Nat → Ev → AH → Prop) (n0 : Nat) (j0 : J n0 ρ H) (tn : ∀ m ρ' H', J m ρ' H' → turn (turnR R (fun ρ H => ∃ m', m' < m ∧ J m' ρ H)) ρ' H') : whileG ρ turn R H
def setAll : Ev → List Nat → List V → Ev
  | ρ, i :: is, x :: xs => setAll (ρ.set i (some x)) is xs
  | ρ, _, _ => ρ
def oUnp (v : V) (n : Nat) (k : List V → Prop) (H : AH) : Prop := onRef v fun p => Look H p fun m => match m with | .tuple xs => req (Nat.beq xs.length n) (k xs) | _ => False
def isExc (g : G) (k : Nat → Prop) : Prop := match g with | .exc i => k i | _ => False
def setN (ρ : Ev) (nm : Option Nat) (v : Option V) : Ev := match nm with | some i => ρ.set i v | none => ρ
mutual
def wS : CS → KK → XS → PS → Ev → AH → Prop
  | .skip, _, _, R, ρ, H => R .next ρ H
  | .ret e _, K, X, R, ρ, H => wE e K ρ (fun i H => X i ρ H) (fun v H₁ => R (.ret v) ρ H₁) H
  | .ret0 _, _, _, R, ρ, H => R (.ret .none) ρ H
  | .set i e r, K, X, R, ρ, H => wE e K ρ (fun i H => X i ρ H) (fun v H₁ => Nx (wS r K X R (ρ.set i (some v)) H₁)) H
  | .setSub o i v r, K, X, R, ρ, H => wE v K ρ (fun i H => X i ρ H) (fun u H₁ => wE o K ρ (fun i H => X i ρ H) (fun ov H₂ => wE i K ρ (fun i H => X i ρ H) (fun iv H₃ => oSet K.fz ov iv u (fun H₄ => Nx (wS r K X R ρ H₄)) H₃) H₂) H₁) H
  | .expr e r, K, X, R, ρ, H => wE e K ρ (fun i H => X i ρ H) (fun _ H₁ => Nx (wS r K X R ρ H₁)) H
  | .ife c a b r, K, X, R, ρ, H => wT c K ρ (fun i H => X i ρ H) (fun t H₁ => br t (wS a K X (thenR (fun ρ H => Nx (wS r K X R ρ H)) R) ρ H₁) (wS b K X (thenR (fun ρ H => Nx (wS r K X R ρ H)) R) ρ H₁)) H
  | .for_ x it b r, K, X, R, ρ, H => wE it K ρ (fun i H => X i ρ H) (forG ρ (fun v y R' ρ' H' => wS b (K.more v) X R' (ρ'.set x (some y)) H') (thenR (fun ρ H => Nx (wS r K X R ρ H)) R)) H
  | .while_ c b r, K, X, R, ρ, H => whileG ρ (fun R' ρ' H' => wT c K ρ' (fun i H => X i ρ' H) (fun t H₁ => br t (wS b K X R' ρ' H₁) (Nx (wS r K X R ρ' H₁))) H') (thenR (fun ρ H => Nx (wS r K X R ρ H)) R) H
  | .pass r, K, X, R, ρ, H => Nx (wS r K X R ρ H)
  | .brk _, _, _, R, ρ, H => R .brk ρ H
  | .cont _, _, _, R, ρ, H => R .cont ρ H
  | .unpack is e r, K, X, R, ρ, H => wE e K ρ (fun i H => X i ρ H) (fun v H₁ => oUnp v is.length (fun xs => Nx (wS r K X R (setAll ρ is xs) H₁)) H₁) H
  | .raise j as _, K, X, _, ρ, H => gAt K j fun g => isExc g fun i => wA as K ρ (fun i H => X i ρ H) (fun _ H₁ => X i ρ H₁) H
  | .try_ b hs r, K, X, R, ρ, H => wS b K (fun i ρ' H' => wH hs K (thenR (fun ρ H => Nx (wS r K X R ρ H)) R) i ρ' H') (thenR (fun ρ H => Nx (wS r K X R ρ H)) R) ρ H
  | .hnd _ _ _ _, _, _, _, _, _ => False
/-- what a raise of the `i`-th class meets -/
def wH : CS → KK → PS → Nat → Ev → AH → Prop
  | .hnd j nm b r, K, R, i, ρ, H => gAt K j fun g => isExc g fun i' => br (catches K i i')
      (∀ a, H.get a = none → a ∉ K.fz → wS b K.hnd (fun _ _ _ => False) (fun f ρ' H' => R f (setN ρ' nm none) H') (setN ρ nm (some (.ref a))) (H.set a (.exc i)))
      (wH r K R i ρ H)
  | _, _, _, _, _, _ => False
end
end Mine
namespace Mine
open PySem PySem.Calls PySem.SeqAt PySem.W PyProof.Rows
def envOf : Sc → Ev → Str → Option V
  | p :: sc, a :: l, x => if x = p.1 then a else envOf sc l x
  | _, _, _ => none
theorem envOf_some : ∀ {sc : Sc} {l : Ev} {i : Nat} {p : Str × NameKind} {v : V}, (sc.map (·.1)).Nodup → sc[i]? = some p → l[i]? = some (some v) → envOf sc l p.1 = some v
  | [], _, _, _, _, _, h, _ => by cases h
  | _ :: _, [], _, _, _, _, _, h => by cases h
  | q :: sc, a :: l, 0, p, v, _, h1, h2 => by
    simp at h1 h2; subst h1; subst h2; simp [envOf]
  | q :: sc, a :: l, i + 1, p, v, nd, h1, h2 => by
    rw [List.map_cons, List.nodup_cons] at nd
    simp only [List.getElem?_cons_succ] at h1 h2
    have : p.1 ≠ q.1 := fun e => nd.1 (e ▸ List.mem_map.mpr ⟨p, List.mem_of_getElem? h1, rfl⟩)
    simp only [envOf, if_neg this]
    exact envOf_some nd.2 h1 h2
theorem envOf_set : ∀ {sc : Sc} {l : Ev} {i : Nat} {p : Str × NameKind} {a : Option V} {y : Str} {w : V}, (sc.map (·.1)).Nodup → sc[i]? = some p → envOf sc (l.set i a) y = some w → (y = p.1 ∧ a = some w) ∨ (y ≠ p.1 ∧ envOf sc l y = some w)
  | [], _, _, _, _, _, _, _, h, _ => by cases h
  | _ :: _, [], _, _, _, _, _, _, _, h => by cases h
  | q :: sc, b :: l, 0, p, a, y, w, nd, h1, h2 => by
    simp at h1; subst h1
    simp only [List.set_cons_zero, envOf] at h2 ⊢
    by_cases hy : y = q.1
    · rw [if_pos hy] at h2; exact .inl ⟨hy, h2⟩
    · rw [if_neg hy] at h2 ⊢; exact .inr ⟨hy, h2⟩
  | q :: sc, b :: l, i + 1, p, a, y, w, nd, h1, h2 => by
    rw [List.map_cons, List.nodup_cons] at nd
    simp only [List.getElem?_cons_succ] at h1
    have hpq : p.1 ≠ q.1 := fun e => nd.1 (e ▸ List.mem_map.mpr ⟨p, List.mem_of_getElem? h1, rfl⟩)
    simp only [List.set_cons_succ, envOf] at h2 ⊢
    by_cases hy : y = q.1
    · rw [if_pos hy] at h2 ⊢; exact .inr ⟨fun e => hpq (e.symm.trans hy), h2⟩
    · rw [if_neg hy] at h2 ⊢; exact envOf_set nd.2 h1 h2
theorem look_at : ∀ {sc : Sc} {i : Nat} {p : Str × NameKind}, (sc.map (·.1)).Nodup → sc[i]? = some p → sc.lookup p.1 = some p.2 := fun nd h => lookup_of_mem nd (List.mem_of_getElem? h)
theorem nameAt_eq {sc : Sc} {i : Nat} {p : Str × NameKind} (h : sc[i]? = some p) : nameAt sc i = p.1 := by unfold nameAt; rw [h]
theorem Inv.less {C : Cx} {sn : Snap} {env : Env} {ρ ρ' : Str → Option V} {H : AH} {s : Shared} (I : Inv C sn env ρ H s) (h : ∀ x v, ρ' x = some v → ρ x = some v) : Inv C sn env ρ' H s :=
  ⟨I.ok, I.base, I.nodes, I.new, I.hid, I.fresh, let ⟨m, h1, h2⟩ := I.vars; ⟨m, h1, fun x v e => h2 x v (h x v e)⟩, I.cells, I.gens, I.os, I.mine, I.frz, I.live⟩
def GV (C : Cx) (x : Str) : Option Value := (C.mg x).or (C.mb x)
def Callee (C : Cx) (f : Value) : Prop :=
  ∀ (A : Around) (E : Value → Shared → Prop) (s : Shared) (Q : Keeper → Shared → Prop), (∀ b o, C.h₀.get? b = some o → s.heap.get? b = some o) → Q .frame s → Q .machine s → wpAny C.M A (keeperOf f) Q E s
def Xv (C : Cx) (X : QX) : Value → AH → Prop := fun cls H => ∃ i a, C.ex[i]? = some a ∧ cls = .ref a ∧ X i H
def Meets (C : Cx) (d : Nat) (free : Bool) (f : Value) (T : Tr) : Prop := ∀ fz vs Q X H, T fz vs Q X H → CallsTo C fz d free f vs Q (Xv C X) H
def GOk (C : Cx) (d : Nat) (free : Bool) (x : Str) : G → Prop
  | .val v => ∃ cv, GV C x = some cv ∧ toV cv = v
  | .con T any => ∃ f, GV C x = some f ∧ Callee C f ∧ Meets C d free f T ∧ (any = true → ∀ free, Meets C d free f T)
  | .bi b => GV C x = some b.val
  | .isi => GV C x = some (.builtin "isinstance")
  | .ty t => GV C x = some (.type t.s)
  | .exc i => ∃ a, C.ex[i]? = some a ∧ GV C x = some (.ref a)
  | .verr => GV C x = some (.type "ValueError")
structure ExcIs (C : Cx) (sup : List (List Nat)) (i : Nat) (a : Addr) : Prop where
  obj : ∃ nm q N bs bm hdct sn sub ab col dd k0 k1 k2 k3 k5 mN, C.h₀.get? a = some (excClassObj nm q a N bs bm hdct sn sub ab col dd k0 k1 k2 k3 k5 "ValueError.__new__") ∧ C.h₀.Ns N mN ∧ mN "__init__" = none ∧
    OwnTail C.h₀ [.type "ValueError", .type "Exception", .type "BaseException", .type "object"] bm ∧ ∀ j b, C.ex[j]? = some b → (Value.ref a :: bm).contains (.ref b) = (match sup[i]? with | some l => l.any (Nat.beq j) | none => false)
structure KOk (K : KK) : Prop where
  nd : (K.sc.map (·.1)).Nodup
  nm : ∀ p ∈ K.sc, nameOk p.1 = true
  gs : ∀ (j : Nat) (g : G), K.gs[j]? = some (some g) → ∃ x, K.sc[j]? = some (x, NameKind.globalImplicit) ∧ GOk K.C K.d K.free x g
  gx : K.free = true → ∀ p ∈ K.gx, GOk K.C K.d true p.1 p.2
  exs : ∀ i a, K.C.ex[i]? = some a → ExcIs K.C K.sup i a
theorem KOk.more {K : KK} (h : KOk K) (v : V) : KOk (K.more v) := ⟨h.nd, h.nm, h.gs, h.gx, h.exs⟩
theorem KOk.hnd {K : KK} (h : KOk K) : KOk K.hnd := by
  refine ⟨h.nd, h.nm, fun j g e => ?_, fun e => (by cases e), h.exs⟩
  have e : (K.gs.map hG)[j]? = some (some g) := e
  rw [List.getElem?_map] at e
  obtain ⟨g0, e0, e1⟩ := Option.map_eq_some_iff.mp e
  cases g0 with
  | none => cases e1
  | some g1 =>
    obtain ⟨x, hx, hg⟩ := h.gs j g1 e0
    refine ⟨x, hx, ?_⟩
    cases g1 with
    | con T any =>
      cases any with
      | false => cases e1
      | true => cases e1; obtain ⟨f, h1, h2, _, h4⟩ := hg; exact ⟨f, h1, h2, h4 rfl _, h4⟩
    | _ => cases e1; exact hg
theorem gAt_out {K : KK} {j : Nat} {k : G → Prop} (h : gAt K j k) : ∃ g, K.gs[j]? = some (some g) ∧ k g := by
  unfold gAt at h
  cases q : K.gs[j]? with
  | none => rw [q] at h; exact h.elim
  | some o => cases o with
    | none => rw [q] at h; exact h.elim
    | some g => rw [q] at h; exact ⟨g, rfl, h⟩
theorem oVar_out {ρ : Ev} {i : Nat} {Q : V → Prop} (h : oVar ρ i Q) : ∃ v, ρ[i]? = some (some v) ∧ Q v := by
  unfold oVar at h
  cases q : ρ[i]? with
  | none => rw [q] at h; exact h.elim
  | some o => cases o with
    | none => rw [q] at h; exact h.elim
    | some g => rw [q] at h; exact ⟨g, rfl, h⟩
structure At (K : KK) (ρ : Ev) (X : QX) (sn : Snap) (A : Around) (env : Env) (E : Value → Shared → Prop) : Prop where
  good : Good K.C K.fz K.d K.free sn A env
  kd : ∀ y, env.kindOf y = K.sc.lookup y
  exits : Exits K.C sn env (fun cls ρ' H' => ρ' = envOf K.sc ρ ∧ Xv K.C X cls H') E
section
variable {C : Cx} {sn : Snap} {A : Around} {env : Env} {ρ : Str → Option V} {H : AH} {s : Shared} {E : Value → Shared → Prop}
theorem GV.load {x : Str} {cv : Value} {Q : Value → AH → Prop} (hk : env.kindOf x = some .globalImplicit) (hv : GV C x = some cv) (h : Q cv H) : TM C sn A env ρ (loadName env x) Q E H := by
  unfold GV at hv
  cases hm : C.mg x with
  | some v => rw [hm] at hv; simp at hv; subst hv; exact TM.loadGlob hk hm h
  | none => rw [hm] at hv; simp at hv; exact TM.loadBi hk hm hv h
theorem tm_callWith {pos : Pos} {f : Value} {args : List (Bool × Sem Value)} {Q : Value → AH → Prop} (hc : Callee C f) (hp : plainArgs args)
    (h : TMs C sn A env ρ E (args.map (·.2)) (fun vs H' => TM C sn A env ρ (call f vs) Q E H') H) : TM C sn A env ρ (callWith pos f [] args []) Q E H := by
  have ha : args.any (·.1) = false := by rw [List.any_eq_false]; intro x hx; rw [hp x hx]; simp
  unfold callWith
  refine .bind (.holding (tm_evalArgs hp ?_))
  refine h.mono fun vs H' q => .bind (.standAt ?_)
  simp only [ha, List.any_nil, Bool.or_false, List.nil_append]
  have tail : ∀ {t : Sem Value}, TM C sn A env ρ t Q E H' → TM C sn A env ρ (t >>= fun r => PySem.holding [r] point >>= fun _ => pure r) Q E H' :=
    fun ht => .bind (ht.mono fun r _ hr => .bind (.holding (.point (.pure hr))))
  refine .bind ?_
  intro s I
  refine hc A E s _ I.base ⟨H', I, ?_⟩ ⟨H', I, ?_⟩
  · refine .ite ?_
    split
    · exact tail q
    · exact tail (by unfold callMarked; exact .keep q)
  · exact tail q
theorem Callee.func {a : Addr} {o : Obj} {fd : FuncData} (ho : C.h₀.get? a = some o) (hd : o.data = .func fd) : Callee C (.ref a) := by
  intro A E s Q hb h1 _
  unfold keeperOf
  refine wpAny_bind (wpAny_load (hb a o ho) ?_)
  rw [hd]; exact wpAny_pure h1
theorem Callee.other {f : Value} (hf : ∀ a, f ≠ .ref a) : Callee C f := by
  intro A E s Q _ _ h2
  have hk : keeperOf f = pure .machine := by cases f <;> first | rfl | exact absurd rfl (hf _)
  rw [hk]; exact wpAny_pure h2
end
end Mine
namespace Mine
open PySem PySem.Calls PySem.SeqAt PySem.W PyProof.Rows
def SE (ce : CE) : Prop := ∀ (K : KK) (t : PT) (ρ : Ev) (X : QX), KOk K → chkE ce K.sc K.gx K.free t = true → ∀ (Q : QV) (H : AH), wE ce K ρ X Q H → ∀ sn A env E, At K ρ X sn A env E → TM K.C sn A env (envOf K.sc ρ) (eval (toE ce K.sc K.gx t) env) (fun v H' => Q (toV v) H') E H
def ST (ce : CE) : Prop := ∀ (K : KK) (t : PT) (ρ : Ev) (X : QX), KOk K → chkE ce K.sc K.gx K.free t = true → ∀ (k : Bool → AH → Prop) (H : AH), wT ce K ρ X k H → ∀ sn A env E, At K ρ X sn A env E → TM K.C sn A env (envOf K.sc ρ) (isTrue (toE ce K.sc K.gx t) env (eval (toE ce K.sc K.gx t) env)) k E H
def SA (ce : CE) : Prop := ∀ (K : KK) (t : PT) (ρ : Ev) (X : QX), KOk K → chkA ce K.sc K.gx K.free t = true → ∀ (Q : List V → AH → Prop) (H : AH), wA ce K ρ X Q H → ∀ sn A env E, At K ρ X sn A env E → TMs K.C sn A env (envOf K.sc ρ) E ((toA ce K.sc K.gx t).map fun e => eval e env) (fun vs H' => Q (vs.map toV) H') H
def SB (ce : CE) : Prop := ∀ (op : BoolOp) (pos : Pos) (K : KK) (t : PT) (ρ : Ev) (X : QX), KOk K → chkA ce K.sc K.gx K.free t = true → ∀ (Q : QV) (H : AH), wB ce op K ρ X Q H → ∀ sn A env E, At K ρ X sn A env E → TM K.C sn A env (envOf K.sc ρ) (boolOp pos op (evalEach (toA ce K.sc K.gx t) env)) (fun v H' => Q (toV v) H') E H
def STB (ce : CE) : Prop := ∀ (op : BoolOp) (K : KK) (t : PT) (ρ : Ev) (X : QX), KOk K → chkA ce K.sc K.gx K.free t = true → ∀ (k : Bool → AH → Prop) (H : AH), wTB ce op K ρ X k H → ∀ sn A env E, At K ρ X sn A env E → TM K.C sn A env (envOf K.sc ρ) (allTrue op (toA ce K.sc K.gx t) env) k E H
def isStar : Expr → Bool | .Starred _ _ => true | _ => false
def isSet : Expr → Bool | .Set _ _ _ => true | _ => false
theorem noStar (ce : CE) (sc : Sc) (gx : Gx) (t : PT) : isStar (toE ce sc gx t) = false ∧ isSet (toE ce sc gx t) = false := by cases ce <;> exact ⟨rfl, rfl⟩
theorem starEach_plain {env : Env} {e : Expr} {r : List Expr} (h : isStar e = false) : starEach (e :: r) env = (false, eval e env) :: starEach r env := by
  cases e <;> first | rfl | (exact absurd h (by simp [isStar]))
theorem behind_notSet {op : CmpOp} {e : Expr} (h : isSet e = false) : behindInMarks op e = false := by
  cases e <;> first | rfl | (exact absurd h (by simp [isSet]))
theorem notSet {env : Env} (ce : CE) (sc : Sc) (gx : Gx) (t : PT) : ∀ v, foldedSetIterable (toE ce sc gx t) env v = pure v := by intro v; cases ce <;> rfl
theorem plain_args {env : Env} {pos : Pos} (sc : Sc) (gx : Gx) : ∀ (ce : CE) (t : PT), plainArgs (backTo pos (starEach (toA ce sc gx t) env)) ∧ (backTo pos (starEach (toA ce sc gx t) env)).map (·.2) = (toA ce sc gx t).map fun e => eval e env := by
  intro ce
  induction ce with
  | cons a r _ ih =>
    intro t
    obtain ⟨h1, h2⟩ := ih t.b
    show plainArgs (backTo pos (starEach (toE a sc gx t.a :: toA r sc gx t.b) env)) ∧ (backTo pos (starEach (toE a sc gx t.a :: toA r sc gx t.b) env)).map (·.2) = eval (toE a sc gx t.a) env :: (toA r sc gx t.b).map fun e => eval e env
    rw [starEach_plain (noStar ..).1]
    refine ⟨fun x hx => ?_, ?_⟩
    · rcases List.mem_cons.mp (show x ∈ (false, eval (toE a sc gx t.a) env) :: backTo pos (starEach (toA r sc gx t.b) env) from hx) with rfl | hx
      · rfl
      · exact h1 x hx
    · show eval (toE a sc gx t.a) env :: (backTo pos (starEach (toA r sc gx t.b) env)).map (·.2) = _
      rw [h2]
  | _ => exact fun t => ⟨fun x hx => (nomatch hx), rfl⟩
theorem toA_length (sc : Sc) (gx : Gx) : ∀ (ce : CE) (t : PT), (toA ce sc gx t).length = lenA ce := by
  intro ce
  induction ce with
  | cons a r _ ih => intro t; show (toE a sc gx t.a :: toA r sc gx t.b).length = _; rw [List.length_cons, ih]; rfl
  | _ => exact fun t => rfl
section
variable {C : Cx} {sn : Snap} {A : Around} {env : Env} {ρ : Str → Option V} {H : AH} {E : Value → Shared → Prop}
theorem args_at {K : KK} {ρ : Ev} {X : QX} {as : CE} {t : PT} {pos : Pos} {Q : List V → AH → Prop} (ih : SA as) (ok : KOk K) (hc : chkA as K.sc K.gx K.free t = true) (h : wA as K ρ X Q H) (at_ : At K ρ X sn A env E) :
    plainArgs (backTo pos (starEach (toA as K.sc K.gx t) env)) ∧ TMs K.C sn A env (envOf K.sc ρ) E ((backTo pos (starEach (toA as K.sc K.gx t) env)).map (·.2)) (fun vs H' => Q (vs.map toV) H') H := by
  obtain ⟨h1, h2⟩ := plain_args (env := env) (pos := pos) K.sc K.gx as t
  exact ⟨h1, by rw [h2]; exact ih K t ρ X ok hc Q H h sn A env E at_⟩
theorem cmp1_at {pos : Pos} {a : Value} {op : CmpOp} {b : Expr} {k : Bool → AH → Prop} (hr : Room A) (hb : TM C sn A env ρ (eval b env) (fun y H₂ => oCmp2 op (toV a) (toV y) (fun r => k r H₂) H₂) E H) :
    TM C sn A env ρ (compareChain pos a [op] [eval b env]) (fun v H' => ∃ r, v = .bool r ∧ k r H') E H ∧ TM C sn A env ρ (testChain pos a [op] [eval b env]) (fun r H' => k r H') E H := by
  constructor
  · show TM C sn A env ρ (do let rv ← holding [a] (eval b env); standAt pos; operate [a, rv] (compareOp op a rv)) _ E H
    exact .bind (.holding (hb.mono fun b H₁ h₁ => .bind (.standAt (.operate ((oCmp_ok hr h₁).mono fun v H₂ ⟨⟨r, e, q⟩, e'⟩ => by subst e'; exact ⟨r, e, q⟩)))))
  · show TM C sn A env ρ (do let rv ← holding [a] (eval b env); standAt pos; let c ← operate [a, rv] (compareOp op a rv); holding [c] (truthy c)) _ E H
    refine .bind (.holding (hb.mono fun b H₁ h₁ => .bind (.standAt (.bind (.operate ((oCmp_ok hr h₁).mono fun v H₂ h₂ => ?_))))))
    obtain ⟨⟨r, rfl, hk⟩, rfl⟩ := h₂
    exact .holding ((oTruth_ok (v := .bool r) (k := fun b => k b H₂) hk).mono fun b H₃ ⟨h1, h2⟩ => by subst h2; exact h1)
theorem cmp2_at {pos : Pos} {a : Value} {op op' : CmpOp} {b c : Expr} {k : Bool → AH → Prop} {W : V → AH → Prop} (hr : Room A) (hW : ∀ (y : Value) H₂, W (toV y) H₂ → TM C sn A env ρ (eval c env) (fun z H₃ => oCmp2 op' (toV y) (toV z) (fun r => k r H₃) H₃) E H₂)
    (hb : TM C sn A env ρ (eval b env) (fun y H₂ => oCmp2 op (toV a) (toV y) (fun r => br r (W (toV y) H₂) (k false H₂)) H₂) E H) :
    TM C sn A env ρ (compareChain pos a [op, op'] [eval b env, eval c env]) (fun v H' => ∃ r, v = .bool r ∧ k r H') E H ∧ TM C sn A env ρ (testChain pos a [op, op'] [eval b env, eval c env]) (fun r H' => k r H') E H := by
  constructor
  · show TM C sn A env ρ (do
      let rv ← holding [a] (eval b env)
      standAt pos
      let c' ← holding [a, rv] (compareOp op a rv)
      release [a, rv] [c']
      if ← holding [c', rv] (truthy c') then compareChain pos rv [op'] [eval c env] else pure c') _ E H
    refine .bind (.holding (hb.mono fun b H₁ h₁ => .bind (.standAt (.bind (.holding ((oCmp_ok hr h₁).mono fun v H₂ h₂ => ?_))))))
    obtain ⟨⟨r, rfl, hk⟩, rfl⟩ := h₂
    refine .bind (.release (.bind (.holding ((oTruth_ok (v := .bool r) (k := fun b => b = r) rfl).mono fun b' H₃ ⟨h1, h2⟩ => ?_))))
    subst h1; subst h2
    cases b'
    · exact .pure ⟨false, rfl, hk⟩
    · exact (cmp1_at hr (hW _ _ hk)).1
  · show TM C sn A env ρ (do
      let rv ← holding [a] (eval b env)
      standAt pos
      let c' ← holding [a, rv] (compareOp op a rv)
      release [a, rv] [c']
      if ← holding [c', rv] (truthy c') then testChain pos rv [op'] [eval c env] else pure false) _ E H
    refine .bind (.holding (hb.mono fun b H₁ h₁ => .bind (.standAt (.bind (.holding ((oCmp_ok hr h₁).mono fun v H₂ h₂ => ?_))))))
    obtain ⟨⟨r, rfl, hk⟩, rfl⟩ := h₂
    refine .bind (.release (.bind (.holding ((oTruth_ok (v := .bool r) (k := fun b => b = r) rfl).mono fun b' H₃ ⟨h1, h2⟩ => ?_))))
    subst h1; subst h2
    cases b'
    · exact .pure hk
    · exact (cmp1_at hr (hW _ _ hk)).2
theorem marked1 {op : CmpOp} {e : Expr} (h : isSet e = false) : markedEach [op] [e] (evalEach [e] env) = [eval e env] := by
  show [markedBehindIn op e (eval e env)] = _; rw [markedBehindIn_of_false (behind_notSet h)]
theorem marked2 {op op' : CmpOp} {e e' : Expr} (h : isSet e' = false) : markedEach [op, op'] [e, e'] (evalEach [e, e'] env) = [eval e env, eval e' env] := by
  show eval e env :: markedEach [op'] [e'] (evalEach [e'] env) = _; rw [marked1 h]
theorem attributeBase_plain {o : CE} {sc : Sc} {gx : Gx} {t : PT} {name : Str} {whole : Sem Value} (h : baseOk o = true) : attributeBase (toE o sc gx t) name env whole = whole := by
  cases o <;> try rfl
  case call j as =>
    have : ∃ e r, toA as sc gx t.a = e :: r := by
      cases as <;> first | exact ⟨_, _, rfl⟩ | cases h
    obtain ⟨e, r, he⟩ := this
    show attributeBase (.Call (.Name (nameAt sc j) t.q) (toA as sc gx t.a) [] t.p) name env whole = whole
    rw [he]; rfl
theorem name_at {K : KK} {ρ : Ev} {X : QX} {i : Nat} {pos : Pos} {v : V} {p : Str × NameKind} (ok : KOk K) (hi : K.sc[i]? = some p) (hv : ρ[i]? = some (some v)) {Q : QV} (h : Q v H) : TM K.C sn A env (envOf K.sc ρ) (eval (.Name (nameAt K.sc i) pos) env) (fun v H' => Q (toV v) H') E H := by
  have hn := ok.nm p (List.mem_of_getElem? hi)
  simp only [nameOk, Bool.and_eq_true, bne_iff_ne] at hn
  rw [nameAt_eq hi, eval_Name env p.1 pos (by simpa using hn.1)]
  exact .bind (.standAt (TM.loadVar (envOf_some ok.nd hi hv) (fun cv e => by rw [e]; exact h) (by simpa using hn.2)))
theorem glob_at {K : KK} {ρ : Ev} {X : QX} {j : Nat} {pos : Pos} {g : G} (ok : KOk K) (hg : K.gs[j]? = some (some g)) (at_ : At K ρ X sn A env E) : ∃ x, GOk K.C K.d K.free x g ∧ ∀ {cv : Value} {Q : Value → AH → Prop}, GV K.C x = some cv → Q cv H → TM K.C sn A env (envOf K.sc ρ) (eval (.Name (nameAt K.sc j) pos) env) Q E H := by
  obtain ⟨x, hx, hg⟩ := ok.gs j g hg
  refine ⟨x, hg, fun hv h => ?_⟩
  have hn := ok.nm _ (List.mem_of_getElem? hx)
  simp only [nameOk, Bool.and_eq_true, bne_iff_ne] at hn
  rw [nameAt_eq hx, eval_Name env x pos (by simpa using hn.1)]
  exact .bind (.standAt (GV.load ((at_.kd x).trans (look_at ok.nd hx)) hv h))
end
end Mine
set_option maxRecDepth 100000
namespace Mine
open PySem PySem.Calls PySem.SeqAt PySem.W PyProof.Rows
section
variable {prog : Program} {w : World} {A : Around} {E : Value → Shared → Prop} {h : Heap} {g : Array GenState} {d : Drawn} {t : Nat} {os : OsState}
variable {nm q : Str} {a N : Addr} {bs bm : List Value} {hdct : Bool} {sn : List Str} {sub : List Value} {ab : Bool} {col : Option Bool} {dd : Option Addr} {k0 k1 k2 k3 k5 : Option Value} {newId : String}
theorem typeOf_ref {p : Addr} {o : Obj} {Q : Value → Shared → Prop} (ho : h.get? p = some o) (hq : Q o.cls ⟨h, g, d, t, os⟩) : wpAny (model prog w) A (typeOf (.ref p)) Q E ⟨h, g, d, t, os⟩ := by
  unfold typeOf
  repeat (first | with_reducible refine wpAny_loadPart_at ho ?_ | wp_step)
  exact hq
theorem isx_nested {p : Addr} {o : Obj} {c : Value} {dep : Int} {tk : Tok} {Q : Fin → Shared → Prop} (ho : h.get? p = some o) (hc : o.cls = .ref a) (ha : h.get? a = some (excClassObj nm q a N bs bm hdct sn sub ab col dd k0 k1 k2 k3 k5 newId))
    (hty : ∀ (A : Around) (E : Value → Shared → Prop) (Q : Value → Shared → Prop), Q (.type "type") ⟨h, g, d, t, os⟩ → wpAny (model prog w) A (typeOf c) Q E ⟨h, g, d, t, os⟩) (his : ∀ (A : Around) (E : Value → Shared → Prop) (Q : Bool → Shared → Prop), Q true ⟨h, g, d, t, os⟩ → wpAny (model prog w) A (isType c) Q E ⟨h, g, d, t, os⟩)
    (hin : (Value.ref a :: bm).contains c = true) (hq : Q (.done (.ret (.bool true))) ⟨h, g, d, t, os⟩) :
    wpAny (model prog w) A (Builtin.«isinstance.nested» ⟨[.ref p, c, .int dep tk], []⟩) Q E ⟨h, g, d, t, os⟩ := by
  unfold Builtin.«isinstance.nested»
  refine wpAny_bind (typeOf_ref ho ?_)
  rw [hc]
  by_cases he : (Value.ref a == c) = true
  · rw [if_pos he]
    repeat (first | assumption | wp_step)
  · rw [if_neg he]
    refine wpAny_bind (hty _ _ _ ?_)
    rw [if_pos (by decide)]
    k_delta "plainIsInstance"
    refine wpAny_bind (wpAny_bind (his _ _ _ ?_))
    simp only [Bool.not_true, Bool.false_eq_true, if_false]
    unfold isInstance
    refine wpAny_bind (wpAny_bind (typeOf_ref ho ?_))
    rw [hc]
    refine wpAny_isSubtype_exc ha ?_
    rw [hin]
    simp only [if_true]
    exact wpAny_pure (wpAny_pure hq)
end
section
variable {C : Cx} {sn : Snap} {A : Around} {env : Env} {ρ : Str → Option V} {H : AH} {E : Value → Shared → Prop} {Q : QV}
theorem isx_ok {p : Nat} {i : Nat} {a : Addr} {c : Value} {sup : List (List Nat)} (hp : H.get p = some (.exc i)) (hi : C.ex[i]? = some a) (X : ExcIs C sup i a)
    (hc : (∃ j b, C.ex[j]? = some b ∧ c = .ref b ∧ ExcIs C sup j b ∧ (match sup[i]? with | some l => l.any (Nat.beq j) | none => false) = true) ∨ c = .type "ValueError") (h : Q (.bool true) H) :
    TM C sn A env ρ (call (.builtin "isinstance") [.ref p, c]) (fun v H' => Q (toV v) H') E H := by
  intro s I
  obtain ⟨o, ho, a', ha', hcls⟩ := I.nodes p _ hp
  rw [hi] at ha'; cases ha'
  obtain ⟨nm, q, N, bs, bm, hdct, sn', sub, ab, col, dd, k0, k1, k2, k3, k5, mN, hC, hN, hini, hT, hsup⟩ := X.obj
  refine call_isinstance (S := fun _ R s => s.heap.get? p = some o ∧ (∀ b o, C.h₀.get? b = some o → s.heap.get? b = some o) ∧ R (.ok (.ret (.bool true))) s) (fun _ _ _ _ s' hs => isinstance_outer ?_ (by intro e; cases e)) ⟨ho, I.base, H, I, h⟩
  obtain ⟨h', g, d, t, os⟩ := s'
  obtain ⟨h1, h2, h3⟩ := hs
  rcases hc with ⟨j, b, hb, rfl, Xb, hj⟩ | rfl
  · obtain ⟨nm', q', N', bs', bm', hdct', sn'', sub', ab', col', dd', k0', k1', k2', k3', k5', mN', hC', _⟩ := Xb.obj
    refine isx_nested h1 hcls (h2 _ _ hC) (fun _ _ _ hq => typeOf_ref (h2 _ _ hC') hq) (fun _ _ _ hq => ?_) ((hsup j b hb).trans hj) h3
    unfold isType
    repeat (first | with_reducible refine wpAny_loadPart_at (h2 _ _ hC') ?_ | wp_step)
    exact hq
  · refine isx_nested h1 hcls (h2 _ _ hC) (fun _ _ _ hq => ?_) (fun _ _ _ hq => ?_) ?_ h3
    · rw [show typeOf (.type "ValueError") = pure (.type "type") from by kernel_rfl]; exact wpAny_pure hq
    · rw [show isType (.type "ValueError") = pure true from by kernel_rfl]; exact wpAny_pure hq
    · rw [List.contains_cons, hT.hasType (b := true) (by decide)]; simp
end
end Mine
namespace Mine
open PySem PySem.Calls PySem.SeqAt PySem.W PyProof.Rows
theorem envOf_at : ∀ {sc : Sc} {l : Ev} {i : Nat} {p : Str × NameKind}, (sc.map (·.1)).Nodup → sc[i]? = some p → envOf sc l p.1 = (l[i]?).join
  | [], _, _, _, _, h => by cases h
  | _ :: _, [], i, _, _, _ => by simp [envOf]
  | q :: sc, a :: l, 0, p, _, h1 => by simp at h1; subst h1; simp [envOf]
  | q :: sc, a :: l, i + 1, p, nd, h1 => by
    rw [List.map_cons, List.nodup_cons] at nd
    simp only [List.getElem?_cons_succ] at h1 ⊢
    have : p.1 ≠ q.1 := fun e => nd.1 (e ▸ List.mem_map.mpr ⟨p, List.mem_of_getElem? h1, rfl⟩)
    simp only [envOf, if_neg this]
    exact envOf_at nd.2 h1
theorem envOf_not : ∀ {sc : Sc} {l : Ev} {y : Str}, y ∉ sc.map (·.1) → envOf sc l y = none
  | [], _, _, _ => by simp [envOf]
  | _ :: _, [], _, _ => by simp [envOf]
  | q :: sc, a :: l, y, h => by
    rw [List.map_cons, List.mem_cons, not_or] at h
    simp only [envOf, if_neg h.1]
    exact envOf_not h.2
section
variable {sc : Sc} {gx : Gx} {caps : List Cap} {x : Nat}
structure CompIs (sc : Sc) (gx : Gx) (caps : List Cap) (x : Nat) : Prop where
  nd : ((caps.map (capR sc gx)).map (·.1)).Nodup
  ok : ∀ c ∈ caps, capOk sc gx c = true
  own : ∃ y, caps[x]? = some (.own y)
theorem compIs_of (h : compChk sc gx caps x = true) : CompIs sc gx caps x := by
  simp only [compChk, Bool.and_eq_true, List.all_eq_true] at h
  refine ⟨by rw [List.map_map]; exact nodupS_iff h.1.1, h.1.2, ?_⟩
  have := h.2
  cases q : caps[x]? with
  | none => rw [q] at this; cases this
  | some c => cases c with
    | own y => exact ⟨y, rfl⟩
    | _ => rw [q] at this; cases this
variable (I : CompIs sc gx caps x) (nd : (sc.map (·.1)).Nodup)
include I nd
theorem CompIs.free {i : Nat} (h : .free i ∈ caps) : ∃ p, sc[i]? = some p ∧ p.2 = .cell ∧ sc.lookup p.1 = some .cell ∧ nameAt sc i = p.1 := by
  have : (match sc[i]? with | some p => p.2 == .cell | none => false) = true := I.ok _ h
  cases q : sc[i]? with
  | none => rw [q] at this; cases this
  | some p =>
    rw [q] at this
    have hp : p.2 = .cell := by simpa using this
    exact ⟨p, rfl, hp, by rw [look_at nd q, hp], nameAt_eq q⟩
theorem CompIs.kdC (y : Str) : Mine.kdC (capS sc gx caps) (fun y => sc.lookup y) y = (caps.map (capR sc gx)).lookup y := by
  unfold Mine.kdC capS
  simp only [List.map_map]
  congr 1
  apply List.map_congr_left
  intro c hc
  cases c with
  | own x => rfl
  | gl i => rfl
  | free i =>
    obtain ⟨p, _, _, h3, h4⟩ := I.free nd hc
    simp only [Function.comp, capN, capR, h4, h3]
    rfl
theorem CompIs.compOk : Mine.compOk (capS sc gx caps) (fun y => sc.lookup y) (nameAt (caps.map (capR sc gx)) x) = true := by
  obtain ⟨y, hy⟩ := I.own
  have hx : (caps.map (capR sc gx))[x]? = some (y, .local) := by rw [List.getElem?_map, hy]; rfl
  have hN : (caps.map (capN sc gx)).map (·.1) = (caps.map (capR sc gx)).map (·.1) := by
    rw [List.map_map, List.map_map]
    apply List.map_congr_left
    intro c _; cases c <;> rfl
  have hxN : (caps.map (capN sc gx))[x]? = some (y, .local) := by rw [List.getElem?_map, hy]; rfl
  unfold Mine.compOk
  simp only [capS, Bool.and_eq_true, List.all_eq_true, Bool.or_eq_true, bne_iff_ne, beq_iff_eq]
  refine ⟨⟨⟨trivial, ?_⟩, ?_⟩, fun z hz => ?_⟩
  · have key : ∀ l : List Str, l.Nodup → nodupS l = true := by
      intro l
      induction l with
      | nil => intro _; rfl
      | cons a r ih => intro h; rw [List.nodup_cons] at h; simp [nodupS, h.1, ih h.2]
    rw [hN]; exact key _ I.nd
  · rw [nameAt_eq hx]
    exact look_at (by rw [hN]; exact I.nd) hxN
  · obtain ⟨c, hc, rfl⟩ := List.mem_map.mp hz
    cases c with
    | own x => exact ⟨fun e => (nomatch e), .inl fun e => (nomatch e)⟩
    | gl i => exact ⟨fun e => (nomatch e), .inl fun e => (nomatch e)⟩
    | free i =>
      obtain ⟨p, _, _, h3, h4⟩ := I.free nd hc
      exact ⟨fun e => (nomatch e), .inr (by simp only [capN, h4, h3])⟩
theorem CompIs.env (ρ : Ev) (u : V) : upd (capt (capS sc gx caps) (fun y => sc.lookup y) (envOf sc ρ)) (nameAt (caps.map (capR sc gx)) x) u = envOf (caps.map (capR sc gx)) (capE ρ caps x u) := by
  obtain ⟨z, hz⟩ := I.own
  have hx : (caps.map (capR sc gx))[x]? = some (z, .local) := by rw [List.getElem?_map, hz]; rfl
  have hlt : x < caps.length := (List.getElem?_eq_some_iff.mp hz).1
  rw [nameAt_eq hx]
  funext y
  unfold upd capt
  rw [I.kdC nd]
  by_cases hy : y = z
  · rw [if_pos hy, hy, envOf_at I.nd hx]
    simp [capE, hlt]
  · rw [if_neg hy]
    by_cases hm : y ∈ (caps.map (capR sc gx)).map (·.1)
    · obtain ⟨p, hp, rfl⟩ := List.mem_map.mp hm
      obtain ⟨i, hi, e⟩ := List.mem_iff_getElem.mp hp
      have hi' : (caps.map (capR sc gx))[i]? = some p := by rw [List.getElem?_eq_getElem hi, e]
      have hix : i ≠ x := fun e => by rw [e, hx] at hi'; cases hi'; exact hy rfl
      rw [look_at I.nd hi', envOf_at I.nd hi']
      unfold capE
      rw [List.getElem?_set_ne (fun e => hix e.symm), List.getElem?_map]
      rw [List.getElem?_map] at hi'
      obtain ⟨c, hc, rfl⟩ := Option.map_eq_some_iff.mp hi'
      rw [hc]
      cases c with
      | own x => rfl
      | gl i => rfl
      | free j =>
        obtain ⟨p, h1, _, _, h4⟩ := I.free nd (List.mem_of_getElem? hc)
        show (if some NameKind.cell = some NameKind.cell then envOf sc ρ (nameAt sc j) else none) = Option.join (some (capV ρ (.free j)))
        rw [if_pos rfl, h4, envOf_at nd h1]
        show Option.join ρ[j]? = (match ρ[j]? with | some v => v | none => none)
        cases ρ[j]? <;> rfl
    · rw [envOf_not hm]
      split
      · rename_i h; exact absurd (List.mem_map.mpr ⟨_, mem_of_lookup h, rfl⟩) hm
      · rfl
end
theorem KOk.comp {K : KK} (ok : KOk K) {caps : List Cap} {x : Nat} (I : CompIs K.sc K.gx caps x) (hf : K.free = true) (v : V) : KOk (K.comp caps v) := by
  refine ⟨I.nd, fun p hp => ?_, fun j g hg => ?_, ok.gx, ok.exs⟩
  · obtain ⟨c, hc, rfl⟩ := List.mem_map.mp hp
    have := I.ok c hc
    cases c with
    | own x => exact this
    | free i => obtain ⟨p, h1, _, _, h4⟩ := I.free ok.nd hc; show nameOk (nameAt K.sc i) = true; rw [h4]; exact ok.nm p (List.mem_of_getElem? h1)
    | gl i =>
      replace this : (match K.gx[i]? with | some p => nameOk p.1 | none => false) = true := this
      show nameOk (gnameAt K.gx i) = true
      unfold gnameAt
      cases q : K.gx[i]? with
      | none => rw [q] at this; cases this
      | some p => rw [q] at this; exact this
  · have hg : (caps.map (capG K.gx))[j]? = some (some g) := hg
    rw [List.getElem?_map] at hg
    obtain ⟨c, hc, e⟩ := Option.map_eq_some_iff.mp hg
    cases c with
    | own x => cases e
    | free i => cases e
    | gl i =>
      replace e : (match K.gx[i]? with | some p => some p.2 | none => none) = some g := e
      cases q : K.gx[i]? with
      | none => rw [q] at e; cases e
      | some p =>
        rw [q] at e
        cases e
        refine ⟨p.1, ?_, by rw [show (K.comp caps v).free = K.free from rfl, hf]; exact ok.gx hf p (List.mem_of_getElem? q)⟩
        show (caps.map (capR K.sc K.gx))[j]? = _
        rw [List.getElem?_map, hc]
        simp [capR, gnameAt, q]
end Mine
namespace Mine
open PySem PySem.Calls PySem.SeqAt PySem.W PyProof.Rows
theorem At.more {K : KK} {ρ : Ev} {X : QX} {sn : Snap} {A : Around} {env : Env} {E : Value → Shared → Prop} {H : AH} {s : Shared} {ρ' : Str → Option V} (a : At K ρ X sn A env E) {D : Nat} (I : Inv K.C sn env ρ' H s) :
    At (K.more (.ref D)) ρ X ⟨s.heap, H, ownOf env, [D] ++ sn.fz⟩ A env E :=
  ⟨a.good.again (more := [D]) I, a.kd, Exits.again I (fun _ hb => List.mem_cons_of_mem _ hb) a.exits⟩
theorem and2 {a b : Bool} (h : (a && b) = true) : a = true ∧ b = true := Bool.and_eq_true_iff.mp h
theorem bAnd_out {op : BoolOp} {b : Bool} {M S : Prop} (h : bAnd op b M S) : (b = isAnd op → M) ∧ (b = (!isAnd op) → S) := by
  cases op <;> cases b <;> exact ⟨fun e => (by first | exact h | cases e), fun e => (by first | exact h | cases e)⟩
section
variable {K : KK} {ρ : Ev} {X : QX} {sn : Snap} {A : Around} {env : Env} {E : Value → Shared → Prop} {H : AH}
theorem val_test {e : Expr} {k : Bool → AH → Prop} (h : TM K.C sn A env (envOf K.sc ρ) (eval e env) (fun v H₁ => oTruth (toV v) (fun b => k b H₁) H₁) E H) (he : isTrue e env (eval e env) = (do let v ← eval e env; standAt e.pos; holding [v] (truthy v))) :
    TM K.C sn A env (envOf K.sc ρ) (isTrue e env (eval e env)) k E H := by
  rw [he]
  exact .bind (h.mono fun v H₁ h₁ => .bind (.standAt (.holding ((oTruth_ok h₁).mono fun b H₂ ⟨hb, e⟩ => by subst e; exact hb))))
theorem meth_at {o as : CE} {m : Mth} {t : PT} {Q : QV} (iho : SE o) (iha : SA as) (ok : KOk K) (hc : chkE (.meth m o as) K.sc K.gx K.free t = true) (a : At K ρ X sn A env E)
    (h : wE o K ρ X (fun ov H₁ => oGet m ov (wA as K ρ X (fun vs H₂ => oMeth K.fz m ov vs Q H₂) H₁) H₁) H) : TM K.C sn A env (envOf K.sc ρ) (eval (toE (.meth m o as) K.sc K.gx t) env) (fun v H' => Q (toV v) H') E H := by
  obtain ⟨h1, h2⟩ := and2 hc
  obtain ⟨hl, h1⟩ := and2 h1
  obtain ⟨hn, hb⟩ := and2 h1
  obtain ⟨co, ca⟩ := and2 h2
  have hl : t.q.endLine = t.p.line := Nat.eq_of_beq_eq_true hl
  have hn : lenA as < 30 := Nat.le_of_ble_eq_true hn
  show TM K.C sn A env (envOf K.sc ρ) (eval (.Call (.Attribute (toE o K.sc K.gx t.a) m.name t.q) (toA as K.sc K.gx t.b) [] t.p) env) _ E H
  rw [arm_eval_Call, attributeBase_plain hb]
  refine .bind ((iho K t.a ρ X ok co _ H h sn A env E a).mono fun ov H₁ h₁ => .bind (.standAt ?_))
  obtain ⟨hpa, _⟩ := plain_args (env := env) (pos := t.p) K.sc K.gx as t.b
  have hform : methodCallForm ((toA as K.sc K.gx t.b).length + ([] : List Keyword).length) (backTo t.p (starEach (toA as K.sc K.gx t.b) env)) (backToKw t.p (keywordEach [] env)) = true := by
    have h1 : (backTo t.p (starEach (toA as K.sc K.gx t.b) env)).all (fun x => !x.1) = true := List.all_eq_true.mpr fun x hx => by rw [hpa x hx]; rfl
    unfold methodCallForm
    rw [h1, toA_length]
    simp [keywordEach, backToKw]
    omega
  have hpos : methodCallPos true (toE o K.sc K.gx t.a) env t.q t.p = pure t.p := by unfold methodCallPos; simp [hl]
  unfold methodCall
  rw [hform, hpos]
  refine .bind (.holding ((oGet_ok h₁).mono fun r H₂ hr => ?_))
  obtain ⟨rfl, hk, rfl⟩ := hr
  refine .bind (.pure ?_)
  obtain ⟨_, hts⟩ := args_at (pos := t.p) iha ok ca hk a
  refine tm_callWith_other (fun a e => by cases e) hpa (hts.mono fun vs H₃ h₃ => ?_)
  exact oMeth_ok a.good.room (by rw [a.good.fz]; exact h₃)
theorem call_at {as : CE} {j : Nat} {t : PT} {Q : QV} (iha : SA as) (ok : KOk K) (hc : chkA as K.sc K.gx K.free t.a = true) (a : At K ρ X sn A env E)
    (h : gAt K j fun g => onFn g (wA as K ρ X (fun vs H₁ => oCall K X g vs Q H₁) H)) : TM K.C sn A env (envOf K.sc ρ) (eval (toE (.call j as) K.sc K.gx t) env) (fun v H' => Q (toV v) H') E H := by
  obtain ⟨g, hg, h⟩ := gAt_out h
  obtain ⟨x, hx, load⟩ := glob_at (H := H) (pos := t.q) ok hg a
  show TM K.C sn A env (envOf K.sc ρ) (do callWith t.p (← eval (.Name (nameAt K.sc j) t.q) env) [] (backTo t.p (starEach (toA as K.sc K.gx t.a) env)) (backToKw t.p (keywordEach [] env))) _ E H
  refine .bind ?_
  cases g with
  | con T any =>
    obtain ⟨hpa, hts⟩ := args_at (pos := t.p) iha ok hc h a
    obtain ⟨f, hv, hcl, hm, _⟩ := hx
    refine load hv (tm_callWith hcl hpa (hts.mono fun vs H₁ h₁ => ?_))
    exact hm _ _ Q X H₁ h₁ sn A env (envOf K.sc ρ) E vs rfl a.good a.exits
  | bi b =>
    obtain ⟨hpa, hts⟩ := args_at (pos := t.p) iha ok hc h a
    refine load hx (tm_callWith (Callee.other b.noRef) hpa (hts.mono fun vs H₁ h₁ => ?_))
    obtain ⟨h1, h2⟩ := req_out h₁
    refine oBi_ok (fun e => a.good.hd ?_) (by rw [a.good.fz]; exact h2)
    simpa [e] using h1
  | _ => exact h.elim
theorem isi_at {x : CE} {j j' : Nat} {t : PT} {Q : QV} (ih : SE x) (ok : KOk K) (hc : chkE x K.sc K.gx K.free t.a = true) (a : At K ρ X sn A env E)
    (h : gAt K j fun g => gAt K j' fun g' => onIs g g' (wE x K ρ X (fun v H₁ => oIsG K g g' v Q H₁) H)) : TM K.C sn A env (envOf K.sc ρ) (eval (toE (.isi j j' x) K.sc K.gx t) env) (fun v H' => Q (toV v) H') E H := by
  obtain ⟨g, hg, h⟩ := gAt_out h
  obtain ⟨g', hg', h⟩ := gAt_out h
  obtain ⟨y, hy, load⟩ := glob_at (H := H) (pos := t.q) ok hg a
  show TM K.C sn A env (envOf K.sc ρ) (do callWith t.p (← eval (.Name (nameAt K.sc j) t.q) env) [] (backTo t.p (starEach [toE x K.sc K.gx t.a, .Name (nameAt K.sc j') t.b.p] env)) (backToKw t.p (keywordEach [] env))) _ E H
  rw [starEach_plain (noStar ..).1, starEach_plain rfl]
  have key : wE x K ρ X (fun v H₁ => oIsG K g g' v Q H₁) H → ∀ c : Value, (∀ H₁ (Q' : Value → AH → Prop), Q' c H₁ → TM K.C sn A env (envOf K.sc ρ) (eval (.Name (nameAt K.sc j') t.b.p) env) Q' E H₁) → (∀ v H₁, oIsG K g g' (toV v) Q H₁ → GV K.C y = some (.builtin "isinstance") ∧ TM K.C sn A env (envOf K.sc ρ) (call (.builtin "isinstance") [v, c]) (fun v H' => Q (toV v) H') E H₁) → GV K.C y = some (.builtin "isinstance") →
      TM K.C sn A env (envOf K.sc ρ) (do callWith t.p (← eval (.Name (nameAt K.sc j) t.q) env) [] (backTo t.p ((false, eval (toE x K.sc K.gx t.a) env) :: (false, eval (.Name (nameAt K.sc j') t.b.p) env) :: starEach [] env)) (backToKw t.p (keywordEach [] env))) (fun v H' => Q (toV v) H') E H := by
    intro h c h1 h2 h3
    refine .bind (load h3 (tm_callWith_other (first := []) (fun a e => by cases e) (fun z hz => ?_) ?_))
    · simp [backTo, starEach] at hz
      rcases hz with rfl | rfl <;> rfl
    · show TM K.C sn A env (envOf K.sc ρ) (eval (toE x K.sc K.gx t.a) env) _ E H
      exact (ih K t.a ρ X ok hc _ H h sn A env E a).mono fun v H₁ h₁ => h1 H₁ _ (h2 v H₁ h₁).2
  cases g with
  | isi =>
    have hy : GV K.C y = some (.builtin "isinstance") := hy
    have two : ∀ c : Value, (∀ y', GOk K.C K.d K.free y' g' → GV K.C y' = some c) → (∀ v H₁, oIsG K .isi g' (toV v) Q H₁ → TM K.C sn A env (envOf K.sc ρ) (call (.builtin "isinstance") [v, c]) (fun v H' => Q (toV v) H') E H₁) → wE x K ρ X (fun v H₁ => oIsG K .isi g' v Q H₁) H → _ := fun c h1 h2 h =>
      key h c (fun H₁ Q' q => let ⟨y', hy', load'⟩ := glob_at (H := H₁) (pos := t.b.p) ok hg' a; load' (h1 y' hy') q) (fun v H₁ h₁ => ⟨hy, h2 v H₁ h₁⟩) hy
    cases g' with
    | ty ty => exact two (.type ty.s) (fun y' h => h) (fun v H₁ h₁ => oIsi_ok h₁) h
    | bi b =>
      obtain ⟨ty, hty, h⟩ := got_out h
      refine two (.type ty.s) (fun y' h => by rw [← Bi.ty_val hty]; exact h) (fun v H₁ h₁ => ?_) h
      obtain ⟨ty', hty', h₁⟩ := got_out h₁
      rw [hty] at hty'; cases hty'
      exact oIsi_ok h₁
    | exc i =>
      obtain ⟨y', hy', _⟩ := glob_at (H := H) (pos := t.b.p) ok hg' a
      obtain ⟨b, hb, _⟩ := hy'
      refine two (.ref b) (fun y' h => by obtain ⟨b', h1, h2⟩ := h; rw [hb] at h1; cases h1; exact h2) (fun v H₁ h₁ => ?_) h
      obtain ⟨p, rfl, h₁⟩ := refV h₁
      obtain ⟨n, hp, h₁⟩ := look_out h₁
      cases n <;> try exact h₁.elim
      rename_i i0
      obtain ⟨h1, h2⟩ := req_out h₁
      refine fun s I => ?_
      obtain ⟨_, _, a0, ha0, _⟩ := I.nodes p _ hp
      exact isx_ok hp ha0 (ok.exs _ _ ha0) (.inl ⟨i, b, hb, rfl, ok.exs _ _ hb, h1⟩) h2 s I
    | verr =>
      refine two (.type "ValueError") (fun y' h => h) (fun v H₁ h₁ => ?_) h
      obtain ⟨p, rfl, h₁⟩ := refV h₁
      obtain ⟨n, hp, h₁⟩ := look_out h₁
      cases n <;> try exact h₁.elim
      refine fun s I => ?_
      obtain ⟨_, _, a0, ha0, _⟩ := I.nodes p _ hp
      exact isx_ok hp ha0 (ok.exs _ _ ha0) (.inr rfl) h₁ s I
    | _ => exact h.elim
  | _ => exact h.elim
end
end Mine
namespace Mine
open PySem PySem.Calls PySem.SeqAt PySem.W PyProof.Rows
section
variable {K : KK} {ρ : Ev} {X : QX} {sn : Snap} {A : Around} {env : Env} {E : Value → Shared → Prop} {H : AH}
theorem seq_at {es : CE} {t : PT} {Q : QV} {T : String} {mk : List V → Node} {pos : Pos} (hT : ∀ (vs : List Value), vs.length < 2 ^ 62 → ObjIs K.C { cls := .type T, data := .seq vs.toArray } (mk (vs.map toV))) (ih : SA es) (ok : KOk K) (hc : chkA es K.sc K.gx K.free t = true) (a : At K ρ X sn A env E)
    (h : wA es K ρ X (fun vs H₁ => req (decide (vs.length ≤ 1000)) (Made K.fz (mk vs) Q H₁)) H) : TM K.C sn A env (envOf K.sc ρ) (do standAt pos; let vs ← spliced (backTo pos (starEach (toA es K.sc K.gx t) env)); newObj (.type T) (.seq vs.toArray)) (fun v H' => Q (toV v) H') E H := by
  refine .bind (.standAt ?_)
  obtain ⟨hpa, hts⟩ := args_at (pos := pos) ih ok hc h a
  refine tm_seqDisplay hT ((tm_spliced hpa hts).mono fun vs H₁ h₁ => ?_)
  obtain ⟨h1, h2⟩ := reqp_out h₁
  rw [List.length_map] at h1
  exact ⟨Nat.le_trans h1 (by unfold sizeLine; decide), by rw [a.good.fz]; exact h2.out⟩
theorem slice_at {o : CE} {t : PT} {lo hi : Option Expr} {wl wu : (V → AH → Prop) → AH → Prop} {Q : QV} {p q : Pos} (iho : SE o) (ok : KOk K) (hc : chkE o K.sc K.gx K.free t = true) (a : At K ρ X sn A env E)
    (hl : ∀ Q H, wl Q H → TM K.C sn A env (envOf K.sc ρ) (evalPart lo env) (fun v H' => Q (toV v) H') E H) (hu : ∀ Q H, wu Q H → TM K.C sn A env (envOf K.sc ρ) (evalPart hi env) (fun v H' => Q (toV v) H') E H)
    (h : wE o K ρ X (fun ov H₁ => wl (fun l H₂ => wu (fun u H₃ => oSlice K.fz ov l u Q H₃) H₂) H₁) H) :
    TM K.C sn A env (envOf K.sc ρ) (eval (.Subscript (toE o K.sc K.gx t) (.Slice lo hi none q) p) env) (fun v H' => Q (toV v) H') E H := by
  rw [eval_Subscript]
  refine .bind ((iho K t ρ X ok hc _ H h sn A env E a).mono fun ov H₁ h₁ => ?_)
  have := tm_slice (value := toE o K.sc K.gx t) (pos := p) (pp := q) (o := ov) (Q := Q) ((hl _ H₁ h₁).mono fun l H₂ h₂ => (hu _ H₂ h₂).mono fun u H₃ h₃ => oSlice_ok (by rw [a.good.fz]; exact h₃))
  intro s I
  exact wpAny_bind (wpAny_holding (this s I))
theorem comp_at {v : Value} {caps : List Cap} {x : Nat} {ifs : List Expr} {elt : Expr} {Q : QV} {turn : V → V → (List V → AH → Prop) → List V → AH → Prop} (ok : KOk K) (a : At K ρ X sn A env E) (I : CompIs K.sc K.gx caps x) (hf : K.free = true)
    (ht : ∀ y J ys H', turn (toV v) y J ys H' → ∀ sn' cenv E', At (K.comp caps (toV v)) (capE ρ caps x y) nX sn' A cenv E' → CompTurn K.C sn' A cenv (envOf (K.comp caps (toV v)).sc (capE ρ caps x y)) ifs elt E' J ys H')
    (h : compG K (turn (toV v)) Q (toV v) H) : CompGoal K.C A K.fz K.d (fun y => K.sc.lookup y) (capS K.sc K.gx caps) (envOf K.sc ρ) (nameAt (caps.map (capR K.sc K.gx)) x) ifs elt (toV v) (fun ys H' => made K.fz (.list ys) Q H') H := by
  obtain ⟨xs, hx, hz, J, j0, tn, fin⟩ := h
  refine ⟨xs, hx, hz, J, j0, fun k y ys H' hy hJ sn' cenv E' Gc hkc => ?_, fun ys H' h1 h2 => (fin ys H' h1 h2).out⟩
  rw [I.env ok.nd]
  exact ht y _ ys H' (tn k y ys H' hy hJ) sn' cenv E' ⟨⟨Gc.fz, fun _ => Gc.hd rfl, Gc.depth, Gc.units, Gc.frs⟩, fun y => (hkc y).trans (I.kdC ok.nd y), fun _ _ _ _ _ h => by obtain ⟨_, _, _, _, _, h⟩ := h; exact h.elim⟩
end
def tQ (k : Bool → AH → Prop) : QV := fun v H => oTruth v (fun b => k b H) H
theorem sound : ∀ ce : CE, SE ce ∧ ST ce ∧ SA ce ∧ SB ce ∧ STB ce := by
  intro ce
  have noT : ∀ ce : CE, (∀ K ρ X k H, wT ce K ρ X k H → False) → ST ce := fun ce h K t ρ X ok hc k H hw => (h K ρ X k H hw).elim
  have no3 : ∀ ce : CE, (∀ K ρ X Q H, wA ce K ρ X Q H → False) → (∀ op K ρ X Q H, wB ce op K ρ X Q H → False) → (∀ op K ρ X Q H, wTB ce op K ρ X Q H → False) → SA ce ∧ SB ce ∧ STB ce := fun ce h1 h2 h3 =>
    ⟨fun K t ρ X ok hc k H hw => (h1 K ρ X k H hw).elim, fun op pos K t ρ X ok hc k H hw => (h2 op K ρ X k H hw).elim, fun op K t ρ X ok hc k H hw => (h3 op K ρ X k H hw).elim⟩
  have plain : ∀ ce : CE, SE ce → (∀ K ρ X k H, wT ce K ρ X k H → False) → (∀ K ρ X Q H, wA ce K ρ X Q H → False) → (∀ op K ρ X Q H, wB ce op K ρ X Q H → False) → (∀ op K ρ X Q H, wTB ce op K ρ X Q H → False) → SE ce ∧ ST ce ∧ SA ce ∧ SB ce ∧ STB ce := fun ce h ht h1 h2 h3 =>
    ⟨h, noT ce ht, no3 ce h1 h2 h3⟩
  have tested : ∀ ce : CE, SE ce → (∀ K ρ X k H, wT ce K ρ X k H → wE ce K ρ X (tQ k) H) → (∀ sc gx t env, isTrue (toE ce sc gx t) env (eval (toE ce sc gx t) env) = (do let v ← eval (toE ce sc gx t) env; standAt (toE ce sc gx t).pos; holding [v] (truthy v))) → (∀ K ρ X Q H, wA ce K ρ X Q H → False) → (∀ op K ρ X Q H, wB ce op K ρ X Q H → False) → (∀ op K ρ X Q H, wTB ce op K ρ X Q H → False) → SE ce ∧ ST ce ∧ SA ce ∧ SB ce ∧ STB ce := fun ce h ht hi h1 h2 h3 =>
    ⟨h, fun K t ρ X ok hc k H hw sn A env E a => val_test (h K t ρ X ok hc (tQ k) H (ht K ρ X k H hw) sn A env E a) (hi _ _ _ _), no3 ce h1 h2 h3⟩
  induction ce with
  | none => exact plain _ (fun K t ρ X ok hc Q H h sn A env E a => by show TM _ _ _ _ _ (eval (.Constant .none t.i t.p) env) _ _ _; rw [eval_Constant]; exact .pure h) (fun _ _ _ _ _ h => h) (fun _ _ _ _ _ h => h) (fun _ _ _ _ _ _ h => h) fun _ _ _ _ _ _ h => h
  | bool b => exact tested _ (fun K t ρ X ok hc Q H h sn A env E a => by show TM _ _ _ _ _ (eval (.Constant (.bool b) t.i t.p) env) _ _ _; rw [eval_Constant]; exact .pure h) (fun _ _ _ _ _ h => h) (fun _ _ _ _ => rfl) (fun _ _ _ _ _ h => h) (fun _ _ _ _ _ _ h => h) fun _ _ _ _ _ _ h => h
  | int i => exact plain _ (fun K t ρ X ok hc Q H h sn A env E a => by show TM _ _ _ _ _ (eval (.Constant (.int i) t.i t.p) env) _ _ _; rw [eval_Constant]; exact .mkInt fun _ => h) (fun _ _ _ _ _ h => h) (fun _ _ _ _ _ h => h) (fun _ _ _ _ _ _ h => h) fun _ _ _ _ _ _ h => h
  | str s => exact plain _ (fun K t ρ X ok hc Q H h sn A env E a => by show TM _ _ _ _ _ (eval (.Constant (.str (tx s)) t.i t.p) env) _ _ _; rw [eval_Constant]; exact .mkText fun _ => h) (fun _ _ _ _ _ h => h) (fun _ _ _ _ _ h => h) (fun _ _ _ _ _ _ h => h) fun _ _ _ _ _ _ h => h
  | var i =>
    refine tested _ (fun K t ρ X ok hc Q H h sn A env E a => ?_) (fun _ _ _ _ _ h => h) (fun _ _ _ _ => rfl) (fun _ _ _ _ _ h => h) (fun _ _ _ _ _ _ h => h) fun _ _ _ _ _ _ h => h
    obtain ⟨v, hv, h⟩ := oVar_out h
    have hc : (match K.sc[i]? with | some _ => true | none => false) = true := hc
    cases q : K.sc[i]? with
    | none => rw [q] at hc; cases hc
    | some p => exact name_at (X := X) ok q hv h
  | glob j =>
    refine plain _ (fun K t ρ X ok hc Q H h sn A env E a => ?_) (fun _ _ _ _ _ h => h) (fun _ _ _ _ _ h => h) (fun _ _ _ _ _ _ h => h) fun _ _ _ _ _ _ h => h
    obtain ⟨g, hg, h⟩ := gAt_out h
    obtain ⟨x, hx, load⟩ := glob_at (H := H) (pos := t.p) ok hg a
    cases g <;> try exact h.elim
    obtain ⟨cv, hv, rfl⟩ := hx
    exact load hv h
  | bin op a b iha ihb =>
    refine plain _ (fun K t ρ X ok hc Q H h sn A env E at_ => ?_) (fun _ _ _ _ _ h => h) (fun _ _ _ _ _ h => h) (fun _ _ _ _ _ _ h => h) fun _ _ _ _ _ _ h => h
    obtain ⟨c1, c2⟩ := and2 hc
    show TM _ _ _ _ _ (eval (.BinOp (toE a K.sc K.gx t.a) op (toE b K.sc K.gx t.b) t.p) env) _ _ _
    rw [eval_BinOp]
    exact .bind ((iha.1 K t.a ρ X ok c1 _ H h sn A env E at_).mono fun x H₁ h₁ => .bind (.holding ((ihb.1 K t.b ρ X ok c2 _ H₁ h₁ sn A env E at_).mono fun y H₂ h₂ => .bind (.standAt (.operate (oBin_ok (by rw [at_.good.fz]; exact h₂)))))))
  | not a iha =>
    refine ⟨fun K t ρ X ok hc Q H h sn A env E at_ => ?_, fun K t ρ X ok hc k H h sn A env E at_ => ?_, no3 _ (fun _ _ _ _ _ h => h) (fun _ _ _ _ _ _ h => h) fun _ _ _ _ _ _ h => h⟩
    · show TM _ _ _ _ _ (eval (.UnaryOp .Not (toE a K.sc K.gx t.a) t.p) env) _ _ _
      rw [arm_eval_UnaryOp]
      refine .bind ((iha.1 K t.a ρ X ok hc _ H h sn A env E at_).mono fun v H₁ h₁ => .bind (.standAt (.holding ?_)))
      show TM K.C sn A env _ (unaryOp .Not v) _ E H₁
      unfold unaryOp
      refine .holding ?_
      show TM K.C sn A env _ (do return Value.bool (!(← truthy v))) _ E H₁
      exact .bind ((oTruth_ok h₁).mono fun b H₂ ⟨hb, e⟩ => by subst e; exact .pure hb)
    · show TM _ _ _ _ _ (isTrue (.UnaryOp .Not (toE a K.sc K.gx t.a) t.p) env _) _ _ _
      rw [arm_isTrue_UnaryOp]
      exact .bind ((iha.2.1 K t.a ρ X ok hc _ H h sn A env E at_).mono fun b H₁ h₁ => .pure h₁)
  | neg a iha =>
    refine plain _ (fun K t ρ X ok hc Q H h sn A env E at_ => ?_) (fun _ _ _ _ _ h => h) (fun _ _ _ _ _ h => h) (fun _ _ _ _ _ _ h => h) fun _ _ _ _ _ _ h => h
    show TM _ _ _ _ _ (eval (.UnaryOp .USub (toE a K.sc K.gx t.a) t.p) env) _ _ _
    rw [arm_eval_UnaryOp]
    refine .bind ((iha.1 K t.a ρ X ok hc _ H h sn A env E at_).mono fun v H₁ h₁ => .bind (.standAt (.holding ?_)))
    obtain ⟨i, t', rfl, h₁⟩ := intV h₁
    intro s I
    exact PyProof.Rows.neg_int ⟨H₁, I.toks _, h₁⟩
  | bop op es ih =>
    refine ⟨fun K t ρ X ok hc Q H h sn A env E at_ => ?_, fun K t ρ X ok hc k H h sn A env E at_ => ?_, no3 _ (fun _ _ _ _ _ h => h) (fun _ _ _ _ _ _ h => h) fun _ _ _ _ _ _ h => h⟩
    · show TM _ _ _ _ _ (eval (.BoolOp op (toA es K.sc K.gx t.a) t.p) env) _ _ _
      rw [arm_eval_BoolOp]
      exact ih.2.2.2.1 op t.p K t.a ρ X ok hc Q H h sn A env E at_
    · show TM _ _ _ _ _ (isTrue (.BoolOp op (toA es K.sc K.gx t.a) t.p) env _) _ _ _
      rw [arm_isTrue_BoolOp]
      exact ih.2.2.2.2 op K t.a ρ X ok hc k H h sn A env E at_
  | ife c a b ihc iha ihb =>
    refine plain _ (fun K t ρ X ok hc Q H h sn A env E at_ => ?_) (fun _ _ _ _ _ h => h) (fun _ _ _ _ _ h => h) (fun _ _ _ _ _ _ h => h) fun _ _ _ _ _ _ h => h
    obtain ⟨c1, c2⟩ := and2 hc
    obtain ⟨c2, c3⟩ := and2 c2
    show TM _ _ _ _ _ (eval (.IfExp (toE c K.sc K.gx t.a) (toE a K.sc K.gx t.b) (toE b K.sc K.gx t.c) t.p) env) _ _ _
    rw [arm_eval_IfExp]
    refine .bind ((ihc.2.1 K t.a ρ X ok c1 _ H h sn A env E at_).mono fun r H₁ h₁ => ?_)
    cases r
    · exact ihb.1 K t.c ρ X ok c3 Q H₁ h₁ sn A env E at_
    · exact iha.1 K t.b ρ X ok c2 Q H₁ h₁ sn A env E at_
  | cmp op a b iha ihb =>
    have key : ∀ (K : KK) (t : PT) (ρ : Ev) (X : QX), KOk K → chkE (.cmp op a b) K.sc K.gx K.free t = true → ∀ (k : Bool → AH → Prop) (H : AH), wT (.cmp op a b) K ρ X k H → ∀ sn A env E, At K ρ X sn A env E →
        TM K.C sn A env (envOf K.sc ρ) (eval (toE a K.sc K.gx t.a) env) (fun x H₁ => TM K.C sn A env (envOf K.sc ρ) (compareChain t.p x [op] [eval (toE b K.sc K.gx t.b) env]) (fun v H' => ∃ r, v = .bool r ∧ k r H') E H₁ ∧ TM K.C sn A env (envOf K.sc ρ) (testChain t.p x [op] [eval (toE b K.sc K.gx t.b) env]) (fun r H' => k r H') E H₁) E H := by
      intro K t ρ X ok hc k H h sn A env E at_
      obtain ⟨c1, c2⟩ := and2 hc
      exact (iha.1 K t.a ρ X ok c1 _ H h sn A env E at_).mono fun x H₁ h₁ => cmp1_at at_.good.room (ihb.1 K t.b ρ X ok c2 _ H₁ h₁ sn A env E at_)
    refine ⟨fun K t ρ X ok hc Q H h sn A env E at_ => ?_, fun K t ρ X ok hc k H h sn A env E at_ => ?_, no3 _ (fun _ _ _ _ _ h => h) (fun _ _ _ _ _ _ h => h) fun _ _ _ _ _ _ h => h⟩
    · show TM _ _ _ _ _ (eval (.Compare (toE a K.sc K.gx t.a) [op] [toE b K.sc K.gx t.b] t.p) env) _ _ _
      rw [arm_eval_Compare, marked1 (noStar ..).2]
      exact .bind ((key K t ρ X ok hc (fun r H => Q (.bool r) H) H h sn A env E at_).mono fun x H₁ h₁ => h₁.1.mono fun v H₂ ⟨r, e, q⟩ => by subst e; exact q)
    · show TM _ _ _ _ _ (isTrue (.Compare (toE a K.sc K.gx t.a) [op] [toE b K.sc K.gx t.b] t.p) env _) _ _ _
      rw [arm_isTrue_Compare, marked1 (noStar ..).2]
      exact .bind ((key K t ρ X ok hc k H h sn A env E at_).mono fun x H₁ h₁ => h₁.2)
  | cmp2 op op' a b c iha ihb ihc =>
    have key : ∀ (K : KK) (t : PT) (ρ : Ev) (X : QX), KOk K → chkE (.cmp2 op op' a b c) K.sc K.gx K.free t = true → ∀ (k : Bool → AH → Prop) (H : AH), wT (.cmp2 op op' a b c) K ρ X k H → ∀ sn A env E, At K ρ X sn A env E →
        TM K.C sn A env (envOf K.sc ρ) (eval (toE a K.sc K.gx t.a) env) (fun x H₁ => TM K.C sn A env (envOf K.sc ρ) (compareChain t.p x [op, op'] [eval (toE b K.sc K.gx t.b) env, eval (toE c K.sc K.gx t.c) env]) (fun v H' => ∃ r, v = .bool r ∧ k r H') E H₁ ∧ TM K.C sn A env (envOf K.sc ρ) (testChain t.p x [op, op'] [eval (toE b K.sc K.gx t.b) env, eval (toE c K.sc K.gx t.c) env]) (fun r H' => k r H') E H₁) E H := by
      intro K t ρ X ok hc k H h sn A env E at_
      obtain ⟨c1, c2⟩ := and2 hc
      obtain ⟨c2, c3⟩ := and2 c2
      exact (iha.1 K t.a ρ X ok c1 _ H h sn A env E at_).mono fun x H₁ h₁ => cmp2_at (W := fun y H₂ => wE c K ρ X (fun z H₃ => oCmp2 op' y z (fun r => k r H₃) H₃) H₂) at_.good.room (fun y H₂ h₂ => ihc.1 K t.c ρ X ok c3 _ H₂ h₂ sn A env E at_) (ihb.1 K t.b ρ X ok c2 _ H₁ h₁ sn A env E at_)
    refine ⟨fun K t ρ X ok hc Q H h sn A env E at_ => ?_, fun K t ρ X ok hc k H h sn A env E at_ => ?_, no3 _ (fun _ _ _ _ _ h => h) (fun _ _ _ _ _ _ h => h) fun _ _ _ _ _ _ h => h⟩
    · show TM _ _ _ _ _ (eval (.Compare (toE a K.sc K.gx t.a) [op, op'] [toE b K.sc K.gx t.b, toE c K.sc K.gx t.c] t.p) env) _ _ _
      rw [arm_eval_Compare, marked2 (noStar ..).2]
      exact .bind ((key K t ρ X ok hc (fun r H => Q (.bool r) H) H h sn A env E at_).mono fun x H₁ h₁ => h₁.1.mono fun v H₂ ⟨r, e, q⟩ => by subst e; exact q)
    · show TM _ _ _ _ _ (isTrue (.Compare (toE a K.sc K.gx t.a) [op, op'] [toE b K.sc K.gx t.b, toE c K.sc K.gx t.c] t.p) env _) _ _ _
      rw [arm_isTrue_Compare, marked2 (noStar ..).2]
      exact .bind ((key K t ρ X ok hc k H h sn A env E at_).mono fun x H₁ h₁ => h₁.2)
  | meth m o as iho iha => exact tested _ (fun K t ρ X ok hc Q H h sn A env E at_ => meth_at iho.1 iha.2.2.1 ok hc at_ h) (fun _ _ _ _ _ h => h) (fun _ _ _ _ => rfl) (fun _ _ _ _ _ h => h) (fun _ _ _ _ _ _ h => h) fun _ _ _ _ _ _ h => h
  | call j as iha => exact tested _ (fun K t ρ X ok hc Q H h sn A env E at_ => call_at iha.2.2.1 ok hc at_ h) (fun _ _ _ _ _ h => h) (fun _ _ _ _ => rfl) (fun _ _ _ _ _ h => h) (fun _ _ _ _ _ _ h => h) fun _ _ _ _ _ _ h => h
  | isi j j' x ih => exact tested _ (fun K t ρ X ok hc Q H h sn A env E at_ => isi_at ih.1 ok hc at_ h) (fun _ _ _ _ _ h => h) (fun _ _ _ _ => rfl) (fun _ _ _ _ _ h => h) (fun _ _ _ _ _ _ h => h) fun _ _ _ _ _ _ h => h
  | list es ih =>
    refine plain _ (fun K t ρ X ok hc Q H h sn A env E at_ => ?_) (fun _ _ _ _ _ h => h) (fun _ _ _ _ _ h => h) (fun _ _ _ _ _ _ h => h) fun _ _ _ _ _ _ h => h
    show TM _ _ _ _ _ (eval (.List (toA es K.sc K.gx t.a) t.p) env) _ _ _
    rw [arm_eval_List]
    exact seq_at (mk := .list) (fun vs hz => ⟨by simpa using hz, _, _, rfl, by simp⟩) ih.2.2.1 ok hc at_ h
  | tup es ih =>
    refine plain _ (fun K t ρ X ok hc Q H h sn A env E at_ => ?_) (fun _ _ _ _ _ h => h) (fun _ _ _ _ _ h => h) (fun _ _ _ _ _ _ h => h) fun _ _ _ _ _ _ h => h
    show TM _ _ _ _ _ (eval (.Tuple (toA es K.sc K.gx t.a) t.i t.p) env) _ _ _
    rw [arm_eval_Tuple]
    exact seq_at (mk := .tuple) (fun vs hz => ⟨by simpa using hz, rfl, rfl, _, _, rfl, by simp⟩) ih.2.2.1 ok hc at_ h
  | dict0 =>
    refine plain _ (fun K t ρ X ok hc Q H h sn A env E at_ => ?_) (fun _ _ _ _ _ h => h) (fun _ _ _ _ _ h => h) (fun _ _ _ _ _ _ h => h) fun _ _ _ _ _ _ h => h
    intro s I
    have hD := get_size s.heap
    refine wpAny_Dict_empty ⟨_, I.come (n := .sdict []) (tk := s.toks) (fun b o e => Heap.get?_push_of_some _ e) hD ⟨_, Heap.get?_push_size _ rfl, by simp, [], ?_, rfl⟩, h.out _ (I.none_of_new hD) (by rw [← at_.good.fz]; exact I.notFz (I.none_of_new hD))⟩
    exact ⟨#[], 0, ⟨rfl, rfl, rfl⟩, rfl, fun _ h => by simp at h, .nil, List.nodup_nil⟩
  | dict1 k v ihk ihv =>
    refine plain _ (fun K t ρ X ok hc Q H h sn A env E at_ => ?_) (fun _ _ _ _ _ h => h) (fun _ _ _ _ _ h => h) (fun _ _ _ _ _ _ h => h) fun _ _ _ _ _ _ h => h
    obtain ⟨c1, c2⟩ := and2 hc
    refine tm_dict1 fun D s' hn hnf I' => ?_
    have h := h D hn (by rw [← at_.good.fz]; exact hnf)
    have at' := at_.more (D := D) I'
    have J := I'.snap (fz' := [D] ++ sn.fz) fun b hb => by
      rcases List.mem_cons.mp hb with rfl | hb
      · exact ⟨_, AH.set_self ..⟩
      · exact (I'.frz b hb).2
    refine wpAny_mono (ihk.1 (K.more (.ref D)) t.a ρ X (ok.more _) c1 _ _ h _ A env E at' s' J) (fun kv s₁ h₁ => ?_) fun _ _ e => e
    obtain ⟨H₁, J₁, h₁⟩ := h₁
    refine ⟨H₁, J₁, wpAny_mono (ihv.1 (K.more (.ref D)) t.b ρ X (ok.more _) c2 _ _ h₁ _ A env E at' s₁ J₁) (fun vv s₂ h₂ => ?_) fun _ _ e => e⟩
    obtain ⟨H₂, J₂, h₂⟩ := h₂
    obtain ⟨x, e, h₂⟩ := onStr_out h₂
    exact ⟨H₂, x, e, J₂, h₂⟩
  | sub o i iho ihi =>
    refine tested _ (fun K t ρ X ok hc Q H h sn A env E at_ => ?_) (fun _ _ _ _ _ h => h) (fun _ _ _ _ => rfl) (fun _ _ _ _ _ h => h) (fun _ _ _ _ _ _ h => h) fun _ _ _ _ _ _ h => h
    obtain ⟨c1, c2⟩ := and2 hc
    show TM _ _ _ _ _ (eval (.Subscript (toE o K.sc K.gx t.a) (toE i K.sc K.gx t.b) t.p) env) _ _ _
    rw [eval_Subscript]
    refine .bind ((iho.1 K t.a ρ X ok c1 _ H h sn A env E at_).mono fun ov H₁ h₁ => .bind (.holding ((ihi.1 K t.b ρ X ok c2 _ H₁ h₁ sn A env E at_).mono fun iv H₂ h₂ => .bind (.standAt ?_))))
    exact (oIdx_ok (value := toE o K.sc K.gx t.a) (slice := toE i K.sc K.gx t.b) h₂).mono fun r H₃ ⟨hr, e⟩ => by subst e; exact hr
  | slice o iho =>
    refine plain _ (fun K t ρ X ok hc Q H h sn A env E at_ => ?_) (fun _ _ _ _ _ h => h) (fun _ _ _ _ _ h => h) (fun _ _ _ _ _ _ h => h) fun _ _ _ _ _ _ h => h
    exact slice_at (lo := none) (hi := none) (wl := fun Q H => Q .none H) (wu := fun Q H => Q .none H) iho.1 ok hc at_ (fun Q H h => by rw [evalPart_none]; exact .pure h) (fun Q H h => by rw [evalPart_none]; exact .pure h) h
  | sliceT o b iho ihb =>
    refine plain _ (fun K t ρ X ok hc Q H h sn A env E at_ => ?_) (fun _ _ _ _ _ h => h) (fun _ _ _ _ _ h => h) (fun _ _ _ _ _ _ h => h) fun _ _ _ _ _ _ h => h
    obtain ⟨c1, c2⟩ := and2 hc
    exact slice_at (lo := none) (hi := some (toE b K.sc K.gx t.b)) (wl := fun Q H => Q .none H) (wu := fun Q H => wE b K ρ X Q H) iho.1 ok c1 at_ (fun Q H h => by rw [evalPart_none]; exact .pure h) (fun Q H h => by rw [evalPart_some]; exact ihb.1 K t.b ρ X ok c2 Q H h sn A env E at_) h
  | sliceF o b iho ihb =>
    refine plain _ (fun K t ρ X ok hc Q H h sn A env E at_ => ?_) (fun _ _ _ _ _ h => h) (fun _ _ _ _ _ h => h) (fun _ _ _ _ _ _ h => h) fun _ _ _ _ _ _ h => h
    obtain ⟨c1, c2⟩ := and2 hc
    exact slice_at (lo := some (toE b K.sc K.gx t.b)) (hi := none) (wl := fun Q H => wE b K ρ X Q H) (wu := fun Q H => Q .none H) iho.1 ok c1 at_ (fun Q H h => by rw [evalPart_some]; exact ihb.1 K t.b ρ X ok c2 Q H h sn A env E at_) (fun Q H h => by rw [evalPart_none]; exact .pure h) h
  | slice2 o a b iho iha ihb =>
    refine plain _ (fun K t ρ X ok hc Q H h sn A env E at_ => ?_) (fun _ _ _ _ _ h => h) (fun _ _ _ _ _ h => h) (fun _ _ _ _ _ _ h => h) fun _ _ _ _ _ _ h => h
    obtain ⟨c1, c2⟩ := and2 hc
    obtain ⟨c2, c3⟩ := and2 c2
    exact slice_at (lo := some (toE a K.sc K.gx t.b)) (hi := some (toE b K.sc K.gx t.c)) (wl := fun Q H => wE a K ρ X Q H) (wu := fun Q H => wE b K ρ X Q H) iho.1 ok c1 at_ (fun Q H h => by rw [evalPart_some]; exact iha.1 K t.b ρ X ok c2 Q H h sn A env E at_) (fun Q H h => by rw [evalPart_some]; exact ihb.1 K t.c ρ X ok c3 Q H h sn A env E at_) h
  | comp elt it caps x ihe ihi =>
    refine plain _ (fun K t ρ X ok hc Q H h sn A env E at_ => ?_) (fun _ _ _ _ _ h => h) (fun _ _ _ _ _ h => h) (fun _ _ _ _ _ _ h => h) fun _ _ _ _ _ _ h => h
    obtain ⟨c1, c2⟩ := and2 hc
    obtain ⟨hf, c1⟩ := and2 c1
    obtain ⟨c2, c3⟩ := and2 c2
    have I := compIs_of c1
    have G' : Good K.C K.fz K.d true sn A env := ⟨at_.good.fz, fun _ => at_.good.hd hf, at_.good.depth, at_.good.units, at_.good.frs⟩
    refine tm_comp G' at_.kd (I.compOk ok.nd) (Nat.zero_le _) (notSet _ _ _ _) ((ihi.1 K t.b ρ X ok c2 _ H h sn A env E at_).mono fun v H₁ h₁ => ?_)
    exact comp_at (turn := fun v y J ys H' => wE elt (K.comp caps v) (capE ρ caps x y) nX (fun u H₂ => J (ys ++ [u]) H₂) H') ok at_ I hf (fun y J ys H' hw sn' cenv E' a' => ihe.1 (K.comp caps (toV v)) t.a _ nX (ok.comp I hf _) c3 _ H' hw sn' A cenv E' a') h₁
  | compIf elt it c caps x ihe ihi ihc =>
    refine plain _ (fun K t ρ X ok hc Q H h sn A env E at_ => ?_) (fun _ _ _ _ _ h => h) (fun _ _ _ _ _ h => h) (fun _ _ _ _ _ _ h => h) fun _ _ _ _ _ _ h => h
    obtain ⟨c1, c2⟩ := and2 hc
    obtain ⟨hf, c1⟩ := and2 c1
    obtain ⟨c2, c3⟩ := and2 c2
    obtain ⟨c3, c4⟩ := and2 c3
    have I := compIs_of c1
    have G' : Good K.C K.fz K.d true sn A env := ⟨at_.good.fz, fun _ => at_.good.hd hf, at_.good.depth, at_.good.units, at_.good.frs⟩
    refine tm_comp G' at_.kd (I.compOk ok.nd) (Nat.le_refl _) (notSet _ _ _ _) ((ihi.1 K t.b ρ X ok c2 _ H h sn A env E at_).mono fun v H₁ h₁ => ?_)
    refine comp_at (turn := fun v y J ys H' => wT c (K.comp caps v) (capE ρ caps x y) nX (fun b H₂ => br b (wE elt (K.comp caps v) (capE ρ caps x y) nX (fun u H₃ => J (ys ++ [u]) H₃) H₂) (J ys H₂)) H') ok at_ I hf (fun y J ys H' hw sn' cenv E' a' => ?_) h₁
    refine (ihc.2.1 (K.comp caps (toV v)) t.c _ nX (ok.comp I hf _) c4 _ H' hw sn' A cenv E' a').mono fun b H₂ h₂ => ?_
    cases b
    · exact h₂
    · exact ihe.1 (K.comp caps (toV v)) t.a _ nX (ok.comp I hf _) c3 _ H₂ h₂ sn' A cenv E' a'
  | nil => exact ⟨fun K t ρ X ok hc Q H h => h.elim, noT _ fun _ _ _ _ _ h => h, fun K t ρ X ok hc Q H h sn A env E a => h, fun op pos K t ρ X ok hc Q H h => h.elim, fun op K t ρ X ok hc k H h sn A env E a => by
      show TM _ _ _ _ _ (allTrue op [] env) _ _ _; rw [arm_allTrue_nil]; cases op <;> exact .pure h⟩
  | cons a r iha ihr =>
    refine ⟨fun K t ρ X ok hc Q H h => h.elim, noT _ fun _ _ _ _ _ h => h, fun K t ρ X ok hc Q H h sn A env E at_ => ?_, fun op pos K t ρ X ok hc Q H h sn A env E at_ => ?_, fun op K t ρ X ok hc k H h sn A env E at_ => ?_⟩
    · obtain ⟨c1, c2⟩ := and2 hc
      exact (iha.1 K t.a ρ X ok c1 _ H h sn A env E at_).mono fun v H₁ h₁ => ihr.2.2.1 K t.b ρ X ok c2 _ H₁ h₁ sn A env E at_
    · obtain ⟨c1, c2⟩ := and2 hc
      cases r <;> try exact h.elim
      case nil => exact iha.1 K t.a ρ X ok c1 Q H h sn A env E at_
      case cons a' r' =>
        show TM K.C sn A env _ (do
          let v ← eval (toE a K.sc K.gx t.a) env
          standAt pos
          let b ← holding [v] (truthy v)
          match op, b with
          | .And, false | .Or, true => pure v
          | _, _ => boolOp pos op (evalEach (toA (.cons a' r') K.sc K.gx t.b) env)) _ E H
        refine .bind ((iha.1 K t.a ρ X ok c1 _ H h sn A env E at_).mono fun v H₁ h₁ => .bind (.standAt (.bind (.holding ((oTruth_ok h₁).mono fun b H₂ hb => ?_)))))
        obtain ⟨hb, rfl⟩ := hb
        have hb := bAnd_out hb
        have rest : wB (.cons a' r') op K ρ X Q H₂ → _ := fun h => ihr.2.2.2.1 op pos K t.b ρ X ok c2 Q H₂ h sn A env E at_
        cases op <;> cases b
        · exact .pure (hb.2 rfl)
        · exact rest (hb.1 rfl)
        · exact rest (hb.1 rfl)
        · exact .pure (hb.2 rfl)
    · obtain ⟨c1, c2⟩ := and2 hc
      show TM _ _ _ _ _ (allTrue op (toE a K.sc K.gx t.a :: toA r K.sc K.gx t.b) env) _ _ _
      rw [arm_allTrue_cons]
      refine .bind ((iha.2.1 K t.a ρ X ok c1 _ H h sn A env E at_).mono fun b H₁ h₁ => ?_)
      have hb := bAnd_out h₁
      have rest : wTB r op K ρ X k H₁ → _ := fun h => ihr.2.2.2.2 op K t.b ρ X ok c2 k H₁ h sn A env E at_
      cases op <;> cases b
      · exact .pure (hb.2 rfl)
      · exact rest (hb.1 rfl)
      · exact rest (hb.1 rfl)
      · exact .pure (hb.2 rfl)
end Mine
namespace Mine
open PySem PySem.Calls PySem.SeqAt PySem.W PyProof.Rows
structure AtS (K : KK) (X : XS) (sn : Snap) (A : Around) (env : Env) (E : Value → Shared → Prop) : Prop where
  good : Good K.C K.fz K.d K.free sn A env
  stk : Stk K.C sn A env
  kd : ∀ y, env.kindOf y = K.sc.lookup y
  exits : Exits K.C sn env (fun cls ρf H' => ∃ ρl, ρf = envOf K.sc ρl ∧ Xv K.C (fun i H => X i ρl H) cls H') E
theorem AtS.at {K : KK} {X : XS} {sn : Snap} {A : Around} {env : Env} {E : Value → Shared → Prop} (a : AtS K X sn A env E) (ρ : Ev) : At K ρ (fun i H => X i ρ H) sn A env E :=
  ⟨a.good, a.kd, fun cls ρf H' e s h F => a.exits cls ρf H' e s ⟨ρ, h.1, h.2⟩ F⟩
def PE (K : KK) (R : PS) : Flow → (Str → Option V) → AH → Prop := fun f ρf H' => ∃ ρl, ρf = envOf K.sc ρl ∧ R (toF f) ρl H'
section
variable {α : Type} {C : Cx} {sn : Snap} {A : Around} {env : Env} {ρ ρ₀ : Str → Option V} {H : AH} {s : Shared} {E : Value → Shared → Prop}
theorem TR.less {m : Sem α} {Q : α → (Str → Option V) → AH → Prop} (h : ∀ x v, ρ₀ x = some v → ρ x = some v) (t : TR C sn A env m Q E ρ₀ H) : TR C sn A env m Q E ρ H := fun s I => t s (I.less h)
theorem set_less {sc : Sc} {l : Ev} {i : Nat} {p : Str × NameKind} {v : V} (nd : (sc.map (·.1)).Nodup) (hi : sc[i]? = some p) : ∀ y w, envOf sc (l.set i (some v)) y = some w → upd (envOf sc l) (nameAt sc i) v y = some w := fun y w h => by
  rw [nameAt_eq hi]
  unfold upd
  rcases envOf_set nd hi h with ⟨e1, e2⟩ | ⟨e1, e2⟩
  · rw [if_pos e1]; exact e2
  · rw [if_neg e1]; exact e2
theorem storeB_out {sc : Sc} {i : Nat} (h : storeB sc i = true) : ∃ p, sc[i]? = some p ∧ (p.2 = .local ∨ p.2 = .cell) := by
  unfold storeB at h
  cases q : sc[i]? with
  | none => rw [q] at h; cases h
  | some p => rw [q] at h; simp only [Bool.or_eq_true, beq_iff_eq] at h; exact ⟨p, rfl, h⟩
theorem store_at {K : KK} {ρ : Ev} {i : Nat} {cv : Value} {Q : Unit → (Str → Option V) → AH → Prop} (ok : KOk K) (hs : storeB K.sc i = true) (kd : ∀ y, env.kindOf y = K.sc.lookup y) (h : Q () (envOf K.sc (ρ.set i (some (toV cv)))) H) :
    TR K.C sn A env (storeName env (nameAt K.sc i) cv) Q E (envOf K.sc ρ) H := by
  obtain ⟨p, hp, hk⟩ := storeB_out hs
  have hl : env.kindOf (nameAt K.sc i) = some p.2 := by rw [nameAt_eq hp, kd]; exact look_at ok.nd hp
  intro s I
  refine wpAny_mono (TR.storeVar (by rw [hl]; rcases hk with e | e <;> rw [e] <;> simp) (Q := fun _ ρ' H' => ρ' = upd (envOf K.sc ρ) (nameAt K.sc i) (toV cv) ∧ H' = H) ⟨rfl, rfl⟩ s I) (fun _ s' h' => ?_) fun _ _ e => e
  obtain ⟨ρ', H', I', rfl, rfl⟩ := h'
  exact ⟨_, _, I'.less (set_less ok.nd hp), h⟩
theorem noComp_swap {ce : CE} {sc : Sc} {gx : Gx} {t : PT} {tg : Option Expr} {line : Nat} (h : notComp ce = true) : swapsWith (toE ce sc gx t) tg line env = pure false := by
  unfold swapsWith
  cases ce <;> first | rfl | cases h
theorem TMs.length {ts : List (Sem Value)} {Q : List Value → AH → Prop} (h : TMs C sn A env ρ E ts Q H) : TMs C sn A env ρ E ts (fun vs H' => vs.length = ts.length ∧ Q vs H') H := by
  induction ts generalizing Q H with
  | nil => exact ⟨rfl, h⟩
  | cons t r ih => exact TM.mono h fun v H₁ h₁ => (ih h₁).mono fun vs H₂ ⟨h1, h2⟩ => ⟨by simp [h1], h2⟩
theorem raise_at {K : KK} {X : XS} {ρ : Ev} {R : PS} {as : CE} {j : Nat} {t : PT} (ok : KOk K) (hf : K.free = true) (hn : lenA as < 30) (hc : chkA as K.sc K.gx K.free t.a = true) (a : AtS K X sn A env E)
    (h : gAt K j fun g => isExc g fun i => wA as K ρ (fun i H => X i ρ H) (fun _ H₁ => X i ρ H₁) H) :
    TR K.C sn A env (exec (.Raise (some (.Call (.Name (nameAt K.sc j) t.q) (toA as K.sc K.gx t.a) [] t.b.p)) none t.p) env) (PE K R) E (envOf K.sc ρ) H := by
  intro s I
  obtain ⟨g, hg, h⟩ := gAt_out h
  have hx : ∃ i, g = .exc i ∧ wA as K ρ (fun i H => X i ρ H) (fun _ H₁ => X i ρ H₁) H := by cases g <;> first | exact h.elim | exact ⟨_, rfl, h⟩
  obtain ⟨i, rfl, h⟩ := hx
  obtain ⟨x, ⟨b, hb, hv⟩, load⟩ := glob_at (H := H) (pos := t.q) ok hg (a.at ρ)
  obtain ⟨nm, q, N, bs, bm, hdct, sn', sub, ab, col, dd, k0, k1, k2, k3, k5, mN, hC, hN, hini, hT, _⟩ := (ok.exs i b hb).obj
  obtain ⟨hpa, hts⟩ := args_at (pos := t.b.p) (sound as).2.2.1 ok hc h (a.at ρ)
  refine wpAny_Raise_call_subU (newId := "ValueError.__new__") (C := b) (N := N) (bm := bm) (nm := nm) (q := q) (bs := bs) (hdct := hdct) (sn := sn') (sub := sub) (ab := ab) (col := col) (dd := dd) (k0 := k0) (k1 := k1) (k2 := k2) (k3 := k3) (k5 := k5) (mN := mN)
    F.excBase_ValueError (by decide) F.excBase_ValueError (hT.hasType (by decide)) (a.good.hd hf) (by rw [List.any_eq_false]; intro z hz; rw [hpa z hz]; simp) hini ?_
  refine wpAny_mono (load (Q := fun f H' => f = .ref b ∧ H' = H) hv ⟨rfl, rfl⟩ s I) (fun f s₁ h₁ => ?_) fun _ _ e => e
  obtain ⟨_, I₁, rfl, rfl⟩ := h₁
  refine ⟨rfl, wpAny_mono (tm_evalArgs (f := .ref b) (Q := fun args H₁ => args.kw = [] ∧ args.pos.length ≤ sizeLine ∧ X i ρ H₁) hpa (hts.length.mono fun vs H₁ h₁ => ⟨rfl, ?_, h₁.2⟩) s₁ I₁) (fun args s₂ h₂ => ?_) fun _ _ e => e⟩
  · rw [h₁.1, (plain_args K.sc K.gx as t.a).2, List.length_map, toA_length]; exact Nat.le_trans (Nat.le_of_lt hn) (by unfold sizeLine; decide)
  · obtain ⟨H₂, I₂, e1, e2, hX⟩ := h₂
    refine ⟨e1, e2, I₂.base _ _ hC, hN.keeps I₂.base, hT.keeps I₂.base, fun h' e hm => ?_⟩
    obtain ⟨tt, h1, _, _⟩ := hm.there
    refine a.exits (.ref b) _ H₂ _ _ ⟨ρ, rfl, i, b, hb, rfl, hX⟩ ⟨none, .inl rfl, I₂.keeps (tk := s₂.toks) hm.keeps, e, _, _, rfl, h1, rfl, rfl, by simp, I₂.junk_of_new hm.new, rfl⟩
end
end Mine
set_option maxRecDepth 100000
namespace Mine
open PySem PySem.Calls PySem.SeqAt PySem.W PyProof.Rows
section
variable {C : Cx} {sn : Snap} {A : Around} {env : Env} {H : AH} {s : Shared} {E : Value → Shared → Prop}
theorem matches_own {M : Model} {h : Heap} {g : Array GenState} {d : Drawn} {t : Nat} {os : OsState} {nm q : Str} {a N : Addr} {bs bm : List Value} {hdct : Bool} {sn : List Str} {sub : List Value} {ab : Bool} {col : Option Bool} {dd : Option Addr} {k0 k1 k2 k3 k5 : Option Value} {newId : String}
    {nm' q' : Str} {c N' : Addr} {bs' bm' : List Value} {hdct' : Bool} {sn' : List Str} {sub' : List Value} {ab' : Bool} {col' : Option Bool} {dd' : Option Addr} {k0' k1' k2' k3' k5' : Option Value} {newId' : String} {e : Addr} {oe : Obj} {r : Bool} {Q : Bool → Shared → Prop}
    (ha : h.get? a = some (excClassObj nm q a N bs bm hdct sn sub ab col dd k0 k1 k2 k3 k5 newId)) (hc : h.get? c = some (excClassObj nm' q' c N' bs' bm' hdct' sn' sub' ab' col' dd' k0' k1' k2' k3' k5' newId')) (he : h.get? e = some oe) (hcls : oe.cls = .ref a)
    (hbase : bm'.contains (.type "BaseException") = true) (hr : (Value.ref a :: bm).contains (.ref c) = r) (hq : Q r ⟨h, g, d, t, os⟩) : wpAny M A (excMatches (.ref e) (.ref c)) Q E ⟨h, g, d, t, os⟩ := by
  have hcB : (Value.ref c :: bm').contains (.type "BaseException") = true := by rw [List.contains_cons, hbase, Bool.or_true]
  have f := tc_notTuple
  unfold excMatches
  repeat (first | (with_reducible refine wpAny_loadPart_at he ?_; rw [hcls]) | with_reducible refine wpAny_loadPart_at hc ?_ | (with_reducible refine wpAny_isSubtype_exc hc ?_; rw [hcB]) | (with_reducible refine wpAny_isSubtype_exc ha ?_; rw [hr]) | wp_step)
  cases r <;> (wp_walk; exact hq)
theorem goes_at {K : KK} {ρ : Ev} {i : Nat} {pos : Pos} {Q : Unit → (Str → Option V) → AH → Prop} (ok : KOk K) {p : Str × NameKind} (hp : K.sc[i]? = some p) (hk : p.2 = .local) (kd : ∀ y, env.kindOf y = K.sc.lookup y) (h : Q () (envOf K.sc (ρ.set i none)) H) :
    TR K.C sn A env (do bindName env (nameAt K.sc i) .none; unbindBehindTheSuite env (nameAt K.sc i) pos) Q E (envOf K.sc ρ) H := by
  have hl : env.kindOf (nameAt K.sc i) = some .local := by rw [nameAt_eq hp, kd, look_at ok.nd hp, hk]
  intro s I
  obtain ⟨m, hm, hv⟩ := I.vars
  have nd := List.nodup_cons.mp I.ok.apart
  refine wpAny_nameGoes_keeps hl hm (by rw [I.ok.kind]; rfl) fun h' v hn hs => ⟨_, H, I.own (List.mem_cons_self ..) hs.extBut ⟨_, hn, fun x w e => ?_⟩ fun q hq => ?_, h⟩
  · rcases envOf_set ok.nd hp e with ⟨_, e2⟩ | ⟨e1, e2⟩
    · cases e2
    · obtain ⟨cv, a, b⟩ := hv x w e2
      refine ⟨cv, ?_, b⟩
      rcases a with ⟨q1, q2⟩ | ⟨q1, c, hc, hcell⟩
      · exact .inl ⟨q1, by show (if x = nameAt K.sc i then v else m x) = some cv; rw [nameAt_eq hp, if_neg e1]; exact q2⟩
      · refine .inr ⟨q1, c, hc, hcell.sameBut hs ?_⟩
        rintro rfl
        exact nd.1 (List.mem_map.mpr ⟨_, mem_of_lookup hc, rfl⟩)
  · obtain ⟨v, hq'⟩ := I.cells q hq
    refine ⟨v, hq'.sameBut hs ?_⟩
    intro e
    exact nd.1 (e ▸ List.mem_map.mpr ⟨q, hq, rfl⟩)
theorem name_still {K : KK} {ρ : Str → Option V} {j : Nat} {pos : Pos} {g : G} (ok : KOk K) (hg : K.gs[j]? = some (some g)) (kd : ∀ y, env.kindOf y = K.sc.lookup y) (I : Inv K.C sn env ρ H s) :
    ∃ x, GOk K.C K.d K.free x g ∧ ∀ {cv : Value} {Q : Value → Shared → Prop} {E : Value → Shared → Prop} {A : Around}, GV K.C x = some cv → Q cv s → wpAny K.C.M A (eval (.Name (nameAt K.sc j) pos) env) Q E s := by
  obtain ⟨x, hx, hg⟩ := ok.gs j g hg
  refine ⟨x, hg, fun hv h => ?_⟩
  have hn := ok.nm _ (List.mem_of_getElem? hx)
  simp only [nameOk, Bool.and_eq_true, bne_iff_ne] at hn
  have hk : env.kindOf x = some .globalImplicit := (kd x).trans (look_at ok.nd hx)
  rw [nameAt_eq hx, eval_Name env x pos (by simpa using hn.1)]
  refine wpAny_bind (wpAny_standAt ?_)
  unfold loadName
  simp only [Env.blockKind, I.ok.kind, hk, ScopeKind.isAnnotationScope, Bool.false_and, Bool.false_eq_true, if_false]
  have hgl : s.heap.Ns env.globals K.C.mg := by rw [I.ok.globals]; exact K.C.gns.keeps I.base
  unfold GV at hv
  cases hm : K.C.mg x with
  | some v => rw [hm] at hv; simp at hv; subst hv; exact loadGlobal_global hgl hm h
  | none =>
    rw [hm] at hv
    simp at hv
    have hb : s.heap.Ns env.builtins K.C.mb := by rw [I.ok.builtins]; exact K.C.bns.keeps I.base
    exact loadGlobal_builtin hgl hm hb hv h
def SS (c : CS) : Prop := ∀ (K : KK) (t : PT) (X : XS) (R : PS) (ρ : Ev) (H : AH), KOk K → chkB c K.sc K.gx K.free t = true → wS c K X R ρ H → ∀ sn A env E, AtS K X sn A env E → TR K.C sn A env (execs (toB c K.sc K.gx t) env) (PE K R) E (envOf K.sc ρ) H
def SH (c : CS) : Prop := ∀ (K : KK) (t : PT) (R : PS) (i : Nat) (b : Addr) (ρ : Ev) (H : AH), KOk K → chkH c K.sc K.gx K.free t = true → K.C.ex[i]? = some b → wH c K R i ρ H → ∀ sn A env E e s, Good K.C K.fz K.d K.free sn A env → Stk K.C sn A env → (∀ y, env.kindOf y = K.sc.lookup y) →
  FlyS K.C sn env (envOf K.sc ρ) H (.ref b) e (some .none) s → wpAny K.C.M A (handleBy e env (toH c K.sc K.gx t)) (fun f s' => ∃ ρ' H', Inv K.C sn env ρ' H' s' ∧ PE K R f ρ' H') E s
theorem try_at {K : KK} {X : XS} {R : PS} {ρ : Ev} {b hs : CS} {t : PT} (ihb : SS b) (ihh : SH hs) (ok : KOk K) (hf : K.free = true) (cb : chkB b K.sc K.gx K.free t.a = true) (ch : chkH hs K.sc K.gx K.free t.b = true) (hne : ∃ h0 hr, toH hs K.sc K.gx t.b = h0 :: hr) (a : AtS K X sn A env E)
    (h : wS b K (fun i ρ' H' => wH hs K R i ρ' H') R ρ H) : TR K.C sn A env (exec (.Try (toB b K.sc K.gx t.a) (toH hs K.sc K.gx t.b) [] [] t.p) env) (PE K R) E (envOf K.sc ρ) H := by
  intro s I
  obtain ⟨h0, hr, hh⟩ := hne
  rw [hh]
  refine wpAny_Try_except (wpAny_mono (ihb K t.a _ R ρ H ok cb h sn A env _ ⟨a.good, a.stk, a.kd, ?_⟩ s I) (fun f s₁ h₁ => ?_) fun _ _ e => e)
  · rintro cls ρf H' e s' ⟨ρl, rfl, i, b', hb', rfl, hw⟩ F
    refine F.noted a.stk fun s₂ F₂ => F₂.setFlight fun s₃ F₃ => ?_
    have := ihh K t.b R i b' ρl H' ok ch hb' hw sn A env E e s₃ a.good a.stk a.kd F₃
    rw [hh] at this
    exact this
  · cases f with
    | next => exact wpAny_execs_nil h₁
    | _ => exact h₁
theorem hnd_at {K : KK} {R : PS} {i : Nat} {bb : Addr} {ρ : Ev} {j : Nat} {nm : Option Nat} {b r : CS} {t : PT} {e : Value} (ihb : SS b) (ihr : SH r) (ok : KOk K) (hc : chkH (.hnd j nm b r) K.sc K.gx K.free t = true) (hi : K.C.ex[i]? = some bb) (h : wH (.hnd j nm b r) K R i ρ H)
    (G : Good K.C K.fz K.d K.free sn A env) (S : Stk K.C sn A env) (kd : ∀ y, env.kindOf y = K.sc.lookup y) (F : FlyS K.C sn env (envOf K.sc ρ) H (.ref bb) e (some .none) s) :
    wpAny K.C.M A (handleBy e env (toH (.hnd j nm b r) K.sc K.gx t)) (fun f s' => ∃ ρ' H', Inv K.C sn env ρ' H' s' ∧ PE K R f ρ' H') E s := by
  obtain ⟨c1, c3⟩ := and2 hc
  obtain ⟨c1, c2⟩ := and2 c1
  obtain ⟨cl, cs⟩ := and2 c1
  obtain ⟨g, hg, h⟩ := gAt_out h
  have hx : ∃ i', g = .exc i' ∧ br (catches K i i') (∀ a, H.get a = none → a ∉ K.fz → wS b K.hnd (fun _ _ _ => False) (fun f ρ' H' => R f (setN ρ' nm none) H') (setN ρ nm (some (.ref a))) (H.set a (.exc i))) (wH r K R i ρ H) := by cases g <;> first | exact h.elim | exact ⟨_, rfl, h⟩
  obtain ⟨i', rfl, hbr⟩ := hx
  clear h
  have F0 := F
  obtain ⟨I, a, oe, vs, rfl, he, hcls, hd, hsz, hja, T, oT, ts, h1, hTa, hjT, hTo, hTd, h3⟩ := F
  obtain ⟨x, ⟨cc, hcc, hv⟩, load⟩ := name_still (pos := t.q) ok hg kd I
  obtain ⟨nm', q, N, bs, bm, hdct, sn', sub, ab, col, dd, k0, k1, k2, k3, k5, mN, hC, hN, hini, hT, hsup⟩ := (ok.exs i bb hi).obj
  obtain ⟨nm'', q'', N'', bs'', bm'', hdct'', sn'', sub'', ab'', col'', dd'', k0'', k1'', k2'', k3'', k5'', mN'', hC'', _, _, hT'', _⟩ := (ok.exs i' cc hcc).obj
  have hb : ∃ b0 br, toB b K.sc K.gx t.a = b0 :: br := by cases b <;> first | exact ⟨_, _, rfl⟩ | cases cs
  obtain ⟨b0, brest, hbb⟩ := hb
  refine wpAny_handleBy_cons (codeAny_handlers_test (load hv ?_)) (by intro q; cases q)
  have hm : (Value.ref bb :: bm).contains (.ref cc) = catches K i i' := hsup i' cc hcc
  have He : s.heap.get? bb = _ := I.base _ _ hC
  have Hc : s.heap.get? cc = _ := I.base _ _ hC''
  cases hcat : catches K i i' with
  | false =>
    rw [hcat] at hbr hm
    obtain ⟨hp, gg, d, tk, os⟩ := s
    refine matches_own He Hc he hcls (hT''.hasType (by decide)) hm ?_
    exact ihr K t.c R i bb ρ H ok c3 hi hbr sn A env E _ _ G S kd F0
  | true =>
    rw [hcat] at hbr hm
    have hq : ∀ Q : Bool → Shared → Prop, ∀ E : Value → Shared → Prop, Q true s → wpAny K.C.M (A.mark (some (.ref a))) (excMatches (.ref a) (.ref cc)) Q E s := by
      obtain ⟨hp, gg, d, tk, os⟩ := s
      exact fun Q E hq => matches_own He Hc he hcls (hT''.hasType (by decide)) hm hq
    refine hq _ _ ?_
    show codeAny _ _ _ _ _
    have h : wS b K.hnd (fun _ _ _ => False) (fun f ρ' H' => R f (setN ρ' nm none) H') (setN ρ nm (some (.ref a))) (H.set a (.exc i)) := hbr a hja.1 (by rw [← G.fz]; exact I.notFz hja.1)
    have ats : ∀ E', AtS K.hnd (fun _ _ _ => False) sn (A.mark (some (.ref a))) env E' := fun E' =>
      ⟨⟨G.fz, fun e => (by cases e), G.depth, G.units, G.frs⟩, ⟨S.frame, S.stack⟩, kd, fun _ _ _ _ _ h => by obtain ⟨_, _, _, _, _, _, h⟩ := h; exact h.elim⟩
    have rev : ∀ s', FlyS K.C sn env (envOf K.sc ρ) H (.ref bb) (.ref a) (some .none) s' → Inv K.C sn env (envOf K.sc ρ) (H.set a (.exc i)) s' := by
      rintro s' ⟨I', a', oe', vs', e', he', hc', _, _, hj', _⟩
      cases e'
      exact I'.reveal (n := .exc i) hj' ⟨oe', he', bb, hi, hc'⟩
    cases nm with
    | none =>
      show codeAny _ _ (.handlers (.ref a) [.ExceptHandler none none (toB b K.sc K.gx t.a) t.p] env) _ _
      have body := ihb K.hnd t.a (fun _ _ _ => False) _ ρ _ ok.hnd c2 h sn (A.mark (some (.ref a))) env (notedBy K.C.M (A.mark (some (.ref a))) env (cameBackBy K.C.M A env E)) (ats _)
      rw [show toB b K.hnd.sc K.hnd.gx t.a = b0 :: brest from hbb] at body
      rw [hbb]
      refine codeAny_handlers_suite (F0.setFlight (f := none) fun s₁ F₁ => ?_)
      refine wpAny_mono (body s₁ (rev s₁ F₁)) (fun f s₂ h₂ => ?_) fun _ _ e => e
      obtain ⟨ρ', H', I', ρl, e1, e2⟩ := h₂
      exact ⟨ρ', H', I', ρl, e1, e2⟩
    | some n =>
      have hloc : ∃ p, K.sc[n]? = some p ∧ p.2 = .local := by
        replace cl : (match K.sc[n]? with | some p => p.2 == .local | none => false) = true := cl
        cases q : K.sc[n]? with
        | none => rw [q] at cl; cases cl
        | some p => rw [q] at cl; exact ⟨p, rfl, by simpa using cl⟩
      obtain ⟨p, hp, hk⟩ := hloc
      have hst : storeB K.sc n = true := by unfold storeB; rw [hp]; simp [hk]
      show codeAny _ _ (.handlers (.ref a) [.ExceptHandler none (some (nameAt K.sc n)) (toB b K.sc K.gx t.a) t.p] env) _ _
      have body := fun E' => ihb K.hnd t.a (fun _ _ _ => False) _ _ _ ok.hnd c2 h sn (A.mark (some (.ref a))) env E' (ats _)
      rw [show toB b K.hnd.sc K.hnd.gx t.a = b0 :: brest from hbb] at body
      rw [hbb]
      refine codeAny_handlers_suite_as (F0.setFlight (f := none) fun s₁ F₁ => ?_)
      refine wpAny_mono (store_at (cv := .ref a) (Q := fun _ ρf H' => ρf = envOf K.sc (ρ.set n (some (.ref a))) ∧ H' = H.set a (.exc i)) ok hst kd ⟨rfl, rfl⟩ s₁ (rev s₁ F₁)) (fun _ s₂ h₂ => ?_) fun _ _ e => e
      obtain ⟨_, _, I₂, rfl, rfl⟩ := h₂
      refine wpAny_mono (body _ s₂ I₂) (fun f s₃ h₃ => ?_) fun _ _ e => e
      obtain ⟨ρ', H', I', ρl, rfl, e2⟩ := h₃
      refine wpAny_mono (goes_at (pos := t.p) (Q := fun _ ρf H'' => PE K R f ρf H'') ok hp hk kd ⟨_, rfl, e2⟩ s₃ I') (fun _ s₄ h₄ => ?_) fun _ _ e => e
      exact h₄
end
end Mine
set_option maxRecDepth 100000
namespace Mine
open PySem PySem.Calls PySem.SeqAt PySem.W PyProof.Rows
section
variable {K : KK} {X : XS} {R : PS} {ρ : Ev} {sn : Snap} {A : Around} {env : Env} {H : AH} {s : Shared} {E : Value → Shared → Prop}
theorem each_N (sc : Sc) : ∀ (is : List Nat) (t : PT), assignEach (toN is sc t) env = (toN is sc t).map fun e => (false, assign e env)
  | [], _ => rfl
  | i :: is, t => by
    show assignEach (.Name (nameAt sc i) t.p :: toN is sc t.a) env = _
    rw [show toN (i :: is) sc t = .Name (nameAt sc i) t.p :: toN is sc t.a from rfl, List.map_cons, ← each_N sc is t.a]
    rfl
theorem toN_len (sc : Sc) : ∀ (is : List Nat) (t : PT), (toN is sc t).length = is.length
  | [], _ => rfl
  | i :: is, t => by show (toN is sc t.a).length + 1 = _; rw [toN_len sc is t.a]; rfl
theorem inOrder_at (ok : KOk K) (kd : ∀ y, env.kindOf y = K.sc.lookup y) (is : List Nat) : ∀ (t : PT) (vs : List Value) (ρ : Ev), is.all (storeB K.sc) = true → ∀ s, Inv K.C sn env (envOf K.sc ρ) H s →
    wpAny K.C.M A (assignInOrder ((toN is K.sc t).map fun e => assign e env) vs) (fun _ s' => Inv K.C sn env (envOf K.sc (setAll ρ is (vs.map toV))) H s') E s := by
  induction is with
  | nil => intro t vs ρ _ s I; exact wpAny_pure (by cases vs <;> exact I)
  | cons i is ih =>
    intro t vs ρ h s I
    cases vs with
    | nil => exact wpAny_pure I
    | cons v vs =>
      obtain ⟨h1, h2⟩ := and2 (show (storeB K.sc i && is.all (storeB K.sc)) = true from h)
      show wpAny _ _ (holding vs (assign (.Name (nameAt K.sc i) t.p) env v) >>= fun _ => assignInOrder ((toN is K.sc t.a).map fun e => assign e env) vs) _ _ _
      refine wpAny_bind (wpAny_holding (wpAny_assign_Name (wpAny_mono (store_at (cv := v) (Q := fun _ ρf H' => ρf = envOf K.sc (ρ.set i (some (toV v))) ∧ H' = H) ok h1 kd ⟨rfl, rfl⟩ s I) (fun _ s' h' => ?_) fun _ _ e => e)))
      obtain ⟨_, _, I', rfl, rfl⟩ := h'
      exact ih t.a vs _ h2 s' I'
theorem unpack_at {is : List Nat} {e : CE} {t : PT} {r : CS} (ok : KOk K) (hf : K.free = true) (hst : is.all (storeB K.sc) = true) (hn : notTC e = true) (hc : chkE e K.sc K.gx K.free t.a = true) (a : AtS K X sn A env E) {Q : Ev → AH → Prop}
    (h : wE e K ρ (fun i H => X i ρ H) (fun v H₁ => oUnp v is.length (fun xs => Q (setAll ρ is xs) H₁) H₁) H) :
    TR K.C sn A env (exec (.Assign [.Tuple (toN is K.sc t.b) t.i t.q] (toE e K.sc K.gx t.a) t.p) env) (fun f ρf H' => toF f = .next ∧ ∃ ρl, ρf = envOf K.sc ρl ∧ Q ρl H') E (envOf K.sc ρ) H := by
  intro s I
  refine Assign_Tuple (wpAny_mono ((sound e).1 K t.a ρ _ ok hc _ H h sn A env E (a.at ρ) s I) (fun v s₁ h₁ => ?_) fun _ _ e => e) (by unfold swapsWithSole swapsWith; cases e <;> first | rfl | cases hn) (by cases e <;> first | rfl | cases hn)
  obtain ⟨H₁, I₁, h₁⟩ := h₁
  obtain ⟨p, rfl, h₁⟩ := refV h₁
  obtain ⟨n, hp, h₁⟩ := look_out h₁
  cases n <;> try exact h₁.elim
  rename_i xs
  obtain ⟨hl, h₁⟩ := req_out h₁
  have hl : xs.length = is.length := Nat.eq_of_beq_eq_true hl
  obtain ⟨vs, hvs, e1, z1⟩ := (I₁.nodes p _ hp).isTuple
  have hm := map_size e1
  refine assign_Tuple_tuple (a.good.hd hf) (show IsTup s₁.heap p vs from hvs) (by rw [each_N, List.length_map, toN_len, hm, hl]) ?_ fun h' he => ?_
  · rw [each_N, List.findIdx?_eq_none_iff]
    intro x hx
    obtain ⟨e, _, rfl⟩ := List.mem_map.mp hx
    rfl
  · have I₂ : Inv K.C sn env (envOf K.sc ρ) H₁ { s₁ with heap := h' } := I₁.keeps (tk := s₁.toks) fun b o eb => he b o (Nat.ne_of_lt (Heap.lt_size eb)) eb
    rw [each_N, List.map_map]
    refine wpAny_mono (inOrder_at ok a.kd is t.b vs.toList ρ hst _ I₂) (fun _ s₃ I₃ => ?_) fun _ _ e => e
    rw [e1] at I₃
    exact ⟨_, H₁, I₃, rfl, _, rfl, h₁⟩
theorem set_at {i : Nat} {e : CE} {t : PT} (ok : KOk K) (hst : storeB K.sc i = true) (hc : chkE e K.sc K.gx K.free t.a = true) (a : AtS K X sn A env E) {Q : Ev → AH → Prop}
    (h : wE e K ρ (fun i H => X i ρ H) (fun v H₁ => Q (ρ.set i (some v)) H₁) H) :
    TR K.C sn A env (exec (.Assign [.Name (nameAt K.sc i) t.q] (toE e K.sc K.gx t.a) t.p) env) (fun f ρf H' => toF f = .next ∧ ∃ ρl, ρf = envOf K.sc ρl ∧ Q ρl H') E (envOf K.sc ρ) H := by
  have plain : swapsWith (toE e K.sc K.gx t.a) (some (.Name (nameAt K.sc i) t.q)) t.p.line env = pure false → TR K.C sn A env (exec (.Assign [.Name (nameAt K.sc i) t.q] (toE e K.sc K.gx t.a) t.p) env) (fun f ρf H' => toF f = .next ∧ ∃ ρl, ρf = envOf K.sc ρl ∧ Q ρl H') E (envOf K.sc ρ) H := by
    intro hsw
    rw [exec_Assign_Name (hs := hsw)]
    refine .bind (.of (.standAt (.bind (.of (((sound e).1 K t.a ρ _ ok hc _ H h sn A env E (a.at ρ)).mono fun u H₁ h₁ => .bind (.of (.standAt (.bind ?_))))))))
    exact fun s I => wpAny_bindName (store_at (cv := u) (Q := fun _ ρf H' => TR K.C sn A env (pure Flow.next) (fun f ρf H' => toF f = .next ∧ ∃ ρl, ρf = envOf K.sc ρl ∧ Q ρl H') E ρf H') ok hst a.kd (.pure ⟨rfl, _, rfl, h₁⟩) s I)
  obtain ⟨p, hp, _⟩ := storeB_out hst
  intro s I
  have hswB := swapsWith_eq (env := env) (kd := fun y => K.sc.lookup y) I.ok.kind a.kd (toE e K.sc K.gx t.a) (nameAt K.sc i) t.q t.p.line
  cases hsw : swB (fun y => K.sc.lookup y) (toE e K.sc K.gx t.a) (nameAt K.sc i) t.q with
  | false => rw [hsw] at hswB; exact plain hswB s I
  | true =>
    have fin : ∀ {m : Sem Flow}, TR K.C sn A env m (fun f ρ' H' => toF f = .next ∧ ∃ v, ρ' = upd (envOf K.sc ρ) (nameAt K.sc i) v ∧ Q (ρ.set i (some v)) H') E (envOf K.sc ρ) H → wpAny K.C.M A m (fun f s' => ∃ ρ' H', Inv K.C sn env ρ' H' s' ∧ (toF f = .next ∧ ∃ ρl, ρ' = envOf K.sc ρl ∧ Q ρl H')) E s := fun t =>
      wpAny_mono (t s I) (fun f s' ⟨ρ', H', I', e1, v, e2, q⟩ => ⟨_, H', (e2 ▸ I').less (set_less ok.nd hp), e1, _, rfl, q⟩) fun _ _ e => e
    cases e <;> try exact (Bool.false_ne_true hsw).elim
    case comp elt it caps x =>
      obtain ⟨c1, c2⟩ := and2 hc
      obtain ⟨hf, c1⟩ := and2 c1
      obtain ⟨c2, c3⟩ := and2 c2
      have Ic := compIs_of c1
      have G' : Good K.C K.fz K.d true sn A env := ⟨a.good.fz, fun _ => a.good.hd hf, a.good.depth, a.good.units, a.good.frs⟩
      refine fin ((tr_comp_assign (Q := fun ρ' H' => ∃ v, ρ' = upd (envOf K.sc ρ) (nameAt K.sc i) v ∧ Q (ρ.set i (some v)) H') G' a.kd (Ic.compOk ok.nd) (Nat.zero_le _) (notSet _ _ _ _) I.ok.kind hsw (((sound it).1 K t.a.b ρ _ ok c2 _ H h sn A env E (a.at ρ)).mono fun v H₁ h₁ => ?_)))
      obtain ⟨xs, hx, hz, J, j0, tn, fi⟩ := comp_at (ifs := []) (elt := toE elt (caps.map (capR K.sc K.gx)) K.gx t.a.a) (Q := fun v H' => Q (ρ.set i (some v)) H') (turn := fun v y J ys H' => wE elt (K.comp caps v) (capE ρ caps x y) nX (fun u H₂ => J (ys ++ [u]) H₂) H') ok (a.at ρ) Ic hf (fun y J ys H' hw sn' cenv E' a' => (sound elt).1 (K.comp caps (toV v)) t.a.a _ nX (ok.comp Ic hf _) c3 _ H' hw sn' A cenv E' a') h₁
      exact ⟨xs, hx, hz, J, j0, tn, fun ys H' h1 h2 b hb hb' => ⟨_, rfl, fi ys H' h1 h2 b hb hb'⟩⟩
    case compIf elt it c caps x =>
      obtain ⟨c1, c2⟩ := and2 hc
      obtain ⟨hf, c1⟩ := and2 c1
      obtain ⟨c2, c3⟩ := and2 c2
      obtain ⟨c3, c4⟩ := and2 c3
      have Ic := compIs_of c1
      have G' : Good K.C K.fz K.d true sn A env := ⟨a.good.fz, fun _ => a.good.hd hf, a.good.depth, a.good.units, a.good.frs⟩
      refine fin ((tr_comp_assign (Q := fun ρ' H' => ∃ v, ρ' = upd (envOf K.sc ρ) (nameAt K.sc i) v ∧ Q (ρ.set i (some v)) H') G' a.kd (Ic.compOk ok.nd) (Nat.le_refl _) (notSet _ _ _ _) I.ok.kind hsw (((sound it).1 K t.a.b ρ _ ok c2 _ H h sn A env E (a.at ρ)).mono fun v H₁ h₁ => ?_)))
      obtain ⟨xs, hx, hz, J, j0, tn, fi⟩ := comp_at (ifs := [toE c (caps.map (capR K.sc K.gx)) K.gx t.a.c]) (elt := toE elt (caps.map (capR K.sc K.gx)) K.gx t.a.a) (Q := fun v H' => Q (ρ.set i (some v)) H') (turn := fun v y J ys H' => wT c (K.comp caps v) (capE ρ caps x y) nX (fun b H₂ => br b (wE elt (K.comp caps v) (capE ρ caps x y) nX (fun u H₃ => J (ys ++ [u]) H₃) H₂) (J ys H₂)) H') ok (a.at ρ) Ic hf (fun y J ys H' hw sn' cenv E' a' => by
        refine ((sound c).2.1 (K.comp caps (toV v)) t.a.c _ nX (ok.comp Ic hf _) c4 _ H' hw sn' A cenv E' a').mono fun b H₂ h₂ => ?_
        cases b
        · exact h₂
        · exact (sound elt).1 (K.comp caps (toV v)) t.a.a _ nX (ok.comp Ic hf _) c3 _ H₂ h₂ sn' A cenv E' a') h₁
      exact ⟨xs, hx, hz, J, j0, tn, fun ys H' h1 h2 b hb hb' => ⟨_, rfl, fi ys H' h1 h2 b hb hb'⟩⟩
end
end Mine
set_option maxRecDepth 100000
namespace Mine
open PySem PySem.Calls PySem.SeqAt PySem.W PyProof.Rows
section
variable {K : KK} {X : XS} {R : PS} {ρ : Ev} {sn : Snap} {A : Around} {env : Env} {H : AH} {s : Shared} {E : Value → Shared → Prop}
theorem then_at {st : Stmt} {r : CS} {t : PT} {P : Flow → (Str → Option V) → AH → Prop} (ih : SS r) (ok : KOk K) (hc : chkB r K.sc K.gx K.free t = true) (a : AtS K X sn A env E)
    (h : TR K.C sn A env (exec st env) P E (envOf K.sc ρ) H) (hp : ∀ f ρf H', P f ρf H' → PE K (thenR (fun ρ H => Nx (wS r K X R ρ H)) R) f ρf H') :
    TR K.C sn A env (execs (st :: toB r K.sc K.gx t) env) (PE K R) E (envOf K.sc ρ) H := by
  rw [execs_cons]
  refine .bind (h.mono fun f ρf H' h' => ?_)
  have hq := hp f ρf H' h'
  clear h'
  obtain ⟨ρl, rfl, h'⟩ := hq
  cases f with
  | next => exact ih K t X R ρl H' ok hc h'.out sn A env E a
  | brk => exact .pure ⟨ρl, rfl, h'⟩
  | cont => exact .pure ⟨ρl, rfl, h'⟩
  | ret v => exact .pure ⟨ρl, rfl, h'⟩
end
theorem soundB : ∀ c : CS, SS c ∧ SH c := by
  intro c
  have noH : ∀ c : CS, (∀ K R i ρ H, wH c K R i ρ H → False) → SH c := fun c h K t R i b ρ H ok hc hi hw => (h K R i ρ H hw).elim
  have ev : ∀ (e : CE) (K : KK) (t : PT) (X : XS) (ρ : Ev), KOk K → chkE e K.sc K.gx K.free t = true → ∀ (Q : QV) (H : AH), wE e K ρ (fun i H => X i ρ H) Q H → ∀ sn A env E, AtS K X sn A env E → TM K.C sn A env (envOf K.sc ρ) (eval (toE e K.sc K.gx t) env) (fun v H' => Q (toV v) H') E H := fun e K t X ρ ok hc Q H h sn A env E a => (sound e).1 K t ρ _ ok hc Q H h sn A env E (a.at ρ)
  induction c with
  | skip => exact ⟨fun K t X R ρ H ok hc h sn A env E a => by show TR _ _ _ _ (execs [] env) _ _ _ _; rw [execs_nil]; exact .pure ⟨ρ, rfl, h⟩, noH _ fun _ _ _ _ _ h => h⟩
  | ret e r ih =>
    refine ⟨fun K t X R ρ H ok hc h sn A env E a => ?_, noH _ fun _ _ _ _ _ h => h⟩
    obtain ⟨c1, c2⟩ := and2 hc
    refine then_at (P := fun f ρf H' => ∃ v, f = .ret v ∧ ρf = envOf K.sc ρ ∧ R (.ret (toV v)) ρ H') ih.1 ok c2 a ?_ fun f ρf H' ⟨v, e1, e2, h'⟩ => by subst e1; exact ⟨ρ, e2, h'⟩
    rw [exec_Return_some]
    exact .bind (.of (.standAt (.bind (.of ((ev e K t.a X ρ ok c1 _ H h sn A env E a).mono fun v H₁ h₁ => .pure ⟨v, rfl, rfl, h₁⟩)))))
  | ret0 r ih =>
    refine ⟨fun K t X R ρ H ok hc h sn A env E a => ?_, noH _ fun _ _ _ _ _ h => h⟩
    refine then_at (P := fun f ρf H' => f = .ret .none ∧ ρf = envOf K.sc ρ ∧ R (.ret .none) ρ H') ih.1 ok hc a ?_ fun f ρf H' ⟨e1, e2, h'⟩ => by subst e1; exact ⟨ρ, e2, h'⟩
    rw [exec_Return_none]
    exact .bind (.of (.standAt (.pure ⟨rfl, rfl, h⟩)))
  | set i e r ih =>
    refine ⟨fun K t X R ρ H ok hc h sn A env E a => ?_, noH _ fun _ _ _ _ _ h => h⟩
    obtain ⟨c1, c2⟩ := and2 hc
    obtain ⟨c2, c3⟩ := and2 c2
    exact then_at ih.1 ok c3 a (set_at (Q := fun ρ' H' => Nx (wS r K X R ρ' H')) ok c1 c2 a h) fun f ρf H' ⟨e1, ρl, e2, h'⟩ => ⟨ρl, e2, by rw [e1]; exact h'⟩
  | setSub o i v r ih =>
    refine ⟨fun K t X R ρ H ok hc h sn A env E a => ?_, noH _ fun _ _ _ _ _ h => h⟩
    obtain ⟨c1, c2⟩ := and2 hc
    obtain ⟨c2, c3⟩ := and2 c2
    obtain ⟨co, ci⟩ := and2 c2
    obtain ⟨cv, cr⟩ := and2 c3
    refine then_at (P := fun f ρf H' => f = .next ∧ ρf = envOf K.sc ρ ∧ Nx (wS r K X R ρ H')) ih.1 ok cr a ?_ fun f ρf H' ⟨e1, e2, h'⟩ => by subst e1; exact ⟨ρ, e2, h'⟩
    intro s I
    refine wpAny_Assign_Subscript (wpAny_mono (ev v K t.a X ρ ok cv _ H h sn A env E a s I) (fun u s₁ h₁ => ?_) fun _ _ e => e) (noComp_swap c1)
    obtain ⟨H₁, I₁, h₁⟩ := h₁
    refine wpAny_mono (ev o K t.b.a X ρ ok co _ H₁ h₁ sn A env E a s₁ I₁) (fun ov s₂ h₂ => ?_) fun _ _ e => e
    obtain ⟨H₂, I₂, h₂⟩ := h₂
    refine wpAny_mono (ev i K t.b.b X ρ ok ci _ H₂ h₂ sn A env E a s₂ I₂) (fun iv s₃ h₃ => ?_) fun _ _ e => e
    obtain ⟨H₃, I₃, h₃⟩ := h₃
    refine wpAny_mono (oSet_ok (Q := fun H₄ => Nx (wS r K X R ρ H₄)) (by rw [a.good.fz]; exact h₃) s₃ I₃) (fun _ s₄ h₄ => ?_) fun _ _ e => e
    obtain ⟨H₄, I₄, h₄⟩ := h₄
    exact ⟨_, H₄, I₄, rfl, rfl, h₄⟩
  | expr e r ih =>
    refine ⟨fun K t X R ρ H ok hc h sn A env E a => ?_, noH _ fun _ _ _ _ _ h => h⟩
    obtain ⟨c1, c2⟩ := and2 hc
    obtain ⟨c2, c3⟩ := and2 c2
    refine then_at (P := fun f ρf H' => f = .next ∧ ρf = envOf K.sc ρ ∧ Nx (wS r K X R ρ H')) ih.1 ok c3 a ?_ fun f ρf H' ⟨e1, e2, h'⟩ => by subst e1; exact ⟨ρ, e2, h'⟩
    intro s I
    refine wpAny_Expr_any (wpAny_mono (ev e K t.a X ρ ok c2 _ H h sn A env E a s I) (fun v s₁ h₁ => ?_) fun _ _ e => e) (by unfold interactive; rw [I.ok.kind]; rfl) (noComp_swap c1)
    obtain ⟨H₁, I₁, h₁⟩ := h₁
    exact ⟨_, H₁, I₁, rfl, rfl, h₁⟩
  | ife c b1 b2 r ih1 ih2 ih =>
    refine ⟨fun K t X R ρ H ok hc h sn A env E a => ?_, noH _ fun _ _ _ _ _ h => h⟩
    obtain ⟨cc, c2⟩ := and2 hc
    obtain ⟨c2, cr⟩ := and2 c2
    obtain ⟨ca, cb⟩ := and2 c2
    refine then_at (P := PE K (thenR (fun ρ H => Nx (wS r K X R ρ H)) R)) ih.1 ok cr a ?_ fun f ρf H' h' => h'
    rw [exec_If]
    refine .bind (.of (.standAt (.bind (.of (((sound c).2.1 K t.a ρ _ ok cc _ H h sn A env E (a.at ρ)).mono fun b H₁ h₁ => ?_)))))
    cases b
    · exact ih2.1 K t.b.b X _ ρ H₁ ok cb h₁ sn A env E a
    · exact ih1.1 K t.b.a X _ ρ H₁ ok ca h₁ sn A env E a
  | for_ x it b r ihb ih =>
    refine ⟨fun K t X R ρ H ok hc h sn A env E a => ?_, noH _ fun _ _ _ _ _ h => h⟩
    obtain ⟨c1, c2⟩ := and2 hc
    obtain ⟨hf, hst⟩ := and2 c1
    obtain ⟨ci, c2⟩ := and2 c2
    obtain ⟨cb, cr⟩ := and2 c2
    obtain ⟨p, hp, hk⟩ := storeB_out hst
    have hl : env.kindOf (nameAt K.sc x) = some p.2 := by rw [nameAt_eq hp, a.kd]; exact look_at ok.nd hp
    have G' : Good K.C K.fz K.d true sn A env := ⟨a.good.fz, fun _ => a.good.hd hf, a.good.depth, a.good.units, a.good.frs⟩
    refine then_at (P := PE K (thenR (fun ρ H => Nx (wS r K X R ρ H)) R)) ih.1 ok cr a ?_ fun f ρf H' h' => h'
    refine (tr_for (R := fun f ρf H' => ∃ ρl, ρf = envOf K.sc ρl ∧ thenR (fun ρ H => Nx (wS r K X R ρ H)) R f ρl H') G' a.stk a.exits (by rw [hl]; rcases hk with e | e <;> rw [e] <;> simp) (notSet _ _ _ _) ((ev it K t.a X ρ ok ci _ H h sn A env E a).mono fun v H₁ h₁ => ?_)).mono fun f ρf H' h' => h'
    obtain ⟨xs, hx, J, j0, turn, fin⟩ := h₁
    refine ⟨xs, hx, fun k ρf H' => ∃ ρl, ρf = envOf K.sc ρl ∧ J k ρl H', ⟨ρ, rfl, j0⟩, ?_, fun ρf H' ⟨ρl, e, hJ⟩ => ⟨ρl, e, fin ρl H' hJ⟩⟩
    rintro k y ρf H' hy ⟨ρl, rfl, hJ⟩ sn' E' Gc Sc hEc
    refine (TR.less (set_less ok.nd hp) (ihb.1 (K.more (toV v)) t.b X _ (ρl.set x (some y)) H' (ok.more _) cb (turn k y ρl H' hy hJ) sn' A env E' ⟨⟨Gc.fz, fun _ => Gc.hd rfl, Gc.depth, Gc.units, Gc.frs⟩, Sc, a.kd, hEc⟩)).mono fun f ρf H'' h' => ?_
    obtain ⟨ρ2, e, h'⟩ := h'
    cases f <;> exact ⟨ρ2, e, h'⟩
  | while_ c b r ihb ih =>
    refine ⟨fun K t X R ρ H ok hc h sn A env E a => ?_, noH _ fun _ _ _ _ _ h => h⟩
    obtain ⟨cc, c2⟩ := and2 hc
    obtain ⟨cb, cr⟩ := and2 c2
    refine then_at (P := PE K (thenR (fun ρ H => Nx (wS r K X R ρ H)) R)) ih.1 ok cr a ?_ fun f ρf H' h' => h'
    obtain ⟨J, n0, j0, turn⟩ := h
    refine (tr_while (R := fun f ρf H' => ∃ ρl, ρf = envOf K.sc ρl ∧ thenR (fun ρ H => Nx (wS r K X R ρ H)) R f ρl H') a.stk a.exits (fun n ρf H' => ∃ ρl, ρf = envOf K.sc ρl ∧ J n ρl H') ⟨ρ, rfl, j0⟩ ?_).mono fun f ρf H' h' => h'
    rintro m ρf H' E' ⟨ρl, rfl, hJ⟩ hE'
    have a' : AtS K X sn A env E' := ⟨a.good, a.stk, a.kd, hE'⟩
    refine .of (((sound c).2.1 K t.a ρl _ ok cc _ H' (turn m ρl H' hJ) sn A env E' (a'.at ρl)).mono fun q H₁ h₁ => ?_)
    cases q
    · exact ⟨ρl, rfl, h₁⟩
    · refine (ihb.1 K t.b X _ ρl H₁ ok cb h₁ sn A env E' a').mono fun f ρf H'' h' => ?_
      obtain ⟨ρ2, e, h'⟩ := h'
      cases f with
      | next => obtain ⟨m', hm, hJ'⟩ := h'; exact ⟨m', hm, ρ2, e, hJ'⟩
      | cont => obtain ⟨m', hm, hJ'⟩ := h'; exact ⟨m', hm, ρ2, e, hJ'⟩
      | brk => exact ⟨ρ2, e, h'⟩
      | ret v => exact ⟨ρ2, e, h'⟩
  | pass r ih =>
    refine ⟨fun K t X R ρ H ok hc h sn A env E a => ?_, noH _ fun _ _ _ _ _ h => h⟩
    refine then_at (P := fun f ρf H' => f = .next ∧ ρf = envOf K.sc ρ ∧ Nx (wS r K X R ρ H')) ih.1 ok hc a ?_ fun f ρf H' ⟨e1, e2, h'⟩ => by subst e1; exact ⟨ρ, e2, h'⟩
    rw [exec_Pass]; exact .bind (.of (.standAt (.pure ⟨rfl, rfl, h⟩)))
  | brk r ih =>
    refine ⟨fun K t X R ρ H ok hc h sn A env E a => ?_, noH _ fun _ _ _ _ _ h => h⟩
    refine then_at (P := fun f ρf H' => f = .brk ∧ ρf = envOf K.sc ρ ∧ R .brk ρ H') ih.1 ok hc a ?_ fun f ρf H' ⟨e1, e2, h'⟩ => by subst e1; exact ⟨ρ, e2, h'⟩
    rw [arm_exec_Break]; exact .bind (.of (.standAt (.pure ⟨rfl, rfl, h⟩)))
  | cont r ih =>
    refine ⟨fun K t X R ρ H ok hc h sn A env E a => ?_, noH _ fun _ _ _ _ _ h => h⟩
    refine then_at (P := fun f ρf H' => f = .cont ∧ ρf = envOf K.sc ρ ∧ R .cont ρ H') ih.1 ok hc a ?_ fun f ρf H' ⟨e1, e2, h'⟩ => by subst e1; exact ⟨ρ, e2, h'⟩
    rw [arm_exec_Continue]; exact .bind (.of (.standAt (.pure ⟨rfl, rfl, h⟩)))
  | unpack is e r ih =>
    refine ⟨fun K t X R ρ H ok hc h sn A env E a => ?_, noH _ fun _ _ _ _ _ h => h⟩
    obtain ⟨c1, c2⟩ := and2 hc
    obtain ⟨c1, hn⟩ := and2 c1
    obtain ⟨hf, hst⟩ := and2 c1
    obtain ⟨c2, c3⟩ := and2 c2
    exact then_at ih.1 ok c3 a (unpack_at (r := r) (Q := fun ρ' H' => Nx (wS r K X R ρ' H')) ok hf hst hn c2 a h) fun f ρf H' ⟨e1, ρl, e2, h'⟩ => ⟨ρl, e2, by rw [e1]; exact h'⟩
  | raise j as r ih =>
    refine ⟨fun K t X R ρ H ok hc h sn A env E a => ?_, noH _ fun _ _ _ _ _ h => h⟩
    obtain ⟨c1, c2⟩ := and2 hc
    obtain ⟨hf, hn⟩ := and2 c1
    obtain ⟨c2, c3⟩ := and2 c2
    exact then_at ih.1 ok c3 a (raise_at (R := thenR (fun ρ H => Nx (wS r K X R ρ H)) R) ok hf (Nat.le_of_ble_eq_true hn) c2 a h) fun f ρf H' h' => h'
  | try_ b hs r ihb ihh ih =>
    refine ⟨fun K t X R ρ H ok hc h sn A env E a => ?_, noH _ fun _ _ _ _ _ h => h⟩
    obtain ⟨c1, c2⟩ := and2 hc
    obtain ⟨hf, hn⟩ := and2 c1
    obtain ⟨cb, c2⟩ := and2 c2
    obtain ⟨ch, cr⟩ := and2 c2
    exact then_at ih.1 ok cr a (try_at ihb.1 ihh.2 ok hf cb ch (by cases hs <;> first | exact ⟨_, _, rfl⟩ | cases hn) a h) fun f ρf H' h' => h'
  | hnd j nm b r ihb ih =>
    exact ⟨fun K t X R ρ H ok hc h => h.elim, fun K t R i b ρ H ok hc hi h sn A env E e s G S kd F => hnd_at ihb.1 ih.2 ok hc hi h G S kd F⟩
theorem calls_at {C : Cx} {a : Addr} {ps : List Str} {body : List Stmt} {scope : Scope} {fz : List Nat} {d : Nat} {free : Bool} {gs : List (Option G)} {gx : Gx} {sup : List (List Nat)} {vs : List V} {Q : QV} {X : QX} {H : AH} (c : CS)
    (F : FnAt C a ps body scope) (hs : scopeOk scope ps = true) (hl : vs.length = ps.length) (ok : KOk ⟨C, scope.names, gs, gx, fz, d, free, sup⟩) (hb : toB c scope.names gx (posB c body) = body) (hc : chkB c scope.names gx free (posB c body) = true)
    (ρ : Ev) (hρ : ∀ x v, envOf scope.names ρ x = some v → argsOf ps vs x = some v)
    (h : wS c ⟨C, scope.names, gs, gx, fz, d, free, sup⟩ (fun i _ H => X i H) (fun f _ H' => Q (match f with | .ret v => v | _ => .none) H') ρ H) : CallsTo C fz (d + 1) free (.ref a) vs Q (Xv C X) H := by
  refine callsTo_of F hs hl fun sn A env E G S hkd hE => ?_
  rw [← hb]
  refine ((soundB c).1 _ _ _ _ ρ H ok hc h sn A env E ⟨G, S, hkd, fun cls ρf H' e s hx Fl => ?_⟩).mono (fun f ρ' H' hf => ?_) |>.less hρ
  · obtain ⟨ρl, _, hx⟩ := hx
    exact hE cls ρf H' e s hx Fl
  · obtain ⟨_, _, hf⟩ := hf
    cases f <;> exact hf
end Mine
namespace Mine
open PySem PySem.Calls PySem.SeqAt PySem.W PyProof.Rows
def fbody (p : Program) (i : Nat) : List Stmt := match p.main.body[i]? with | some (.FunctionDef _ _ b _ _ _ _ _ _ _) => b | _ => []
def fscope (p : Program) (i : Nat) : Scope := match p.main.body[i]? with | some (.FunctionDef _ _ _ _ _ _ s _ _ _) => s | _ => default
def fparams (p : Program) (i : Nat) : Arguments := match p.main.body[i]? with | some (.FunctionDef _ a _ _ _ _ _ _ _ _) => a | _ => default
def fname (p : Program) (i : Nat) : Str := match p.main.body[i]? with | some (.FunctionDef n _ _ _ _ _ _ _ _ _) => n | _ => default
theorem map_inj_of {α β : Type} {f : α → β} (hf : ∀ x y, f x = f y → x = y) : ∀ {l l' : List α}, l.map f = l'.map f → l = l'
  | [], [], _ => rfl
  | [], _ :: _, h => by cases h
  | _ :: _, [], h => by cases h
  | x :: l, y :: l', h => by
    rw [List.map_cons, List.map_cons] at h
    injection h with h1 h2
    rw [hf x y h1, map_inj_of hf h2]
def TopTo (C : Cx) (d : Nat) (f : Value) (vs : List V) (Q : V → Prop) (H : AH) : Prop :=
  ∀ (A : Around) (s : Shared) (cvs : List Value) (E : Value → Shared → Prop), cvs.map toV = vs → s.heap = C.h₀ → s.gens = C.gens → s.os = C.os → (∀ a n, H.get a = some n → NodeAt C C.h₀ a n ∧ n.isRO = true) →
    A.frames = some [] → A.handled = none → A.depth + d < recursionLimit → A.units + 3 * d + 300 < cLine →
    wpAny C.M A (call f cvs) (fun v s' => Q (toV v) ∧ (∀ b o, C.h₀.get? b = some o → s'.heap.get? b = some o) ∧ s'.gens = C.gens ∧ s'.os = C.os) E s
theorem topTo_of {C : Cx} {a : Addr} {ps : List Str} {body : List Stmt} {scope : Scope} {d : Nat} {vs : List V} {Q : V → Prop} {H : AH}
    (F : FnAt C a ps body scope) (hs : scopeOk scope ps = true) (hl : vs.length = ps.length)
    (h : ∀ sn A env E, Good C [] d true sn A env → Stk C sn A env → (∀ x, env.kindOf x = kdOf scope x) → Exits C sn env (fun _ _ _ => False) E →
      TR C sn A env (execs body env) (fun f _ H' => Q (match f with | .ret v => toV v | _ => .none)) E (argsOf ps vs) H) :
    TopTo C (d + 1) (.ref a) vs Q H := by
  intro A s cvs E hcv hh hgens hos hnodes hfr hhd hdep hun
  obtain ⟨o, fd, ho, hd, hb, rfl, hg, hbi, hcl, hcd, hba⟩ := F
  simp only [scopeOk, Bool.and_eq_true, beq_iff_eq, Bool.not_eq_true', List.all_eq_true, bne_iff_ne, Bool.or_eq_true] at hs
  obtain ⟨⟨⟨⟨⟨⟨hk, hgen⟩, hco⟩, nd1⟩, nd2⟩, hfree⟩, hps⟩ := hs
  have nd1 := nodupS_iff nd1
  have nd2 := nodupS_iff nd2
  have hlen : cvs.length = ps.length := by rw [← hl, ← hcv]; simp
  have base : ∀ b o, C.h₀.get? b = some o → s.heap.get? b = some o := fun b o e => by rw [hh]; exact e
  have fresh : ∀ b, s.heap.objs.size ≤ b → s.heap.get? b = none := fun b hb => by
    cases q : s.heap.get? b with
    | none => rfl
    | some o => exact absurd (Heap.lt_size q) (Nat.not_lt.mpr hb)
  have hkeys : ∀ x ∈ ps.zip cvs, x.1 ∈ ps := fun x hx => (List.of_mem_zip hx).1
  have hmap : (ps.zip cvs).map (·.1) = ps := by rw [← List.unzip_fst]; simp [List.unzip_zip, hlen]
  refine wpAny_call (codeAny_call_cells (by omega) (base a o ho) hd (C.nolim.keeps base) (hcd.keeps base) hb (hba cvs hlen) hcl (fun x hx => ?_) (fun s₁ X₁ => ?_) hco hgen hk)
  · rcases hps x.1 (hkeys x hx) with q | q
    · exact .inl q
    · exact .inr ⟨q, cellsFrom_some _ _ _ _ (.inl q)⟩
  have EL : (callEnvC fd s.heap.objs.size a).locals = s.heap.objs.size := rfl
  have EC : (callEnvC fd s.heap.objs.size a).cells = cellsFrom (s.heap.objs.size + 1) fd.scope.names [] := rfl
  generalize hev : callEnvC fd s.heap.objs.size a = env' at X₁ ⊢
  have EK : ∀ x, env'.kindOf x = kdOf fd.scope x := fun x => by subst hev; rfl
  rw [hev] at EL EC
  obtain ⟨h₁, tk, rfl, hkeep⟩ := X₁.done
  have own : ∀ b ∈ ownOf env', s.heap.get? b = none := fun b hb => by
    rcases List.mem_cons.mp hb with rfl | hb
    · exact fresh _ (by rw [EL]; exact Nat.le_refl _)
    · obtain ⟨p, hp, rfl⟩ := List.mem_map.mp hb
      have := X₁.above p.1 p.2 hp
      rw [EL] at this
      exact fresh _ (Nat.le_of_lt this)
  have ckeys : (env'.cells.map (·.1)).Nodup := by rw [EC]; exact cellsFrom_keys _ _ _ nd1 List.nodup_nil (by simp)
  have ok : EnvOk env' := by
    refine ⟨by subst hev; exact hk, by subst hev; exact hg, by subst hev; exact hbi, ?_, fun x hx => ?_⟩
    · unfold ownOf
      refine List.nodup_cons.mpr ⟨fun hm => ?_, ?_⟩
      · obtain ⟨p, hp, e⟩ := List.mem_map.mp hm
        have := X₁.above p.1 p.2 hp
        rw [e] at this; exact Nat.lt_irrefl _ this
      · exact List.pairwise_map.mpr X₁.apart
    · rw [EK] at hx
      rcases hx with hx | hx
      · rw [EC]; exact Option.isSome_iff_exists.mp (cellsFrom_some _ _ _ _ (.inl hx))
      · exact absurd rfl (hfree _ (mem_of_lookup hx))
  have hnone : ∀ b, s.heap.get? b = none → H.get b = none := fun b hb => by
    cases q : H.get b with
    | none => rfl
    | some n =>
      obtain ⟨o, ho, _⟩ := (hnodes b n q).1
      rw [hh, ho] at hb; cases hb
  have J : Inv C ⟨s.heap, H, [], []⟩ env' (argsOf ps vs) H { s with heap := h₁, toks := tk } := by
    refine ⟨ok, fun b o e => hkeep b o (base b o e), fun b n e => (hnodes b n e).1.at (fun o ho => hkeep b o (base b o ho)), fun b n e r => (by rw [(hnodes b n e).2] at r; cases r), fun b o e e1 _ => ⟨e1, by rw [show ({ s with heap := h₁, toks := tk } : Shared).heap.get? b = some o from hkeep b o e]; exact Kept.refl o⟩,
      fun b hb => ⟨hnone b (own b hb), ?_⟩, ⟨_, X₁.toInCall.ns, fun x v e => ?_⟩, fun p hp => ⟨_, X₁.cell p.1 p.2 (lookup_of_mem ckeys hp)⟩, hgens, hos, fun b hb o e => ?_, fun b hb => ?_, fun b o e => ⟨o, hkeep b o e⟩⟩
    · cases q : C.h₀.get? b with
      | none => rfl
      | some o => have := base b o q; rw [own b hb] at this; cases this
    · unfold argsOf at e
      rw [← hcv, lookup_zip_map] at e
      obtain ⟨cv, hcv1, rfl⟩ := Option.map_eq_some_iff.mp e
      refine ⟨cv, ?_, rfl⟩
      have hxp : x ∈ ps := hkeys _ (mem_of_lookup hcv1)
      obtain ⟨g1, g2⟩ := bind_get env'.kindOf (ps.zip cvs) (fun _ => none) (fun _ => none) x cv (by rw [hmap]; exact nd2) hcv1
      rcases hps x hxp with q | q
      · have : env'.kindOf x = some .local := (EK x).trans q
        exact .inl ⟨this, g1 this⟩
      · have hq : env'.kindOf x = some .cell := (EK x).trans q
        obtain ⟨c, hc⟩ := ok.cell x (.inl hq)
        refine .inr ⟨.inl hq, c, hc, ?_⟩
        have := X₁.cell x c hc
        rwa [g2 (by rw [hq]; decide)] at this
    · rw [own b hb] at e; cases e
    · cases hb
  have S : Stk C ⟨s.heap, H, [], []⟩ (A.deeper env') env' := ⟨by subst hev; rfl, [], by simp [Around.deeper, hfr], by simp⟩
  have G' : Good C [] d true ⟨s.heap, H, [], []⟩ (A.deeper env') env' := ⟨rfl, fun _ => hhd, by simp only [Around.deeper]; omega, by simp only [Around.deeper]; omega, S.frs ok.kind⟩
  refine wpAny_mono (h _ _ env' _ G' S EK (fun cls ρ' H' e s' hx _ => hx.elim) _ J) (fun f s' hf => ?_) fun _ _ e => e
  obtain ⟨ρ', H', J', q⟩ := hf
  have fin : (∀ b o, C.h₀.get? b = some o → s'.heap.get? b = some o) ∧ s'.gens = C.gens ∧ s'.os = C.os := ⟨J'.base, J'.gens, J'.os⟩
  cases f <;> exact ⟨q, fin⟩
theorem zip_lookup_some : ∀ (ps : List Str) (vals : List Value), vals.length = ps.length → ∀ n ∈ ps, ((ps.zip vals).lookup n).isNone = false
  | [], _, _, n, hn => by cases hn
  | p :: ps, [], h, _, _ => by simp at h
  | p :: ps, v :: vals, h, n, hn => by
    rw [List.zip_cons_cons, List.lookup_cons]
    split
    · rfl
    · rename_i hne
      rcases List.mem_cons.mp hn with rfl | hn
      · simp at hne
      · exact zip_lookup_some ps vals (by simpa using h) n hn
theorem fm_congr {α β : Type} {f g : α → Option β} : ∀ {l : List α}, (∀ x ∈ l, f x = g x) → l.filterMap f = l.filterMap g
  | [], _ => rfl
  | a :: r, h => by
    rw [List.filterMap_cons, List.filterMap_cons, h a (List.mem_cons_self ..), fm_congr fun x hx => h x (List.mem_cons_of_mem _ hx)]
theorem zip_filterMap : ∀ (ps : List Str) (vals : List Value), vals.length = ps.length → ps.Nodup → ps.filterMap (fun n => ((ps.zip vals).lookup n).map (fun x => (n, x))) = ps.zip vals
  | [], _, _, _ => rfl
  | p :: ps, [], h, _ => by simp at h
  | p :: ps, v :: vals, h, nd => by
    rw [List.nodup_cons] at nd
    rw [List.filterMap_cons, List.zip_cons_cons]
    simp only [List.lookup_cons, beq_self_eq_true, Option.map_some]
    congr 1
    refine (fm_congr fun n hn => ?_).trans (zip_filterMap ps vals (by simpa using h) nd.2)
    have : (n == p) = false := by simp only [beq_eq_false_iff_ne]; rintro rfl; exact nd.1 hn
    rw [this]
def plainP (p : Arguments) (ps : List Str) : Prop := p.posonlyargs = [] ∧ p.args.map (·.arg) = ps ∧ p.vararg = none ∧ p.kwonlyargs = [] ∧ p.kwarg = none
theorem bind_plain {fd : FuncData} {ps : List Str} (hp : plainP fd.params ps) (hd : fd.defaults = .none) (nd : ps.Nodup) (vals : List Value) (hl : vals.length = ps.length) : bindArgs fd ⟨vals, []⟩ = pure (ps.zip vals) := by
  obtain ⟨h1, h2, h3, h4, h5⟩ := hp
  have hm : ps.filter (fun n => ((ps.zip vals).lookup n).isNone) = [] := by
    rw [List.filter_eq_nil_iff]
    intro n hn
    rw [zip_lookup_some ps vals hl n hn]; decide
  unfold bindArgs
  have hs : seqItems? fd.defaults = pure none := by rw [hd]; rfl
  simp [h1, h2, h3, h4, h5, hs, hl, hm, zip_filterMap ps vals hl nd]
theorem fnAt_top {C : Cx} {p : Program} {loose : List Str} {mean : ExcName → Option Value} (T : Top p loose mean C.mg C.mb C.h₀) {x : Str} {ps : List Str} {body : List Stmt} {scope : Scope}
    (hr : ∃ d ∈ recsOf p, d.name = x ∧ plainP d.params ps ∧ d.body = body ∧ d.scope = scope) (nd : ps.Nodup) : ∃ a, C.mg x = some (.ref a) ∧ GV C x = some (.ref a) ∧ Callee C (.ref a) ∧ FnAt C a ps body scope := by
  obtain ⟨d, hd, rfl, hp, rfl, rfl⟩ := hr
  obtain ⟨a, o, pm, code, doc, h1, h2, h3, h4⟩ := T.fn d hd
  refine ⟨a, h1, by unfold GV; rw [h1]; rfl, Callee.func h2 h3, o, _, h2, h3, rfl, rfl, rfl, rfl, rfl, h4, fun vals hl => bind_plain hp rfl nd vals hl⟩
def cxOf (prog : Program) (w : World) (s : Shared) (ex : List Addr) {p : Program} {loose : List Str} {mean : ExcName → Option Value} {mg mb : Str → Option Value} (T : Top p loose mean mg mb s.heap) (hi : importsNone p = true) : Cx :=
  ⟨prog, w, s.heap, mg, mb, s.gens, s.os, ex, T.g, T.b, T.nolimit, by obtain ⟨mm, ⟨o, _, _, ho, _⟩, _⟩ := (T.seer hi).mods; exact ⟨o, ho⟩⟩
theorem intsAre_map : ∀ {vs : List Value} {xs : List Int}, IntsAre vs xs → vs.map toV = xs.map V.int := by
  intro vs xs h
  induction h with
  | nil => rfl
  | cons i t _ ih => rw [List.map_cons, List.map_cons, ih]; rfl
def recs (p : Program) : List (Str × Arguments × List Stmt × Scope) := (recsOf p).map fun d => (d.name, d.params, d.body, d.scope)
def rowRecs (p : Program) (is : List Nat) : List (Str × Arguments × List Stmt × Scope) := is.map fun i => (fname p i, fparams p i, fbody p i, fscope p i)
theorem rec_mem {p q : Program} {is : List Nat} (h : recs p = rowRecs q is) {i : Nat} (hi : i ∈ is) : ∃ d ∈ recsOf p, d.name = fname q i ∧ d.params = fparams q i ∧ d.body = fbody q i ∧ d.scope = fscope q i := by
  have hm : (fname q i, fparams q i, fbody q i, fscope q i) ∈ recs p := by rw [h]; exact List.mem_map.mpr ⟨i, hi, rfl⟩
  obtain ⟨d, hd, e⟩ := List.mem_map.mp hm
  simp only [Prod.mk.injEq] at e
  exact ⟨d, hd, e.1, e.2.1, e.2.2.1, e.2.2.2⟩
def freeOk (p : Program) (loose xs : List Str) : Bool := xs.all fun x => !startupNames.contains x && !loose.contains x && !((recsOf p).map (·.name)).contains x && !((litsOf p).map (·.1)).contains x && !((clssOf p loose).map (·.name)).contains x && x != ("__name__" : Str)
theorem fnAt_row {C : Cx} {p q : Program} {loose : List Str} {mean : ExcName → Option Value} (T : Top p loose mean C.mg C.mb C.h₀) {is : List Nat} (h : recs p = rowRecs q is) (i : Nat) (x : Str) (ps : List Str) (hi : i ∈ is)
    (hx : fname q i = x) (hp : plainP (fparams q i) ps) (nd : nodupS ps = true) : ∃ a, C.mg x = some (.ref a) ∧ GV C x = some (.ref a) ∧ Callee C (.ref a) ∧ FnAt C a ps (fbody q i) (fscope q i) := by
  obtain ⟨d, hd, e1, e2, e3, e4⟩ := rec_mem h hi
  exact fnAt_top T ⟨d, hd, e1.trans hx, by rw [e2]; exact hp, e3, e4⟩ (nodupS_iff nd)
theorem well_dict {P : Params} {h : Heap} {a : Addr} {l : List PyData} (x : Well P h (.ref a) (ofPy (.list l))) : ∀ o, h.get? a = some o → o.dict = none := by
  unfold ofPy at x
  cases x with
  | list h1 _ => intro o ho; rw [h1] at ho; cases ho; rfl
theorem law_entry {prog p : Program} {w : World} {s : Shared} {loose : List Str} {mean mean' : ExcName → Option Value} {mg mb : Str → Option Value} (T : Top p loose mean mg mb s.heap) (hi : importsNone p = true) {fa lst : Addr} {vals : List Value} {scr : List Int} {d : Nat}
    {c : ClaimW} {cl : Str → Option Addr} {args : List WData} (hg : s.gens = #[]) (hm : mg "law" = some (.ref fa)) (hL : s.heap.IsList lst vals.toArray) (hI : IntsAre vals scr) (hz : ¬ (63 : Int) < (scr.length : Int)) (hd : d ≤ 40)
    (hro : ∀ o, s.heap.get? lst = some o → o.dict = none)
    {ex : List Addr} (hlaw : ∃ a, mg "law" = some (.ref a) ∧ ∀ l H, AH.get H l = some (.rlist (scr.map V.int)) → TopTo (cxOf prog w s ex T hi) d (.ref a) [.ref l] (fun v => v = .bool true) H)
    (hpost : (∀ cls, c.raises args cls = false) ∧ c.post args (.bool true) args = true ∧ ∀ h', ReadsW c.records cl h' (.bool true) (.bool true) []) :
    wpAny (model prog w) callerA (call (.ref fa) [.ref lst]) (fun v s' => GoodWG c cl mean' args s (.ok (.ret v)) s') (fun e s' => GoodWG c cl mean' args s (.error e) s') s := by
  obtain ⟨a, ha, hT⟩ := hlaw
  rw [hm] at ha
  cases ha
  have hnode : NodeAt (cxOf prog w s ex T hi) s.heap lst (.rlist (scr.map V.int)) := by
    obtain ⟨o, ho, hc, n, hs⟩ := hL
    have hmap := intsAre_map hI
    refine ⟨o, ho, ?_, hc, hro o ho, vals.toArray, n, hs, by simpa using hmap⟩
    rw [List.length_map]; omega
  have h := hT lst ⟨fun b => if b = lst then some (.rlist (scr.map V.int)) else none⟩ (by simp) callerA s [.ref lst] (fun e s' => GoodWG c cl mean' args s (.error e) s') rfl rfl rfl rfl (fun b n e => by
    simp only at e
    split at e
    · rename_i hb
      subst hb
      injection e with e
      subst e
      exact ⟨hnode, rfl⟩
    · cases e) rfl rfl (by have : recursionLimit = 1000 := rfl; simp only [callerA, claimMargin]; omega) (by simp only [callerA, cLine]; omega)
  refine wpAny_mono h (fun v s' hv => ?_) fun _ _ e => e
  obtain ⟨hv, h1, h2, h3⟩ := hv
  have := toV_bool hv
  subst this
  exact GoodW.toG ⟨.inl ⟨.bool true, .bool true, [], rfl, hpost.1, hpost.2.2 _, hpost.2.1, fun _ => ⟨List.nodup_nil, by simp⟩⟩, h1, h3, h2.trans hg⟩
def ev0 (n : Nat) (vs : List V) : Ev := vs.map some ++ List.replicate n none
theorem ev0_less : ∀ {sc : Sc} {ps : List Str} {vs : List V} {n : Nat}, (sc.map (·.1)).take ps.length = ps → vs.length = ps.length → ∀ x v, envOf sc (ev0 n vs) x = some v → argsOf ps vs x = some v
  | [], _, _, _, _, _, x, v, h => by cases h
  | q :: sc, [], vs, n, _, hl, x, v, h => by
    have : vs = [] := List.length_eq_zero_iff.mp hl
    subst this
    have key : ∀ (sc : Sc) (n : Nat), envOf sc (List.replicate n none) x = none := by
      intro sc
      induction sc with
      | nil => intro n; rfl
      | cons q sc ih =>
        intro n
        cases n with
        | zero => rfl
        | succ n => rw [List.replicate_succ]; simp only [envOf]; split; rfl; exact ih n
    have h : envOf (q :: sc) (List.replicate n none) x = some v := h
    rw [key] at h; cases h
  | q :: sc, p :: ps, [], _, _, hl, _, _, _ => by simp at hl
  | q :: sc, p :: ps, u :: vs, n, hp, hl, x, v, h => by
    simp only [List.map_cons, List.length_cons, List.take_succ_cons, List.cons.injEq] at hp
    have h : (if x = q.1 then some u else envOf sc (ev0 n vs) x) = some v := h
    unfold argsOf
    rw [List.zip_cons_cons, List.lookup_cons]
    by_cases hx : x = q.1
    · rw [if_pos hx] at h
      have : (x == p) = true := by rw [hx, hp.1]; simp
      rw [this]; exact h
    · rw [if_neg hx] at h
      have : (x == p) = false := by rw [← hp.1]; simpa using hx
      rw [this]
      exact ev0_less hp.2 (by simpa using hl) x v h
def defChk (scope : Scope) (body : List Stmt) (c : CS) (gx : Gx) (free : Bool) (ps : List Str) : Bool :=
  (scopeOk scope ps && (scope.names.all fun q => nameOk q.1)) && ((scope.names.map (·.1)).take ps.length == ps && chkB c scope.names gx free (posB c body))
def gsAll (C : Cx) (d : Nat) (free : Bool) : Sc → List (Option G) → Prop
  | q :: sc, some g :: gs => (q.2 = .globalImplicit ∧ GOk C d free q.1 g) ∧ gsAll C d free sc gs
  | _ :: sc, none :: gs => gsAll C d free sc gs
  | _, [] => True
  | [], _ => False
theorem gsAll_out {C : Cx} {d : Nat} {free : Bool} : ∀ {sc : Sc} {gs : List (Option G)}, gsAll C d free sc gs → ∀ (j : Nat) (g : G), gs[j]? = some (some g) → ∃ x, sc[j]? = some (x, NameKind.globalImplicit) ∧ GOk C d free x g
  | [], [], _, _, _, h => by cases h
  | _ :: _, [], _, _, _, h => by cases h
  | [], some _ :: _, h, _, _, _ => h.elim
  | [], none :: _, h, _, _, _ => h.elim
  | q :: sc, some g0 :: gs, h, 0, g, e => by simp at e; subst e; exact ⟨q.1, by simp [← h.1.1], h.1.2⟩
  | q :: sc, some g0 :: gs, h, j + 1, g, e => gsAll_out h.2 j g e
  | q :: sc, none :: gs, h, 0, g, e => by simp at e
  | q :: sc, none :: gs, h, j + 1, g, e => gsAll_out (sc := sc) h j g e
def gxAll (C : Cx) (d : Nat) : Gx → Prop
  | [] => True
  | p :: r => GOk C d true p.1 p.2 ∧ gxAll C d r
theorem gxAll_out {C : Cx} {d : Nat} : ∀ {gx : Gx}, gxAll C d gx → ∀ p ∈ gx, GOk C d true p.1 p.2
  | [], _, _, h => by cases h
  | q :: r, h, p, hp => by
    rcases List.mem_cons.mp hp with rfl | hp
    · exact h.1
    · exact gxAll_out h.2 p hp
def ExsOk (C : Cx) (sup : List (List Nat)) : Prop := ∀ i a, C.ex[i]? = some a → ExcIs C sup i a
theorem kOk_of {C : Cx} {d : Nat} {free : Bool} {sc : Sc} {gs : List (Option G)} {gx : Gx} {sup : List (List Nat)} {fz : List Nat} (nd : (sc.map (·.1)).Nodup) (nm : (sc.all fun q => nameOk q.1) = true) (hg : gsAll C d free sc gs) (hx : gxAll C d gx) (he : ExsOk C sup) : KOk ⟨C, sc, gs, gx, fz, d, free, sup⟩ :=
  ⟨nd, List.all_eq_true.mp nm, gsAll_out hg, fun _ => gxAll_out hx, he⟩
def retR (Q : QV) : PS := fun f _ H' => Q (match f with | .ret v => v | _ => .none) H'
section
variable {C : Cx} {a : Addr} {ps : List Str} {body : List Stmt} {scope : Scope} {d : Nat} {free : Bool} {gs : List (Option G)} {gx : Gx} {sup : List (List Nat)}
theorem scope_nd (h : scopeOk scope ps = true) : (scope.names.map (·.1)).Nodup := by
  simp only [scopeOk, Bool.and_eq_true] at h
  exact nodupS_iff h.1.1.1.2
theorem def_at {T : Tr} (c : CS) (n : Nat) (F : FnAt C a ps body scope) (hk : defChk scope body c gx free ps = true) (hb : toB c scope.names gx (posB c body) = body) (he : ExsOk C sup) (hg : gsAll C d free scope.names gs) (hx : gxAll C d gx)
    (h : ∀ fz vs Q X H, T fz vs Q X H → vs.length = ps.length ∧ Nx (wS c ⟨C, scope.names, gs, gx, fz, d, free, sup⟩ (fun i _ H => X i H) (retR Q) (ev0 n vs) H)) : Meets C (d + 1) free (.ref a) T := by
  intro fz vs Q X H hT
  obtain ⟨h1, h2⟩ := and2 hk
  obtain ⟨h1, h3⟩ := and2 h1
  obtain ⟨h4, h5⟩ := and2 h2
  obtain ⟨hl, hw⟩ := h fz vs Q X H hT
  exact calls_at c F h1 hl (kOk_of (scope_nd h1) h3 hg hx he) hb h5 (ev0 n vs) (ev0_less (beq_iff_eq.mp h4) hl) hw.out
theorem top_at {Q : V → Prop} {vs : List V} {H : AH} (c : CS) (n : Nat) (F : FnAt C a ps body scope) (hk : defChk scope body c gx true ps = true) (hb : toB c scope.names gx (posB c body) = body) (he : ExsOk C sup) (hg : gsAll C d true scope.names gs) (hx : gxAll C d gx)
    (hl : vs.length = ps.length) (h : Nx (wS c ⟨C, scope.names, gs, gx, [], d, true, sup⟩ (fun _ _ _ => False) (retR fun v _ => Q v) (ev0 n vs) H)) : TopTo C (d + 1) (.ref a) vs Q H := by
  obtain ⟨h1, h2⟩ := and2 hk
  obtain ⟨h1, h3⟩ := and2 h1
  obtain ⟨h4, h5⟩ := and2 h2
  refine topTo_of F h1 hl fun sn A env E G S hkd hE => ?_
  have ok : KOk ⟨C, scope.names, gs, gx, [], d, true, sup⟩ := kOk_of (scope_nd h1) h3 hg hx he
  have := (soundB c).1 ⟨C, scope.names, gs, gx, [], d, true, sup⟩ (posB c body) (fun _ _ _ => False) _ (ev0 n vs) H ok h5 h.out sn A env E ⟨G, S, hkd, fun cls ρf H' e s hx _ => by obtain ⟨_, _, _, _, _, _, h⟩ := hx; exact h.elim⟩
  rw [show toB c (KK.mk C scope.names gs gx [] d true sup).sc (KK.mk C scope.names gs gx [] d true sup).gx (posB c body) = body from hb] at this
  refine (this.less (ev0_less (beq_iff_eq.mp h4) hl)).mono fun f ρ' H' hf => ?_
  obtain ⟨_, _, hf⟩ := hf
  cases f <;> exact hf
end
end Mine
namespace Mine
open PySem PySem.Calls PySem.SeqAt PySem.W PyProof.Rows
def Ext (H H' : AH) : Prop := ∀ a n, H.get a = some n → H'.get a = some n
theorem Ext.refl (H : AH) : Ext H H := fun _ _ h => h
theorem Ext.trans {H H' H'' : AH} (h : Ext H H') (h' : Ext H' H'') : Ext H H'' := fun a n e => h' a n (h a n e)
theorem ne_of_get {H : AH} {p a : Nat} {n : Node} (hp : H.get p = some n) (ha : H.get a = none) : p ≠ a := by rintro rfl; rw [hp] at ha; cases ha
theorem Ext.set {H H' : AH} {a : Nat} {n : Node} (h : Ext H H') (ha : H.get a = none) : Ext H (H'.set a n) := fun b m e => by rw [AH.set_ne _ _ (ne_of_get e ha)]; exact h b m e
theorem Ext.new {H : AH} {a : Nat} {n : Node} (ha : H.get a = none) : Ext H (H.set a n) := (Ext.refl H).set ha
theorem Ext.none {H H' : AH} {a : Nat} (h : Ext H H') (ha : H'.get a = none) : H.get a = none := by
  cases q : H.get a with
  | none => rfl
  | some n => rw [h a n q] at ha; cases ha
def gives (fz : List Nat) (n : Node) (Q : V → AH → Prop) (H : AH) : Prop := ∀ H' a, Ext H H' → H.get a = none → a ∉ fz → H'.get a = some n → Q (.ref a) H'
theorem take_flatMap {α β : Type} (g : α → List β) {xs : List α} {k : Nat} {y : α} (h : xs[k]? = some y) : (xs.take (k + 1)).flatMap g = (xs.take k).flatMap g ++ g y := by
  rw [List.take_add_one, h]; simp
theorem items_rng {H : AH} {p : Nat} {n : Nat} (h : H.get p = some (.rng 0 n 1)) (hn : n ≤ 2 ^ 60) : ItemsV H (.ref p) ((List.range n).map fun i => V.int (i : Nat)) := by
  unfold ItemsV
  simp only [h]
  refine ⟨by omega, ?_⟩
  unfold rngItems
  have : (Builtin.Range.rangeSize 0 n 1).toNat = n := by
    unfold Builtin.Range.rangeSize
    rw [if_pos (by omega)]
    split <;> omega
  rw [this]
  simp
theorem items_list {H : AH} {p : Nat} {xs : List V} (h : H.get p = some (.list xs)) : ItemsV H (.ref p) xs := by unfold ItemsV; simp only [h]
theorem range_get {n k : Nat} {y : V} (h : ((List.range n).map fun i => V.int (i : Nat))[k]? = some y) : k < n ∧ y = .int k := by
  rw [List.getElem?_map] at h
  cases q : (List.range n)[k]? with
  | none => rw [q] at h; cases h
  | some i =>
    rw [q] at h
    obtain ⟨hk, e⟩ := List.getElem?_eq_some_iff.mp q
    simp at hk e h
    subst e
    exact ⟨hk, h.symm⟩
theorem getD_int (xs : List Int) (k : Nat) : (xs.map V.int).getD k (.int 0) = .int (xs.getD k 0) := by
  simp only [List.getD, List.getElem?_map]
  cases xs[k]? <;> rfl
theorem pick_nat (xs : List V) (k : Nat) : pick xs (k : Int) = xs[k]? := by
  unfold pick; rw [if_pos (Int.natCast_nonneg _), Int.toNat_natCast]
theorem pick_strs {xs : List Str} {k : Nat} {x : Str} (h : xs[k]? = some x) : pick (xs.map V.str) (k : Int) = some (.str x) := by
  rw [pick_nat, List.getElem?_map, h]; rfl
theorem made_of {fz : List Nat} {n : Node} {Q : V → AH → Prop} {H : AH} (h : ∀ H' a, Ext H H' → H.get a = none → a ∉ fz → H'.get a = some n → Q (.ref a) H') : Made fz n Q H :=
  ⟨fun a ha hf => h _ a (Ext.new ha) ha hf (AH.set_self ..)⟩
theorem tx_append (a b : List Nat) : tx a ++ tx b = tx (a ++ b) := by
  show Str.append (tx a) (tx b) = _
  simp [tx, Str.append]
theorem tx_length (a : List Nat) : (tx a).length = a.length := by simp [tx, Str.length]
theorem tx_inj {a b : List Nat} (h : tx a = tx b) : a = b := by
  have := congrArg (fun s : Str => s.cps.toList) h
  simpa [tx] using this
theorem join_tx : ∀ (l : List Nat), Txt.join ((tx [])) (l.map fun c => (⟨#[c]⟩ : Str)) = tx l := by
  intro l
  unfold Txt.join
  rw [StrLaws.glued_eq_join]
  induction l with
  | nil => rfl
  | cons c r ih =>
    cases r with
    | nil => rfl
    | cons d r =>
      have : Str.join ((tx [])) (((c :: d :: r) : List Nat).map fun c => (⟨#[c]⟩ : Str)) = (⟨#[c]⟩ : Str) ++ (tx []) ++ Str.join ((tx [])) ((d :: r).map fun c => (⟨#[c]⟩ : Str)) := rfl
      rw [this, ih]
      show tx [c] ++ tx [] ++ tx (d :: r) = _
      rw [tx_append, tx_append]; rfl
theorem joinOk_tx (l : List Nat) (h : l.length ≤ 1000) : JoinOk ((tx [])) (l.map fun c => (⟨#[c]⟩ : Str)) = true := by
  have : ∀ (l : List Nat) (a : Nat), (l.map fun c => (⟨#[c]⟩ : Str)).foldl (fun x (y : Str) => x + y.length + ((tx [])).length) a = a + l.length := by
    intro l
    induction l with
    | nil => intro a; rfl
    | cons c r ih => intro a; rw [List.map_cons, List.foldl_cons, ih]; simp [Str.length]; have : ((tx [])).cps.size = 0 := rfl; omega
  unfold JoinOk
  rw [← Array.foldl_toList, List.toList_toArray, this]
  simp [Builtin.Str.tooLong, sizeLine]
  omega
def abc : Str := tx [97,98,99,100,101,102,103,104,105,106,107,108,109,110,111,112,113,114,115,116,117,118,119,120,121,122]
theorem eqV_strs {H : AH} {p q : Nat} {xs ys : List Str} (hp : H.get p = some (.list (xs.map V.str))) (hq : H.get q = some (.list (ys.map V.str))) : ∃ d, EqV H (.ref p) (.ref q) (decide (xs = ys)) d ∧ d ≤ deepest := by
  by_cases hl : xs.length = ys.length
  · have he : (List.range (xs.map V.str).length).all (fun j => decide (xs[j]? = ys[j]?)) = decide (xs = ys) := by
      rw [Bool.eq_iff_iff]
      simp only [List.length_map, List.all_eq_true, List.mem_range, decide_eq_true_eq]
      constructor
      · intro h
        apply List.ext_getElem?
        intro i
        by_cases hi : i < xs.length
        · exact h i hi
        · rw [List.getElem?_eq_none (by omega), List.getElem?_eq_none (by omega)]
      · rintro rfl _ _; rfl
    refine ⟨0 + 1, ?_, by decide⟩
    rw [← he]
    refine .list hp hq rfl rfl (by simp [hl]) (fun e => ?_) fun j x y hx hy => .sc ?_
    · subst e
      rw [hp] at hq
      injection hq with hq
      injection hq with hq
      have := map_inj_of (fun a b e => by injection e) hq
      subst this
      simp
    · rw [List.getElem?_map] at hx hy
      obtain ⟨a, ha, rfl⟩ := Option.map_eq_some_iff.mp hx
      obtain ⟨b, hb, rfl⟩ := Option.map_eq_some_iff.mp hy
      simp only [scEq, ha, hb, Option.some.injEq]
      exact Bool.beq_eq_decide_eq a b
  · refine ⟨0, ?_, by decide⟩
    have : decide (xs = ys) = false := by simp; rintro rfl; exact hl rfl
    rw [this]
    exact .len hp hq rfl rfl (by simpa using hl)
theorem forS_of {ρ : Ev} {body : V → V → PS → Ev → AH → Prop} {N : Ev → AH → Prop} {R : PS} {v : V} {H : AH} (xs : List V) (J : Nat → Ev → AH → Prop) (hx : ItemsV H v xs) (j0 : J 0 ρ H)
    (turn : ∀ (k : Nat) y ρ' H', xs[k]? = some y → J k ρ' H' → body v y (turnR (thenR N R) (J (k + 1))) ρ' H') (fin : ∀ ρ' H', J xs.length ρ' H' → N ρ' H') : forG ρ body (thenR N R) v H := ⟨xs, hx, J, j0, turn, fin⟩
theorem ife_cut {c : CE} {a b r : CS} {K : KK} {X : XS} {R : PS} {ρ : Ev} {H : AH} (P : Ev → AH → Prop)
    (h : ∀ N : Ev → AH → Prop, (∀ ρ' H', P ρ' H' → N ρ' H') → wT c K ρ (fun i H => X i ρ H) (fun t H₁ => br t (wS a K X (thenR N R) ρ H₁) (wS b K X (thenR N R) ρ H₁)) H) (hr : ∀ ρ' H', P ρ' H' → Nx (wS r K X R ρ' H')) : Nx (wS (.ife c a b r) K X R ρ H) := ⟨h _ hr⟩
theorem comp_flat {K : KK} {turn : V → (List V → AH → Prop) → List V → AH → Prop} {Q : QV} {v : V} {H : AH} (xs : List V) (g : V → List V) (hx : ItemsV H v xs) (hz : xs.length ≤ sizeLine)
    (ht : ∀ (k : Nat) y ys H', xs[k]? = some y → Ext H H' → turn y (fun zs H'' => zs = ys ++ g y ∧ Ext H H'') ys H') (fin : ∀ H', Ext H H' → Made K.fz (.list (xs.flatMap g)) Q H') : compG K turn Q v H := by
  refine ⟨xs, hx, hz, fun k ys H' => ys = (xs.take k).flatMap g ∧ Ext H H', ⟨by simp, Ext.refl H⟩, fun k y ys H' hy hJ => ?_, fun ys H' _ hJ => ?_⟩
  · obtain ⟨rfl, he⟩ := hJ
    have := ht k y ((xs.take k).flatMap g) H' hy he
    show turn y (fun zs H' => zs = (xs.take (k + 1)).flatMap g ∧ Ext H H') _ H'
    rw [take_flatMap g hy]
    exact this
  · obtain ⟨rfl, he⟩ := hJ
    rw [List.take_length]
    exact fin H' he
theorem flat_map {f : V → V} (l : List V) : l.flatMap (fun y => [f y]) = l.map f := by
  induction l with
  | nil => rfl
  | cons x r ih => rw [List.flatMap_cons, ih]; rfl
theorem flat_filter {p : V → Bool} (l : List V) : l.flatMap (fun y => if p y then [y] else []) = l.filter p := by
  induction l with
  | nil => rfl
  | cons x r ih => rw [List.flatMap_cons, ih]; by_cases h : p x <;> simp [h]
theorem comp_map {K : KK} {turn : V → (List V → AH → Prop) → List V → AH → Prop} {Q : QV} {v : V} {H : AH} (xs : List V) (f : V → V) (hx : ItemsV H v xs) (hz : xs.length ≤ sizeLine)
    (ht : ∀ (k : Nat) y ys H', xs[k]? = some y → Ext H H' → turn y (fun zs H'' => zs = ys ++ [f y] ∧ Ext H H'') ys H') (fin : ∀ H', Ext H H' → Made K.fz (.list (xs.map f)) Q H') : compG K turn Q v H :=
  comp_flat xs (fun y => [f y]) hx hz ht fun H' he => by rw [flat_map]; exact fin H' he
theorem comp_filter {K : KK} {turn : V → (List V → AH → Prop) → List V → AH → Prop} {Q : QV} {v : V} {H : AH} (xs : List V) (p : V → Bool) (hx : ItemsV H v xs) (hz : xs.length ≤ sizeLine)
    (ht : ∀ (k : Nat) y ys H', xs[k]? = some y → Ext H H' → turn y (fun zs H'' => zs = ys ++ (if p y then [y] else []) ∧ Ext H H'') ys H') (fin : ∀ H', Ext H H' → Made K.fz (.list (xs.filter p)) Q H') : compG K turn Q v H :=
  comp_flat xs (fun y => if p y then [y] else []) hx hz ht fun H' he => by rw [flat_filter]; exact fin H' he
theorem in_strs {H : AH} {xs : List V} {ss : List Str} {k : Str} {Q : Bool → Prop} (e : xs = ss.map V.str) (h : Q (decide (k ∈ ss))) : Mem H xs (.str k) Q := by
  subst e
  refine ⟨fun v => decide (v = .str k), fun y hy => ?_, ?_⟩
  · obtain ⟨s, hs, rfl⟩ := List.mem_map.mp hy
    refine ⟨0, .sc ?_, Nat.zero_le _⟩
    simp only [scEq, V.str.injEq, Option.some.injEq]
    exact Bool.beq_eq_decide_eq s k
  · have : (ss.map V.str).any (fun v => decide (v = .str k)) = decide (k ∈ ss) := by
      rw [Bool.eq_iff_iff]
      simp only [List.any_map, List.any_eq_true, Function.comp, decide_eq_true_eq, V.str.injEq]
      constructor
      · rintro ⟨x, hx, rfl⟩; exact hx
      · intro hx; exact ⟨k, hx, rfl⟩
    rw [this]; exact h
theorem strs_get {ss : List Str} {k : Nat} {y : V} (h : (ss.map V.str)[k]? = some y) : ∃ s, ss[k]? = some s ∧ y = .str s := by
  rw [List.getElem?_map] at h
  obtain ⟨s, h1, h2⟩ := Option.map_eq_some_iff.mp h
  exact ⟨s, h1, h2.symm⟩
theorem same_strs {H : AH} {p q : Nat} {xs ys : List Str} {k : Bool → Prop} (hp : H.get p = some (.list (xs.map V.str))) (hq : H.get q = some (.list (ys.map V.str))) (h : k (decide (xs = ys))) : Same H (.ref p) (.ref q) k := by
  obtain ⟨d, h1, h2⟩ := eqV_strs hp hq
  exact ⟨_, d, h1, h2, h⟩
theorem brn {c : Prop} [Decidable c] {A B : Prop} (h1 : ¬ c → A) (h2 : c → B) : br (!decide c) A B := brs (fun h => h1 (by simpa using h)) fun h => h2 (by simpa using h)
def onS (f : Str → Bool) : V → Bool
  | .str s => f s
  | _ => false
theorem filter_strs (f : Str → Bool) (ss : List Str) : (ss.map V.str).filter (onS f) = (ss.filter f).map V.str := by
  rw [List.filter_map]; rfl
theorem sizeS {n : Nat} (h : n ≤ 100000) : n ≤ sizeLine := Nat.le_trans h (by unfold sizeLine; decide)
theorem mulL {a b : Int} {P : Prop} (h1 : -18446744073709551616 < a) (h2 : a < 18446744073709551616) (h : P) : IntMulOk a b ∧ P := ⟨mulOk_left (by omega) (by omega), h⟩
theorem fm0 (a : Int) {b : Int} (h : 0 < b) : 0 ≤ a.fmod b := Int.fmod_nonneg_of_pos _ h
theorem fmlt (a : Int) {b : Int} (h : 0 < b) : a.fmod b < b := Int.fmod_lt_of_pos _ h
theorem cat_tx {a b : List Nat} {k : Str → Prop} (hz : a.length + b.length ≤ 1000) (h : k (tx (a ++ b))) : Cat (tx a) (tx b) k :=
  ⟨by rw [tx_length, tx_length]; exact Nat.le_trans hz (by unfold sizeLine; decide), by rw [tx_append]; exact h⟩
theorem jn_tx {l : List Nat} {k : Str → Prop} {xs : List V} (hx : xs = l.map fun c => V.str ⟨#[c]⟩) (hl : l.length ≤ 1000) (h : k (tx l)) : Jn (tx []) xs k :=
  ⟨l.map fun c => ⟨#[c]⟩, by subst hx; simp, joinOk_tx l hl, by rw [join_tx]; exact h⟩
theorem arg2V {vs : List V} {k : V → V → Prop} (h : arg2 vs k) : ∃ a b, vs = [a, b] ∧ k a b := by
  match vs, h with
  | [a, b], h => exact ⟨a, b, rfl, h⟩
inductive CellAt (H : AH) (l : Nat) (k : Int) (Q : V → Prop) : Prop
  | mk (ys : List V) : H.get l = some (.rlist ys) → 0 ≤ k → Q (ys.getD k.toNat (.int 0)) → CellAt H l k Q
def T_cell : Tr := fun _ vs Q _ H => arg2 vs fun a b => onRef a fun l => onInt b fun k => CellAt H l k fun v => Q v H
theorem cell_any {H : AH} {l : Nat} {scr : List Int} {k : Int} {Q : V → Prop} (hl : H.get l = some (.rlist (scr.map V.int))) (hk : 0 ≤ k) (h : ∀ i : Int, Q (.int i)) : CellAt H l k Q := ⟨_, hl, hk, by rw [getD_int]; exact h _⟩
theorem T_cell_out {fz : List Nat} {vs : List V} {Q : QV} {X : QX} {H : AH} (h : T_cell fz vs Q X H) : ∃ l k ys, vs = [.ref l, .int k] ∧ H.get l = some (.rlist ys) ∧ 0 ≤ k ∧ Q (ys.getD k.toNat (.int 0)) H := by
  replace h := arg2V h
  obtain ⟨a, b, rfl, h⟩ := h
  replace h := onRef_out h
  obtain ⟨l, rfl, h⟩ := h
  replace h := onInt_out h
  obtain ⟨k, rfl, h⟩ := h
  obtain ⟨ys, hl, hk, h⟩ := h
  exact ⟨l, k, ys, rfl, hl, hk, h⟩
end Mine
namespace Mine
open PySem PySem.Calls PySem.SeqAt PySem.W PyProof.Rows
end Mine
namespace Mine
open PySem PySem.Calls PySem.SeqAt PySem.W PyProof.Rows
theorem gv_str {C : Cx} {p : Program} {loose : List Str} {mean : ExcName → Option Value} (T : Top p loose mean C.mg C.mb C.h₀) {x s : Str} (h : valOf p x = some (.str s)) : ∃ cv, GV C x = some cv ∧ toV cv = .str s := by
  obtain ⟨v, hv, hr⟩ := T.const x _ h
  obtain ⟨t, e, _⟩ := reads_str_inv (hr {})
  subst e
  exact ⟨_, by unfold GV; rw [hv]; rfl, rfl⟩
theorem gv_int {C : Cx} {p : Program} {loose : List Str} {mean : ExcName → Option Value} (T : Top p loose mean C.mg C.mb C.h₀) {x : Str} {i : Int} (h : valOf p x = some (.int i)) : ∃ cv, GV C x = some cv ∧ toV cv = .int i := by
  obtain ⟨v, hv, hr⟩ := T.const x _ h
  obtain ⟨t, e, _⟩ := reads_int_inv (hr {})
  subst e
  exact ⟨_, by unfold GV; rw [hv]; rfl, rfl⟩
end Mine
namespace Mine
open PySem PySem.Calls PySem.SeqAt PySem.W PyProof.Rows PySem.Challenge
abbrev pw : Program := pw_uf040039_01
def sup : List (List Nat) := []
abbrev tAdd : Str := tx [97,100,100]
abbrev tDrop : Str := tx [100,114,111,112]
abbrev tName : Str := tx [110,97,109,101]
abbrev tShift : Str := tx [115,104,105,102,116]
abbrev tTurn : Str := tx [116,117,114,110]
abbrev tPart : Str := tx [112,97,114,116]
abbrev tJoin : Str := tx [106,111,105,110]
def isN : V → Bool
  | .str s => (decide (1 ≤ s.length) && decide (s.length ≤ 8)) && s.cps.toList.all fun c => decide (c ∈ abc.cps.toList)
  | _ => false
def isI : V → Bool
  | .int _ => true
  | _ => false
def isZ : V → Bool
  | .int i => decide (2 ≤ i) && decide (i ≤ 1000000)
  | _ => false
def m1 (f : V → Bool) : List V → Bool
  | [n] => f n
  | _ => false
def m3 (f : V → V → V → Bool) : List V → Bool
  | [a, b, c] => f a b c
  | _ => false
def stepF (w : Str) (parts : List V) : Bool :=
  match parts with
  | [] => false
  | p :: r => isN p && (if w = tDrop ∨ w = tTurn then r.isEmpty else if w = tAdd ∨ w = tShift then m1 isI r else if w = tName then m1 isN r else
      if w = tPart ∨ w = tJoin then m3 (fun a b c => (isN a && isN b && isZ c) && (if w = tPart then decide (a ≠ b) else decide (p ≠ a))) r else false)
inductive Served (H : AH) : V → Prop
  | none : Served H .none
  | bool (b : Bool) : Served H (.bool b)
  | int (i : Int) : Served H (.int i)
  | str (s : Str) (h : s.length ≤ 1000) : Served H (.str s)
  | list (p : Nat) (xs : List V) (h : H.get p = some (.list xs)) : Served H (.ref p)
  | tuple (p : Nat) (xs : List V) (h : H.get p = some (.tuple xs)) : Served H (.ref p)
  | dict (p : Nat) (xs : List (Str × V)) (h : H.get p = some (.sdict xs)) : Served H (.ref p)
theorem Served.ext {H H' : AH} {v : V} (h : Served H v) (e : Ext H H') : Served H' v := by
  cases h with
  | none => exact .none
  | bool b => exact .bool b
  | int i => exact .int i
  | str s h => exact .str s h
  | list p xs h => exact .list p xs (e _ _ h)
  | tuple p xs h => exact .tuple p xs (e _ _ h)
  | dict p xs h => exact .dict p xs (e _ _ h)
inductive StepSays (H : AH) : V → Bool → Prop
  | step (p : Nat) (w : Str) (parts : List V) : H.get p = some (.tuple (.str w :: parts)) → (∀ x ∈ parts, Served H x) → parts.length ≤ 5 → StepSays H (.ref p) (stepF w parts)
  | none : StepSays H .none false
  | bool (b : Bool) : StepSays H (.bool b) false
  | str (s : Str) : StepSays H (.str s) false
  | list (p : Nat) (xs : List V) (h : H.get p = some (.list xs)) : StepSays H (.ref p) false
  | dict (p : Nat) (xs : List (Str × V)) (h : H.get p = some (.sdict xs)) : StepSays H (.ref p) false
  | short (p : Nat) (xs : List V) : H.get p = some (.tuple xs) → xs.length < 2 → StepSays H (.ref p) false
  | odd (p : Nat) (x y : V) (xs : List V) : H.get p = some (.tuple (x :: y :: xs)) → Served H x → (∀ s, x ≠ .str s) → StepSays H (.ref p) false
def kcs (w : Str) : List Nat := if w = tDrop ∨ w = tTurn then [110] else if w = tAdd ∨ w = tShift then [110, 105] else if w = tName then [110, 110] else [110, 110, 110, 115]
def sig1 : List Nat := [32,33,34,35,36,38,39,40,41,42,43,44,45,46,47,48,49,50,51,52,53,54,55,56,57,58,59,60,61,62,63,64,65,66,67,68,69,70,71,72,73,74,75,76,77,78,79,80,81,82,83,84,85,86,87,88,89,90,91,92,93,94,95,96]
def sig2 : List Nat := [97,98,99,100,101,102,103,104,105,106,107,108,109,110,111,112,113,114,115,116,117,118,119,120,121,122,123,124,125,126,10]
def T_isname : Tr := fun _ vs Q _ H => ∃ v, vs = [v] ∧ Served H v ∧ ∀ H', Ext H H' → Q (.bool (isN v)) H'
def T_isnumber : Tr := fun _ vs Q _ H => ∃ v, vs = [v] ∧ Served H v ∧ Q (.bool (isI v)) H
def T_issize : Tr := fun _ vs Q _ H => ∃ v, vs = [v] ∧ Served H v ∧ Q (.bool (isZ v)) H
def T_isstep : Tr := fun _ vs Q _ H => ∃ v b, vs = [v] ∧ StepSays H v b ∧ ∀ H', Ext H H' → Q (.bool b) H'
def T_signs : Tr := fun _ vs Q _ H => vs = [] ∧ Q (.str (tx (sig1 ++ sig2))) H
def T_text : Tr := fun _ vs Q _ H => ∃ c o, vs = [.int c, .int o] ∧ ∀ t H', t.length ≤ 10 → Ext H H' → Q (.str t) H'
def T_number : Tr := fun _ vs Q _ H => ∃ c, vs = [.int c] ∧ ∀ i H', Ext H H' → Q (.int i) H'
def T_kinds : Tr := fun _ vs Q _ H => ∃ w, vs = [.str w] ∧ Q (.str (tx (kcs w))) H
def T_lstep : Tr := fun _ vs Q _ H => ∃ w p parts, vs = [.str w, .ref p] ∧ H.get p = some (.list parts) ∧ (∀ x ∈ parts, Served H x) ∧ parts.length ≤ 5 ∧ ∀ H', Ext H H' → Q (.bool (stepF w parts)) H'
def T_part : Tr := fun _ vs Q _ H => ∃ (l : Nat) (k : Int) (t : Str) (n : Int) (c : Str) (scr : List Int), vs = [.ref l, .int k, .str t, .int n, .str c] ∧ H.get l = some (.rlist (scr.map V.int)) ∧ 0 ≤ k ∧ t.length ≤ 10 ∧ ∀ v H', Ext H H' → Served H' v → Q v H'
def T_same : Tr := fun _ vs Q _ H => ∃ a b, vs = [.bool a, .bool b] ∧ Q (.bool (a == b)) H
/- _law_cell_at: place 9; 0 _law_script 1 _law_k 2 len -/
def c_cell : CS := (.ife (.cmp .Lt (.var 1) (.call 2 (.cons (.var 0) .nil))) (.ret (.sub (.var 0) (.var 1)) .skip) .skip (.ret (.int 0) .skip))
def g_cell : List (Option G) := [none, none, some (.bi .len)]
def x_cell : Gx := []
/- is_name: place 4; 0 thing 1 isinstance 2 str 3 len 4 LONGEST 5 all -/
def c_isname : CS := (.ife (.bop .Or (.cons (.not (.isi 1 2 (.var 0))) (.cons (.not (.cmp2 .LtE .LtE (.int 1) (.call 3 (.cons (.var 0) .nil)) (.glob 4))) .nil))) (.ret (.bool false) .skip) .skip (.ret (.call 5 (.cons (.comp (.cmp .In (.var 1) (.glob 2)) (.var 0) [.own ".0", .own "sign", .gl 0] 1) .nil)) .skip))
def g_isname : List (Option G) := [none, some (.isi), some (.ty .str), some (.bi .len), some (.val (.int 8)), some (.bi .all)]
def x_isname : Gx := [("LETTERS", .val (.str abc))]
/- is_number: place 5; 0 thing 1 isinstance 2 int 3 bool -/
def c_isnumber : CS := (.ret (.bop .And (.cons (.isi 1 2 (.var 0)) (.cons (.not (.isi 1 3 (.var 0))) .nil))) .skip)
def g_isnumber : List (Option G) := [none, some (.isi), some (.bi .int), some (.ty .bool)]
def x_isnumber : Gx := []
/- is_size: place 6; 0 thing 1 is_number 2 MOST_SIZE -/
def c_issize : CS := (.ret (.bop .And (.cons (.call 1 (.cons (.var 0) .nil)) (.cons (.cmp2 .LtE .LtE (.int 2) (.var 0) (.glob 2)) .nil))) .skip)
def g_issize : List (Option G) := [none, some (.con T_isnumber false), some (.val (.int 1000000))]
def x_issize : Gx := []
/- is_step: place 7; 0 thing 1 isinstance 2 tuple 3 len 4 str 5 is_name 6 is_number 7 is_size -/
def c_isstep : CS := (.ife (.bop .Or (.cons (.not (.isi 1 2 (.var 0))) (.cons (.cmp .Lt (.call 3 (.cons (.var 0) .nil)) (.int 2)) (.cons (.not (.isi 1 4 (.sub (.var 0) (.int 0)))) (.cons (.not (.call 5 (.cons (.sub (.var 0) (.int 1)) .nil))) .nil))))) (.ret (.bool false) .skip) .skip (.ife (.bop .Or (.cons (.cmp .Eq (.sub (.var 0) (.int 0)) (.str [100,114,111,112])) (.cons (.cmp .Eq (.sub (.var 0) (.int 0)) (.str [116,117,114,110])) .nil))) (.ret (.cmp .Eq (.call 3 (.cons (.var 0) .nil)) (.int 2)) .skip) .skip (.ife (.bop .Or (.cons (.cmp .Eq (.sub (.var 0) (.int 0)) (.str [97,100,100])) (.cons (.cmp .Eq (.sub (.var 0) (.int 0)) (.str [115,104,105,102,116])) .nil))) (.ret (.bop .And (.cons (.cmp .Eq (.call 3 (.cons (.var 0) .nil)) (.int 3)) (.cons (.call 6 (.cons (.sub (.var 0) (.int 2)) .nil)) .nil))) .skip) .skip (.ife (.cmp .Eq (.sub (.var 0) (.int 0)) (.str [110,97,109,101])) (.ret (.bop .And (.cons (.cmp .Eq (.call 3 (.cons (.var 0) .nil)) (.int 3)) (.cons (.call 5 (.cons (.sub (.var 0) (.int 2)) .nil)) .nil))) .skip) .skip (.ife (.bop .Or (.cons (.bop .And (.cons (.cmp .NotEq (.sub (.var 0) (.int 0)) (.str [112,97,114,116])) (.cons (.cmp .NotEq (.sub (.var 0) (.int 0)) (.str [106,111,105,110])) .nil))) (.cons (.cmp .NotEq (.call 3 (.cons (.var 0) .nil)) (.int 5)) .nil))) (.ret (.bool false) .skip) .skip (.ife (.bop .Or (.cons (.not (.call 5 (.cons (.sub (.var 0) (.int 2)) .nil))) (.cons (.not (.call 5 (.cons (.sub (.var 0) (.int 3)) .nil))) (.cons (.not (.call 7 (.cons (.sub (.var 0) (.int 4)) .nil))) .nil)))) (.ret (.bool false) .skip) .skip (.ife (.cmp .Eq (.sub (.var 0) (.int 0)) (.str [112,97,114,116])) (.ret (.cmp .NotEq (.sub (.var 0) (.int 2)) (.sub (.var 0) (.int 3))) .skip) .skip (.ret (.cmp .NotEq (.sub (.var 0) (.int 1)) (.sub (.var 0) (.int 2))) .skip))))))))
def g_isstep : List (Option G) := [none, some (.isi), some (.bi .tuple), some (.bi .len), some (.ty .str), some (.con T_isname false), some (.con T_isnumber false), some (.con T_issize false)]
def x_isstep : Gx := []
/- _law_signs: place 10; 0 _law_some -/
def c_signs : CS := (.set 0 (.str [32,33,34,35,36,38,39,40,41,42,43,44,45,46,47,48,49,50,51,52,53,54,55,56,57,58,59,60,61,62,63,64,65,66,67,68,69,70,71,72,73,74,75,76,77,78,79,80,81,82,83,84,85,86,87,88,89,90,91,92,93,94,95,96]) (.ret (.bin .Add (.var 0) (.str [97,98,99,100,101,102,103,104,105,106,107,108,109,110,111,112,113,114,115,116,117,118,119,120,121,122,123,124,125,126,10])) .skip))
def g_signs : List (Option G) := [none]
def x_signs : Gx := []
/- _law_text_by: place 11; 0 _law_cell 1 _law_odd 2 _law_some 3 _law_size 4 _law_row 5 _law_signs 6 range 7 len -/
def c_text : CS := (.set 2 (.call 5 .nil) (.set 3 (.bin .Mod (.var 0) (.int 11)) (.set 4 (.comp (.sub (.var 3) (.bin .Add (.int 64) (.bin .Mod (.bin .Add (.bin .FloorDiv (.var 2) (.int 11)) (.bin .Mult (.var 1) (.bin .Add (.int 1) (.bin .Mod (.bin .FloorDiv (.var 2) (.int 286)) (.int 25))))) (.int 26)))) (.call 6 (.cons (.var 3) .nil)) [.own ".0", .own "_law_k", .free 0, .free 2] 1) (.ife (.bop .And (.cons (.cmp .Gt (.var 3) (.int 0)) (.cons (.cmp .Gt (.bin .Mod (.var 1) (.int 3)) (.int 0)) .nil))) (.setSub (.var 4) (.bin .Mod (.bin .FloorDiv (.var 1) (.int 3)) (.var 3)) (.sub (.var 2) (.bin .Mod (.bin .FloorDiv (.var 1) (.bin .Mult (.int 3) (.var 3))) (.call 7 (.cons (.var 2) .nil)))) .skip) .skip (.ret (.meth .join (.str []) (.cons (.var 4) .nil)) .skip)))))
def g_text : List (Option G) := [none, none, none, none, none, some (.con T_signs false), some (.bi .range), some (.bi .len)]
def x_text : Gx := []
/- _law_number_by: place 12; 0 _law_cell -/
def c_number : CS := (.ife (.cmp .Eq (.bin .Mod (.var 0) (.int 4)) (.int 0)) (.ret (.bin .Mod (.bin .FloorDiv (.var 0) (.int 4)) (.int 5)) .skip) .skip (.ife (.cmp .Eq (.bin .Mod (.var 0) (.int 4)) (.int 1)) (.ret (.sub (.list (.cons (.int 2) (.cons (.int 1) (.cons (.int 1000000) (.cons (.int 1000001) (.cons (.int 999999) .nil)))))) (.bin .Mod (.bin .FloorDiv (.var 0) (.int 4)) (.int 5))) .skip) .skip (.ife (.cmp .Eq (.bin .Mod (.var 0) (.int 4)) (.int 2)) (.ret (.bin .Add (.int 2) (.bin .Mod (.bin .FloorDiv (.var 0) (.int 4)) (.int 999999))) .skip) .skip (.ret (.var 0) .skip))))
def g_number : List (Option G) := [none]
def x_number : Gx := []
/- _law_is_name: place 13; 0 _law_thing 1 isinstance 2 str 3 len -/
def c_isnameL : CS := (.ife (.bop .Or (.cons (.not (.isi 1 2 (.var 0))) (.cons (.not (.cmp2 .LtE .LtE (.int 1) (.call 3 (.cons (.var 0) .nil)) (.int 8))) .nil))) (.ret (.bool false) .skip) .skip (.ret (.cmp .Eq (.compIf (.var 1) (.var 0) (.cmp .NotIn (.var 1) (.str [97,98,99,100,101,102,103,104,105,106,107,108,109,110,111,112,113,114,115,116,117,118,119,120,121,122])) [.own ".0", .own "_law_sign"] 1) (.list .nil)) .skip))
def g_isnameL : List (Option G) := [none, some (.isi), some (.ty .str), some (.bi .len)]
def x_isnameL : Gx := []
/- _law_is_number: place 14; 0 _law_thing 1 isinstance 2 int 3 bool -/
def c_isnumberL : CS := (.ret (.bop .And (.cons (.isi 1 2 (.var 0)) (.cons (.not (.isi 1 3 (.var 0))) .nil))) .skip)
def g_isnumberL : List (Option G) := [none, some (.isi), some (.bi .int), some (.ty .bool)]
def x_isnumberL : Gx := []
/- _law_kinds: place 15; 0 _law_word -/
def c_kinds : CS := (.ife (.bop .Or (.cons (.cmp .Eq (.var 0) (.str [100,114,111,112])) (.cons (.cmp .Eq (.var 0) (.str [116,117,114,110])) .nil))) (.ret (.str [110]) .skip) .skip (.ife (.bop .Or (.cons (.cmp .Eq (.var 0) (.str [97,100,100])) (.cons (.cmp .Eq (.var 0) (.str [115,104,105,102,116])) .nil))) (.ret (.str [110,105]) .skip) .skip (.ife (.cmp .Eq (.var 0) (.str [110,97,109,101])) (.ret (.str [110,110]) .skip) .skip (.ret (.str [110,110,110,115]) .skip))))
def g_kinds : List (Option G) := [none]
def x_kinds : Gx := []
/- _law_is_step: place 16; 0 _law_word 1 _law_parts 2 _law_k 3 _law_kind 4 len 5 _law_kinds 6 range 7 _law_is_name 8 _law_is_number -/
def c_lstep : CS := (.ife (.bop .Or (.cons (.cmp .NotIn (.var 0) (.list (.cons (.str [97,100,100]) (.cons (.str [100,114,111,112]) (.cons (.str [110,97,109,101]) (.cons (.str [115,104,105,102,116]) (.cons (.str [116,117,114,110]) (.cons (.str [112,97,114,116]) (.cons (.str [106,111,105,110]) .nil))))))))) (.cons (.cmp .NotEq (.call 4 (.cons (.var 1) .nil)) (.call 4 (.cons (.call 5 (.cons (.var 0) .nil)) .nil))) .nil))) (.ret (.bool false) .skip) .skip (.for_ 2 (.call 6 (.cons (.call 4 (.cons (.var 1) .nil)) .nil)) (.set 3 (.sub (.call 5 (.cons (.var 0) .nil)) (.var 2)) (.ife (.bop .Or (.cons (.bop .And (.cons (.cmp .Eq (.var 3) (.str [110])) (.cons (.not (.call 7 (.cons (.sub (.var 1) (.var 2)) .nil))) .nil))) (.cons (.bop .And (.cons (.cmp .NotEq (.var 3) (.str [110])) (.cons (.not (.call 8 (.cons (.sub (.var 1) (.var 2)) .nil))) .nil))) .nil))) (.ret (.bool false) .skip) .skip (.ife (.bop .And (.cons (.cmp .Eq (.var 3) (.str [115])) (.cons (.not (.cmp2 .LtE .LtE (.int 2) (.sub (.var 1) (.var 2)) (.int 1000000))) .nil))) (.ret (.bool false) .skip) .skip .skip))) (.ife (.cmp .Eq (.var 0) (.str [112,97,114,116])) (.ret (.cmp .NotEq (.sub (.var 1) (.int 1)) (.sub (.var 1) (.int 2))) .skip) .skip (.ret (.bop .Or (.cons (.cmp .NotEq (.var 0) (.str [106,111,105,110])) (.cons (.cmp .NotEq (.sub (.var 1) (.int 0)) (.sub (.var 1) (.int 1))) .nil))) .skip))))
def g_lstep : List (Option G) := [none, none, none, none, some (.bi .len), some (.con T_kinds false), some (.bi .range), some (.con T_isname false), some (.con T_isnumber false)]
def x_lstep : Gx := []
/- _law_part_by: place 17; 0 _law_script 1 _law_k 2 _law_text 3 _law_number 4 _law_kind 5 _law_cell 6 _law_odd 7 _law_cell_at -/
def c_part : CS := (.set 5 (.call 7 (.cons (.var 0) (.cons (.bin .Add (.int 5) (.var 1)) .nil))) (.set 6 (.list (.cons (.var 2) (.cons (.var 3) (.cons (.bool true) (.cons .none (.cons (.list (.cons (.var 2) .nil)) (.cons (.str []) (.cons (.bin .Sub (.bin .Sub (.bin .Pow (.int 10) (.int 60)) (.int 1)) (.bin .Mod (.bin .FloorDiv (.var 5) (.int 7)) (.int 99))) .nil)))))))) (.ife (.cmp .Eq (.bin .Mod (.var 5) (.int 9)) (.int 0)) (.ret (.sub (.var 6) (.bin .Mod (.bin .FloorDiv (.var 5) (.int 9)) (.int 7))) .skip) .skip (.ife (.cmp .Eq (.var 4) (.str [110])) (.ret (.sub (.list (.cons (.str [97]) (.cons (.str [98]) (.cons (.str [97,98]) (.cons (.str [97,98,99,100,101,102,103,104]) .nil))))) (.bin .Mod (.bin .FloorDiv (.var 5) (.int 2)) (.int 4))) .skip) .skip (.ret (.var 3) .skip)))))
def g_part : List (Option G) := [none, none, none, none, none, none, none, some (.con T_cell false)]
def x_part : Gx := []
/- _law_same: place 18; 0 _law_found 1 _law_due 2 isinstance 3 bool -/
def c_same : CS := (.ret (.bop .And (.cons (.isi 2 3 (.var 0)) (.cons (.cmp .Eq (.var 0) (.var 1)) .nil))) .skip)
def g_same : List (Option G) := [none, none, some (.isi), some (.ty .bool)]
def x_same : Gx := []
/- law: place 19; 0 _law_script 1 _law_text 2 _law_number 3 _law_words 4 _law_word 5 _law_kinds_here 6 _law_size 7 _law_parts 8 _law_step 9 _law_things 10 _law_thing 11 _law_text_by 12 _law_cell_at 13 _law_number_by 14 _law_kinds 15 len 16 range 17 tuple 18 _law_same 19 is_name 20 _law_is_name 21 is_number 22 is_step 23 _law_is_step -/
def c_law : CS := (.set 1 (.call 11 (.cons (.call 12 (.cons (.var 0) (.cons (.int 0) .nil))) (.cons (.call 12 (.cons (.var 0) (.cons (.int 1) .nil))) .nil))) (.set 2 (.call 13 (.cons (.call 12 (.cons (.var 0) (.cons (.int 2) .nil))) .nil)) (.set 3 (.list (.cons (.str [97,100,100]) (.cons (.str [100,114,111,112]) (.cons (.str [110,97,109,101]) (.cons (.str [115,104,105,102,116]) (.cons (.str [116,117,114,110]) (.cons (.str [112,97,114,116]) (.cons (.str [106,111,105,110]) (.cons (.str [65,100,100]) (.cons (.str []) (.cons (.var 1) (.cons (.str [112,97,114,116]) (.cons (.str [106,111,105,110]) .nil))))))))))))) (.set 4 (.sub (.var 3) (.bin .Mod (.call 12 (.cons (.var 0) (.cons (.int 3) .nil))) (.int 12))) (.set 5 (.call 14 (.cons (.var 4) .nil)) (.set 6 (.call 15 (.cons (.var 5) .nil)) (.ife (.cmp .Eq (.bin .Mod (.call 12 (.cons (.var 0) (.cons (.int 4) .nil))) (.int 4)) (.int 1)) (.set 6 (.bin .Mod (.bin .FloorDiv (.call 12 (.cons (.var 0) (.cons (.int 4) .nil))) (.int 4)) (.int 6)) .skip) .skip (.set 7 (.comp (.call 2 (.cons (.var 5) (.cons (.var 1) (.cons (.var 6) (.cons (.var 4) (.cons (.sub (.bin .Add (.var 3) (.str [110,110,110,110,110])) (.var 1)) .nil)))))) (.call 16 (.cons (.var 6) .nil)) [.own ".0", .own "_law_k", .gl 0, .free 5, .free 2, .free 0, .free 1] 1) (.set 8 (.call 17 (.cons (.bin .Add (.list (.cons (.var 4) .nil)) (.var 7)) .nil)) (.ife (.bop .Or (.cons (.not (.call 18 (.cons (.call 19 (.cons (.var 1) .nil)) (.cons (.call 20 (.cons (.var 1) .nil)) .nil)))) (.cons (.not (.call 18 (.cons (.call 21 (.cons (.var 2) .nil)) (.cons (.bool true) .nil)))) .nil))) (.ret (.bool false) .skip) .skip (.ife (.not (.call 18 (.cons (.call 22 (.cons (.var 8) .nil)) (.cons (.call 23 (.cons (.var 4) (.cons (.var 7) .nil))) .nil)))) (.ret (.bool false) .skip) .skip (.set 9 (.list (.cons .none (.cons (.bool true) (.cons (.bool false) (.cons (.bin .Add (.list (.cons (.var 4) .nil)) (.var 7)) (.cons (.tup .nil) (.cons (.tup (.cons (.var 2) (.cons (.var 1) .nil))) (.cons (.dict1 (.var 4) (.var 7)) .nil)))))))) (.for_ 10 (.bin .Add (.var 9) (.list (.cons (.call 17 (.cons (.bin .Add (.list (.cons (.list (.cons (.var 4) .nil)) .nil)) (.var 7)) .nil)) (.cons (.call 17 (.cons (.bin .Add (.list (.cons .dict0 .nil)) (.var 7)) .nil)) (.cons (.call 17 (.cons (.bin .Add (.list (.cons (.tup (.cons (.var 4) .nil)) .nil)) (.var 7)) .nil)) .nil))))) (.ife (.bop .Or (.cons (.not (.call 18 (.cons (.call 19 (.cons (.var 10) .nil)) (.cons (.bool false) .nil)))) (.cons (.not (.call 18 (.cons (.call 21 (.cons (.var 10) .nil)) (.cons (.bool false) .nil)))) .nil))) (.ret (.bool false) .skip) .skip (.ife (.not (.call 18 (.cons (.call 22 (.cons (.var 10) .nil)) (.cons (.bool false) .nil)))) (.ret (.bool false) .skip) .skip .skip)) (.ret (.bop .And (.cons (.call 18 (.cons (.call 19 (.cons (.var 2) .nil)) (.cons (.bool false) .nil))) (.cons (.call 18 (.cons (.call 21 (.cons (.var 1) .nil)) (.cons (.bool false) .nil))) (.cons (.call 18 (.cons (.call 22 (.cons (.var 1) .nil)) (.cons (.bool false) .nil))) .nil)))) .skip))))))))))))))
def g_law : List (Option G) := [none, none, none, none, none, none, none, none, none, none, none, some (.con T_text false), some (.con T_cell false), some (.con T_number false), some (.con T_kinds false), some (.bi .len), some (.bi .range), some (.bi .tuple), some (.con T_same false), some (.con T_isname false), some (.con T_isname false), some (.con T_isnumber false), some (.con T_isstep false), some (.con T_lstep false)]
def x_law : Gx := [("_law_part_by", .con T_part false)]
theorem b_cell : toB c_cell (fscope pw 9).names x_cell (posB c_cell (fbody pw 9)) = fbody pw 9 := by kernel_rfl
theorem k_cell : defChk (fscope pw 9) (fbody pw 9) c_cell x_cell true ["_law_script", "_law_k"] = true := by decide +kernel
abbrev Is_cell (C : Cx) (a : Addr) : Prop := FnAt C a ["_law_script", "_law_k"] (fbody pw 9) (fscope pw 9)
abbrev Gs_cell (C : Cx) (d : Nat) : Prop := gsAll C d true (fscope pw 9).names g_cell ∧ gxAll C d x_cell
theorem b_isname : toB c_isname (fscope pw 4).names x_isname (posB c_isname (fbody pw 4)) = fbody pw 4 := by kernel_rfl
theorem k_isname : defChk (fscope pw 4) (fbody pw 4) c_isname x_isname true ["thing"] = true := by decide +kernel
abbrev Is_isname (C : Cx) (a : Addr) : Prop := FnAt C a ["thing"] (fbody pw 4) (fscope pw 4)
abbrev Gs_isname (C : Cx) (d : Nat) : Prop := gsAll C d true (fscope pw 4).names g_isname ∧ gxAll C d x_isname
theorem b_isnumber : toB c_isnumber (fscope pw 5).names x_isnumber (posB c_isnumber (fbody pw 5)) = fbody pw 5 := by kernel_rfl
theorem k_isnumber : defChk (fscope pw 5) (fbody pw 5) c_isnumber x_isnumber true ["thing"] = true := by decide +kernel
abbrev Is_isnumber (C : Cx) (a : Addr) : Prop := FnAt C a ["thing"] (fbody pw 5) (fscope pw 5)
abbrev Gs_isnumber (C : Cx) (d : Nat) : Prop := gsAll C d true (fscope pw 5).names g_isnumber ∧ gxAll C d x_isnumber
theorem b_issize : toB c_issize (fscope pw 6).names x_issize (posB c_issize (fbody pw 6)) = fbody pw 6 := by kernel_rfl
theorem k_issize : defChk (fscope pw 6) (fbody pw 6) c_issize x_issize true ["thing"] = true := by decide +kernel
abbrev Is_issize (C : Cx) (a : Addr) : Prop := FnAt C a ["thing"] (fbody pw 6) (fscope pw 6)
abbrev Gs_issize (C : Cx) (d : Nat) : Prop := gsAll C d true (fscope pw 6).names g_issize ∧ gxAll C d x_issize
theorem b_isstep : toB c_isstep (fscope pw 7).names x_isstep (posB c_isstep (fbody pw 7)) = fbody pw 7 := by kernel_rfl
theorem k_isstep : defChk (fscope pw 7) (fbody pw 7) c_isstep x_isstep true ["thing"] = true := by decide +kernel
abbrev Is_isstep (C : Cx) (a : Addr) : Prop := FnAt C a ["thing"] (fbody pw 7) (fscope pw 7)
abbrev Gs_isstep (C : Cx) (d : Nat) : Prop := gsAll C d true (fscope pw 7).names g_isstep ∧ gxAll C d x_isstep
theorem b_signs : toB c_signs (fscope pw 10).names x_signs (posB c_signs (fbody pw 10)) = fbody pw 10 := by kernel_rfl
theorem k_signs : defChk (fscope pw 10) (fbody pw 10) c_signs x_signs true [] = true := by decide +kernel
abbrev Is_signs (C : Cx) (a : Addr) : Prop := FnAt C a [] (fbody pw 10) (fscope pw 10)
abbrev Gs_signs (C : Cx) (d : Nat) : Prop := gsAll C d true (fscope pw 10).names g_signs ∧ gxAll C d x_signs
theorem b_text : toB c_text (fscope pw 11).names x_text (posB c_text (fbody pw 11)) = fbody pw 11 := by kernel_rfl
theorem k_text : defChk (fscope pw 11) (fbody pw 11) c_text x_text true ["_law_cell", "_law_odd"] = true := by decide +kernel
abbrev Is_text (C : Cx) (a : Addr) : Prop := FnAt C a ["_law_cell", "_law_odd"] (fbody pw 11) (fscope pw 11)
abbrev Gs_text (C : Cx) (d : Nat) : Prop := gsAll C d true (fscope pw 11).names g_text ∧ gxAll C d x_text
theorem b_number : toB c_number (fscope pw 12).names x_number (posB c_number (fbody pw 12)) = fbody pw 12 := by kernel_rfl
theorem k_number : defChk (fscope pw 12) (fbody pw 12) c_number x_number true ["_law_cell"] = true := by decide +kernel
abbrev Is_number (C : Cx) (a : Addr) : Prop := FnAt C a ["_law_cell"] (fbody pw 12) (fscope pw 12)
abbrev Gs_number (C : Cx) (d : Nat) : Prop := gsAll C d true (fscope pw 12).names g_number ∧ gxAll C d x_number
theorem b_isnameL : toB c_isnameL (fscope pw 13).names x_isnameL (posB c_isnameL (fbody pw 13)) = fbody pw 13 := by kernel_rfl
theorem k_isnameL : defChk (fscope pw 13) (fbody pw 13) c_isnameL x_isnameL true ["_law_thing"] = true := by decide +kernel
abbrev Is_isnameL (C : Cx) (a : Addr) : Prop := FnAt C a ["_law_thing"] (fbody pw 13) (fscope pw 13)
abbrev Gs_isnameL (C : Cx) (d : Nat) : Prop := gsAll C d true (fscope pw 13).names g_isnameL ∧ gxAll C d x_isnameL
theorem b_isnumberL : toB c_isnumberL (fscope pw 14).names x_isnumberL (posB c_isnumberL (fbody pw 14)) = fbody pw 14 := by kernel_rfl
theorem k_isnumberL : defChk (fscope pw 14) (fbody pw 14) c_isnumberL x_isnumberL true ["_law_thing"] = true := by decide +kernel
abbrev Is_isnumberL (C : Cx) (a : Addr) : Prop := FnAt C a ["_law_thing"] (fbody pw 14) (fscope pw 14)
abbrev Gs_isnumberL (C : Cx) (d : Nat) : Prop := gsAll C d true (fscope pw 14).names g_isnumberL ∧ gxAll C d x_isnumberL
theorem b_kinds : toB c_kinds (fscope pw 15).names x_kinds (posB c_kinds (fbody pw 15)) = fbody pw 15 := by kernel_rfl
theorem k_kinds : defChk (fscope pw 15) (fbody pw 15) c_kinds x_kinds true ["_law_word"] = true := by decide +kernel
abbrev Is_kinds (C : Cx) (a : Addr) : Prop := FnAt C a ["_law_word"] (fbody pw 15) (fscope pw 15)
abbrev Gs_kinds (C : Cx) (d : Nat) : Prop := gsAll C d true (fscope pw 15).names g_kinds ∧ gxAll C d x_kinds
theorem b_lstep : toB c_lstep (fscope pw 16).names x_lstep (posB c_lstep (fbody pw 16)) = fbody pw 16 := by kernel_rfl
theorem k_lstep : defChk (fscope pw 16) (fbody pw 16) c_lstep x_lstep true ["_law_word", "_law_parts"] = true := by decide +kernel
abbrev Is_lstep (C : Cx) (a : Addr) : Prop := FnAt C a ["_law_word", "_law_parts"] (fbody pw 16) (fscope pw 16)
abbrev Gs_lstep (C : Cx) (d : Nat) : Prop := gsAll C d true (fscope pw 16).names g_lstep ∧ gxAll C d x_lstep
theorem b_part : toB c_part (fscope pw 17).names x_part (posB c_part (fbody pw 17)) = fbody pw 17 := by kernel_rfl
theorem k_part : defChk (fscope pw 17) (fbody pw 17) c_part x_part true ["_law_script", "_law_k", "_law_text", "_law_number", "_law_kind"] = true := by decide +kernel
abbrev Is_part (C : Cx) (a : Addr) : Prop := FnAt C a ["_law_script", "_law_k", "_law_text", "_law_number", "_law_kind"] (fbody pw 17) (fscope pw 17)
abbrev Gs_part (C : Cx) (d : Nat) : Prop := gsAll C d true (fscope pw 17).names g_part ∧ gxAll C d x_part
theorem b_same : toB c_same (fscope pw 18).names x_same (posB c_same (fbody pw 18)) = fbody pw 18 := by kernel_rfl
theorem k_same : defChk (fscope pw 18) (fbody pw 18) c_same x_same true ["_law_found", "_law_due"] = true := by decide +kernel
abbrev Is_same (C : Cx) (a : Addr) : Prop := FnAt C a ["_law_found", "_law_due"] (fbody pw 18) (fscope pw 18)
abbrev Gs_same (C : Cx) (d : Nat) : Prop := gsAll C d true (fscope pw 18).names g_same ∧ gxAll C d x_same
theorem b_law : toB c_law (fscope pw 19).names x_law (posB c_law (fbody pw 19)) = fbody pw 19 := by kernel_rfl
theorem k_law : defChk (fscope pw 19) (fbody pw 19) c_law x_law true ["_law_script"] = true := by decide +kernel
abbrev Is_law (C : Cx) (a : Addr) : Prop := FnAt C a ["_law_script"] (fbody pw 19) (fscope pw 19)
abbrev Gs_law (C : Cx) (d : Nat) : Prop := gsAll C d true (fscope pw 19).names g_law ∧ gxAll C d x_law
end Mine
namespace Mine
open PySem PySem.Calls PySem.SeqAt PySem.W PyProof.Rows PySem.Challenge
theorem or2 {p q : Bool} {A B : Prop} (h1 : p = true ∨ q = true → A) (h2 : p = false → q = false → B) : br p (br p A B) (br q (br q A B) (br false A B)) := by
  cases p
  · cases q
    · exact h2 rfl rfl
    · exact h1 (.inr rfl)
  · exact h1 (.inl rfl)
theorem ok_cell {C : Cx} {a : Addr} {d : Nat} (F : Is_cell C a) (he : ExsOk C sup) (hg : Gs_cell C d) : Meets C (d + 1) true (.ref a) T_cell := by
  refine def_at c_cell 1 F k_cell b_cell he hg.1 hg.2 fun fz vs Q X H h => ?_
  obtain ⟨l, k, ys, rfl, hl, hk, h⟩ := T_cell_out h
  refine ⟨rfl, ⟨look hl (brd (fun hc => ?_) fun hc => ⟨?_⟩)⟩⟩
  · have hc' : k.toNat < ys.length := by omega
    refine look hl (got (v := ys.getD k.toNat (.int 0)) ?_ h)
    unfold pick
    rw [if_pos hk]
    simp [List.getD, hc']
  · have hc' : ys.length ≤ k.toNat := by omega
    have e : ys.getD k.toNat (.int 0) = .int 0 := by simp [List.getD, hc']
    rw [e] at h
    exact h
theorem ok_isnumber {C : Cx} {a : Addr} {d : Nat} (F : Is_isnumber C a) (he : ExsOk C sup) (hg : Gs_isnumber C d) : Meets C (d + 1) true (.ref a) T_isnumber := by
  refine def_at c_isnumber 3 F k_isnumber b_isnumber he hg.1 hg.2 fun fz vs Q X H h => ?_
  obtain ⟨v, rfl, sv, h⟩ := h
  refine ⟨rfl, ?_⟩
  cases sv with
  | none => exact ⟨h⟩
  | bool b => exact ⟨h⟩
  | int i => exact ⟨h⟩
  | str s _ => exact ⟨h⟩
  | list p xs hp => exact ⟨look hp h⟩
  | tuple p xs hp => exact ⟨look hp h⟩
  | dict p xs hp => exact ⟨look hp h⟩
theorem ok_isnumberL {C : Cx} {a : Addr} {d : Nat} (F : Is_isnumberL C a) (he : ExsOk C sup) (hg : Gs_isnumberL C d) : Meets C (d + 1) true (.ref a) T_isnumber := by
  refine def_at c_isnumberL 3 F k_isnumberL b_isnumberL he hg.1 hg.2 fun fz vs Q X H h => ?_
  obtain ⟨v, rfl, sv, h⟩ := h
  refine ⟨rfl, ?_⟩
  cases sv with
  | none => exact ⟨h⟩
  | bool b => exact ⟨h⟩
  | int i => exact ⟨h⟩
  | str s _ => exact ⟨h⟩
  | list p xs hp => exact ⟨look hp h⟩
  | tuple p xs hp => exact ⟨look hp h⟩
  | dict p xs hp => exact ⟨look hp h⟩
theorem ok_issize {C : Cx} {a : Addr} {d : Nat} (F : Is_issize C a) (he : ExsOk C sup) (hg : Gs_issize C d) : Meets C (d + 1) true (.ref a) T_issize := by
  refine def_at c_issize 2 F k_issize b_issize he hg.1 hg.2 fun fz vs Q X H h => ?_
  obtain ⟨v, rfl, sv, h⟩ := h
  refine ⟨rfl, ⟨⟨v, rfl, sv, ?_⟩⟩⟩
  cases sv with
  | int i => 
    refine brd (fun h1 => ?_) fun h1 => ?_
    · have e : isZ (.int i) = decide (i ≤ 1000000) := by simp [isZ, h1]
      rw [e] at h; exact h
    · have e : isZ (.int i) = false := by simp [isZ, h1]
      rw [e] at h; exact h
  | _ => exact h
theorem ok_same {C : Cx} {a : Addr} {d : Nat} (F : Is_same C a) (he : ExsOk C sup) (hg : Gs_same C d) : Meets C (d + 1) true (.ref a) T_same := by
  refine def_at c_same 2 F k_same b_same he hg.1 hg.2 fun fz vs Q X H h => ?_
  obtain ⟨u, v, rfl, h⟩ := h
  exact ⟨rfl, ⟨h⟩⟩
theorem ok_signs {C : Cx} {a : Addr} {d : Nat} (F : Is_signs C a) (he : ExsOk C sup) (hg : Gs_signs C d) : Meets C (d + 1) true (.ref a) T_signs := by
  refine def_at c_signs 1 F k_signs b_signs he hg.1 hg.2 fun fz vs Q X H h => ?_
  obtain ⟨rfl, h⟩ := h
  exact ⟨rfl, ⟨⟨cat_tx (a := sig1) (b := sig2) (by decide) h⟩⟩⟩
theorem ok_number {C : Cx} {a : Addr} {d : Nat} (F : Is_number C a) (he : ExsOk C sup) (hg : Gs_number C d) : Meets C (d + 1) true (.ref a) T_number := by
  refine def_at c_number 0 F k_number b_number he hg.1 hg.2 fun fz vs Q X H h => ?_
  obtain ⟨c, rfl, h⟩ := h
  refine ⟨rfl, ⟨brd (fun _ => h _ H (Ext.refl _)) fun _ => ⟨brd (fun _ => made_of fun H₁ l e1 _ _ hl => ?_) fun _ => ⟨brd (fun _ => h _ H (Ext.refl _)) fun _ => ⟨h _ H (Ext.refl _)⟩⟩⟩⟩⟩
  have h0 := fm0 (c.fdiv 4) (b := 5) (by decide)
  have h5 := fmlt (c.fdiv 4) (b := 5) (by decide)
  refine look hl ?_
  rcases (by omega : (c.fdiv 4).fmod 5 = 0 ∨ (c.fdiv 4).fmod 5 = 1 ∨ (c.fdiv 4).fmod 5 = 2 ∨ (c.fdiv 4).fmod 5 = 3 ∨ (c.fdiv 4).fmod 5 = 4) with e | e | e | e | e
  all_goals exact got (by rw [e]; rfl) (h _ H₁ e1)
theorem ok_kinds {C : Cx} {a : Addr} {d : Nat} (F : Is_kinds C a) (he : ExsOk C sup) (hg : Gs_kinds C d) : Meets C (d + 1) true (.ref a) T_kinds := by
  refine def_at c_kinds 0 F k_kinds b_kinds he hg.1 hg.2 fun fz vs Q X H h => ?_
  obtain ⟨w, rfl, h⟩ := h
  refine ⟨rfl, ?_⟩
  refine ⟨or2 (fun e => ?_) fun e1 e2 => ⟨or2 (fun e => ?_) fun e3 e4 => ⟨brs (fun e => ?_) fun e5 => ⟨?_⟩⟩⟩⟩
  · unfold kcs at h
    rw [if_pos (e.imp sEq_t sEq_t)] at h; exact h
  · unfold kcs at h
    rw [if_neg (not_or.mpr ⟨sEq_f e1, sEq_f e2⟩), if_pos (e.imp sEq_t sEq_t)] at h; exact h
  · unfold kcs at h
    rw [if_neg (not_or.mpr ⟨sEq_f e1, sEq_f e2⟩), if_neg (not_or.mpr ⟨sEq_f e3, sEq_f e4⟩), if_pos (sEq_t e)] at h; exact h
  · unfold kcs at h
    rw [if_neg (not_or.mpr ⟨sEq_f e1, sEq_f e2⟩), if_neg (not_or.mpr ⟨sEq_f e3, sEq_f e4⟩), if_neg (sEq_f e5)] at h; exact h
theorem strIn_one (x : Str) (c : Nat) : strIn ⟨#[c]⟩ x = decide (c ∈ x.cps.toList) := StrLaws.found_one x c
theorem chars_get {l : List Nat} {k : Nat} {y : V} (h : (l.map fun c => V.str ⟨#[c]⟩)[k]? = some y) : ∃ c, l[k]? = some c ∧ y = .str ⟨#[c]⟩ := by
  rw [List.getElem?_map] at h
  obtain ⟨s, h1, h2⟩ := Option.map_eq_some_iff.mp h
  exact ⟨s, h1, h2.symm⟩
theorem isN_str {s : Str} (h1 : (1 : Int) ≤ s.length) (h2 : (s.length : Int) ≤ 8) : isN (.str s) = s.cps.toList.all fun c => decide (c ∈ abc.cps.toList) := by
  have h1' : 1 ≤ s.length := by omega
  have h2' : s.length ≤ 8 := by omega
  simp [isN, h1', h2']
theorem isN_no {s : Str} (h : ¬ ((1 : Int) ≤ s.length ∧ (s.length : Int) ≤ 8)) : isN (.str s) = false := by
  have e : (decide (1 ≤ s.length) && decide (s.length ≤ 8)) = false := by
    by_cases q : 1 ≤ s.length
    · by_cases q2 : s.length ≤ 8
      · exact absurd ⟨by omega, by omega⟩ h
      · simp [q2]
    · simp [q]
  simp only [isN, e, Bool.false_and]
theorem ok_isname {C : Cx} {a : Addr} {d : Nat} (F : Is_isname C a) (he : ExsOk C sup) (hg : Gs_isname C d) : Meets C (d + 1) true (.ref a) T_isname := by
  refine def_at c_isname 5 F k_isname b_isname he hg.1 hg.2 fun fz vs Q X H h => ?_
  obtain ⟨v, rfl, sv, h⟩ := h
  refine ⟨rfl, ?_⟩
  cases sv with
  | none => exact ⟨h H (Ext.refl _)⟩
  | bool b => exact ⟨h H (Ext.refl _)⟩
  | int i => exact ⟨h H (Ext.refl _)⟩
  | list p xs hp => exact ⟨look hp (h H (Ext.refl _))⟩
  | tuple p xs hp => exact ⟨look hp (h H (Ext.refl _))⟩
  | dict p xs hp => exact ⟨look hp (h H (Ext.refl _))⟩
  | str s hs =>
    refine ⟨reqp (by omega) (brd (fun h1 => brn (fun h2 => brt (by simp [h2]) ?_) fun h2 => ⟨?_⟩) fun h1 => ?_)⟩
    · rw [isN_no (fun c => h2 c.2)] at h; exact h H (Ext.refl _)
    · rw [isN_str h1 h2] at h
      refine comp_map (s.cps.toList.map fun c => V.str ⟨#[c]⟩) (fun v => .bool (onS (fun x => strIn x abc) v)) rfl (by rw [List.length_map]; exact sizeS (by have : s.cps.toList.length = s.length := rfl; omega)) ?_ ?_
      · intro k y ys H' hy e
        obtain ⟨c, hc, rfl⟩ := chars_get hy
        exact ⟨rfl, e⟩
      · intro H₁ e1
        refine made_of fun H₂ l e2 _ _ hl => look hl ⟨s.cps.toList.map fun c => decide (c ∈ abc.cps.toList), ?_, ?_⟩
        · rw [List.map_map, List.map_map]
          refine List.map_congr_left fun c _ => ?_
          show V.bool (strIn ⟨#[c]⟩ abc) = _
          rw [strIn_one]; rfl
        · rw [List.all_map]; exact h H₂ (e1.trans e2)
    · rw [isN_no (fun c => h1 c.1)] at h; exact h H (Ext.refl _)
theorem ok_isnameL {C : Cx} {a : Addr} {d : Nat} (F : Is_isnameL C a) (he : ExsOk C sup) (hg : Gs_isnameL C d) : Meets C (d + 1) true (.ref a) T_isname := by
  refine def_at c_isnameL 3 F k_isnameL b_isnameL he hg.1 hg.2 fun fz vs Q X H h => ?_
  obtain ⟨v, rfl, sv, h⟩ := h
  refine ⟨rfl, ?_⟩
  cases sv with
  | none => exact ⟨h H (Ext.refl _)⟩
  | bool b => exact ⟨h H (Ext.refl _)⟩
  | int i => exact ⟨h H (Ext.refl _)⟩
  | list p xs hp => exact ⟨look hp (h H (Ext.refl _))⟩
  | tuple p xs hp => exact ⟨look hp (h H (Ext.refl _))⟩
  | dict p xs hp => exact ⟨look hp (h H (Ext.refl _))⟩
  | str s hs =>
    refine ⟨reqp (by omega) (brd (fun h1 => brn (fun h2 => brt (by simp [h2]) ?_) fun h2 => ⟨?_⟩) fun h1 => ?_)⟩
    · rw [isN_no (fun c => h2 c.2)] at h; exact h H (Ext.refl _)
    · rw [isN_str h1 h2] at h
      refine comp_filter ((s.cps.toList.map fun c => (⟨#[c]⟩ : Str)).map V.str) (onS fun x => !strIn x abc) (by rw [List.map_map]; rfl) (by rw [List.length_map, List.length_map]; exact sizeS (by have : s.cps.toList.length = s.length := rfl; omega)) ?_ ?_
      · intro k y ys H' hy e
        obtain ⟨c, hc, rfl⟩ := strs_get hy
        exact brs (fun hb => ⟨by
          have hb : onS (fun x => !strIn x abc) (.str c) = true := hb
          simp [hb], e⟩) fun hb => ⟨by
          have hb : onS (fun x => !strIn x abc) (.str c) = false := hb
          simp [hb], e⟩
      · intro H₁ e1
        rw [filter_strs]
        refine made_of fun H₂ l e2 _ _ hl => made_of fun H₃ o e3 _ _ ho => look (e3 _ _ hl) (look ho (same_strs (ys := []) (e3 _ _ hl) ho ?_))
        have e : decide (((s.cps.toList.map fun c => (⟨#[c]⟩ : Str)).filter fun x => !strIn x abc) = []) = s.cps.toList.all fun c => decide (c ∈ abc.cps.toList) := by
          rw [Bool.eq_iff_iff, decide_eq_true_eq, List.filter_eq_nil_iff, List.all_eq_true]
          constructor
          · intro g c hc
            have := g ⟨#[c]⟩ (List.mem_map.mpr ⟨c, hc, rfl⟩)
            rw [strIn_one] at this; simpa using this
          · intro g x hx
            obtain ⟨c, hc, rfl⟩ := List.mem_map.mp hx
            have := g c hc
            rw [strIn_one]; simpa using this
        rw [e]; exact h H₃ ((e1.trans e2).trans e3)
    · rw [isN_no (fun c => h1 c.1)] at h; exact h H (Ext.refl _)
end Mine
namespace Mine
open PySem PySem.Calls PySem.SeqAt PySem.W PyProof.Rows PySem.Challenge
theorem divOk_small {y : Int} (h0 : 0 < y) (h1 : y < 1000) : divOk y = true := by
  unfold divOk
  simp only [Bool.and_eq_true, decide_eq_true_eq]
  refine ⟨by omega, ?_⟩
  have : y.natAbs < 2 ^ 10 := by omega
  exact Nat.lt_of_lt_of_le ((Nat.log2_lt (by omega)).mpr this) (by decide)
theorem sig_len : (sig1 ++ sig2).length = 95 := by decide
theorem at_sig {i : Int} {k : Nat → Prop} (h0 : 0 ≤ i) (h1 : i < 95) (h : ∀ c, k c) : ChAt (tx (sig1 ++ sig2)) i k := by
  have hl : i.toNat < (tx (sig1 ++ sig2)).cps.size := by
    show i.toNat < (sig1 ++ sig2).toArray.size
    rw [List.size_toArray, sig_len]; omega
  exact ⟨_, h0, by omega, Array.getElem?_eq_getElem hl, h _⟩
theorem ok_text {C : Cx} {a : Addr} {d : Nat} (F : Is_text C a) (he : ExsOk C sup) (hg : Gs_text C d) : Meets C (d + 1) true (.ref a) T_text := by
  refine def_at c_text 6 F k_text b_text he hg.1 hg.2 fun fz vs Q X H h => ?_
  obtain ⟨c, o, rfl, h⟩ := h
  have h0 := fm0 c (b := 11) (by decide)
  have h11 := fmlt c (b := 11) (by decide)
  obtain ⟨n, hn⟩ := Int.eq_ofNat_of_zero_le h0
  refine ⟨rfl, ⟨⟨rfl, ⟨⟨made_of fun H₁ r e1 _ _ hr => ?_⟩⟩⟩⟩⟩
  refine ⟨(List.range n).map fun i => V.int (i : Nat), items_rng (by rw [hr, hn]) (by omega), by simp [sizeLine]; omega, fun k ys H' => (∃ cs : List Nat, ys = cs.map (fun c => V.str ⟨#[c]⟩) ∧ cs.length = k) ∧ Ext H₁ H', ⟨⟨[], rfl, rfl⟩, Ext.refl _⟩, fun k y ys H' hy hJ => ?_, fun ys H' _ hJ => ?_⟩
  · obtain ⟨⟨cs, rfl, hk⟩, e⟩ := hJ
    obtain ⟨hk', rfl⟩ := range_get hy
    have h26 := fm0 (c.fdiv 11 + (k : Int) * (1 + (c.fdiv 286).fmod 25)) (b := 26) (by decide)
    have h27 := fmlt (c.fdiv 11 + (k : Int) * (1 + (c.fdiv 286).fmod 25)) (b := 26) (by decide)
    exact mulL (by omega) (by omega) (at_sig (by omega) (by omega) fun ch => ⟨⟨cs ++ [ch], by simp, by simp [hk]⟩, e⟩)
  obtain ⟨⟨cs, rfl, hk⟩, e⟩ := hJ
  rw [List.length_map, List.length_range] at hk
  refine made_of fun H₃ w e3 nw fw hw => ?_
  have hlen : (((tx (sig1 ++ sig2)).length : Nat) : Int) = 95 := by rw [tx_length, sig_len]; rfl
  have E3 := (e1.trans e).trans e3
  refine ife_cut (fun ρ' H' => ∃ cs : List Nat, ρ' = [some (.int c), some (.int o), some (.str (tx (sig1 ++ sig2))), some (.int (c.fmod 11)), some (.ref w), none, none, none] ∧ Ext H H' ∧ H'.get w = some (.list (cs.map fun c => V.str ⟨#[c]⟩)) ∧ cs.length ≤ 10) (fun N rest => ?_) ?_
  · have R : N [some (.int c), some (.int o), some (.str (tx (sig1 ++ sig2))), some (.int (c.fmod 11)), some (.ref w), none, none, none] H₃ := rest _ _ ⟨cs, rfl, E3, hw, by omega⟩
    refine brd (fun hs => brd (fun ho => ?_) fun ho => brf (decide_eq_false ho) R) fun hs => brf (decide_eq_false hs) R
    have hs0 : (0 : Int) < c.fmod 11 := hs
    have g0 := fm0 (o.fdiv (3 * c.fmod 11)) (b := ((tx (sig1 ++ sig2)).length : Nat)) (by rw [hlen]; decide)
    have g1 := fmlt (o.fdiv (3 * c.fmod 11)) (b := ((tx (sig1 ++ sig2)).length : Nat)) (by rw [hlen]; decide)
    have i0 := fm0 (o.fdiv 3) hs0
    have i1 := fmlt (o.fdiv 3) hs0
    refine mulL (by decide) (by decide) (reqd (divOk_small (by omega) (by omega)) (at_sig g0 (by rw [hlen] at g1 ⊢; exact g1) fun ch => ?_))
    refine reqp (by omega) (look hw (reqp fw (reqd (by simp only [Bool.and_eq_true, decide_eq_true_eq, List.length_map]; omega) ⟨rest _ _ ⟨cs.set ((o.fdiv 3).fmod (c.fmod 11)).toNat ch, rfl, E3.set ((e1.trans e).none nw), ?_, by rw [List.length_set]; omega⟩⟩)))
    rw [AH.set_self, List.map_set]
  rintro ρ H₄ ⟨cs, rfl, e4, hw, hl⟩
  exact ⟨look hw (jn_tx rfl (by omega) (h _ _ (by rw [tx_length]; exact hl) e4))⟩
theorem ok_part {C : Cx} {a : Addr} {d : Nat} (F : Is_part C a) (he : ExsOk C sup) (hg : Gs_part C d) : Meets C (d + 1) true (.ref a) T_part := by
  refine def_at c_part 3 F k_part b_part he hg.1 hg.2 fun fz vs Q X H h => ?_
  obtain ⟨l, k, t, n, kc, scr, rfl, hl, hk, ht, h⟩ := h
  refine ⟨rfl, ⟨cell_any hl (by omega) fun c => ⟨made_of fun H₁ u e1 _ _ hu => made_of fun H₂ w e2 _ _ hw => ⟨brd (fun _ => look hw ?_) fun _ => ⟨brs (fun _ => made_of fun H₃ z e3 _ _ hz => look hz ?_) fun _ => ⟨h _ _ (e1.trans e2) (.int n)⟩⟩⟩⟩⟩⟩
  · have h0 := fm0 (c.fdiv 9) (b := 7) (by decide)
    have h7 := fmlt (c.fdiv 9) (b := 7) (by decide)
    rcases (by omega : (c.fdiv 9).fmod 7 = 0 ∨ (c.fdiv 9).fmod 7 = 1 ∨ (c.fdiv 9).fmod 7 = 2 ∨ (c.fdiv 9).fmod 7 = 3 ∨ (c.fdiv 9).fmod 7 = 4 ∨ (c.fdiv 9).fmod 7 = 5 ∨ (c.fdiv 9).fmod 7 = 6) with e | e | e | e | e | e | e
    · exact got (by rw [e]; rfl) (h _ H₂ (e1.trans e2) (.str t (by omega)))
    · exact got (by rw [e]; rfl) (h _ H₂ (e1.trans e2) (.int n))
    · exact got (by rw [e]; rfl) (h _ H₂ (e1.trans e2) (.bool true))
    · exact got (by rw [e]; rfl) (h _ H₂ (e1.trans e2) .none)
    · exact got (by rw [e]; rfl) (h _ H₂ (e1.trans e2) (.list u _ (e2 _ _ hu)))
    · exact got (by rw [e]; rfl) (h _ H₂ (e1.trans e2) (.str _ (by decide)))
    · exact got (by rw [e]; rfl) (h _ H₂ (e1.trans e2) (.int _))
  · have h0 := fm0 (c.fdiv 2) (b := 4) (by decide)
    have h4 := fmlt (c.fdiv 2) (b := 4) (by decide)
    rcases (by omega : (c.fdiv 2).fmod 4 = 0 ∨ (c.fdiv 2).fmod 4 = 1 ∨ (c.fdiv 2).fmod 4 = 2 ∨ (c.fdiv 2).fmod 4 = 3) with e | e | e | e
    all_goals exact got (by rw [e]; rfl) (h _ H₃ ((e1.trans e2).trans e3) (.str _ (by decide)))
end Mine
namespace Mine
open PySem PySem.Calls PySem.SeqAt PySem.W PyProof.Rows PySem.Challenge
theorem sF_drop {w : Str} {v : V} {r : List V} (h : w = tDrop ∨ w = tTurn) (hv : isN v = true) : stepF w (v :: r) = decide ((((V.str w :: v :: r).length : Nat) : Int) = 2) := by
  simp only [stepF, if_pos h, hv, Bool.true_and]
  cases r with
  | nil => rfl
  | cons a r => simp; omega
theorem sF_add {w : Str} {v : V} {r : List V} (h1 : ¬ (w = tDrop ∨ w = tTurn)) (h : w = tAdd ∨ w = tShift) (hv : isN v = true) : stepF w (v :: r) = m1 isI r := by
  simp only [stepF, if_neg h1, if_pos h, hv, Bool.true_and]
theorem sF_name {w : Str} {v : V} {r : List V} (h1 : ¬ (w = tDrop ∨ w = tTurn)) (h2 : ¬ (w = tAdd ∨ w = tShift)) (h : w = tName) (hv : isN v = true) : stepF w (v :: r) = m1 isN r := by
  simp only [stepF, if_neg h1, if_neg h2, if_pos h, hv, Bool.true_and]
theorem sF_rest {w : Str} {v : V} {r : List V} (h1 : ¬ (w = tDrop ∨ w = tTurn)) (h2 : ¬ (w = tAdd ∨ w = tShift)) (h3 : ¬ w = tName) (hv : isN v = true) : stepF w (v :: r) = (if w = tPart ∨ w = tJoin then m3 (fun a b c => (isN a && isN b && isZ c) && (if w = tPart then decide (a ≠ b) else decide (v ≠ a))) r else false) := by
  simp only [stepF, if_neg h1, if_neg h2, if_neg h3, hv, Bool.true_and]
theorem sF_no {w : Str} {v : V} {r : List V} (hv : isN v = false) : stepF w (v :: r) = false := by simp [stepF, hv]
theorem len3 {w : Str} {v : V} {r : List V} (h : (((V.str w :: v :: r).length : Nat) : Int) = 3) : ∃ n, r = [n] := by
  rcases r with _ | ⟨a, _ | ⟨b, r⟩⟩
  · simp at h
  · exact ⟨a, rfl⟩
  · simp at h; omega
theorem len5 {w : Str} {v : V} {r : List V} (h : (((V.str w :: v :: r).length : Nat) : Int) = 5) : ∃ a b c, r = [a, b, c] := by
  rcases r with _ | ⟨a, _ | ⟨b, _ | ⟨c, _ | ⟨e, r⟩⟩⟩⟩ <;> simp at h
  · exact ⟨a, b, c, rfl⟩
  · omega
theorem isN_out {v : V} (h : isN v = true) : ∃ s, v = .str s := by
  cases v <;> first | exact ⟨_, rfl⟩ | cases h
theorem ne_sEq {s t : Str} : (!sEq s t) = decide (V.str s ≠ V.str t) := by
  rw [sEq_iff, Bool.eq_iff_iff]; simp
theorem no3 {w : Str} {v : V} {r : List V} {f : V → Bool} (h : ¬ (((V.str w :: v :: r).length : Nat) : Int) = 3) : m1 f r = false := by
  rcases r with _ | ⟨a, _ | ⟨b, r⟩⟩
  · rfl
  · exact absurd rfl h
  · rfl
theorem no5 {w : Str} {v : V} {r : List V} {f : V → V → V → Bool} (h : ¬ (((V.str w :: v :: r).length : Nat) : Int) = 5) : m3 f r = false := by
  rcases r with _ | ⟨a, _ | ⟨b, _ | ⟨c, _ | ⟨e, r⟩⟩⟩⟩ <;> first | rfl | exact absurd rfl h
theorem ok_isstep {C : Cx} {a : Addr} {d : Nat} (F : Is_isstep C a) (he : ExsOk C sup) (hg : Gs_isstep C d) : Meets C (d + 1) true (.ref a) T_isstep := by
  refine def_at c_isstep 7 F k_isstep b_isstep he hg.1 hg.2 fun fz vs Q X H h => ?_
  obtain ⟨v, b, rfl, sv, h⟩ := h
  refine ⟨rfl, ?_⟩
  cases sv with
  | none => exact ⟨h H (Ext.refl _)⟩
  | bool b => exact ⟨h H (Ext.refl _)⟩
  | str s => exact ⟨h H (Ext.refl _)⟩
  | list p xs hp => exact ⟨look hp (h H (Ext.refl _))⟩
  | dict p xs hp => exact ⟨look hp (h H (Ext.refl _))⟩
  | short p xs hp hl => exact ⟨look hp (look hp (brd (fun h1 => brt (decide_eq_true h1) (h H (Ext.refl _))) fun h1 => absurd hl (by omega)))⟩
  | odd p x y xs hp sx hx =>
    refine ⟨look hp (look hp (look hp ?_))⟩
    cases sx with
    | none => exact h H (Ext.refl _)
    | bool b => exact h H (Ext.refl _)
    | int i => exact h H (Ext.refl _)
    | str s _ => exact absurd rfl (hx s)
    | list q xs hq => exact look hq (h H (Ext.refl _))
    | tuple q xs hq => exact look hq (h H (Ext.refl _))
    | dict q xs hq => exact look hq (h H (Ext.refl _))
  | step p w parts hp hs hl5 =>
    cases parts with
    | nil => exact ⟨look hp (look hp (h H (Ext.refl _)))⟩
    | cons v r =>
      refine ⟨look hp (look hp (look hp (look hp ⟨v, rfl, hs v (by simp), fun H₁ e1 => ?_⟩)))⟩
      refine brs (fun hv => brt hv ?_) fun hv => ⟨?_⟩
      · rw [sF_no (by simpa using hv)] at h; exact h H₁ e1
      have hv : isN v = true := by simpa using hv
      have hp1 := e1 _ _ hp
      have dd : (w = tDrop ∨ w = tTurn) → Q (.bool (decide ((((V.str w :: v :: r).length : Nat) : Int) = 2))) H₁ := fun e => by rw [sF_drop e hv] at h; exact h H₁ e1
      refine look hp1 (brs (fun e => brt e (look hp1 (dd (.inl (sEq_t e))))) fun d1 => look hp1 (brs (fun e => brt e (look hp1 (dd (.inr (sEq_t e))))) fun d2 => ⟨?_⟩))
      have hD : ¬ (w = tDrop ∨ w = tTurn) := not_or.mpr ⟨sEq_f d1, sEq_f d2⟩
      by_cases hA : w = tAdd ∨ w = tShift
      · rw [sF_add hD hA hv] at h
        have aa : ∀ (h3 : ¬ (((V.str w :: v :: r).length : Nat) : Int) = 3), Q (.bool (decide ((((V.str w :: v :: r).length : Nat) : Int) = 3))) H₁ := fun h3 => by
          rw [no3 h3] at h; rw [decide_eq_false h3]; exact h H₁ e1
        have bb : ∀ n, r = [n] → Served H₁ n ∧ Q (.bool (isI n)) H₁ := fun n hr => by subst hr; exact ⟨(hs n (by simp)).ext e1, h H₁ e1⟩
        rcases hA with rfl | rfl
        · refine look hp1 (look hp1 (brd (fun h3 => ?_) fun h3 => aa h3))
          obtain ⟨n, hr⟩ := len3 h3
          obtain ⟨b1, b2⟩ := bb n hr
          subst hr
          exact look hp1 ⟨n, rfl, b1, b2⟩
        · refine look hp1 (look hp1 (look hp1 (brd (fun h3 => ?_) fun h3 => aa h3)))
          obtain ⟨n, hr⟩ := len3 h3
          obtain ⟨b1, b2⟩ := bb n hr
          subst hr
          exact look hp1 ⟨n, rfl, b1, b2⟩
      refine look hp1 (brs (fun e => absurd (.inl (sEq_t e)) hA) fun a1 => look hp1 (brs (fun e => absurd (.inr (sEq_t e)) hA) fun a2 => ⟨?_⟩))
      refine look hp1 (brs (fun e => ?_) fun n1 => ⟨?_⟩)
      · rw [sF_name hD hA (sEq_t e) hv] at h
        refine look hp1 (brd (fun h3 => ?_) fun h3 => ?_)
        · obtain ⟨n, rfl⟩ := len3 h3
          exact look hp1 ⟨n, rfl, (hs n (by simp)).ext e1, fun H₂ e2 => h H₂ (e1.trans e2)⟩
        · rw [no3 h3] at h
          show Q (.bool (decide ((((V.str w :: v :: r).length : Nat) : Int) = 3))) H₁
          rw [decide_eq_false h3]; exact h H₁ e1
      rw [sF_rest hD hA (sEq_f n1) hv] at h
      by_cases hP : w = tPart ∨ w = tJoin
      · rw [if_pos hP] at h
        rcases hP with rfl | rfl
        · refine look hp1 (look hp1 (brn (fun h5 => brt (by rw [decide_eq_false h5]; rfl) ?_) fun h5 => ⟨?_⟩))
          · rw [no5 h5] at h; exact h H₁ e1
          obtain ⟨x, y, z, hr⟩ := len5 h5
          subst hr
          have h : ∀ H', Ext H H' → Q (.bool ((isN x && isN y && isZ z) && decide (x ≠ y))) H' := h
          have no : (isN x && isN y && isZ z) = false → ∀ H', Ext H H' → Q (.bool false) H' := fun e H' e' => by have := h H' e'; rw [e, Bool.false_and] at this; exact this
          refine look hp1 ⟨x, rfl, (hs x (by simp)).ext e1, fun H₂ e2 => brs (fun q => brt q (no (by simp at q; simp [q]) H₂ (e1.trans e2))) fun qx => look (e2 _ _ hp1) ⟨y, rfl, (hs y (by simp)).ext (e1.trans e2), fun H₃ e3 => brs (fun q => brt q (no (by simp at q; simp [q]) H₃ ((e1.trans e2).trans e3))) fun qy => look (e3 _ _ (e2 _ _ hp1)) ⟨z, rfl, (hs z (by simp)).ext ((e1.trans e2).trans e3), brs (fun q => brt q (no (by simp at q; simp [q]) H₃ ((e1.trans e2).trans e3))) fun qz => ⟨?_⟩⟩⟩⟩
          have hp3 := e3 _ _ (e2 _ _ hp1)
          simp only [Bool.not_eq_eq_eq_not, Bool.not_false] at qx qy qz
          replace h := h H₃ ((e1.trans e2).trans e3)
          rw [qx, qy, qz] at h
          obtain ⟨sx, rfl⟩ := isN_out qx
          obtain ⟨sy, rfl⟩ := isN_out qy
          rw [← ne_sEq] at h
          exact look hp3 (look hp3 (look hp3 h))
        · refine look hp1 (look hp1 (look hp1 (brn (fun h5 => brt (by rw [decide_eq_false h5]; rfl) ?_) fun h5 => ⟨?_⟩)))
          · rw [no5 h5] at h; exact h H₁ e1
          obtain ⟨x, y, z, hr⟩ := len5 h5
          subst hr
          have h : ∀ H', Ext H H' → Q (.bool ((isN x && isN y && isZ z) && decide (v ≠ x))) H' := h
          have no : (isN x && isN y && isZ z) = false → ∀ H', Ext H H' → Q (.bool false) H' := fun e H' e' => by have := h H' e'; rw [e, Bool.false_and] at this; exact this
          refine look hp1 ⟨x, rfl, (hs x (by simp)).ext e1, fun H₂ e2 => brs (fun q => brt q (no (by simp at q; simp [q]) H₂ (e1.trans e2))) fun qx => look (e2 _ _ hp1) ⟨y, rfl, (hs y (by simp)).ext (e1.trans e2), fun H₃ e3 => brs (fun q => brt q (no (by simp at q; simp [q]) H₃ ((e1.trans e2).trans e3))) fun qy => look (e3 _ _ (e2 _ _ hp1)) ⟨z, rfl, (hs z (by simp)).ext ((e1.trans e2).trans e3), brs (fun q => brt q (no (by simp at q; simp [q]) H₃ ((e1.trans e2).trans e3))) fun qz => ⟨?_⟩⟩⟩⟩
          have hp3 := e3 _ _ (e2 _ _ hp1)
          simp only [Bool.not_eq_eq_eq_not, Bool.not_false] at qx qy qz
          replace h := h H₃ ((e1.trans e2).trans e3)
          rw [qx, qy, qz] at h
          obtain ⟨sx, rfl⟩ := isN_out qx
          obtain ⟨sy, rfl⟩ := isN_out hv
          rw [← ne_sEq] at h
          exact look hp3 ⟨look hp3 (look hp3 h)⟩
      · rw [if_neg hP] at h
        exact look hp1 (brs (fun _ => look hp1 (brs (fun _ => h H₁ e1) fun e => absurd (.inr (sEq_t (by simpa using e))) hP)) fun e => absurd (.inl (sEq_t (by simpa using e))) hP)
end Mine
namespace Mine
open PySem PySem.Calls PySem.SeqAt PySem.W PyProof.Rows PySem.Challenge
theorem tx_eq {a b : List Nat} : tx a = tx b ↔ a = b := ⟨tx_inj, fun h => by rw [h]⟩
def words7 : List Str := [tAdd, tDrop, tName, tShift, tTurn, tPart, tJoin]
def okc (c : Nat) (v : V) : Bool := if c = 110 then isN v else isI v && (if c = 115 then isZ v else true)
def tailF (w : Str) (parts : List V) : Bool :=
  match parts with
  | a :: b :: c :: _ => if w = tPart then decide (b ≠ c) else if w = tJoin then decide (a ≠ b) else true
  | _ => true
theorem isZ_isI {v : V} (h : isZ v = true) : isI v = true := by cases v <;> first | rfl | cases h
theorem stepF_none {w : Str} {parts : List V} (h : w ∉ words7) : stepF w parts = false := by
  simp only [words7, List.mem_cons, List.not_mem_nil, or_false, not_or] at h
  obtain ⟨h1, h2, h3, h4, h5, h6, h7⟩ := h
  cases parts <;> simp [stepF, h1, h2, h3, h4, h5, h6, h7]
theorem stepF_len {w : Str} {parts : List V} (h : w ∈ words7) (hl : parts.length ≠ (kcs w).length) : stepF w parts = false := by
  simp only [words7, List.mem_cons, List.not_mem_nil, or_false] at h
  rcases h with rfl | rfl | rfl | rfl | rfl | rfl | rfl <;> simp [kcs, tx_eq, tAdd, tDrop, tName, tShift, tTurn, tPart, tJoin] at hl <;>
    (rcases parts with _ | ⟨a, _ | ⟨b, _ | ⟨c, _ | ⟨e, _ | ⟨f, r⟩⟩⟩⟩⟩ <;> first | (exact absurd rfl hl) | simp [stepF, tx_eq, tAdd, tDrop, tName, tShift, tTurn, tPart, tJoin, m1, m3])
theorem stepF_all {w : Str} {parts : List V} (h : w ∈ words7) (hl : parts.length = (kcs w).length) : stepF w parts = ((List.zipWith okc (kcs w) parts).all id && tailF w parts) := by
  simp only [words7, List.mem_cons, List.not_mem_nil, or_false] at h
  have zi : ∀ v, (isI v && isZ v) = isZ v := fun v => by
    cases q : isZ v with
    | false => simp
    | true => rw [isZ_isI q]; rfl
  rcases h with rfl | rfl | rfl | rfl | rfl | rfl | rfl <;> simp [kcs, tx_eq, tAdd, tDrop, tName, tShift, tTurn, tPart, tJoin] at hl <;>
    (rcases parts with _ | ⟨a, _ | ⟨b, _ | ⟨c, _ | ⟨e, _ | ⟨f, r⟩⟩⟩⟩⟩ <;> first | (simp at hl; done) | (simp at hl; omega) | simp [stepF, tx_eq, tAdd, tDrop, tName, tShift, tTurn, tPart, tJoin, kcs, okc, tailF, zi, m1, m3, Bool.and_assoc])
theorem kcs_mem {w : Str} {c : Nat} (h : c ∈ kcs w) : c = 110 ∨ c = 105 ∨ c = 115 := by
  unfold kcs at h
  split at h
  · simp at h; omega
  split at h
  · simp at h; omega
  split at h
  · simp at h; omega
  · simp at h; omega
theorem kcs_len (w : Str) : (kcs w).length ≤ 4 := by
  unfold kcs
  split
  · decide
  split
  · decide
  split
  · decide
  · decide
theorem zip_take {w : Str} {parts : List V} {k : Nat} {c : Nat} {v : V} (hc : (kcs w)[k]? = some c) (hv : parts[k]? = some v) : (List.zipWith okc (kcs w) parts)[k]? = some (okc c v) := by
  rw [List.getElem?_zipWith, hc, hv]
theorem all_no {l : List Bool} {k : Nat} (h : l[k]? = some false) : l.all id = false := by
  rw [List.all_eq_false]
  exact ⟨false, List.mem_of_getElem? h, by simp⟩
theorem tail4 {w : Str} {parts : List V} (hw : w = tPart ∨ w = tJoin) (hl : parts.length = (kcs w).length) (ha : (List.zipWith okc (kcs w) parts).all id = true) : ∃ a b c e, parts = [.str a, .str b, .str c, e] := by
  have hk : kcs w = [110, 110, 110, 115] := by rcases hw with rfl | rfl <;> simp [kcs, tx_eq, tAdd, tDrop, tName, tShift, tTurn, tPart, tJoin]
  rw [hk] at hl ha
  rcases parts with _ | ⟨a, _ | ⟨b, _ | ⟨c, _ | ⟨e, _ | ⟨f, r⟩⟩⟩⟩⟩ <;> simp at hl
  simp [okc] at ha
  obtain ⟨h1, h2, h3, _⟩ := ha
  obtain ⟨a, rfl⟩ := isN_out h1
  obtain ⟨b, rfl⟩ := isN_out h2
  obtain ⟨c, rfl⟩ := isN_out h3
  exact ⟨a, b, c, e, rfl⟩
end Mine
namespace Mine
open PySem PySem.Calls PySem.SeqAt PySem.W PyProof.Rows PySem.Challenge
theorem ok_lstep {C : Cx} {a : Addr} {d : Nat} (F : Is_lstep C a) (he : ExsOk C sup) (hg : Gs_lstep C d) : Meets C (d + 1) true (.ref a) T_lstep := by
  refine def_at c_lstep 7 F k_lstep b_lstep he hg.1 hg.2 fun fz vs Q X H h => ?_
  obtain ⟨w, p, parts, rfl, hp, hs, hl5, h⟩ := h
  refine ⟨rfl, ⟨made_of fun H₁ l e1 _ _ hl => look hl (in_strs (ss := words7) rfl (brn (fun hn => brt (by rw [decide_eq_false hn]; rfl) ?_) fun hw => look (e1 _ _ hp) ⟨w, rfl, reqp (by have := kcs_len w; rw [tx_length]; omega) (brn (fun hn => brt (by rw [decide_eq_false hn]; rfl) ?_) fun hlen => ⟨look (e1 _ _ hp) (made_of fun H₂ r e2 nr fr hr => ?_)⟩)⟩))⟩⟩
  · rw [stepF_none hn] at h; exact h H₁ e1
  · rw [stepF_len hw (fun e => hn (by rw [tx_length, e]))] at h; exact h H₁ e1
  rw [tx_length] at hlen
  have hlen : parts.length = (kcs w).length := by omega
  rw [stepF_all hw hlen] at h
  have E2 := e1.trans e2
  refine forS_of _ (fun k ρ H' => ∃ a2 a3, ρ = [some (.str w), some (.ref p), a2, a3, none, none, none, none, none] ∧ Ext H₂ H' ∧ ((List.zipWith okc (kcs w) parts).take k).all id = true) (items_rng hr (by omega)) ⟨none, none, rfl, Ext.refl _, rfl⟩ ?_ ?_
  · rintro k y ρ H' hy ⟨a2, a3, rfl, e3, hall⟩
    obtain ⟨hk, rfl⟩ := range_get hy
    have E := E2.trans e3
    have hv : parts[k]? = some parts[k] := List.getElem?_eq_getElem hk
    have hc : (kcs w)[k]? = some (kcs w)[k] := List.getElem?_eq_getElem (by omega)
    have sv : Served H parts[k] := hs _ (List.getElem_mem hk)
    have cm := kcs_mem (w := w) (List.getElem_mem (by omega : k < (kcs w).length))
    have hz := zip_take hc hv
    generalize parts[k] = v at hv sv hz
    generalize (kcs w)[k] = c at hc cm hz
    have hpk : pick parts (k : Int) = some v := by rw [pick_nat]; exact hv
    have hp' := E _ _ hp
    have no : okc c v = false → ∀ H', Ext H H' → Q (.bool false) H' := fun e H' e' => by
      rw [all_no (hz.trans (by rw [e])), Bool.false_and] at h; exact h H' e'
    have yes : okc c v = true → ((List.zipWith okc (kcs w) parts).take (k + 1)).all id = true := fun e => by
      rw [List.take_add_one, hz, List.all_append, hall, e]; rfl
    have hgc : (tx (kcs w)).cps[((k : Int)).toNat]? = some c := by rw [Int.toNat_natCast]; simpa [tx] using hc
    have i0 : 0 ≤ (k : Int) := by omega
    have i1 : (k : Int) < 6 := by omega
    generalize (k : Int) = i at hpk hgc i0 i1 ⊢
    refine ⟨w, rfl, ⟨c, i0, by omega, hgc, ⟨?_⟩⟩⟩
    rcases cm with rfl | rfl | rfl
    · refine look hp' (got hpk ⟨v, rfl, sv.ext E, fun H₄ e4 => brs (fun q => no (by simpa [okc] using q) H₄ (E.trans e4)) fun q => brf q ⟨⟨_, _, rfl, e3.trans e4, yes (by simpa [okc] using q)⟩⟩⟩)
    · refine look hp' (got hpk ⟨v, rfl, sv.ext E, brs (fun q => no (by simp at q; simp [okc, q]) H' E) fun q => brf q ⟨⟨_, _, rfl, e3, yes (by simp at q; simp [okc, q])⟩⟩⟩)
    · refine look hp' (got hpk ⟨v, rfl, sv.ext E, brs (fun q => no (by simp at q; simp [okc, q]) H' E) fun q => brf q ⟨?_⟩⟩)
      have hi : isI v = true := by simpa using q
      obtain ⟨m, rfl⟩ : ∃ m, v = .int m := by cases v <;> first | exact ⟨_, rfl⟩ | cases hi
      refine look hp' (got hpk (brd (fun h2 => brn (fun h6 => no (by simp [okc, isI, isZ, h6]) H' E) fun h6 => brf (by rw [decide_eq_true h6]; rfl) ⟨⟨_, _, rfl, e3, yes (by simp [okc, isI, isZ, h2, h6])⟩⟩) fun h2 => no (by simp [okc, isI, isZ, h2]) H' E))
  rintro ρ H₃ ⟨a2, a3, rfl, e3, hall⟩
  rw [List.length_map, List.length_range, List.take_of_length_le (by rw [List.length_zipWith]; omega)] at hall
  rw [hall, Bool.true_and] at h
  have E := E2.trans e3
  have hp' := E _ _ hp
  replace h := h H₃ E
  refine ⟨brs (fun e => ?_) fun e => ⟨brs (fun f => ?_) fun f => ?_⟩⟩
  · have hw := sEq_t e
    obtain ⟨x, y, z, u, rfl⟩ := tail4 (.inl hw) hlen hall
    simp only [tailF, if_pos (show w = tPart from hw)] at h
    rw [← ne_sEq] at h
    exact look hp' (look hp' h)
  · have hw := sEq_f e
    have hj : ¬ w = tJoin := sEq_f (by simpa using f)
    have ht : tailF w parts = true := by
      unfold tailF
      split
      · rw [if_neg hw, if_neg hj]
      · rfl
    rw [ht] at h
    show Q (.bool (!sEq w tJoin)) H₃
    rw [f]; exact h
  · have hw := sEq_f e
    have hj : w = tJoin := sEq_t (by simpa using f)
    obtain ⟨x, y, z, u, rfl⟩ := tail4 (.inr hj) hlen hall
    simp only [tailF, if_neg (show ¬ w = tPart from hw), if_pos hj] at h
    rw [← ne_sEq] at h
    exact look hp' (look hp' h)
end Mine
namespace Mine
open PySem PySem.Calls PySem.SeqAt PySem.W PyProof.Rows PySem.Challenge
theorem got_in {ss : List Str} {m : Int} {k : V → Prop} (h0 : 0 ≤ m) (h1 : m < ss.length) (h : ∀ x, k (.str x)) : Got (pick (ss.map V.str) m) k := by
  obtain ⟨n, rfl⟩ := Int.eq_ofNat_of_zero_le h0
  have hn : n < ss.length := by omega
  exact got (pick_strs (List.getElem?_eq_getElem hn)) (h _)
def NoneOf (H : AH) (v : V) : Prop := Served H v ∧ StepSays H v false ∧ isN v = false ∧ isI v = false
theorem StepSays.ext {H H' : AH} {v : V} {b : Bool} (h : StepSays H v b) (e : Ext H H') : StepSays H' v b := by
  cases h with
  | none => exact .none
  | bool b => exact .bool b
  | str s => exact .str s
  | list p xs h => exact .list p xs (e _ _ h)
  | dict p xs h => exact .dict p xs (e _ _ h)
  | short p xs h hl => exact .short p xs (e _ _ h) hl
  | odd p x y xs h sx hx => exact .odd p x y xs (e _ _ h) (sx.ext e) hx
  | step p w parts h hs hl => exact .step p w parts (e _ _ h) (fun x hx => (hs x hx).ext e) hl
theorem NoneOf.ext {H H' : AH} {v : V} (h : NoneOf H v) (e : Ext H H') : NoneOf H' v := ⟨h.1.ext e, h.2.1.ext e, h.2.2⟩
theorem noneOf_tuple {H : AH} {p : Nat} {x : V} {parts : List V} (h : H.get p = some (.tuple (x :: parts))) (sx : Served H x) (hx : ∀ s, x ≠ .str s) : NoneOf H (.ref p) := by
  refine ⟨.tuple p _ h, ?_, rfl, rfl⟩
  cases parts with
  | nil => exact .short p _ h (by simp)
  | cons y r => exact .odd p x y r h sx hx
theorem ok_law {C : Cx} {a : Addr} {d : Nat} (F : Is_law C a) (he : ExsOk C sup) (hg : Gs_law C d) {scr : List Int} {l : Nat} {H : AH} (hl : H.get l = some (.rlist (scr.map V.int))) : TopTo C (d + 1) (.ref a) [.ref l] (fun v => v = .bool true) H := by
  refine top_at c_law 23 F k_law b_law he hg.1 hg.2 rfl ⟨cell_any hl (by decide) fun c0 => cell_any hl (by decide) fun c1 => ⟨c0, c1, rfl, fun t H₁ ht e1 => ⟨cell_any (e1 _ _ hl) (by decide) fun c2 => ⟨c2, rfl, fun num H₂ e2 => ⟨made_of fun H₃ wl e3 _ _ hwl => ⟨cell_any (e3 _ _ (e2 _ _ (e1 _ _ hl))) (by decide) fun c3 => look hwl ?_⟩⟩⟩⟩⟩⟩
  have hl := e3 _ _ (e2 _ _ (e1 _ _ hl))
  have h0 := fm0 c3 (b := 12) (by decide)
  have h12 := fmlt c3 (b := 12) (by decide)
  refine got_in (ss := [tAdd, tDrop, tName, tShift, tTurn, tPart, tJoin, tx [65,100,100], tx [], t, tPart, tJoin]) h0 h12 fun w => ⟨⟨w, rfl, ⟨reqp (by have := kcs_len w; rw [tx_length]; omega) ?_⟩⟩⟩
  have kl := kcs_len w
  refine ife_cut (fun ρ' H' => ∃ n : Nat, ρ' = [some (.ref l), some (.str t), some (.int num), some (.ref wl), some (.str w), some (.str (tx (kcs w))), some (.int n), none, none, none, none, none, none, none, none, none, none, none, none, none, none, none, none, none] ∧ n ≤ 5 ∧ H' = H₃) (fun N rest => ?_) ?_
  · refine cell_any hl (by decide) fun c => brd (fun _ => cell_any hl (by decide) fun c => ⟨?_⟩) fun _ => rest _ _ ⟨(tx (kcs w)).length, rfl, by rw [tx_length]; omega, rfl⟩
    have g0 := fm0 (c.fdiv 4) (b := 6) (by decide)
    have g6 := fmlt (c.fdiv 4) (b := 6) (by decide)
    exact rest _ _ ⟨((c.fdiv 4).fmod 6).toNat, by rw [Int.toNat_of_nonneg g0]; rfl, by omega, rfl⟩
  rintro ρ Hq ⟨n, rfl, hn, rfl⟩
  refine ⟨made_of fun H₄ rg e4 _ _ hrg => ?_⟩
  refine ⟨(List.range n).map fun i => V.int (i : Nat), items_rng hrg (by omega), by simp [sizeLine]; omega, fun k ys H' => ys.length = k ∧ (∀ x ∈ ys, Served H' x) ∧ Ext H₄ H', ⟨rfl, by simp, Ext.refl _⟩, fun k y ys H' hy hJ => ?_, fun ys H' _ hJ => ?_⟩
  · obtain ⟨hk, hs, e⟩ := hJ
    obtain ⟨hk', rfl⟩ := range_get hy
    have i0 : 0 ≤ (k : Int) := by omega
    have hch : ∃ ch, (tx (kcs w ++ [110,110,110,110,110])).cps[((k : Int)).toNat]? = some ch := by
      have hlt : k < (kcs w ++ [110,110,110,110,110]).length := by rw [List.length_append]; simp; omega
      have e : ∀ L : List Nat, (tx L).cps[k]? = L[k]? := fun L => by simp [tx]
      exact ⟨(kcs w ++ [110,110,110,110,110])[k], by rw [Int.toNat_natCast, e]; exact List.getElem?_eq_getElem hlt⟩
    obtain ⟨ch, hch⟩ := hch
    have i1 : (k : Int) < 2 ^ 62 := by omega
    generalize (k : Int) = i at i0 i1 hch ⊢
    refine cat_tx (by simp; omega) ⟨ch, i0, i1, hch, ⟨l, i, t, num, _, scr, rfl, e _ _ (e4 _ _ hl), i0, ht, fun v H' ev sv => ⟨by simp [hk], ?_, e.trans ev⟩⟩⟩
    intro x hx
    rcases List.mem_append.mp hx with hx | hx
    · exact (hs x hx).ext ev
    · simp at hx; subst hx; exact sv
  obtain ⟨hlen, hs, e5⟩ := hJ
  rw [List.length_map, List.length_range] at hlen
  refine made_of fun H₆ pr e6 _ _ hpr => ?_
  generalize ys = parts at hlen hs hpr
  replace hs : ∀ x ∈ parts, Served H₆ x := fun x hx => (hs x hx).ext e6
  have hp5 : parts.length ≤ 5 := by omega
  have st : ∀ {H' : AH}, Served H' (.str t) := .str t (by omega)
  have z1 : ∀ x : V, [x].length + parts.length ≤ sizeLine := fun x => sizeS (by simp; omega)
  have z2 : ∀ x : V, ([x] ++ parts).length ≤ sizeLine := fun x => sizeS (by simp; omega)
  refine ⟨made_of fun H₇ a1 e7 _ _ h1 => look h1 (look (e7 _ _ hpr) (reqp (z1 _) (made_of fun H₈ a2 e8 _ _ h2 => look h2 (reqp (z2 _) (made_of fun H₉ sp e9 _ _ hsp => ⟨?_⟩)))))⟩
  have E9 := (e7.trans e8).trans e9
  replace hpr := E9 _ _ hpr
  replace hs : ∀ x ∈ parts, Served H₉ x := fun x hx => (hs x hx).ext E9
  refine ⟨.str t, rfl, st, fun Ha ea => ⟨.str t, rfl, st, fun Hb eb => ⟨_, _, rfl, brf (by simp) ⟨.int num, rfl, .int num, ⟨_, _, rfl, ⟨?_⟩⟩⟩⟩⟩⟩
  have Eb := ea.trans eb
  replace hpr := Eb _ _ hpr
  replace hsp := Eb _ _ hsp
  replace hs : ∀ x ∈ parts, Served Hb x := fun x hx => (hs x hx).ext Eb
  refine ⟨.ref sp, _, rfl, .step sp w parts hsp hs hp5, fun Hc ec => ⟨w, pr, parts, rfl, ec _ _ hpr, fun x hx => (hs x hx).ext ec, hp5, fun Hd ed => ⟨_, _, rfl, brf (by simp) ⟨?_⟩⟩⟩⟩
  have Ed := ec.trans ed
  replace hpr := Ed _ _ hpr
  replace hs : ∀ x ∈ parts, Served Hd x := fun x hx => (hs x hx).ext Ed
  refine made_of fun J1 b1 f1 _ _ k1 => look k1 (look (f1 _ _ hpr) (reqp (z1 _) (made_of fun J2 b2 f2 _ _ k2 => made_of fun J3 b3 f3 _ _ k3 => made_of fun J4 b4 f4 _ _ k4 => fun D nD fD => ?_)))
  have F4 := ((f1.trans f2).trans f3).trans f4
  have fD : Ext J4 ((J4.set D (.sdict [])).set D (.sdict [(w, .ref pr)])) := (Ext.new nD).set nD
  have kD : ((J4.set D (.sdict [])).set D (.sdict [(w, .ref pr)])).get D = some (.sdict [(w, .ref pr)]) := AH.set_self ..
  refine made_of fun J6 th f6 _ _ k6 => ⟨?_⟩
  have F6 := (F4.trans fD).trans f6
  have n2 : NoneOf J6 (.ref b2) := ⟨.list b2 _ (f6 _ _ (fD _ _ (f4 _ _ (f3 _ _ k2)))), .list b2 _ (f6 _ _ (fD _ _ (f4 _ _ (f3 _ _ k2)))), rfl, rfl⟩
  have n3 : NoneOf J6 (.ref b3) := ⟨.tuple b3 _ (f6 _ _ (fD _ _ (f4 _ _ k3))), .short b3 _ (f6 _ _ (fD _ _ (f4 _ _ k3))) (by simp), rfl, rfl⟩
  have n4 : NoneOf J6 (.ref b4) := noneOf_tuple (f6 _ _ (fD _ _ k4)) (.int num) (by simp)
  have nD : NoneOf J6 (.ref D) := ⟨.dict D _ (f6 _ _ kD), .dict D _ (f6 _ _ kD), rfl, rfl⟩
  replace hpr := F6 _ _ hpr
  clear F6 F4 k1 k2 k3 k4 kD f1 f2 f3 f4 f6 fD
  refine made_of fun L1 c1 g1 _ _ m1 => made_of fun L2 c2 g2 _ _ m2 => look m2 (look (g2 _ _ (g1 _ _ hpr)) (reqp (z1 _) (made_of fun L3 c3 g3 _ _ m3 => look m3 (reqp (z2 _) (made_of fun L4 c4 g4 _ _ m4 => ?_)))))
  have G4 := ((g1.trans g2).trans g3).trans g4
  have q1 : NoneOf L4 (.ref c4) := noneOf_tuple m4 (.list c1 _ (g4 _ _ (g3 _ _ (g2 _ _ m1)))) (by simp)
  replace hpr := G4 _ _ hpr
  clear m1 m2 m3 m4 g1 g2 g3 g4
  refine made_of fun L5 c5 g1 _ _ m1 => made_of fun L6 c6 g2 _ _ m2 => look m2 (look (g2 _ _ (g1 _ _ hpr)) (reqp (z1 _) (made_of fun L7 c7 g3 _ _ m3 => look m3 (reqp (z2 _) (made_of fun L8 c8 g4 _ _ m4 => ?_)))))
  have G8 := ((g1.trans g2).trans g3).trans g4
  have q2 : NoneOf L8 (.ref c8) := noneOf_tuple m4 (.dict c5 _ (g4 _ _ (g3 _ _ (g2 _ _ m1)))) (by simp)
  replace hpr := G8 _ _ hpr
  clear m1 m2 m3 m4 g1 g2 g3 g4
  refine made_of fun L9 c9 g1 _ _ m1 => made_of fun M1 d1 g2 _ _ m2 => look m2 (look (g2 _ _ (g1 _ _ hpr)) (reqp (z1 _) (made_of fun M2 d2 g3 _ _ m3 => look m3 (reqp (z2 _) (made_of fun M3 d3 g4 _ _ m4 => ?_)))))
  have GM := ((g1.trans g2).trans g3).trans g4
  have q3 : NoneOf M3 (.ref d3) := noneOf_tuple m4 (.tuple c9 _ (g4 _ _ (g3 _ _ (g2 _ _ m1)))) (by simp)
  clear m1 m2 m3 m4 g1 g2 g3 g4
  replace k6 := GM _ _ (G8 _ _ (G4 _ _ k6))
  refine made_of fun M4 d4 g1 _ _ m1 => look (g1 _ _ k6) (look m1 (made_of fun M5 d5 g2 _ _ m2 => ?_))
  have T6 := (G4.trans (G8.trans GM)).trans (g1.trans g2)
  have all : ∀ y ∈ [V.none, .bool true, .bool false, .ref b2, .ref b3, .ref b4, .ref D, .ref c4, .ref c8, .ref d3], NoneOf M5 y := by
    intro y hy
    simp only [List.mem_cons, List.not_mem_nil, or_false] at hy
    rcases hy with rfl | rfl | rfl | rfl | rfl | rfl | rfl | rfl | rfl | rfl
    · exact ⟨.none, .none, rfl, rfl⟩
    · exact ⟨.bool _, .bool _, rfl, rfl⟩
    · exact ⟨.bool _, .bool _, rfl, rfl⟩
    · exact n2.ext T6
    · exact n3.ext T6
    · exact n4.ext T6
    · exact nD.ext T6
    · exact q1.ext ((G8.trans GM).trans (g1.trans g2))
    · exact q2.ext (GM.trans (g1.trans g2))
    · exact q3.ext (g1.trans g2)
  refine forS_of _ (fun k ρ H' => ∃ a10, ρ = [some (.ref l), some (.str t), some (.int num), some (.ref wl), some (.str w), some (.str (tx (kcs w))), some (.int n), some (.ref pr), some (.ref sp), some (.ref th), a10, none, none, none, none, none, none, none, none, none, none, none, none, none] ∧ Ext M5 H') (items_list m2) ⟨none, rfl, Ext.refl _⟩ ?_ ?_
  · rintro k y ρ H' hy ⟨a10, rfl, e⟩
    obtain ⟨sv, ss, s1, s2⟩ := (all y (List.mem_of_getElem? hy)).ext e
    refine ⟨y, rfl, sv, fun Ha ea => ⟨_, _, rfl, brf (by rw [s1]; rfl) ⟨y, rfl, sv.ext ea, ⟨_, _, rfl, brf (by rw [s2]; rfl) ⟨⟨y, _, rfl, ss.ext ea, fun Hb eb => ⟨_, _, rfl, ⟨⟨_, rfl, e.trans (ea.trans eb)⟩⟩⟩⟩⟩⟩⟩⟩⟩
  rintro ρ H' ⟨a10, rfl, e⟩
  exact ⟨.int num, rfl, .int num, fun Ha ea => ⟨_, _, rfl, ⟨.str t, rfl, st, ⟨_, _, rfl, ⟨.str t, _, rfl, .str t, fun Hb eb => ⟨_, _, rfl, rfl⟩⟩⟩⟩⟩⟩
end Mine
namespace Mine
open PySem PySem.Calls PySem.SeqAt PySem.W PyProof.Rows PySem.Challenge
def defsL : List Nat := [4, 5, 6, 7, 9, 10, 11, 12, 13, 14, 15, 16, 17, 18, 19]
def keepL : List Nat := [1, 2, 3, 4, 5, 6, 7, 9, 10, 11, 12, 13, 14, 15, 16, 17, 18, 19]
def biL : List Str := ["all", "bool", "int", "isinstance", "len", "range", "str", "tuple"]
theorem gv_bi {C : Cx} {p : Program} {loose : List Str} {mean : ExcName → Option Value} (T : Top p loose mean C.mg C.mb C.h₀) {xs : List Str} (hf : freeOk p loose xs = true) {x : Str} (hx : x ∈ xs) {cv : Value} (hb : bootBuiltins x = some cv) : GV C x = some cv := by
  have h := List.all_eq_true.mp hf x hx
  simp only [Bool.and_eq_true, Bool.not_eq_true', List.contains_eq_mem, decide_eq_false_iff_not, bne_iff_ne] at h
  obtain ⟨⟨⟨⟨⟨h1, h2⟩, h3⟩, h4⟩, h5⟩, h6⟩ := h
  unfold GV
  rw [T.free x h1 h2 h3 h4 h5, T.builtins x h6, hb]; rfl
theorem lawL {C : Cx} {p : Program} {loose : List Str} {mean : ExcName → Option Value} (T : Top p loose mean C.mg C.mb C.h₀) (hex : C.ex = []) (hr : recs p = rowRecs pw defsL) (hf : freeOk p loose biL = true) (v1 : valOf p "LETTERS" = some (.str abc)) (v2 : valOf p "LONGEST" = some (.int 8)) (v3 : valOf p "MOST_SIZE" = some (.int 1000000)) :
    ∃ a, C.mg "law" = some (.ref a) ∧ ∀ (scr : List Int) l H, AH.get H l = some (.rlist (scr.map V.int)) → TopTo C 4 (.ref a) [.ref l] (fun v => v = .bool true) H := by
  have he : ExsOk C sup := fun i a h => by rw [hex] at h; cases h
  have gb : ∀ x ∈ biL, ∀ cv, bootBuiltins x = some cv → GV C x = some cv := fun x hx cv hb => gv_bi T hf hx hb
  have hletters := gv_str T v1
  have hlongest := gv_int T v2
  have hmost := gv_int T v3
  have h_all := gb "all" (by decide) _ rfl
  have h_bool := gb "bool" (by decide) _ rfl
  have h_int := gb "int" (by decide) _ rfl
  have h_isinstance := gb "isinstance" (by decide) _ rfl
  have h_len := gb "len" (by decide) _ rfl
  have h_range := gb "range" (by decide) _ rfl
  have h_str := gb "str" (by decide) _ rfl
  have h_tuple := gb "tuple" (by decide) _ rfl
  obtain ⟨a_cell, m_cell, v_cell, c_cell, f_cell⟩ := fnAt_row T hr 9 "_law_cell_at" ["_law_script", "_law_k"] (by decide) rfl ⟨rfl, rfl, rfl, rfl, rfl⟩ rfl
  obtain ⟨a_isname, m_isname, v_isname, c_isname, f_isname⟩ := fnAt_row T hr 4 "is_name" ["thing"] (by decide) rfl ⟨rfl, rfl, rfl, rfl, rfl⟩ rfl
  obtain ⟨a_isnumber, m_isnumber, v_isnumber, c_isnumber, f_isnumber⟩ := fnAt_row T hr 5 "is_number" ["thing"] (by decide) rfl ⟨rfl, rfl, rfl, rfl, rfl⟩ rfl
  obtain ⟨a_issize, m_issize, v_issize, c_issize, f_issize⟩ := fnAt_row T hr 6 "is_size" ["thing"] (by decide) rfl ⟨rfl, rfl, rfl, rfl, rfl⟩ rfl
  obtain ⟨a_isstep, m_isstep, v_isstep, c_isstep, f_isstep⟩ := fnAt_row T hr 7 "is_step" ["thing"] (by decide) rfl ⟨rfl, rfl, rfl, rfl, rfl⟩ rfl
  obtain ⟨a_signs, m_signs, v_signs, c_signs, f_signs⟩ := fnAt_row T hr 10 "_law_signs" [] (by decide) rfl ⟨rfl, rfl, rfl, rfl, rfl⟩ rfl
  obtain ⟨a_text, m_text, v_text, c_text, f_text⟩ := fnAt_row T hr 11 "_law_text_by" ["_law_cell", "_law_odd"] (by decide) rfl ⟨rfl, rfl, rfl, rfl, rfl⟩ rfl
  obtain ⟨a_number, m_number, v_number, c_number, f_number⟩ := fnAt_row T hr 12 "_law_number_by" ["_law_cell"] (by decide) rfl ⟨rfl, rfl, rfl, rfl, rfl⟩ rfl
  obtain ⟨a_isnameL, m_isnameL, v_isnameL, c_isnameL, f_isnameL⟩ := fnAt_row T hr 13 "_law_is_name" ["_law_thing"] (by decide) rfl ⟨rfl, rfl, rfl, rfl, rfl⟩ rfl
  obtain ⟨a_isnumberL, m_isnumberL, v_isnumberL, c_isnumberL, f_isnumberL⟩ := fnAt_row T hr 14 "_law_is_number" ["_law_thing"] (by decide) rfl ⟨rfl, rfl, rfl, rfl, rfl⟩ rfl
  obtain ⟨a_kinds, m_kinds, v_kinds, c_kinds, f_kinds⟩ := fnAt_row T hr 15 "_law_kinds" ["_law_word"] (by decide) rfl ⟨rfl, rfl, rfl, rfl, rfl⟩ rfl
  obtain ⟨a_lstep, m_lstep, v_lstep, c_lstep, f_lstep⟩ := fnAt_row T hr 16 "_law_is_step" ["_law_word", "_law_parts"] (by decide) rfl ⟨rfl, rfl, rfl, rfl, rfl⟩ rfl
  obtain ⟨a_part, m_part, v_part, c_part, f_part⟩ := fnAt_row T hr 17 "_law_part_by" ["_law_script", "_law_k", "_law_text", "_law_number", "_law_kind"] (by decide) rfl ⟨rfl, rfl, rfl, rfl, rfl⟩ rfl
  obtain ⟨a_same, m_same, v_same, c_same, f_same⟩ := fnAt_row T hr 18 "_law_same" ["_law_found", "_law_due"] (by decide) rfl ⟨rfl, rfl, rfl, rfl, rfl⟩ rfl
  obtain ⟨a_law, m_law, v_law, c_law, f_law⟩ := fnAt_row T hr 19 "law" ["_law_script"] (by decide) rfl ⟨rfl, rfl, rfl, rfl, rfl⟩ rfl
  have con : ∀ {d free x f T}, GV C x = some f → Callee C f → Meets C d free f T → GOk C d free x (.con T false) := fun h1 h2 h3 => ⟨_, h1, h2, h3, fun h => nomatch h⟩
  have k_cell : ∀ j, Meets C (j + 1) true (.ref a_cell) T_cell := fun j => ok_cell (d := j + 0) f_cell he ⟨⟨⟨rfl, h_len⟩, trivial⟩, trivial⟩
  have k_isname : ∀ j, Meets C (j + 1) true (.ref a_isname) T_isname := fun j => ok_isname (d := j + 0) f_isname he ⟨⟨⟨rfl, h_isinstance⟩, ⟨rfl, h_str⟩, ⟨rfl, h_len⟩, ⟨rfl, hlongest⟩, ⟨rfl, h_all⟩, trivial⟩, ⟨hletters, trivial⟩⟩
  have k_isnumber : ∀ j, Meets C (j + 1) true (.ref a_isnumber) T_isnumber := fun j => ok_isnumber (d := j + 0) f_isnumber he ⟨⟨⟨rfl, h_isinstance⟩, ⟨rfl, h_int⟩, ⟨rfl, h_bool⟩, trivial⟩, trivial⟩
  have k_issize : ∀ j, Meets C (j + 2) true (.ref a_issize) T_issize := fun j => ok_issize (d := j + 1) f_issize he ⟨⟨⟨rfl, con v_isnumber c_isnumber (k_isnumber (j + 0))⟩, ⟨rfl, hmost⟩, trivial⟩, trivial⟩
  have k_isstep : ∀ j, Meets C (j + 3) true (.ref a_isstep) T_isstep := fun j => ok_isstep (d := j + 2) f_isstep he ⟨⟨⟨rfl, h_isinstance⟩, ⟨rfl, h_tuple⟩, ⟨rfl, h_len⟩, ⟨rfl, h_str⟩, ⟨rfl, con v_isname c_isname (k_isname (j + 1))⟩, ⟨rfl, con v_isnumber c_isnumber (k_isnumber (j + 1))⟩, ⟨rfl, con v_issize c_issize (k_issize (j + 0))⟩, trivial⟩, trivial⟩
  have k_signs : ∀ j, Meets C (j + 1) true (.ref a_signs) T_signs := fun j => ok_signs (d := j + 0) f_signs he ⟨trivial, trivial⟩
  have k_text : ∀ j, Meets C (j + 2) true (.ref a_text) T_text := fun j => ok_text (d := j + 1) f_text he ⟨⟨⟨rfl, con v_signs c_signs (k_signs (j + 0))⟩, ⟨rfl, h_range⟩, ⟨rfl, h_len⟩, trivial⟩, trivial⟩
  have k_number : ∀ j, Meets C (j + 1) true (.ref a_number) T_number := fun j => ok_number (d := j + 0) f_number he ⟨trivial, trivial⟩
  have k_isnameL : ∀ j, Meets C (j + 1) true (.ref a_isnameL) T_isname := fun j => ok_isnameL (d := j + 0) f_isnameL he ⟨⟨⟨rfl, h_isinstance⟩, ⟨rfl, h_str⟩, ⟨rfl, h_len⟩, trivial⟩, trivial⟩
  have k_isnumberL : ∀ j, Meets C (j + 1) true (.ref a_isnumberL) T_isnumber := fun j => ok_isnumberL (d := j + 0) f_isnumberL he ⟨⟨⟨rfl, h_isinstance⟩, ⟨rfl, h_int⟩, ⟨rfl, h_bool⟩, trivial⟩, trivial⟩
  have k_kinds : ∀ j, Meets C (j + 1) true (.ref a_kinds) T_kinds := fun j => ok_kinds (d := j + 0) f_kinds he ⟨trivial, trivial⟩
  have k_lstep : ∀ j, Meets C (j + 2) true (.ref a_lstep) T_lstep := fun j => ok_lstep (d := j + 1) f_lstep he ⟨⟨⟨rfl, h_len⟩, ⟨rfl, con v_kinds c_kinds (k_kinds (j + 0))⟩, ⟨rfl, h_range⟩, ⟨rfl, con v_isnameL c_isnameL (k_isnameL (j + 0))⟩, ⟨rfl, con v_isnumberL c_isnumberL (k_isnumberL (j + 0))⟩, trivial⟩, trivial⟩
  have k_part : ∀ j, Meets C (j + 2) true (.ref a_part) T_part := fun j => ok_part (d := j + 1) f_part he ⟨⟨⟨rfl, con v_cell c_cell (k_cell (j + 0))⟩, trivial⟩, trivial⟩
  have k_same : ∀ j, Meets C (j + 1) true (.ref a_same) T_same := fun j => ok_same (d := j + 0) f_same he ⟨⟨⟨rfl, h_isinstance⟩, ⟨rfl, h_bool⟩, trivial⟩, trivial⟩
  exact ⟨a_law, m_law, fun scr l H hl => ok_law (d := 3) f_law he ⟨⟨⟨rfl, con v_text c_text (k_text 1)⟩, ⟨rfl, con v_cell c_cell (k_cell 2)⟩, ⟨rfl, con v_number c_number (k_number 2)⟩, ⟨rfl, con v_kinds c_kinds (k_kinds 2)⟩, ⟨rfl, h_len⟩, ⟨rfl, h_range⟩, ⟨rfl, h_tuple⟩, ⟨rfl, con v_same c_same (k_same 2)⟩, ⟨rfl, con v_isname c_isname (k_isname 2)⟩, ⟨rfl, con v_isnameL c_isnameL (k_isnameL 2)⟩, ⟨rfl, con v_isnumber c_isnumber (k_isnumber 2)⟩, ⟨rfl, con v_isstep c_isstep (k_isstep 0)⟩, ⟨rfl, con v_lstep c_lstep (k_lstep 1)⟩, trivial⟩, ⟨con v_part c_part (k_part 1), trivial⟩⟩ hl⟩
end Mine
namespace Mine
open PySem PySem.W PyProof.Rows
def viewOf (p : Program) (is : List Nat) : Program := { p with main := { p.main with body := is.filterMap fun i => p.main.body[i]? } }
end Mine
open PySem PySem.W PyProof.Rows
set_option maxRecDepth 100000 in
set_option maxHeartbeats 8000000 in
theorem PySem.Challenge.cw_uf040039_01_holds : PySem.Challenge.rw_uf040039_01.Holds := by
  w_on; o_law
  refine holds_open (q := Mine.viewOf PySem.Challenge.pw_uf040039_01 Mine.keepL) (loose := []) (Xt := fun s => xlAt (Mine.viewOf PySem.Challenge.pw_uf040039_01 Mine.keepL) [] s && recOk (RowW.records (OpenRow.toRowW (OpenLaw.row PySem.Challenge.rw_uf040039_01))) s) (XP := XL (Mine.viewOf PySem.Challenge.pw_uf040039_01 Mine.keepL) []) (Yf := Hook.obs Hook.none) (Ya := Hook.val Hook.none) (YP := Hook.says Hook.none) (N := 3000) ?hl (Hook.of Hook.none) (Hook.keeps Hook.none) (fun s e => xl_of s (Bool.and_eq_true_iff.mp e).1) XL.keeps (by rfl) (by rfl) (by rfl) (fun s e => recFacts_of (Bool.and_eq_true_iff.mp e).2) (by rfl) (by first | assumption | decide +kernel) (by decide +kernel) ⟨rfl, rfl, rfl, rfl, rfl, by decide +kernel⟩ ?hw ?hc
  case hl => exact fun w => by kernel_rfl
  case hw => w_witness2
  case hc =>
    intro w s₀ s₁ mg mb G Y fa o pm cd doc dV kV ho hd hcd hD hmg hg args vals as hpre hlay hrd hwl hlo
    refine Ground.open G ?_
    intro T B D TE TW
    wrow_args hpre hlay hrd hwl hlo
    all_goals (
      clear hd hcd hD Y B D TE TW ho
      refine Mine.law_entry (d := 4) T (by decide +kernel) hg hmg ‹_› ‹_› ‹_› (by decide) (Mine.well_dict ‹_›) (ex := []) ?_ ?_
      · obtain ⟨a, ha, hl⟩ := Mine.lawL (C := Mine.cxOf _ w s₁ [] T (by decide +kernel)) T rfl rfl (by decide +kernel) (by kernel_rfl) (by kernel_rfl) (by kernel_rfl)
        exact ⟨a, ha, fun l H e => hl _ l H e⟩
      · exact ⟨fun _ => rfl, by with_unfolding_all rfl, fun _ => by constructor⟩)
