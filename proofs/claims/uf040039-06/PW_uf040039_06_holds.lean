import PyProof.Rows.All
import KE.KDictSum
import KE.KDictList
import KE.KEqDict
import KE.KIsNot
import KE.KItem
import KE.KDictOf
import OpenK.KWalk
import OpenK.KMake
import OpenK.KDescr
import OpenK.Peek
import OpenK.KGet
import OpenK.KFacts
import OpenK.KCall
import Open.Line
import Wide.OneHead
import Wide.Tac
import Wide.FinOn
import Wide.BridgeG
import Imp.Common
import ObjForm.Claim3
import Wide.ObjOpen
import PySem.Challenge.RW_uf040039_06
set_option Elab.async false
set_option autoImplicit false
set_option tactic.hygienic false
set_option genSizeOf false
set_option backward.match.sparseCases false
set_option linter.unusedVariables false
set_option linter.unusedSimpArgs false
set_option genSizeOfSpec false
set_option bootstrap.genMatcherCode false
namespace Mine
open PySem PySem.Calls PySem.W PyProof.Rows
noncomputable def negOk (K : Frag) (a : Addr) : Bool :=
  (((findIn K (.ref a) "__getattribute__" == some (some (.builtin "BaseException.__getattribute__")) && findIn K (.ref a) "__getattr__" == some none) && mroIn K a (.type "BaseException") == some true) && hasDictIn K a) && ((findIn K (.ref a) "__class__" == some (some (.builtin "object.__class__")) && specialIn K (.builtin "object.__class__") "__get__" == some (some (.builtin "getset_descriptor.__get__"))) &&
    (takesIn K (.builtin "object.__class__") == some true && mroIn K a (.type "object") == some true))
noncomputable abbrev NegOk (K : Frag) (a : Addr) : Prop := negOk K a = true
noncomputable def addrOf : Option Value → Addr
  | some (.ref a) => a
  | _ => 0
noncomputable def exBm : List Value := [.type "ValueError", .type "Exception", .type "BaseException", .type "object"]
noncomputable abbrev ExL := List (Str × List Str)
noncomputable def exOf (l : ExL) (mg : Str → Option Value) : List Addr := l.map fun p => addrOf (mg p.1)
noncomputable def supAt (sup : List (List Nat)) (i j : Nat) : Bool := match sup[i]? with | some l => l.any (Nat.beq j) | none => false
noncomputable def exVal (h : Heap) (n : Str) : Value := (h.nsMap mainGlobals n).getD .none
noncomputable def exOne (l : ExL) (sup : List (List Nat)) (h : Heap) (i : Nat) (p : Str × List Str) : Bool :=
  ((h.ownExcOk p.1 p.2 exBm "ValueError.__new__" && h.quietOk p.1) && p.2.all fun n => l.any fun q => q.1 == n) &&
    (List.range l.length).all fun j => match l[j]? with | some q => (exVal h p.1 :: (p.2.map (exVal h) ++ exBm)).contains (exVal h q.1) == supAt sup i j | none => true
noncomputable def fragAt (h : Heap) (a : Addr) : Frag := match h.get? a with
  | some o => (a, o) :: (match o.data with | .cls cd => (match h.get? cd.ns with | some on => [(cd.ns, on)] | none => []) | _ => [])
  | none => []
noncomputable def fragOf (l : ExL) (h : Heap) : Frag := l.flatMap fun p => fragAt h (addrOf (h.nsMap mainGlobals p.1))
noncomputable def exNeg (K : Frag) (l : ExL) (sup : List (List Nat)) (h : Heap) : Bool := (List.range l.length).all fun i => match l[i]? with
  | some p => negOk K (addrOf (h.nsMap mainGlobals p.1)) && (List.range l.length).all fun j => match l[j]? with | some q => supAt sup i j || kin_not K (addrOf (h.nsMap mainGlobals p.1)) (addrOf (h.nsMap mainGlobals q.1)) | none => true
  | none => true
noncomputable def bkNeg (K : Frag) (a : Addr) : Bool := (plainGet K a "__class__" && hasDictIn K a) && ((findIn K (.ref a) "__class__" == some (some (.builtin "object.__class__")) && specialIn K (.builtin "object.__class__") "__get__" == some (some (.builtin "getset_descriptor.__get__"))) &&
    ((takesIn K (.builtin "object.__class__") == some true && mroIn K a (.type "object") == some true) && kin_notT K a "str"))
noncomputable def bkTest (h : Heap) : Bool := bkNeg (fragAt h (addrOf (h.nsMap mainGlobals "Book"))) (addrOf (h.nsMap mainGlobals "Book"))
noncomputable def exTest (l : ExL) (sup : List (List Nat)) (h : Heap) : Bool := (((List.range l.length).all fun i => match l[i]? with | some p => exOne l sup h i p | none => true) && exNeg (fragOf l h) l sup h) && bkTest h
noncomputable def viewOf (p : Program) (is : List Nat) : Program := { p with main := { p.main with body := is.filterMap fun i => p.main.body[i]? } }
end Mine
set_option maxRecDepth 100000
namespace Mine
open PySem PySem.Calls PySem.W PyProof.Rows PySem.Challenge
noncomputable abbrev pw : Program := pw_uf040039_06
noncomputable def sup : List (List Nat) := [[0], [1, 0], [2, 0], [3, 0], [4, 0], [5, 0], [6, 0], [7, 0], [8, 0]]
noncomputable def exL : ExL := [("FormError", []), ("NoField", ["FormError"]), ("Taken", ["FormError"]), ("BadForm", ["FormError"]), ("BadName", ["FormError"]), ("BadStep", ["FormError"]), ("NoForm", ["FormError"]), ("NoRecord", ["FormError"]), ("TooMany", ["FormError"])]
noncomputable def keepL : List Nat := [0, 2, 3, 4, 5, 6, 7, 8, 9, 10, 12, 13, 14, 15, 16, 17, 18, 19, 20, 21, 22, 23, 24, 26, 27, 29, 30, 31, 32, 33, 34, 35, 36, 37, 38, 39, 40, 41, 42, 43, 44, 45, 46, 47]
noncomputable def xtL (s : Shared) : Bool := (xlAt (viewOf pw keepL) [] s && exTest exL sup s.heap) && recOk (RowW.records (OpenRow.toRowW (OpenLaw.row rw_uf040039_06))) s
theorem left_cut {p q : Program} {loose : List Str} {Xt : Shared → Bool} {α : Type} {Yf : Shared → α} {Ya : World → α} {N : Nat}
    (b : ∀ w, (openEnds treeTable p w N).map (fun s => ((openSeen q loose (importedModules p.main.body) (fun _ => true) true s).2, Yf s)) = some ((openGood q loose).2, Ya w))
    (a : ∀ w, (openEnds treeTable p w N).map (fun s => (openSeen q loose (importedModules p.main.body) (fun _ => true) true s).1) = some (openGood q loose).1)
    (c : ∀ w, (openEnds treeTable p w N).map (fun s => Xt s) = some true) : LeftO p q loose Xt Yf Ya N := fun w => by
  obtain ⟨s, h1, h2⟩ := Option.map_eq_some_iff.mp (a w)
  have h3 := b w
  have h4 := c w
  rw [h1] at h3 h4 ⊢
  have h3 := Prod.mk.inj (Option.some.inj h3)
  have h4 : Xt s = true := Option.some.inj h4
  have e : openSeen q loose (importedModules p.main.body) Xt true s = openSeen q loose (importedModules p.main.body) (fun _ => true) true s := by unfold openSeen; rw [h4]
  show some (openSeen q loose (importedModules p.main.body) Xt true s, Yf s) = some (openGood q loose, Ya w)
  rw [e, h3.2]
  exact congrArg (fun z => some (z, Ya w)) (Prod.ext h2 h3.1)
theorem leftB : ∀ w, (openEnds treeTable rw_uf040039_06.row.prog w 4500).map (fun s => ((openSeen (viewOf pw keepL) [] (importedModules rw_uf040039_06.row.prog.main.body) (fun _ => true) true s).2, Hook.obs Hook.none s)) = some ((openGood (viewOf pw keepL) []).2, Hook.val Hook.none w) := fun w => by kernel_rfl
theorem leftA : ∀ w, (openEnds treeTable rw_uf040039_06.row.prog w 4500).map (fun s => (openSeen (viewOf pw keepL) [] (importedModules rw_uf040039_06.row.prog.main.body) (fun _ => true) true s).1) = some (openGood (viewOf pw keepL) []).1 := fun w => by kernel_rfl
theorem leftC : ∀ w, (openEnds treeTable rw_uf040039_06.row.prog w 4500).map (fun s => xtL s) = some true := fun w => by kernel_rfl
theorem leftL : LeftO rw_uf040039_06.row.prog (viewOf pw keepL) [] xtL (Hook.obs Hook.none) (Hook.val Hook.none) 4500 := left_cut leftB leftA leftC
end Mine
namespace Mine
open PySem PySem.Calls
inductive V where
  | none | ell | nimp
  | bool (b : Bool) | int (i : Int) | flt (x : UInt64) | str (s : Str) | bytes (b : Array UInt8)
  | typ (n : String) | bi (id : String) | ref (a : Nat)
  deriving DecidableEq, Inhabited
noncomputable def toV : Value → V
  | .none => .none | .ellipsis => .ell | .notImplemented => .nimp
  | .bool b => .bool b | .int i _ => .int i | .float x _ => .flt x | .str s _ => .str s | .bytes b _ => .bytes b
  | .type n => .typ n | .builtin id => .bi id | .ref a => .ref a
theorem toV_int {v : Value} {i : Int} (h : toV v = .int i) : ∃ t, v = .int i t := by cases v <;> simp [toV] at h; subst h; exact ⟨_, rfl⟩
theorem toV_str {v : Value} {x : Str} (h : toV v = .str x) : ∃ t, v = .str x t := by cases v <;> simp [toV] at h; subst h; exact ⟨_, rfl⟩
theorem toV_bool {v : Value} {b : Bool} (h : toV v = .bool b) : v = .bool b := by cases v <;> simp [toV] at h; subst h; rfl
theorem toV_ref {v : Value} {a : Nat} (h : toV v = .ref a) : v = .ref a := by cases v <;> simp [toV] at h; subst h; rfl
theorem toV_none {v : Value} (h : toV v = .none) : v = .none := by cases v <;> simp [toV] at h; rfl
inductive Node where
  | list (xs : List V)
  | rlist (xs : List V)
  | tuple (xs : List V)
  | sdict (es : List (Str × V))
  | idict (es : List (Int × V))
  | rng (a b c : Int)
  | inst (d : Nat)
  | attrs (l : List (Option V))
  | exc (i : Nat)
  | sset (n : Nat)
noncomputable def Node.isRO : Node → Bool
  | .rlist _ => true
  | _ => false
structure AH where
  get : Nat → Option Node
noncomputable def AH.set (H : AH) (a : Nat) (n : Node) : AH := ⟨fun b => if b = a then some n else H.get b⟩
theorem AH.set_self (H : AH) (a : Nat) (n : Node) : (H.set a n).get a = some n := by simp [AH.set]
theorem AH.set_ne (H : AH) {a b : Nat} (n : Node) (h : b ≠ a) : (H.set a n).get b = H.get b := by simp [AH.set, h]
set_option genInjectivity false
structure ClsOk (h : Heap) (bc bN : Addr) (bm : Str → Option Value) (ats : List Str) : Prop where
  cls : PyProof.Rows.ClsAt h bc bN bm
  ga : bm "__getattribute__" = none
  gh : bm "__getattr__" = none
  sa : bm "__setattr__" = none
  nd : ats.Nodup
  sz : ats.length ≤ sizeLine
  no : ∀ y ∈ ats, bm y = none ∧ typeLookup (.type "object") y = pure none
structure Cx where
  prog : Program
  w : World
  h₀ : Heap
  mg : Str → Option Value
  mb : Str → Option Value
  gens : Array GenState
  os : OsState
  ex : List Addr
  ats : List Str
  bc : Addr
  bN : Addr
  bm : Str → Option Value
  gns : h₀.Ns mainGlobals mg
  bns : h₀.Ns builtinsNs mb
  nolim : h₀.NoLimit
  mods : ∃ o, h₀.get? sysModules = some o
  bk : ats ≠ [] → ClsOk h₀ bc bN bm ats
noncomputable abbrev Cx.M (C : Cx) : Model := model C.prog C.w
noncomputable def ObjIs (C : Cx) (o : Obj) : Node → Prop
  | .list xs => xs.length < 2 ^ 62 ∧ ∃ vs k, o = { cls := .type "list", data := .seq vs k } ∧ vs.toList.map toV = xs
  | .rlist xs => xs.length < 2 ^ 62 ∧ o.cls = .type "list" ∧ o.dict = none ∧ ∃ vs k, o.data = .seq vs k ∧ vs.toList.map toV = xs
  | .tuple xs => xs.length < 2 ^ 62 ∧ o.cls = .type "tuple" ∧ o.dict = none ∧ ∃ vs k, o.data = .seq vs k ∧ vs.toList.map toV = xs
  | .sdict es => es.length < 2 ^ 62 ∧ ∃ kvs, o.IsDictOf (strKind C.prog C.w) kvs ∧ kvs.map (fun p => (p.1, toV p.2)) = es
  | .idict es => es.length < 2 ^ 62 ∧ ∃ kvs, o.IsDictOf (intKind C.prog C.w) kvs ∧ kvs.map (fun p => (p.1, toV p.2)) = es
  | .rng a b c => ∃ t u v, o = { cls := .type "range", data := .fields #[.int a t, .int b u, .int c v] }
  | .inst d => o.cls = .ref C.bc ∧ o.dict = some d ∧ ∀ c, o.data ≠ .cls c
  | .attrs l => ∃ es ep, ∃ mA : Str → Option Value, o.data = .dict es ep ∧ StrKeys es ∧ UniqKeys es ∧ (∀ y, nsFind es y = mA y) ∧ (∀ y, mA y ≠ none → y ∈ C.ats) ∧ ∀ (i : Nat) y, C.ats[i]? = some y → (mA y).map toV = (l[i]?).join
  | .exc i => ∃ a, C.ex[i]? = some a ∧ o.cls = .ref a
  | .sset n => n < 2 ^ 62 ∧ o.ExactSet ∧ ∃ es ep t, o.data = .set es ep t ∧ es.size = n ∧ t.fits es.size = true
inductive NodeAt (C : Cx) (h : Heap) (a : Addr) (n : Node) : Prop
  | mk (o : Obj) (e : h.get? a = some o) (i : ObjIs C o n) : NodeAt C h a n
noncomputable def Node.seqL : Node → Option (List V)
  | .list xs | .rlist xs => some xs
  | _ => none
theorem NodeAt.isList {C : Cx} {h : Heap} {a : Addr} {n : Node} {xs : List V} (x : NodeAt C h a n) (e : n.seqL = some xs) : ∃ vs, h.IsList a vs ∧ vs.toList.map toV = xs ∧ xs.length < 2 ^ 62 := by
  obtain ⟨o, ho, r⟩ := x
  cases n <;> simp [Node.seqL] at e <;> subst e
  · obtain ⟨hz, vs, k, rfl, hv⟩ := r; exact ⟨vs, ⟨_, ho, rfl, k, rfl⟩, hv, hz⟩
  · obtain ⟨hz, hc, hd, vs, k, hs, hv⟩ := r; exact ⟨vs, ⟨_, ho, hc, k, hs⟩, hv, hz⟩
theorem NodeAt.plainList {C : Cx} {h : Heap} {a : Addr} {xs : List V} (x : NodeAt C h a (.list xs)) : ∃ vs, h.PlainList a vs ∧ vs.toList.map toV = xs ∧ xs.length < 2 ^ 62 := by
  obtain ⟨o, ho, hz, vs, k, rfl, hv⟩ := x; exact ⟨vs, ⟨k, ho⟩, hv, hz⟩
theorem NodeAt.isTuple {C : Cx} {h : Heap} {a : Addr} {xs : List V} (x : NodeAt C h a (.tuple xs)) : ∃ vs, h.IsTuple a vs ∧ vs.toList.map toV = xs ∧ xs.length < 2 ^ 62 := by
  obtain ⟨o, ho, hz, hc, hd, vs, k, hs, hv⟩ := x; exact ⟨vs, ⟨_, ho, hc, k, hs⟩, hv, hz⟩
theorem NodeAt.sdict {C : Cx} {h : Heap} {a : Addr} {es : List (Str × V)} (x : NodeAt C h a (.sdict es)) : ∃ kvs, h.DictOf (strKind C.prog C.w) a kvs ∧ kvs.map (fun p => (p.1, toV p.2)) = es ∧ es.length < 2 ^ 62 := by
  obtain ⟨o, ho, hz, kvs, hd, he⟩ := x; exact ⟨kvs, Heap.dictOf_iff.mpr ⟨o, ho, hd⟩, he, hz⟩
theorem NodeAt.idict {C : Cx} {h : Heap} {a : Addr} {es : List (Int × V)} (x : NodeAt C h a (.idict es)) : ∃ kvs, h.DictOf (intKind C.prog C.w) a kvs ∧ kvs.map (fun p => (p.1, toV p.2)) = es ∧ es.length < 2 ^ 62 := by
  obtain ⟨o, ho, hz, kvs, hd, he⟩ := x; exact ⟨kvs, Heap.dictOf_iff.mpr ⟨o, ho, hd⟩, he, hz⟩
noncomputable def Node.seq : Node → Option (List V)
  | .list xs | .rlist xs | .tuple xs => some xs
  | _ => none
theorem NodeAt.at {C : Cx} {h h' : Heap} {a : Addr} {n : Node} (x : NodeAt C h a n) (k : ∀ o, h.get? a = some o → h'.get? a = some o) : NodeAt C h' a n :=
  let ⟨o, ho, r⟩ := x; ⟨o, k o ho, r⟩
noncomputable def Kept (o : Obj) (x : Option Obj) : Prop := ∃ sl, x = some { o with slots := sl } ∧ ((∀ es ep, o.data ≠ .dict es ep) → sl = o.slots)
theorem Kept.refl (o : Obj) : Kept o (some o) := ⟨o.slots, rfl, fun _ => rfl⟩
theorem Kept.same {o : Obj} {x : Option Obj} (h : Kept o x) (hc : ∀ es ep, o.data ≠ .dict es ep) : x = some o := by
  obtain ⟨sl, e, q⟩ := h; rw [q hc] at e; exact e
theorem Kept.trans {o : Obj} {x y : Option Obj} (h : Kept o x) (k : ∀ o', x = some o' → Kept o' y) : Kept o y := by
  obtain ⟨sl, e, q⟩ := h
  obtain ⟨sl', e', q'⟩ := k _ e
  exact ⟨sl', e', fun hc => (q' hc).trans (q hc)⟩
structure Snap where
  h : Heap
  H : AH
  own : List Addr
  fz : List Addr
noncomputable def ownOf (env : Env) : List Addr := env.locals :: env.cells.map (·.2)
structure EnvOk (env : Env) : Prop where
  kind : env.scope.kind = .function
  globals : env.globals = mainGlobals
  builtins : env.builtins = builtinsNs
  apart : (ownOf env).Nodup
  cell : ∀ x, env.kindOf x = some .cell ∨ env.kindOf x = some .free → ∃ c, env.cells.lookup x = some c
noncomputable def VarAt (env : Env) (m : Str → Option Value) (h : Heap) (x : Str) (v : Value) : Prop :=
  (env.kindOf x = some .local ∧ m x = some v) ∨ ((env.kindOf x = some .cell ∨ env.kindOf x = some .free) ∧ ∃ c, env.cells.lookup x = some c ∧ h.IsCell c (some v))
structure Inv (C : Cx) (sn : Snap) (env : Env) (ρ : Str → Option V) (H : AH) (s : Shared) : Prop where
  ok : EnvOk env
  base : ∀ b o, C.h₀.get? b = some o → s.heap.get? b = some o
  nodes : ∀ a n, H.get a = some n → NodeAt C s.heap a n
  new : ∀ a n, H.get a = some n → n.isRO = false → C.h₀.get? a = none
  hid : ∀ b o, sn.h.get? b = some o → sn.H.get b = none → b ∉ sn.own → H.get b = none ∧ Kept o (s.heap.get? b)
  fresh : ∀ b ∈ ownOf env, H.get b = none ∧ C.h₀.get? b = none
  vars : ∃ m, s.heap.Ns env.locals m ∧ ∀ x v, ρ x = some v → ∃ cv, VarAt env m s.heap x cv ∧ toV cv = v
  cells : ∀ p ∈ env.cells, ∃ v, s.heap.IsCell p.2 v
  gens : s.gens = C.gens
  os : s.os = C.os
  mine : ∀ b ∈ ownOf env, ∀ o, sn.h.get? b = some o → b ∈ sn.own
  frz : ∀ b ∈ sn.fz, s.heap.get? b = sn.h.get? b ∧ ∃ n, H.get b = some n
  live : ∀ b o, sn.h.get? b = some o → ∃ o', s.heap.get? b = some o'
section
variable {C : Cx} {sn : Snap} {env : Env} {ρ : Str → Option V} {H : AH} {s : Shared}
theorem Inv.none_of_new (I : Inv C sn env ρ H s) {a : Addr} (h : s.heap.get? a = none) : H.get a = none := by
  cases q : H.get a with
  | none => rfl
  | some n => obtain ⟨o, ho, _⟩ := I.nodes a n q; rw [h] at ho; cases ho
theorem get_size (h : Heap) : h.get? h.objs.size = none := by
  cases q : h.get? h.objs.size with
  | none => rfl
  | some o => exact absurd (Heap.lt_size q) (Nat.lt_irrefl _)
theorem Inv.toks (I : Inv C sn env ρ H s) (tk : Nat) : Inv C sn env ρ H { s with toks := tk } :=
  ⟨I.ok, I.base, I.nodes, I.new, I.hid, I.fresh, I.vars, I.cells, I.gens, I.os, I.mine, I.frz, I.live⟩
theorem VarAt.keeps {m : Str → Option Value} {h h' : Heap} {x : Str} {v : Value} (a : VarAt env m h x v) (k : ∀ b ∈ ownOf env, ∀ o, h.get? b = some o → h'.get? b = some o) : VarAt env m h' x v := by
  rcases a with a | ⟨a, c, hc, o, ho, hd⟩
  · exact .inl a
  · refine .inr ⟨a, c, hc, o, k c ?_ o ho, hd⟩
    exact List.mem_cons_of_mem _ (List.mem_map.mpr ⟨_, mem_of_lookup hc, rfl⟩)
theorem Inv.keeps (I : Inv C sn env ρ H s) {h' : Heap} {tk : Nat} (k : ∀ b o, s.heap.get? b = some o → h'.get? b = some o) : Inv C sn env ρ H { s with heap := h', toks := tk } where
  ok := I.ok
  base := fun b o e => k b o (I.base b o e)
  nodes := fun a n e => (I.nodes a n e).at (k a)
  new := I.new
  hid := fun b o e e1 e2 => by
    obtain ⟨q, r⟩ := I.hid b o e e1 e2
    refine ⟨q, r.trans fun o' ho' => ?_⟩
    rw [show ({ s with heap := h', toks := tk } : Shared).heap.get? b = some o' from k b o' ho']; exact Kept.refl _
  fresh := I.fresh
  vars := by
    obtain ⟨m, hn, hv⟩ := I.vars
    refine ⟨m, hn.keeps k, fun x v e => ?_⟩
    obtain ⟨cv, a, b⟩ := hv x v e
    exact ⟨cv, a.keeps fun b _ o => k b o, b⟩
  cells := fun p e => let ⟨v, q⟩ := I.cells p e; ⟨v, q.keeps k⟩
  gens := I.gens
  os := I.os
  mine := I.mine
  frz := fun b hb => by
    obtain ⟨q, n, e⟩ := I.frz b hb
    obtain ⟨o, ho, _⟩ := I.nodes b n e
    exact ⟨by rw [← q, ho]; exact k b o ho, n, e⟩
  live := fun b o e => let ⟨o', h⟩ := I.live b o e; ⟨o', k b o' h⟩
theorem Inv.come (I : Inv C sn env ρ H s) {h' : Heap} {tk : Nat} {a : Addr} {n : Node} (k : ∀ b o, s.heap.get? b = some o → h'.get? b = some o) (ha : s.heap.get? a = none) (hn : NodeAt C h' a n) :
    Inv C sn env ρ (H.set a n) { s with heap := h', toks := tk } := by
  have J := I.keeps (tk := tk) k
  refine ⟨J.ok, J.base, fun b m e => ?_, fun b m e r => ?_, fun b o e e1 e2 => ?_, fun b hb => ?_, J.vars, J.cells, J.gens, J.os, J.mine, fun b hb => ?_, J.live⟩
  · by_cases h : b = a
    · subst h; rw [AH.set_self] at e; cases e; exact hn
    · rw [AH.set_ne _ _ h] at e; exact J.nodes b m e
  · by_cases h : b = a
    · subst h
      cases q : C.h₀.get? b with
      | none => rfl
      | some o => have := I.base b o q; rw [ha] at this; cases this
    · rw [AH.set_ne _ _ h] at e; exact I.new b m e r
  · obtain ⟨q, r⟩ := J.hid b o e e1 e2
    refine ⟨?_, r⟩
    rw [AH.set_ne _ _ ?_]; exact q
    rintro rfl
    obtain ⟨q', r'⟩ := I.hid b o e e1 e2
    rw [ha] at r'; obtain ⟨_, x, _⟩ := r'; cases x
  · obtain ⟨q, r⟩ := I.fresh b hb
    refine ⟨?_, r⟩
    rw [AH.set_ne _ _ ?_]; exact q
    rintro rfl
    rcases List.mem_cons.mp hb with e | hb
    · obtain ⟨m, hm, _⟩ := I.vars
      obtain ⟨o, _, _, ho, _⟩ := hm
      rw [← e] at ho; rw [ha] at ho; cases ho
    · obtain ⟨p, hp, rfl⟩ := List.mem_map.mp hb
      obtain ⟨v, o, ho, _⟩ := I.cells p hp
      rw [ha] at ho; cases ho
  · obtain ⟨q, m, e⟩ := J.frz b hb
    refine ⟨q, m, ?_⟩
    rw [AH.set_ne _ _ ?_]; exact e
    rintro rfl
    rw [I.none_of_new ha] at e; cases e
theorem Inv.own_there (I : Inv C sn env ρ H s) {b : Addr} (hb : b ∈ ownOf env) : ∃ o, s.heap.get? b = some o := by
  rcases List.mem_cons.mp hb with rfl | hb
  · obtain ⟨m, ⟨o, _, _, ho, _⟩, _⟩ := I.vars; exact ⟨o, ho⟩
  · obtain ⟨p, hp, rfl⟩ := List.mem_map.mp hb
    obtain ⟨v, o, ho, _⟩ := I.cells p hp; exact ⟨o, ho⟩
theorem Inv.turn (I : Inv C sn env ρ H s) {h' : Heap} {tk : Nat} {a : Addr} {n n' : Node} (hn : H.get a = some n) (hro : n.isRO = false) (hfz : a ∉ sn.fz) (k : Heap.ExtBut a s.heap h') (hn' : NodeAt C h' a n') :
    Inv C sn env ρ (H.set a n') { s with heap := h', toks := tk } := by
  have hne : ∀ b, H.get b = none → b ≠ a := fun b e q => by rw [q, hn] at e; cases e
  refine ⟨I.ok, fun b o e => ?_, fun b m e => ?_, fun b m e r => ?_, fun b o e e1 e2 => ?_, fun b hb => ?_, ?_, fun p hp => ?_, I.gens, I.os, I.mine, fun b hb => ?_, fun b o e => ?_⟩
  · refine k b o ?_ (I.base b o e)
    rintro rfl
    have := I.new b n hn hro; rw [this] at e; cases e
  · by_cases h : b = a
    · subst h; rw [AH.set_self] at e; cases e; exact hn'
    · rw [AH.set_ne _ _ h] at e; exact (I.nodes b m e).at fun o ho => k b o h ho
  · by_cases h : b = a
    · subst h; exact I.new b n hn hro
    · rw [AH.set_ne _ _ h] at e; exact I.new b m e r
  · obtain ⟨q, r⟩ := I.hid b o e e1 e2
    have hb := hne b q
    refine ⟨by rw [AH.set_ne _ _ hb]; exact q, r.trans fun o' ho' => ?_⟩
    rw [show ({ s with heap := h', toks := tk } : Shared).heap.get? b = some o' from k b o' hb ho']; exact Kept.refl _
  · obtain ⟨q, r⟩ := I.fresh b hb
    exact ⟨by rw [AH.set_ne _ _ (hne b q)]; exact q, r⟩
  · obtain ⟨m, hm, hv⟩ := I.vars
    refine ⟨m, hm.extBut k (hne _ (I.fresh _ (List.mem_cons_self ..)).1), fun x v e => ?_⟩
    obtain ⟨cv, x1, x2⟩ := hv x v e
    exact ⟨cv, x1.keeps fun b hb o ho => k b o (hne b (I.fresh b hb).1) ho, x2⟩
  · obtain ⟨v, o, ho, hd⟩ := I.cells p hp
    exact ⟨v, o, k _ o (hne _ (I.fresh _ (List.mem_cons_of_mem _ (List.mem_map.mpr ⟨p, hp, rfl⟩))).1) ho, hd⟩
  · obtain ⟨q, m, e⟩ := I.frz b hb
    have hba : b ≠ a := by rintro rfl; exact hfz hb
    obtain ⟨o, ho, _⟩ := I.nodes b m e
    exact ⟨by rw [← q, ho]; exact k b o hba ho, m, by rw [AH.set_ne _ _ hba]; exact e⟩
  · obtain ⟨o', h⟩ := I.live b o e
    by_cases hba : b = a
    · subst hba; obtain ⟨o'', h'', _⟩ := hn'; exact ⟨o'', h''⟩
    · exact ⟨o', k b o' hba h⟩
end
inductive Aft (C : Cx) (sn : Snap) (env : Env) (ρ : Str → Option V) (Q : AH → Prop) (s : Shared) : Prop
  | mk (H' : AH) (I : Inv C sn env ρ H' s) (h : Q H') : Aft C sn env ρ Q s
noncomputable def TM {α : Type} (C : Cx) (sn : Snap) (A : Around) (env : Env) (ρ : Str → Option V) (m : Sem α) (Q : α → AH → Prop) (E : Value → Shared → Prop) (H : AH) : Prop :=
  ∀ s, Inv C sn env ρ H s → wpAny C.M A m (fun a s' => Aft C sn env ρ (Q a) s') E s
section
variable {α β : Type} {C : Cx} {sn : Snap} {A : Around} {env : Env} {ρ : Str → Option V} {H : AH} {E : Value → Shared → Prop}
theorem TM.pure {a : α} {Q : α → AH → Prop} (h : Q a H) : TM C sn A env ρ (pure a) Q E H := fun _ I => wpAny_pure ⟨H, I, h⟩
theorem TM.bind {m : Sem α} {f : α → Sem β} {Q : β → AH → Prop} (h : TM C sn A env ρ m (fun a H' => TM C sn A env ρ (f a) Q E H') E H) : TM C sn A env ρ (m >>= f) Q E H :=
  fun s I => wpAny_bind (wpAny_mono (h s I) (fun _ _ ⟨_, I', h'⟩ => h' _ I') fun _ _ e => e)
theorem TM.mono {m : Sem α} {Q Q' : α → AH → Prop} (h : TM C sn A env ρ m Q E H) (k : ∀ a H', Q a H' → Q' a H') : TM C sn A env ρ m Q' E H :=
  fun s I => wpAny_mono (h s I) (fun _ _ ⟨H', I', h'⟩ => ⟨H', I', k _ _ h'⟩) fun _ _ e => e
theorem TM.standAt {pos : Pos} {Q : Unit → AH → Prop} (h : Q () H) : TM C sn A env ρ (standAt pos) Q E H := fun _ I => wpAny_standAt ⟨H, I, h⟩
theorem TM.holding {vs : List Value} {m : Sem α} {Q : α → AH → Prop} (h : TM C sn A env ρ m Q E H) : TM C sn A env ρ (holding vs m) Q E H := fun s I => wpAny_holding (h s I)
theorem TM.operate {vs : List Value} {m : Sem Value} {Q : Value → AH → Prop} (h : TM C sn A env ρ m Q E H) : TM C sn A env ρ (operate vs m) Q E H :=
  fun s I Γ p hΓ => by rw [Sem.wp_operate]; exact h s I Γ p hΓ
theorem TM.point {Q : Unit → AH → Prop} (h : Q () H) : TM C sn A env ρ PySem.point Q E H := fun _ I => wpAny_point ⟨H, I, h⟩
theorem TM.release {vs k : List Value} {Q : Unit → AH → Prop} (h : Q () H) : TM C sn A env ρ (release vs k) Q E H :=
  fun s I Γ p hΓ => by rw [Sem.wp_release]; exact ⟨H, I, h⟩
theorem TM.mkInt {i : Int} {Q : Value → AH → Prop} (h : ∀ t, Q (.int i t) H) : TM C sn A env ρ (mkInt i) Q E H := fun _ I => wpAny_mkInt ⟨H, I.toks _, h _⟩
theorem TM.mkText {x : Str} {Q : Value → AH → Prop} (h : ∀ t, Q (.str x t) H) : TM C sn A env ρ (mkText x) Q E H := fun _ I => wpAny_mkText ⟨H, I.toks _, h _⟩
theorem TM.ite {c : Prop} [Decidable c] {a b : Sem α} {Q : α → AH → Prop} (h : if c then TM C sn A env ρ a Q E H else TM C sn A env ρ b Q E H) : TM C sn A env ρ (if c then a else b) Q E H := by
  split <;> simp_all
end
end Mine
namespace Mine
open PySem PySem.Calls
noncomputable def upd (ρ : Str → Option V) (x : Str) (v : V) : Str → Option V := fun y => if y = x then some v else ρ y
inductive AftR (C : Cx) (sn : Snap) (env : Env) (Q : (Str → Option V) → AH → Prop) (s : Shared) : Prop
  | mk (ρ' : Str → Option V) (H' : AH) (I : Inv C sn env ρ' H' s) (h : Q ρ' H') : AftR C sn env Q s
noncomputable def TR {α : Type} (C : Cx) (sn : Snap) (A : Around) (env : Env) (m : Sem α) (Q : α → (Str → Option V) → AH → Prop) (E : Value → Shared → Prop) (ρ : Str → Option V) (H : AH) : Prop :=
  ∀ s, Inv C sn env ρ H s → wpAny C.M A m (fun a s' => AftR C sn env (Q a) s') E s
section
variable {α β : Type} {C : Cx} {sn : Snap} {A : Around} {env : Env} {ρ : Str → Option V} {H : AH} {E : Value → Shared → Prop} {s : Shared}
theorem TR.of {m : Sem α} {Q : α → (Str → Option V) → AH → Prop} (h : TM C sn A env ρ m (fun a H' => Q a ρ H') E H) : TR C sn A env m Q E ρ H :=
  fun s I => wpAny_mono (h s I) (fun _ _ ⟨H', I', q⟩ => ⟨ρ, H', I', q⟩) fun _ _ e => e
theorem TR.pure {a : α} {Q : α → (Str → Option V) → AH → Prop} (h : Q a ρ H) : TR C sn A env (pure a) Q E ρ H := fun _ I => wpAny_pure ⟨ρ, H, I, h⟩
theorem TR.bind {m : Sem α} {f : α → Sem β} {Q : β → (Str → Option V) → AH → Prop} (h : TR C sn A env m (fun a ρ' H' => TR C sn A env (f a) Q E ρ' H') E ρ H) : TR C sn A env (m >>= f) Q E ρ H :=
  fun s I => wpAny_bind (wpAny_mono (h s I) (fun _ _ ⟨_, _, I', h'⟩ => h' _ I') fun _ _ e => e)
theorem TR.mono {m : Sem α} {Q Q' : α → (Str → Option V) → AH → Prop} (h : TR C sn A env m Q E ρ H) (k : ∀ a ρ' H', Q a ρ' H' → Q' a ρ' H') : TR C sn A env m Q' E ρ H :=
  fun s I => wpAny_mono (h s I) (fun _ _ ⟨ρ', H', I', h'⟩ => ⟨ρ', H', I', k _ _ _ h'⟩) fun _ _ e => e
theorem TM.loadVar {x : Str} {v : V} {Q : Value → AH → Prop} (hx : ρ x = some v) (h : ∀ cv, toV cv = v → Q cv H) (hn : (x == ("__classdict__" : Str)) = false) : TM C sn A env ρ (loadName env x) Q E H := by
  intro s I
  obtain ⟨m, hm, hv⟩ := I.vars
  obtain ⟨cv, a, e⟩ := hv x v hx
  rcases a with ⟨hk, hx'⟩ | ⟨hk, c, hc, hcell⟩
  · exact wpAny_loadName_local I.ok.kind hk hm hx' ⟨H, I, h cv e⟩
  · rcases hk with hk | hk
    · exact wpAny_loadName_cell I.ok.kind hk hc hcell ⟨H, I, h cv e⟩
    · exact wpAny_loadName_free I.ok.kind hk hc hcell ⟨H, I, h cv e⟩ hn
theorem cell_inj {cs : List (Str × Addr)} (nd : (cs.map (·.2)).Nodup) {x y : Str} {c : Addr} (hx : (x, c) ∈ cs) (hy : (y, c) ∈ cs) : x = y := by
  induction cs with
  | nil => cases hx
  | cons p r ih =>
    rw [List.map_cons, List.nodup_cons] at nd
    rcases List.mem_cons.mp hx with e | hx <;> rcases List.mem_cons.mp hy with e' | hy
    · rw [← e'] at e; exact (Prod.mk.inj e).1
    · exact absurd (List.mem_map.mpr ⟨_, hy, by rw [← e]⟩) nd.1
    · exact absurd (List.mem_map.mpr ⟨_, hx, by rw [← e']⟩) nd.1
    · exact ih nd.2 hx hy
theorem Inv.own (I : Inv C sn env ρ H s) {h' : Heap} {tk : Nat} {a : Addr} {ρ' : Str → Option V} (ha : a ∈ ownOf env) (k : Heap.ExtBut a s.heap h')
    (hv : ∃ m, h'.Ns env.locals m ∧ ∀ x v, ρ' x = some v → ∃ cv, VarAt env m h' x cv ∧ toV cv = v) (hc : ∀ p ∈ env.cells, ∃ v, h'.IsCell p.2 v) : Inv C sn env ρ' H { s with heap := h', toks := tk } := by
  obtain ⟨f1, f2⟩ := I.fresh a ha
  refine ⟨I.ok, fun b o e => ?_, fun b m e => ?_, I.new, fun b o e e1 e2 => ?_, I.fresh, hv, hc, I.gens, I.os, I.mine, fun b hb => ?_, fun b o e => ?_⟩
  · refine k b o ?_ (I.base b o e)
    rintro rfl; rw [f2] at e; cases e
  · refine (I.nodes b m e).at fun o ho => k b o ?_ ho
    rintro rfl; rw [f1] at e; cases e
  · obtain ⟨q, r⟩ := I.hid b o e e1 e2
    refine ⟨q, r.trans fun o' ho' => ?_⟩
    have hb : b ≠ a := by rintro rfl; exact e2 (I.mine b ha o e)
    rw [show ({ s with heap := h', toks := tk } : Shared).heap.get? b = some o' from k b o' hb ho']; exact Kept.refl _
  · obtain ⟨q, m, e⟩ := I.frz b hb
    have hba : b ≠ a := by rintro rfl; rw [f1] at e; cases e
    obtain ⟨o, ho, _⟩ := I.nodes b m e
    exact ⟨by rw [← q, ho]; exact k b o hba ho, m, e⟩
  · obtain ⟨o', h⟩ := I.live b o e
    by_cases hba : b = a
    · subst hba
      rcases List.mem_cons.mp ha with rfl | ha
      · obtain ⟨m, ⟨o'', _, _, h'', _⟩, _⟩ := hv; exact ⟨o'', h''⟩
      · obtain ⟨p, hp, rfl⟩ := List.mem_map.mp ha
        obtain ⟨v, o'', h'', _⟩ := hc p hp; exact ⟨o'', h''⟩
    · exact ⟨o', k b o' hba h⟩
theorem TR.storeVar {x : Str} {cv : Value} {Q : Unit → (Str → Option V) → AH → Prop} (hk : env.kindOf x = some .local ∨ env.kindOf x = some .cell) (h : Q () (upd ρ x (toV cv)) H) :
    TR C sn A env (storeName env x cv) Q E ρ H := by
  intro s I
  obtain ⟨m, hm, hv⟩ := I.vars
  rcases hk with hk | hk
  · refine wpAny_storeName_local hk hm (fun h' hn hs => ⟨_, H, I.own (List.mem_cons_self ..) hs.extBut ⟨_, hn, fun y v e => ?_⟩ fun p hp => ?_, h⟩) (by rw [I.ok.kind]; rfl)
    · by_cases hy : y = x
      · subst hy; simp [upd] at e; exact ⟨cv, .inl ⟨hk, by simp⟩, e⟩
      · simp only [upd, hy, if_false] at e
        obtain ⟨cv', a, b⟩ := hv y v e
        refine ⟨cv', ?_, b⟩
        rcases a with ⟨q1, q2⟩ | ⟨q1, c, hc, hcell⟩
        · exact .inl ⟨q1, by simp [hy, q2]⟩
        · refine .inr ⟨q1, c, hc, hcell.sameBut hs ?_⟩
          rintro rfl
          exact (List.nodup_cons.mp I.ok.apart).1 (List.mem_map.mpr ⟨_, mem_of_lookup hc, rfl⟩)
    · obtain ⟨v, q⟩ := I.cells p hp
      refine ⟨v, q.sameBut hs ?_⟩
      intro e
      exact (List.nodup_cons.mp I.ok.apart).1 (e ▸ List.mem_map.mpr ⟨p, hp, rfl⟩)
  · obtain ⟨c, hc⟩ := I.ok.cell x (.inl hk)
    have hmem := mem_of_lookup hc
    obtain ⟨v₀, hcell⟩ := I.cells _ hmem
    have nd := List.nodup_cons.mp I.ok.apart
    refine wpAny_storeName_cell I.ok.kind hk hc hcell fun h' hn hs => ⟨_, H, I.own (List.mem_cons_of_mem _ (List.mem_map.mpr ⟨_, hmem, rfl⟩)) hs.extBut ⟨m, hm.sameBut hs ?_, fun y v e => ?_⟩ fun p hp => ?_, h⟩
    · intro e; exact nd.1 (e ▸ List.mem_map.mpr ⟨_, hmem, rfl⟩)
    · by_cases hy : y = x
      · subst hy; simp [upd] at e; exact ⟨cv, .inr ⟨.inl hk, c, hc, hn⟩, e⟩
      · simp only [upd, hy, if_false] at e
        obtain ⟨cv', a, b⟩ := hv y v e
        refine ⟨cv', ?_, b⟩
        rcases a with q | ⟨q1, c', hc', hcell'⟩
        · exact .inl q
        · refine .inr ⟨q1, c', hc', hcell'.sameBut hs ?_⟩
          rintro rfl
          exact hy (cell_inj nd.2 (mem_of_lookup hc') hmem)
    · by_cases hpc : p.2 = c
      · exact ⟨some cv, hpc ▸ hn⟩
      · obtain ⟨v, q⟩ := I.cells p hp
        exact ⟨v, q.sameBut hs hpc⟩
theorem TM.loadGlob {x : Str} {v : Value} {Q : Value → AH → Prop} (hk : env.kindOf x = some .globalImplicit) (hv : C.mg x = some v) (h : Q v H) : TM C sn A env ρ (loadName env x) Q E H := by
  intro s I
  unfold loadName
  simp only [Env.blockKind, I.ok.kind, hk, ScopeKind.isAnnotationScope, Bool.false_and, Bool.false_eq_true, if_false]
  have hg : s.heap.Ns env.globals C.mg := by rw [I.ok.globals]; exact C.gns.keeps I.base
  exact loadGlobal_global hg hv ⟨H, I, h⟩
theorem TM.loadBi {x : Str} {v : Value} {Q : Value → AH → Prop} (hk : env.kindOf x = some .globalImplicit) (hm : C.mg x = none) (hv : C.mb x = some v) (h : Q v H) : TM C sn A env ρ (loadName env x) Q E H := by
  intro s I
  unfold loadName
  simp only [Env.blockKind, I.ok.kind, hk, ScopeKind.isAnnotationScope, Bool.false_and, Bool.false_eq_true, if_false]
  have hg : s.heap.Ns env.globals C.mg := by rw [I.ok.globals]; exact C.gns.keeps I.base
  have hb : s.heap.Ns env.builtins C.mb := by rw [I.ok.builtins]; exact C.bns.keeps I.base
  exact loadGlobal_builtin hg hm hb hv ⟨H, I, h⟩
end
end Mine
namespace Mine
open PySem PySem.Calls
noncomputable def DivOk (y : Int) : Prop := y ≠ 0 ∧ y.natAbs.log2 < 9000
theorem mulOk_left {a b : Int} (h1 : -(2 ^ 64) < a) (h2 : a < 2 ^ 64) : IntMulOk a b := .of_left (intBits_le_64 h1 h2)
theorem mulOk_right {a b : Int} (h1 : -(2 ^ 64) < b) (h2 : b < 2 ^ 64) : IntMulOk a b := .of_right (intBits_le_64 h1 h2)
noncomputable def strRep (x : Str) (n : Int) : Str := Txt.mul x n
noncomputable def made (fz : List Nat) (n : Node) (Q : V → AH → Prop) (H : AH) : Prop := ∀ a, H.get a = none → a ∉ fz → Q (.ref a) (H.set a n)
section
variable {C : Cx} {sn : Snap} {A : Around} {env : Env} {ρ : Str → Option V} {H : AH} {E : Value → Shared → Prop} {Q : V → AH → Prop}
theorem toks_still {s : Shared} (I : Inv C sn env ρ H s) {v : Value} (h : Q (toV v) H) (tk : Nat) : Aft C sn env ρ (fun H' => Q (toV v) H') { s with toks := tk } := ⟨H, I.toks tk, h⟩
theorem Inv.notFz {s : Shared} (I : Inv C sn env ρ H s) {a : Nat} (h : H.get a = none) : a ∉ sn.fz := fun hb => by
  obtain ⟨_, n, e⟩ := I.frz a hb; rw [h] at e; cases e
theorem map_size {vs : Array Value} {xs : List V} (h : vs.toList.map toV = xs) : vs.size = xs.length := by rw [← h]; simp
theorem map_get {vs : Array Value} {xs : List V} (h : vs.toList.map toV = xs) {k : Nat} {x : V} (e : xs[k]? = some x) : ∃ v, vs[k]? = some v ∧ toV v = x := by
  subst h
  simp at e
  exact e
noncomputable def allBut (h : Heap) (L : Addr) : List (Addr × Obj) := (List.range h.objs.size).filterMap fun b => if b = L then none else (h.get? b).map fun o => (b, o)
theorem mem_allBut {h : Heap} {L b : Addr} {o : Obj} : (b, o) ∈ allBut h L ↔ h.get? b = some o ∧ b ≠ L := by
  unfold allBut
  rw [List.mem_filterMap]
  constructor
  · rintro ⟨c, _, hc⟩
    split at hc
    · cases hc
    · rename_i hne
      cases q : h.get? c with
      | none => rw [q] at hc; cases hc
      | some o' => rw [q] at hc; simp at hc; obtain ⟨rfl, rfl⟩ := hc; exact ⟨q, hne⟩
  · rintro ⟨e, hne⟩
    exact ⟨b, List.mem_range.mpr (Heap.lt_size e), by rw [if_neg hne, e]; rfl⟩
open PyProof.Rows in
theorem Inv.fr {s : Shared} (I : Inv C sn env ρ H s) : ∃ m, (Fr {} env.locals s.heap m ∧ News {} env.locals s.heap (allBut s.heap env.locals)) ∧
    ∀ h' tk, Fr {} env.locals h' m → News {} env.locals h' (allBut s.heap env.locals) → Inv C sn env ρ H { s with heap := h', toks := tk } := by
  obtain ⟨m, hm, hv⟩ := I.vars
  have e0 : ∀ b, Heap.get? {} b = none := fun b => by
    cases q : Heap.get? {} b with
    | none => rfl
    | some o => exact absurd (Heap.lt_size q) (Nat.not_lt_zero _)
  refine ⟨m, ⟨⟨hm, fun b o e => (by rw [e0] at e; cases e), Nat.zero_le _⟩, fun p hp => ?_⟩, fun h' tk F N => ?_⟩
  · obtain ⟨b, o⟩ := p
    obtain ⟨q1, q2⟩ := mem_allBut.mp hp
    exact ⟨q1, q2, e0 b⟩
  · have k : Heap.ExtBut env.locals s.heap h' := fun b o hb e => (N (b, o) (mem_allBut.mpr ⟨e, hb⟩)).1
    have nd := List.nodup_cons.mp I.ok.apart
    refine I.own (List.mem_cons_self ..) k ⟨m, F.ns, fun x v e => ?_⟩ fun p hp => ?_
    · obtain ⟨cv, a, b⟩ := hv x v e
      refine ⟨cv, ?_, b⟩
      rcases a with a | ⟨a, c, hc, o, ho, hd⟩
      · exact .inl a
      · refine .inr ⟨a, c, hc, o, k c o ?_ ho, hd⟩
        rintro rfl; exact nd.1 (List.mem_map.mpr ⟨_, mem_of_lookup hc, rfl⟩)
    · obtain ⟨v, o, ho, hd⟩ := I.cells p hp
      refine ⟨v, o, k _ o ?_ ho, hd⟩
      intro e; exact nd.1 (e ▸ List.mem_map.mpr ⟨p, hp, rfl⟩)
open PyProof.Rows in
theorem Inv.frCome {s : Shared} (I : Inv C sn env ρ H s) {m : Str → Option Value} {h' : Heap} {tk : Nat} {D : Addr} {o : Obj} {n : Node}
    (keep : ∀ h' tk, Fr {} env.locals h' m → News {} env.locals h' (allBut s.heap env.locals) → Inv C sn env ρ H { s with heap := h', toks := tk })
    (F : Fr {} env.locals h' m) (N : News {} env.locals h' ((D, o) :: allBut s.heap env.locals)) (hD : s.heap.get? D = none) (ho : ObjIs C o n) :
    Inv C sn env ρ (H.set D n) { s with heap := h', toks := tk } := by
  have J := keep h' tk F fun p hp => N p (List.mem_cons_of_mem _ hp)
  have hn : NodeAt C h' D n := ⟨o, (N _ (List.mem_cons_self ..)).1, ho⟩
  have hDL := (N _ (List.mem_cons_self ..)).2.1
  refine ⟨J.ok, J.base, fun b m e => ?_, fun b m e r => ?_, fun b o e e1 e2 => ?_, fun b hb => ?_, J.vars, J.cells, J.gens, J.os, J.mine, fun b hb => ?_, J.live⟩
  · by_cases h : b = D
    · subst h; rw [AH.set_self] at e; cases e; exact hn
    · rw [AH.set_ne _ _ h] at e; exact J.nodes b m e
  · by_cases h : b = D
    · subst h
      cases q : C.h₀.get? b with
      | none => rfl
      | some o => have := I.base b o q; rw [hD] at this; cases this
    · rw [AH.set_ne _ _ h] at e; exact I.new b m e r
  · obtain ⟨q, r⟩ := J.hid b o e e1 e2
    refine ⟨?_, r⟩
    rw [AH.set_ne _ _ ?_]; exact q
    rintro rfl
    obtain ⟨q', r'⟩ := I.hid b o e e1 e2
    rw [hD] at r'; obtain ⟨_, x, _⟩ := r'; cases x
  · obtain ⟨q, r⟩ := I.fresh b hb
    refine ⟨?_, r⟩
    rw [AH.set_ne _ _ ?_]; exact q
    rintro rfl
    obtain ⟨o', ho'⟩ := I.own_there hb
    rw [hD] at ho'; cases ho'
  · obtain ⟨q, m, e⟩ := J.frz b hb
    refine ⟨q, m, ?_⟩
    rw [AH.set_ne _ _ ?_]; exact e
    rintro rfl
    rw [I.none_of_new hD] at e; cases e
theorem TM.bin_list {p q : Nat} {n k : Node} {xs ys : List V} (hp : H.get p = some n) (hq : H.get q = some k) (en : n.seqL = some xs) (ek : k.seqL = some ys) (hz : xs.length + ys.length ≤ sizeLine)
    (h : made sn.fz (.list (xs ++ ys)) Q H) : TM C sn A env ρ (binaryOp .Add (.ref p) (.ref q)) (fun v H' => Q (toV v) H') E H := by
  intro s I
  obtain ⟨vs, hvs, e1, z1⟩ := (I.nodes p n hp).isList en
  obtain ⟨ws, hws, e2, z2⟩ := (I.nodes q k hq).isList ek
  obtain ⟨m, ⟨F, N⟩, keep⟩ := I.fr
  have hD : s.heap.get? s.heap.objs.size = none := get_size _
  refine PyProof.Rows.add_arrays F N hvs hws (fun h' F' N' => ⟨_, I.frCome keep F' N' hD ?_, h _ (I.none_of_new hD) (I.notFz (I.none_of_new hD))⟩) (by rw [map_size e1, map_size e2]; exact hz)
  refine ⟨?_, _, _, rfl, ?_⟩
  · rw [List.length_append]; rw [sizeLine_eq] at hz; omega
  · simp [e1, e2]
theorem TM.bin_tuple {p q : Nat} {xs ys : List V} (hp : H.get p = some (.tuple xs)) (hq : H.get q = some (.tuple ys)) (nx : xs ≠ []) (ny : ys ≠ []) (hz : xs.length + ys.length ≤ sizeLine)
    (h : made sn.fz (.tuple (xs ++ ys)) Q H) : TM C sn A env ρ (binaryOp .Add (.ref p) (.ref q)) (fun v H' => Q (toV v) H') E H := by
  intro s I
  obtain ⟨vs, hvs, e1, z1⟩ := (I.nodes p _ hp).isTuple
  obtain ⟨ws, hws, e2, z2⟩ := (I.nodes q _ hq).isTuple
  obtain ⟨m, ⟨F, N⟩, keep⟩ := I.fr
  have hD : s.heap.get? s.heap.objs.size = none := get_size _
  refine PyProof.Rows.add_tuples (vs := vs.toList) (ws := ws.toList) F N hvs hws (fun e => ?_) (fun _ e => ?_) (fun _ _ h' F' N' => ⟨_, I.frCome keep F' N' hD ?_, h _ (I.none_of_new hD) (I.notFz (I.none_of_new hD))⟩) (by simp [map_size e1, map_size e2]; exact hz)
  · rw [e] at e1; exact absurd e1.symm nx
  · rw [e] at e2; exact absurd e2.symm ny
  refine ⟨?_, rfl, rfl, _, _, rfl, ?_⟩
  · rw [List.length_append]; rw [sizeLine_eq] at hz; omega
  · simp [e1, e2]
theorem TM.bin_str {x y : Str} {t u : Tok} (hz : x.length + y.length ≤ sizeLine) (h : Q (.str (x ++ y)) H) : TM C sn A env ρ (binaryOp .Add (.str x t) (.str y u)) (fun v H' => Q (toV v) H') E H :=
  fun _ I => PyProof.Rows.add_str (fun t' tk => toks_still I (v := .str _ t') h tk) hz
theorem TM.bin_rep {x : Str} {y : Int} {t u : Tok} (hz : MulOk x y) (h : Q (.str (strRep x y)) H) : TM C sn A env ρ (binaryOp .Mult (.str x t) (.int y u)) (fun v H' => Q (toV v) H') E H :=
  fun _ I => SB.mul hz (fun t' tk => toks_still I (v := .str _ t') h tk)
end
end Mine
namespace Mine
open PySem PySem.Calls PySem.SeqAt
noncomputable def scEq : V → V → Option Bool
  | .none, .none => some true
  | .bool a, .bool b => some (a == b)
  | .int a, .int b => some (a == b)
  | .str a, .str b => some (a == b)
  | .bool a, .int b => some ((if a then 1 else 0) == b)
  | .int a, .bool b => some (a == (if b then 1 else 0))
  | .none, .bool _ | .none, .int _ | .none, .str _ => some false
  | .bool _, .none | .bool _, .str _ => some false
  | .int _, .none | .int _, .str _ => some false
  | .str _, .none | .str _, .bool _ | .str _, .int _ => some false
  | _, _ => none
theorem scEq_ss (a b : Str) : scEq (.str a) (.str b) = some (a == b) := (rfl)
theorem scEq_bb (a b : Bool) : scEq (.bool a) (.bool b) = some (a == b) := (rfl)
theorem no_some {r : Bool} (h : (none : Option Bool) = some r) : False := nomatch h
theorem eqAt_sc {A : Around} {s : Shared} {a b : Value} {r : Bool} (h : scEq (toV a) (toV b) = some r) : EqAt A s a b r ∧ RcAt A s a b r ∧ RcNeAt A s a b (!r) := by
  cases a <;> cases b <;> first | exact (no_some h).elim | (have h2 := Option.some.inj h; subst h2)
  · exact ⟨EqAt.same _, RcAt.none_none, RcNeAt.none_none⟩
  · exact ⟨EqAt.none_bool _, RcAt.none_bool _, RcNeAt.none_bool _⟩
  · exact ⟨EqAt.none_int _ _, RcAt.none_int _ _, RcNeAt.none_int _ _⟩
  · exact ⟨EqAt.none_str _ _, RcAt.none_str _ _, RcNeAt.none_str _ _⟩
  · exact ⟨EqAt.bool_none _, RcAt.bool_none _, RcNeAt.bool_none _⟩
  · exact ⟨EqAt.bool_bool _ _, RcAt.bool_bool _ _, RcNeAt.bool_bool _ _⟩
  · exact ⟨EqAt.bool_int _ _ _, RcAt.bool_int _ _ _, RcNeAt.bool_int _ _ _⟩
  · exact ⟨EqAt.bool_str _ _ _, RcAt.bool_str _ _ _, RcNeAt.bool_str _ _ _⟩
  · exact ⟨EqAt.int_none _ _, RcAt.int_none _ _, RcNeAt.int_none _ _⟩
  · exact ⟨EqAt.int_bool _ _ _, RcAt.int_bool _ _ _, RcNeAt.int_bool _ _ _⟩
  · exact ⟨EqAt.int_int _ _ _ _, RcAt.int_int _ _ _ _, RcNeAt.int_int _ _ _ _⟩
  · exact ⟨EqAt.int_str _ _ _ _, RcAt.int_str _ _ _ _, RcNeAt.int_str _ _ _ _⟩
  · exact ⟨EqAt.str_none _ _, RcAt.str_none _ _, RcNeAt.str_none _ _⟩
  · exact ⟨EqAt.str_bool _ _ _, RcAt.str_bool _ _ _, RcNeAt.str_bool _ _ _⟩
  · exact ⟨EqAt.str_int _ _ _ _, RcAt.str_int _ _ _ _, RcNeAt.str_int _ _ _ _⟩
  · exact ⟨EqAt.str_str _ _ _ _, RcAt.str_str _ _ _ _, RcNeAt.str_str _ _ _ _⟩
inductive EqV (H : AH) : V → V → Bool → Nat → Prop
  | sc {a b r} : scEq a b = some r → EqV H a b r 0
  | len {p q n k xs ys} : H.get p = some n → H.get q = some k → n.seqL = some xs → k.seqL = some ys → xs.length ≠ ys.length → EqV H (.ref p) (.ref q) false 0
  | list {p q n k xs ys e d} : H.get p = some n → H.get q = some k → n.seqL = some xs → k.seqL = some ys → xs.length = ys.length → (p = q → (List.range xs.length).all e = true) →
      (∀ (j : Nat) x y, xs[j]? = some x → ys[j]? = some y → EqV H x y (e j) d) → EqV H (.ref p) (.ref q) ((List.range xs.length).all e) (d + 1)
  | tuple {p q xs ys e d} : H.get p = some (.tuple xs) → H.get q = some (.tuple ys) → (p = q → ((List.range (min xs.length ys.length)).all e && xs.length == ys.length) = true) →
      (∀ (j : Nat) x y, xs[j]? = some x → ys[j]? = some y → EqV H x y (e j) d) → EqV H (.ref p) (.ref q) ((List.range (min xs.length ys.length)).all e && xs.length == ys.length) (d + 1)
noncomputable def NodesIn (C : Cx) (H : AH) (h : Heap) : Prop := ∀ a n, H.get a = some n → NodeAt C h a n
theorem EqAt.of_rc {A : Around} {s : Shared} {p q : Addr} {r : Bool} (h : p = q → r = true) (rc : RcAt A s (.ref p) (.ref q) r) : EqAt A s (.ref p) (.ref q) r := by
  by_cases e : p = q
  · rw [h e]; subst e; exact EqAt.same _
  · exact EqAt.of_refs e rc
theorem EqV.sound {C : Cx} {H : AH} {a b : V} {r : Bool} {d : Nat} (h : EqV H a b r d) : ∀ {A : Around} {s : Shared} {x y : Value}, NodesIn C H s.heap → A.units + d < cLine → toV x = a → toV y = b →
    EqAt A s x y r ∧ RcAt A s x y r ∧ RcNeAt A s x y (!r) := by
  induction h with
  | sc h => intro A s x y _ _ ex ey; subst ex ey; exact eqAt_sc h
  | len hp hq en ek hne =>
    intro A s x y N hu ex ey
    have := toV_ref ex; subst this
    have := toV_ref ey; subst this
    obtain ⟨vs, hvs, e1, z1⟩ := (N _ _ hp).isList en
    obtain ⟨ws, hws, e2, z2⟩ := (N _ _ hq).isList ek
    have hsz : (vs.size != ws.size) = true := by rw [map_size e1, map_size e2]; simpa using hne
    have rc := RcAt.lists_lengths hvs hws hsz hu
    refine ⟨EqAt.of_rc (fun e => ?_) rc, rc, RcNeAt.lists_lengths hvs hws hsz hu⟩
    subst e
    rw [hp] at hq; cases hq; rw [en] at ek; cases ek; exact absurd rfl hne
  | @list p q n k xs ys e d hp hq en ek hl hpq _ ih =>
    intro A s x y N hu ex ey
    have := toV_ref ex; subst this
    have := toV_ref ey; subst this
    obtain ⟨vs, hvs, e1, z1⟩ := (N _ _ hp).isList en
    obtain ⟨ws, hws, e2, z2⟩ := (N _ _ hq).isList ek
    have hsz : vs.size = ws.size := by rw [map_size e1, map_size e2]; exact hl
    have hu' : A.units < cLine := by omega
    have he : ∀ j (h1 : j < vs.size) (h2 : j < ws.size), EqAt A.in1 s vs[j] ws[j] (e j) := fun j h1 h2 =>
      (ih j (toV vs[j]) (toV ws[j]) (by rw [← e1]; simp [h1]) (by rw [← e2]; simp [h2]) (A := A.in1) N (by show A.units + 1 + d < cLine; omega) rfl rfl).1
    have rc := RcAt.lists hvs hws hsz hu' he
    rw [map_size e1] at rc
    refine ⟨EqAt.of_rc hpq rc, rc, ?_⟩
    have := RcNeAt.lists hvs hws hsz hu' he
    rw [map_size e1] at this; exact this
  | @tuple p q xs ys e d hp hq hpq _ ih =>
    intro A s x y N hu ex ey
    have := toV_ref ex; subst this
    have := toV_ref ey; subst this
    obtain ⟨vs, hvs, e1, z1⟩ := (N _ _ hp).isTuple
    obtain ⟨ws, hws, e2, z2⟩ := (N _ _ hq).isTuple
    have hu' : A.units < cLine := by omega
    have he : ∀ j (h1 : j < vs.size) (h2 : j < ws.size), EqAt A.in1 s vs[j] ws[j] (e j) := fun j h1 h2 =>
      (ih j (toV vs[j]) (toV ws[j]) (by rw [← e1]; simp [h1]) (by rw [← e2]; simp [h2]) (A := A.in1) N (by show A.units + 1 + d < cLine; omega) rfl rfl).1
    have rc := RcAt.tuples hvs hws hu' he
    rw [map_size e1, map_size e2] at rc
    refine ⟨EqAt.of_rc hpq rc, rc, ?_⟩
    have := RcNeAt.tuples hvs hws hu' he
    rw [map_size e1, map_size e2] at this; exact this
end Mine
namespace Mine
open PySem PySem.Calls PySem.SeqAt
noncomputable def Room (A : Around) : Prop := A.units + 200 < cLine
noncomputable def deepest : Nat := 90
noncomputable def opEq (a b : V) (Q : Bool → Prop) (H : AH) : Prop :=
  match scEq a b with
  | some r => Q r
  | none => ∃ r d, EqV H a b r d ∧ d ≤ deepest ∧ Q r
noncomputable def strIn (y x : Str) : Bool := !(Builtin.Str.occurrences x y 0 x.length 1).isEmpty
noncomputable def opIn (v b : V) (Q : Bool → Prop) (H : AH) : Prop :=
  match b with
  | .str x => (match v with | .str y => Q (strIn y x) | _ => False)
  | .ref p => (match H.get p with
    | some (.list xs) | some (.rlist xs) | some (.tuple xs) => ∃ e : V → Bool, (∀ y ∈ xs, ∃ d, EqV H y v (e y) d ∧ d ≤ deepest) ∧ Q (xs.any e)
    | some (.sdict es) => (match v with | .str k => Q (es.any fun p => p.1 = k) | _ => False)
    | some (.idict es) => (match v with | .int k => Q (es.any fun p => p.1 = k) | _ => False)
    | _ => False)
  | _ => False
noncomputable def dget {K : Type} [DecidableEq K] (es : List (K × V)) (k : K) : Option V := (es.find? fun p => p.1 = k).map (·.2)
noncomputable def dEq {K : Type} [DecidableEq K] (es fs : List (K × V)) : Bool := es.length == fs.length && es.all fun p => match dget fs p.1 with | some w => (scEq p.2 w).getD false | none => false
noncomputable def dSc {K : Type} [DecidableEq K] (es fs : List (K × V)) : Prop := ∀ p ∈ es, ∀ w, dget fs p.1 = some w → (scEq p.2 w).isSome = true
noncomputable def opEq2 (a b : V) (Q : Bool → Prop) (H : AH) : Prop :=
  match a, b with
  | .ref p, .ref q => (match H.get p, H.get q with
    | some (.sdict es), some (.sdict fs) => dSc es fs ∧ Q (dEq es fs)
    | some (.idict es), some (.idict fs) => dSc es fs ∧ Q (dEq es fs)
    | _, _ => opEq (.ref p) (.ref q) Q H)
  | a, b => opEq a b Q H
noncomputable def pick (xs : List V) (k : Int) : Option V := if 0 ≤ k then xs[k.toNat]? else if -(xs.length : Int) ≤ k then xs[(k + xs.length).toNat]? else none
noncomputable def dput {K : Type} [DecidableEq K] (es : List (K × V)) (k : K) (v : V) : List (K × V) :=
  if es.any (fun p => p.1 = k) then es.map (fun p => if p.1 = k then (p.1, v) else p) else es ++ [(k, v)]
section
variable {C : Cx} {sn : Snap} {A : Around} {env : Env} {ρ : Str → Option V} {H : AH} {E : Value → Shared → Prop}
theorem Inv.nodesIn {s : Shared} (I : Inv C sn env ρ H s) : NodesIn C H s.heap := I.nodes
theorem Inv.notMods {s : Shared} (I : Inv C sn env ρ H s) {a : Addr} {n : Node} (h : H.get a = some n) (hr : n.isRO = false) : (a == sysModules) = false := by
  obtain ⟨o, ho⟩ := C.mods
  have := I.new a n h hr
  rw [beq_eq_false_iff_ne]
  rintro rfl
  rw [ho] at this; cases this
theorem dget_map {K : Type} [DecidableEq K] {kvs : List (K × Value)} {es : List (K × V)} (h : kvs.map (fun p => (p.1, toV p.2)) = es) (k : K) : dget es k = (valueAt kvs k).map toV := by
  subst h
  unfold dget valueAt
  induction kvs with
  | nil => rfl
  | cons p r ih =>
    simp only [List.map_cons, List.find?_cons]
    by_cases e : p.1 = k
    · simp [e]
    · simpa [e] using ih
theorem any_map {K : Type} [DecidableEq K] {kvs : List (K × Value)} {es : List (K × V)} (h : kvs.map (fun p => (p.1, toV p.2)) = es) (k : K) : (es.any fun p => p.1 = k) = (valueAt kvs k).isSome := by
  subst h
  unfold valueAt
  induction kvs with
  | nil => rfl
  | cons p r ih =>
    simp only [List.map_cons, List.any_cons, List.find?_cons]
    by_cases e : p.1 = k
    · simp [e]
    · simp [e] at ih ⊢; simpa using ih
theorem dput_map {K : Type} [DecidableEq K] {kvs : List (K × Value)} {es : List (K × V)} (h : kvs.map (fun p => (p.1, toV p.2)) = es) (k : K) (v : Value) : (stored kvs k v).map (fun p => (p.1, toV p.2)) = dput es k (toV v) := by
  subst h
  unfold stored dput
  have : (List.any (List.map (fun p => (p.1, toV p.2)) kvs) fun p => decide (p.1 = k)) = kvs.any fun p => decide (p.1 = k) := by
    rw [List.any_map]; rfl
  rw [this]
  split
  · rw [List.map_map, List.map_map]
    apply List.map_congr_left
    intro p _
    simp only [Function.comp]
    split <;> rfl
  · simp
set_option tactic.hygienic true in
theorem TM.opIn_ {a b : Value} {Q : Bool → Prop} (hr : Room A) (h : opIn (toV a) (toV b) Q H) :
    TM C sn A env ρ (compareOp .In a b) (fun v H' => (∃ r, v = .bool r ∧ Q r) ∧ H' = H) E H ∧ TM C sn A env ρ (compareOp .NotIn a b) (fun v H' => (∃ r, v = .bool (!r) ∧ Q r) ∧ H' = H) E H := by
  have hu : A.units + 200 < cLine := hr
  unfold opIn at h
  split at h
  · rename_i x eb
    split at h
    · rename_i y ea
      obtain ⟨t, rfl⟩ := toV_str ea
      obtain ⟨u, rfl⟩ := toV_str eb
      exact ⟨fun s I => P.in_str ⟨H, I, ⟨_, rfl, h⟩, rfl⟩, fun s I => P.notIn_str ⟨H, I, ⟨_, rfl, h⟩, rfl⟩⟩
    · exact h.elim
  · rename_i p eb
    have := toV_ref eb; subst this
    have lists : ∀ n xs, H.get p = some n → n.seqL = some xs → (∃ e : V → Bool, (∀ y ∈ xs, ∃ d, EqV H y (toV a) (e y) d ∧ d ≤ deepest) ∧ Q (xs.any e)) →
        TM C sn A env ρ (compareOp .In a (.ref p)) (fun v H' => (∃ r, v = .bool r ∧ Q r) ∧ H' = H) E H ∧ TM C sn A env ρ (compareOp .NotIn a (.ref p)) (fun v H' => (∃ r, v = .bool (!r) ∧ Q r) ∧ H' = H) E H := by
      rintro n xs hp en ⟨e, he, q⟩
      have key : ∀ s, Inv C sn env ρ H s → ∃ vs, s.heap.IsList p vs ∧ (∀ y, y ∈ vs → EqAt A.in1 s y a (e (toV y))) ∧ Q (vs.any fun y => e (toV y)) := fun s I => by
        obtain ⟨vs, hvs, e1, z1⟩ := (I.nodes p n hp).isList en
        refine ⟨vs, hvs, fun y hy => ?_, ?_⟩
        · obtain ⟨d, hd, hle⟩ := he (toV y) (by rw [← e1]; exact List.mem_map.mpr ⟨y, by simpa using hy, rfl⟩)
          exact (hd.sound (A := A.in1) I.nodesIn (by show A.units + 1 + d < cLine; unfold deepest at hle; omega) rfl rfl).1
        · rw [← e1, List.any_map] at q
          rw [← Array.any_toList]; exact q
      exact ⟨fun s I => let ⟨vs, h1, h2, h3⟩ := key s I; in_listAt _ h1 h2 ⟨H, I, ⟨_, rfl, h3⟩, rfl⟩, fun s I => let ⟨vs, h1, h2, h3⟩ := key s I; notIn_listAt _ h1 h2 ⟨H, I, ⟨_, rfl, h3⟩, rfl⟩⟩
    split at h
    · rename_i xs hp; exact lists _ xs hp rfl h
    · rename_i xs hp; exact lists _ xs hp rfl h
    · rename_i xs hp
      obtain ⟨e, he, q⟩ := h
      have key : ∀ s, Inv C sn env ρ H s → ∃ vs, s.heap.IsTuple p vs ∧ (∀ y, y ∈ vs → EqAt A.in1 s y a (e (toV y))) ∧ Q (vs.any fun y => e (toV y)) := fun s I => by
        obtain ⟨vs, hvs, e1, z1⟩ := (I.nodes p _ hp).isTuple
        refine ⟨vs, hvs, fun y hy => ?_, ?_⟩
        · obtain ⟨d, hd, hle⟩ := he (toV y) (by rw [← e1]; exact List.mem_map.mpr ⟨y, by simpa using hy, rfl⟩)
          exact (hd.sound (A := A.in1) I.nodesIn (by show A.units + 1 + d < cLine; unfold deepest at hle; omega) rfl rfl).1
        · rw [← e1, List.any_map] at q
          rw [← Array.any_toList]; exact q
      exact ⟨fun s I => let ⟨vs, h1, h2, h3⟩ := key s I; in_tupleAt _ h1 h2 ⟨H, I, ⟨_, rfl, h3⟩, rfl⟩, fun s I => let ⟨vs, h1, h2, h3⟩ := key s I; notIn_tupleAt _ h1 h2 ⟨H, I, ⟨_, rfl, h3⟩, rfl⟩⟩
    · rename_i es hp
      split at h
      · rename_i k ea
        obtain ⟨t, rfl⟩ := toV_str ea
        refine ⟨fun s I => ?_, fun s I => ?_⟩
        all_goals
          obtain ⟨kvs, hd, e1, _⟩ := (I.nodes p _ hp).sdict
          rw [any_map e1] at h
        · exact wpAny_in_of (strKind_is _ _ k t) (I.notMods hp rfl) hd.mapOf ⟨H, I.toks _, ⟨_, rfl, h⟩, rfl⟩
        · exact wpAny_notIn_of (strKind_is _ _ k t) (I.notMods hp rfl) hd.mapOf ⟨H, I.toks _, ⟨_, rfl, h⟩, rfl⟩
      · exact h.elim
    · rename_i es hp
      split at h
      · rename_i k ea
        obtain ⟨t, rfl⟩ := toV_int ea
        refine ⟨fun s I => ?_, fun s I => ?_⟩
        all_goals
          obtain ⟨kvs, hd, e1, _⟩ := (I.nodes p _ hp).idict
          rw [any_map e1] at h
        · exact wpAny_in_of (intKind_is _ _ k t) (I.notMods hp rfl) hd.mapOf ⟨H, I.toks _, ⟨_, rfl, h⟩, rfl⟩
        · exact wpAny_notIn_of (intKind_is _ _ k t) (I.notMods hp rfl) hd.mapOf ⟨H, I.toks _, ⟨_, rfl, h⟩, rfl⟩
      · exact h.elim
    · exact h.elim
  · exact h.elim
end
end Mine
namespace Mine
open PySem PySem.Calls PySem.SeqAt
section
variable {C : Cx} {sn : Snap} {A : Around} {env : Env} {ρ : Str → Option V} {H : AH} {E : Value → Shared → Prop}
theorem hits_of {K : Type} [DecidableEq K] {A : Around} {s : Shared} {kb : List (K × Value)} {fs : List (K × V)} (hb : kb.map (fun p => (p.1, toV p.2)) = fs) : ∀ (ka : List (K × Value)) (es : List (K × V)), ka.map (fun p => (p.1, toV p.2)) = es → dSc es fs →
    W.KeqHits A s kb ka (es.all fun p => match dget fs p.1 with | some w => (scEq p.2 w).getD false | none => false)
  | [], _, rfl, _ => .nil
  | (k, v) :: r, _, rfl, h => by
    simp only [List.map_cons, List.all_cons]
    have hr := hits_of (A := A) (s := s) hb r _ rfl fun p hp => h p (List.mem_cons_of_mem _ hp)
    have hd := dget_map hb k
    cases q : valueAt kb k with
    | none =>
      rw [q] at hd
      simp only [Option.map_none] at hd
      rw [hd]
      exact .miss q
    | some y =>
      rw [q] at hd
      simp only [Option.map_some] at hd
      rw [hd]
      obtain ⟨e, he⟩ := Option.isSome_iff_exists.mp (h (k, toV v) (by simp) (toV y) hd)
      simp only [he, Option.getD_some]
      exact .hit q (eqAt_sc he).1 hr
theorem pick_get {vs : Array Value} {xs : List V} {k : Int} {v : V} (e1 : vs.toList.map toV = xs) (hz : xs.length < 2 ^ 62) (h : pick xs k = some v) :
    ∃ cv, toV cv = v ∧ ((0 ≤ k ∧ k < 2 ^ 62 ∧ vs[k.toNat]? = some cv) ∨ (k < 0 ∧ -(vs.size : Int) ≤ k ∧ -(2 ^ 62) ≤ k ∧ vs[(k + vs.size).toNat]? = some cv)) := by
  unfold pick at h
  have hs := map_size e1
  split at h
  · rename_i h0
    obtain ⟨cv, q1, q2⟩ := map_get e1 h
    refine ⟨cv, q2, .inl ⟨h0, ?_, q1⟩⟩
    have := (Array.getElem?_eq_some_iff.mp q1).1
    omega
  · rename_i h0
    split at h
    · rename_i h1
      obtain ⟨cv, q1, q2⟩ := map_get e1 h
      refine ⟨cv, q2, .inr ⟨by omega, by rw [hs]; exact h1, by omega, by rw [hs]; exact q1⟩⟩
    · cases h
set_option tactic.hygienic true in
theorem subscripted_any (slice : Expr) (o i : Value) : ∃ ops, subscripted slice false o i = operate ops (getItem o i) := by
  cases slice <;> first | exact ⟨_, rfl⟩ | (rename_i lo up st pos; cases lo <;> cases up <;> cases st <;> exact ⟨_, rfl⟩)
theorem tail_of {s : Shared} {value slice : Expr} {o i : Value} {T id : String} {Q : Value → Shared → Prop} (hT : s.TypeIs o T)
    (hl : typeLookup (.type T) "__getitem__" = pure (some (.builtin id))) (hg : wpAny C.M A (getItem o i) Q E s) : wpAny C.M A (PyProof.Rows.subscriptTail value slice o i) Q E s := by
  obtain ⟨ops, e⟩ := subscripted_any slice o i
  exact PyProof.Rows.tail_any hT hl hg e
end
end Mine
namespace Mine
open PySem PySem.Calls PySem.SeqAt
noncomputable def plainArgs (args : List (Bool × Sem Value)) : Prop := ∀ x ∈ args, x.1 = false
section
variable {α : Type} {C : Cx} {sn : Snap} {A : Around} {env : Env} {ρ : Str → Option V} {H : AH} {E : Value → Shared → Prop}
noncomputable def TMs (C : Cx) (sn : Snap) (A : Around) (env : Env) (ρ : Str → Option V) (E : Value → Shared → Prop) : List (Sem Value) → (List Value → AH → Prop) → AH → Prop
  | [], Q, H => Q [] H
  | t :: ts, Q, H => TM C sn A env ρ t (fun v H' => TMs C sn A env ρ E ts (fun vs H'' => Q (v :: vs) H'') H') E H
theorem tm_spliced {args : List (Bool × Sem Value)} {Q : List Value → AH → Prop} (hp : plainArgs args) (h : TMs C sn A env ρ E (args.map (·.2)) Q H) : TM C sn A env ρ (spliced args) Q E H := by
  induction args generalizing H Q with
  | nil => exact .pure h
  | cons x r ih =>
    obtain ⟨b, t⟩ := x
    have hb : b = false := hp _ (List.mem_cons_self ..)
    subst hb
    rw [PySem.spliced]
    refine .bind (TM.mono h fun v H' h' => ?_)
    simp only [Bool.false_eq_true, if_false]
    refine .bind (.pure (.bind (.holding ?_)))
    exact (ih (fun y hy => hp y (List.mem_cons_of_mem _ hy)) h').mono fun vs H'' q => .pure q
theorem tm_evalArgs {f : Value} {args : List (Bool × Sem Value)} {Q : Args → AH → Prop} (hp : plainArgs args) (h : TMs C sn A env ρ E (args.map (·.2)) (fun vs H' => Q ⟨vs, []⟩ H') H) :
    TM C sn A env ρ (evalArgs f true args []) Q E H := by
  have hs := tm_spliced hp h
  unfold PySem.evalArgs
  match args, hp, hs with
  | [], _, hs =>
    show TM C sn A env ρ (PySem.spliced [] >>= _) Q E H
    refine .bind (hs.mono fun vs H' q => ?_)
    refine .holding ?_
    exact .bind (.pure (.bind (.pure (.pure q))))
  | (true, x) :: rest, hp, _ => exact absurd (hp _ (List.mem_cons_self ..)) (by simp)
  | (false, x) :: rest, _, hs =>
    show TM C sn A env ρ (PySem.spliced ((false, x) :: rest) >>= _) Q E H
    refine .bind (hs.mono fun vs H' q => ?_)
    refine .holding ?_
    exact .bind (.pure (.bind (.pure (.pure q))))
theorem tm_callWith_other {pos : Pos} {f : Value} {first : List Value} {args : List (Bool × Sem Value)} {Q : Value → AH → Prop} (hf : ∀ a, f ≠ .ref a) (hp : plainArgs args)
    (h : TMs C sn A env ρ E (args.map (·.2)) (fun vs H' => TM C sn A env ρ (call f (first ++ vs)) Q E H') H) : TM C sn A env ρ (callWith pos f first args []) Q E H := by
  have hk : keeperOf f = pure .machine := by cases f <;> first | rfl | exact absurd rfl (hf _)
  have ha : args.any (·.1) = false := by rw [List.any_eq_false]; intro x hx; rw [hp x hx]; simp
  unfold callWith
  refine .bind (.holding (tm_evalArgs hp ?_))
  have mono : ∀ {ts : List (Sem Value)} {Q Q' : List Value → AH → Prop} {H : AH}, TMs C sn A env ρ E ts Q H → (∀ vs H', Q vs H' → Q' vs H') → TMs C sn A env ρ E ts Q' H := by
    intro ts
    induction ts with
    | nil => intro Q Q' H h k; exact k _ _ h
    | cons t r ih => intro Q Q' H h k; exact TM.mono h fun v H' h' => ih h' fun vs H'' q => k _ _ q
  refine mono h fun vs H' q => .bind (.standAt ?_)
  rw [hk]
  simp only [ha, List.any_nil, Bool.or_false]
  refine .bind (.pure ?_)
  exact .bind (q.mono fun r H'' qr => .bind (.holding (.point (.pure qr))))
theorem TMs.mono {ts : List (Sem Value)} {Q Q' : List Value → AH → Prop} (h : TMs C sn A env ρ E ts Q H) (k : ∀ vs H', Q vs H' → Q' vs H') : TMs C sn A env ρ E ts Q' H := by
  induction ts generalizing Q Q' H with
  | nil => exact k _ _ h
  | cons t r ih => exact TM.mono h fun v H' h' => ih h' fun vs H'' q => k _ _ q
theorem TM.keep {vs : List Value} {m : Sem α} {Q : α → AH → Prop} (h : TM C sn A env ρ m Q E H) : TM C sn A env ρ (m.keep vs) Q E H := fun s I => wpAny_keep (h s I)
end
end Mine
namespace Mine
open PySem PySem.Calls PySem.SeqAt
noncomputable def kindV (H : AH) : V → Option String
  | .none => some "NoneType"
  | .bool _ => some "bool"
  | .int _ => some "int"
  | .str _ => some "str"
  | .ref p => match H.get p with
    | some (.list _) | some (.rlist _) => some "list"
    | some (.tuple _) => some "tuple"
    | some (.sdict _) | some (.idict _) => some "dict"
    | _ => none
  | _ => none
noncomputable def isiT (K T : String) : Bool := K == T || (K == "bool" && T == "int")
noncomputable def isiTypes : List String := ["str", "int", "bool", "tuple", "list", "dict"]
section
variable {C : Cx} {sn : Snap} {A : Around} {env : Env} {ρ : Str → Option V} {H : AH} {E : Value → Shared → Prop} {Q : V → AH → Prop}
theorem tm_len_str {x : Str} {t : Tok} (hz : x.length < 2 ^ 62) (h : Q (.int x.length) H) : TM C sn A env ρ (call (.builtin "len") [.str x t]) (fun v H' => Q (toV v) H') E H :=
  fun s I => PyProof.Rows.len_str (by omega) (toks_still I (v := .int _ _) h _)
theorem tm_len_list {p : Nat} {n : Node} {xs : List V} (hp : H.get p = some n) (en : n.seqL = some xs) (h : Q (.int xs.length) H) : TM C sn A env ρ (call (.builtin "len") [.ref p]) (fun v H' => Q (toV v) H') E H := by
  intro s I
  obtain ⟨vs, hvs, e1, z1⟩ := (I.nodes p n hp).isList en
  refine call_len_list hvs (by rw [map_size e1]; omega) ?_
  rw [map_size e1]; exact toks_still I (v := .int _ _) h _
theorem tm_len_tuple {p : Nat} {xs : List V} (hp : H.get p = some (.tuple xs)) (h : Q (.int xs.length) H) : TM C sn A env ρ (call (.builtin "len") [.ref p]) (fun v H' => Q (toV v) H') E H := by
  intro s I
  obtain ⟨vs, hvs, e1, z1⟩ := (I.nodes p _ hp).isTuple
  refine PyProof.Rows.len_tuple (t := p) hvs (by rw [map_size e1]; omega) ?_
  rw [map_size e1]; exact toks_still I (v := .int _ _) h _
theorem tm_len_dict {K : Type} [DecidableEq K] {knd : KeyKind C.prog C.w K} {p : Nat} {kvs : List (K × Value)} {es : List (K × V)} {s : Shared} (I : Inv C sn env ρ H s) (hd : s.heap.DictOf knd p kvs) (e1 : kvs.map (fun p => (p.1, toV p.2)) = es)
    (hz : es.length < 2 ^ 62) (hm : (p == sysModules) = false) (h : Q (.int es.length) H) : wpAny C.M A (call (.builtin "len") [.ref p]) (fun v s' => Aft C sn env ρ (fun H' => Q (toV v) H') s') E s := by
  have hl : kvs.length = es.length := by rw [← e1]; simp
  refine call_len_dict hm hd (by omega) ?_
  rw [hl]; exact toks_still I (v := .int _ _) h _
theorem isi_facts {T : String} (hT : isiTypes.contains T = true) : typeOf (.type T) = pure (.type "type") := by
  simp only [isiTypes, List.contains_cons, List.contains_nil, Bool.or_false, Bool.or_eq_true, beq_iff_eq] at hT
  rcases hT with rfl | rfl | rfl | rfl | rfl | rfl
  · exact F.isi_meta_str
  · exact F.isi_meta_int
  · exact F.isi_meta_bool
  · exact F.isi_meta_tuple
  · exact F.isi_meta_list
  · exact F.isi_meta_dict
noncomputable def servedKinds : List String := ["NoneType", "bool", "int", "str", "list", "tuple", "dict"]
theorem sub_facts {K T : String} (hK : servedKinds.contains K = true) (hT : isiTypes.contains T = true) : isSubtype (.type K) (.type T) = pure (isiT K T) := by
  simp only [servedKinds, isiTypes, List.contains_cons, List.contains_nil, Bool.or_false, Bool.or_eq_true, beq_iff_eq] at hK hT
  rcases hK with rfl | rfl | rfl | rfl | rfl | rfl | rfl <;> rcases hT with rfl | rfl | rfl | rfl | rfl | rfl <;> (rw [isSubtype_type]; kernel_rfl)
set_option tactic.hygienic true in
theorem tm_isi {a : Value} {K T : String} (hT : isiTypes.contains T = true) (hk : kindV H (toV a) = some K) (h : Q (.bool (isiT K T)) H) :
    TM C sn A env ρ (call (.builtin "isinstance") [a, .type T]) (fun v H' => Q (toV v) H') E H := by
  intro s I
  have hty := isi_facts hT
  have typ : servedKinds.contains K = true ∧ s.TypeIs a K := by
    unfold kindV at hk
    cases a <;> simp only [toV, reduceCtorEq, Option.some.injEq] at hk
    case ref p =>
      split at hk <;> simp only [reduceCtorEq, Option.some.injEq] at hk <;> subst hk
      · rename_i xs hp; obtain ⟨vs, hvs, _⟩ := (I.nodes p _ hp).isList rfl; exact ⟨by decide, hvs.typeIs⟩
      · rename_i xs hp; obtain ⟨vs, hvs, _⟩ := (I.nodes p _ hp).isList rfl; exact ⟨by decide, hvs.typeIs⟩
      · rename_i xs hp; obtain ⟨vs, hvs, _⟩ := (I.nodes p _ hp).isTuple; obtain ⟨o, ho, hc, _⟩ := hvs; exact ⟨by decide, o, ho, hc⟩
      · rename_i xs hp; obtain ⟨kvs, hd, _⟩ := (I.nodes p _ hp).sdict; exact ⟨by decide, hd.typeIs⟩
      · rename_i xs hp; obtain ⟨kvs, hd, _⟩ := (I.nodes p _ hp).idict; exact ⟨by decide, hd.typeIs⟩
    all_goals (subst hk; exact ⟨by decide, rfl⟩)
  have hsub := sub_facts typ.1 hT
  cases hb : isiT K T with
  | true =>
    rw [hb] at hsub h
    exact call_isinstance (isinstance_true hty hsub) ⟨typ.2, H, I, h⟩
  | false =>
    rw [hb] at hsub h
    have hne : ∀ K', K = K' → (Value.type K' == Value.type T) = false := by
      rintro K' rfl
      rw [beq_eq_false_iff_ne]
      intro e
      injection e with e
      subst e
      simp [isiT] at hb
    have fin : Aft C sn env ρ (fun H' => Q (toV (.bool false)) H') { s with toks := s.toks + 1 } := ⟨H, I.toks _, h⟩
    unfold kindV at hk
    cases a <;> simp only [toV, reduceCtorEq, Option.some.injEq] at hk
    case ref p =>
      obtain ⟨o, ho, hc⟩ := typ.2
      split at hk <;> simp only [reduceCtorEq, Option.some.injEq] at hk <;> subst hk
      · exact call_isinstance (isinstance_false_list (hne _ rfl) hty hsub) ⟨⟨o, ho, hc⟩, fin⟩
      · exact call_isinstance (isinstance_false_list (hne _ rfl) hty hsub) ⟨⟨o, ho, hc⟩, fin⟩
      · exact call_isinstance (isinstance_false_tuple (hne _ rfl) hty hsub) ⟨⟨o, ho, hc⟩, fin⟩
      · exact call_isinstance (isinstance_false_dict (hne _ rfl) hty hsub) ⟨⟨o, ho, hc⟩, fin⟩
      · exact call_isinstance (isinstance_false_dict (hne _ rfl) hty hsub) ⟨⟨o, ho, hc⟩, fin⟩
    · subst hk; exact call_isinstance (isinstance_false_none (hne _ rfl) hty hsub) fin
    · subst hk; exact call_isinstance (isinstance_false_bool (hne _ rfl) hty hsub) fin
    · subst hk; exact call_isinstance (isinstance_false_int (hne _ rfl) hty hsub) fin
    · subst hk; exact call_isinstance (isinstance_false_str (hne _ rfl) hty hsub) fin
theorem tm_list_copy {p : Nat} {n : Node} {xs : List V} (hp : H.get p = some n) (en : n.seq = some xs) (hz : xs.length ≤ sizeLine) (h : made sn.fz (.list xs) Q H) :
    TM C sn A env ρ (call (.type "list") [.ref p]) (fun v H' => Q (toV v) H') E H := by
  intro s I
  have hD : s.heap.get? s.heap.objs.size = none := get_size _
  have fin : ∀ (items : Array Value) h' c', items.toList.map toV = xs → (∀ b o', s.heap.get? b = some o' → h'.get? b = some o') → h'.get? s.heap.objs.size = some { cls := .type "list", dict := none, data := .seq items c', slots := #[] } →
      Aft C sn env ρ (fun H' => Q (toV (.ref s.heap.objs.size)) H') { s with heap := h' } := fun items h' c' e k ho =>
    ⟨_, I.come (n := .list xs) (tk := s.toks) k hD ⟨_, ho, by rw [sizeLine_eq] at hz; omega, items, c', rfl, e⟩, h _ (I.none_of_new hD) (I.notFz (I.none_of_new hD))⟩
  cases n <;> simp [Node.seq] at en <;> subst en
  · obtain ⟨vs, ⟨o, ho, hc, k, hd⟩, e1, z1⟩ := (I.nodes p _ hp).isList rfl
    exact call_list_seq p (.inl rfl) ho hc hd (fun h' c' k ho => fin vs h' c' e1 k ho) (by rw [map_size e1]; exact hz)
  · obtain ⟨vs, ⟨o, ho, hc, k, hd⟩, e1, z1⟩ := (I.nodes p _ hp).isList rfl
    exact call_list_seq p (.inl rfl) ho hc hd (fun h' c' k ho => fin vs h' c' e1 k ho) (by rw [map_size e1]; exact hz)
  · obtain ⟨vs, ⟨o, ho, hc, k, hd⟩, e1, z1⟩ := (I.nodes p _ hp).isTuple
    exact call_list_seq p (.inr rfl) ho hc hd (fun h' c' k ho => fin vs h' c' e1 k ho) (by rw [map_size e1]; exact hz)
end
end Mine
namespace Mine
open PySem PySem.Calls PySem.SeqAt
section
variable {C : Cx} {sn : Snap} {A : Around} {env : Env} {ρ : Str → Option V} {H : AH} {E : Value → Shared → Prop} {Q : V → AH → Prop}
theorem dput_length {K : Type} [DecidableEq K] (es : List (K × V)) (k : K) (v : V) : (dput es k v).length ≤ es.length + 1 := by
  unfold dput; split <;> simp
theorem ext_update (h : Heap) (a : Addr) (f : Obj → Obj) : Heap.ExtBut a h (h.update a f) := (Heap.SameBut.update ..).extBut
theorem Inv.turnList {s : Shared} (I : Inv C sn env ρ H s) {p : Nat} {xs ys : List V} {vs : Array Value} {k : Nat} (hp : H.get p = some (.list xs)) (hfz : p ∉ sn.fz) (ho : s.heap.get? p = some { cls := .type "list", data := .seq vs k })
    (f : Array Value → Array Value) (hf : (f vs).toList.map toV = ys) (hz : ys.length < 2 ^ 62) : Inv C sn env ρ (H.set p (.list ys)) { s with heap := s.heap.update p (Obj.mapSeq f) } :=
  I.turn (n' := .list ys) (tk := s.toks) hp rfl hfz (ext_update _ _ _) ⟨_, IsL.update (n := k) ho f, hz, _, _, rfl, hf⟩
theorem sdict_nil {o : Obj} : ObjIs C o (.sdict []) ↔ ObjIs C o (.idict []) := by
  constructor
  · rintro ⟨z, kvs, ⟨es, ep, h1, h2, h3, h4, h5⟩, e⟩
    have : kvs = [] := by simpa using e
    subst this
    have hl := h4.length
    have : es = #[] := by rw [← Array.toList_eq_nil_iff]; exact List.length_eq_zero_iff.mp hl
    subst this
    exact ⟨by simp, [], ⟨#[], ep, h1, h2, fun _ h => by simp at h, .nil, by simp⟩, rfl⟩
  · rintro ⟨z, kvs, ⟨es, ep, h1, h2, h3, h4, h5⟩, e⟩
    have : kvs = [] := by simpa using e
    subst this
    have hl := h4.length
    have : es = #[] := by rw [← Array.toList_eq_nil_iff]; exact List.length_eq_zero_iff.mp hl
    subst this
    exact ⟨by simp, [], ⟨#[], ep, h1, h2, fun _ h => by simp at h, .nil, by simp⟩, rfl⟩
theorem Inv.asInt {s : Shared} (I : Inv C sn env ρ H s) {p : Nat} (hp : H.get p = some (.sdict [])) : ∃ kvs, s.heap.DictOf (intKind C.prog C.w) p kvs ∧ kvs = [] := by
  obtain ⟨o, ho, hi⟩ := I.nodes p _ hp
  obtain ⟨z, kvs, hd, e⟩ := sdict_nil.mp hi
  exact ⟨kvs, Heap.dictOf_iff.mpr ⟨o, ho, hd⟩, by simpa using e⟩
theorem strs_values {vs : Array Value} {ss : List Str} (h : vs.toList.map toV = ss.map V.str) : ∃ l : List (Str × Tok), vs = (strValues l).toArray ∧ l.map (·.1) = ss := by
  obtain ⟨l⟩ := vs
  simp only at h
  induction l generalizing ss with
  | nil => cases ss with
    | nil => exact ⟨[], rfl, rfl⟩
    | cons _ _ => simp at h
  | cons v r ih => cases ss with
    | nil => simp at h
    | cons x xs =>
      simp only [List.map_cons, List.cons.injEq] at h
      obtain ⟨t, rfl⟩ := toV_str h.1
      obtain ⟨l, e1, e2⟩ := ih h.2
      refine ⟨(x, t) :: l, ?_, by simp [e2]⟩
      simp only [strValues, List.map_cons] at e1 ⊢
      have := congrArg Array.toList e1
      simp at this
      rw [this]
end
end Mine
namespace Mine
open PySem PySem.Calls PySem.SeqAt
noncomputable def rngItems (a b c : Int) : List V := (List.range (Builtin.Range.rangeSize a b c).toNat).map fun i => V.int (a + (i : Nat) * c)
noncomputable def ItemsV (H : AH) (v : V) (xs : List V) : Prop :=
  match v with
  | .str x => xs = x.cps.toList.map fun c => V.str ⟨#[c]⟩
  | .ref p => (match H.get p with
    | some (.list ys) | some (.rlist ys) | some (.tuple ys) => xs = ys
    | some (.sdict es) => xs = es.map fun e => V.str e.1
    | some (.idict es) => xs = es.map fun e => V.int e.1
    | some (.rng a b c) => (-(2 ^ 60) ≤ a ∧ a ≤ 2 ^ 60 ∧ -(2 ^ 60) ≤ b ∧ b ≤ 2 ^ 60 ∧ 1 ≤ c ∧ c ≤ 2 ^ 20) ∧ xs = rngItems a b c
    | _ => False)
  | _ => False
noncomputable def srcOf : V → List Nat
  | .ref p => [p]
  | _ => []
theorem fits60 {i : Int} (h : -(2 ^ 60) ≤ i) (h' : i ≤ 2 ^ 62) : Builtin.Range.rangeFitsLong i = true := by
  unfold Builtin.Range.rangeFitsLong
  rw [decide_eq_true (Int.le_trans (by decide) h), decide_eq_true (Int.lt_of_le_of_lt h' (by decide))]; rfl
theorem small_range {a b c : Int} (h : -(2 ^ 60) ≤ a ∧ a ≤ 2 ^ 60 ∧ -(2 ^ 60) ≤ b ∧ b ≤ 2 ^ 60 ∧ 1 ≤ c ∧ c ≤ 2 ^ 20) : Builtin.Range.small a b c = true := by
  obtain ⟨h1, h2, h3, h4, h5, h6⟩ := h
  have c0 : c > 0 := h5
  have d1 : b - a ≤ 2 ^ 61 := Int.le_trans (Int.sub_le_sub h4 h1) (by decide)
  have d0 : 0 ≤ Builtin.Range.rangeSize a b c ∧ Builtin.Range.rangeSize a b c ≤ 2 ^ 61 := by
    unfold Builtin.Range.rangeSize
    rw [if_pos c0]
    split
    · rename_i hab
      have e0 : 0 ≤ b - a - 1 := Int.sub_nonneg_of_le (Int.sub_pos_of_lt hab)
      exact ⟨Int.add_nonneg (Int.ediv_nonneg e0 (Int.le_of_lt c0)) (by decide), Int.le_trans (Int.add_le_add_right (Int.ediv_le_self _ e0) 1) (by rw [Int.sub_add_cancel]; exact d1)⟩
    · exact ⟨Int.le_refl _, by decide⟩
  have u : ∀ {i : Int}, 0 ≤ i → -(2 ^ 60) ≤ i := fun h => Int.le_trans (by decide) h
  have bc : Builtin.Range.rangeFitsLong (b + (c - 1)) = true := fits60 (Int.le_trans h3 (Int.le_add_of_nonneg_right (Int.sub_nonneg_of_le h5))) (Int.le_trans (Int.add_le_add h4 (Int.sub_le_sub_right h6 1)) (by decide))
  unfold Builtin.Range.small
  rw [fits60 h1 (Int.le_trans h2 (by decide)), fits60 h3 (Int.le_trans h4 (by decide)), fits60 (u (Int.le_of_lt c0)) (Int.le_trans h6 (by decide)), fits60 (u d0.1) (Int.le_trans d0.2 (by decide)), if_pos c0, bc, Bool.or_true]; rfl
section
variable {C : Cx} {sn : Snap} {A : Around} {env : Env} {ρ : Str → Option V} {H : AH} {E : Value → Shared → Prop} {Q : V → AH → Prop}
structure Begun (C : Cx) (v : V) (xs : List V) (h : Heap) (I : Addr) (St : Nat → Heap → Prop) (P : Nat → Value → Prop) : Prop where
  walks : ∀ A' : Around, A'.handled = none → Walks C.prog C.w A' I (I :: srcOf v) [I] xs.length P St
  start : St 0 h
  item : ∀ i cx, P i cx → xs[i]? = some (toV cx)
  obj : ∀ i h, St i h → ∃ o vs, h.get? I = some o ∧ o.data = .fields vs
set_option tactic.hygienic true in
theorem begun_iter {v : Value} {xs : List V} {s : Shared} {R : Value → Shared → Prop} (I : Inv C sn env ρ H s) (hx : ItemsV H (toV v) xs)
    (h : ∀ o St P, Begun C (toV v) xs (s.heap.push o) s.heap.objs.size St P → R (.ref s.heap.objs.size) { s with heap := s.heap.push o }) : wpAny C.M A (pyIter v) R E s := by
  unfold ItemsV at hx
  generalize ev : toV v = u at hx h
  split at hx
  · rename_i x
    obtain ⟨t, rfl⟩ := toV_str ev
    have it : ∀ i cx, SignAt x i cx → xs[i]? = some (toV cx) := by
      rintro i cx ⟨c, u, e, rfl⟩
      subst hx
      simp [toV, e]
    have hsz : xs.length = x.cps.size := by subst hx; simp
    refine wpAny_pyIter_strU ?_
    cases ha : x.cps.all (· < 128)
    · refine h _ (fun i h => h.IsStrIter s.heap.objs.size "str_iterator" x t i) (SignAt x) ⟨fun A' hA => ?_, ⟨_, Heap.get?_push_size _ rfl, by simp [strIterType, ha], rfl⟩, it, fun i h ⟨o, ho, _, hd⟩ => ⟨o, _, ho, hd⟩⟩
      rw [hsz]
      exact (Walks.strWide hA _ x t).mono_fp (by simp [srcOf])
    · refine h _ (fun i h => h.IsStrIter s.heap.objs.size "str_ascii_iterator" x t i) (SignAt x) ⟨fun A' hA => ?_, ⟨_, Heap.get?_push_size _ rfl, by simp [strIterType, ha], rfl⟩, it, fun i h ⟨o, ho, _, hd⟩ => ⟨o, _, ho, hd⟩⟩
      rw [hsz]
      exact (Walks.strAscii hA _ x t).mono_fp (by simp [srcOf])
  · rename_i p
    have := toV_ref ev; subst this
    have lists : ∀ n ys, H.get p = some n → n.seqL = some ys → xs = ys → wpAny C.M A (pyIter (.ref p)) R E s := by
      rintro n ys hp en rfl
      obtain ⟨vs, hvs, e1, z1⟩ := (I.nodes p n hp).isList en
      have hlt : p ≠ s.heap.objs.size := by obtain ⟨o, ho, _⟩ := id hvs; exact Nat.ne_of_lt (Heap.lt_size ho)
      refine wpAny_pyIter_list hvs (h _ (fun i h => h.IsListIter s.heap.objs.size p i ∧ h.IsList p vs) (fun i v => vs[i]? = some v) ⟨fun A' hA => ?_, ⟨⟨_, Heap.get?_push_size _ rfl, rfl, rfl⟩, hvs.push _⟩, fun i cx e => ?_, fun i h ⟨⟨o, ho, _, hd⟩, _⟩ => ⟨o, _, ho, hd⟩⟩)
      · have := Walks.list (prog := C.prog) (w := C.w) hA s.heap.objs.size p hlt vs
        rw [← map_size e1]
        exact this.mono_fp (by simp [srcOf])
      · rw [← e1]; simp [e]
    split at hx
    · rename_i ys hp; exact lists _ ys hp rfl hx
    · rename_i ys hp; exact lists _ ys hp rfl hx
    · rename_i ys hp
      subst hx
      obtain ⟨vs, hvs, e1, z1⟩ := (I.nodes p _ hp).isTuple
      have hlt : p ≠ s.heap.objs.size := by obtain ⟨o, ho, _⟩ := id hvs; exact Nat.ne_of_lt (Heap.lt_size ho)
      refine wpAny_pyIter_tuple hvs (h _ (fun i h => h.IsTupleIter s.heap.objs.size p i ∧ h.IsTuple p vs) (fun i v => vs[i]? = some v) ⟨fun A' hA => ?_, ⟨⟨_, Heap.get?_push_size _ rfl, rfl, rfl⟩, ?_⟩, fun i cx e => ?_, fun i h ⟨⟨o, ho, _, hd⟩, _⟩ => ⟨o, _, ho, hd⟩⟩)
      · have := Walks.tuple (prog := C.prog) (w := C.w) hA s.heap.objs.size p hlt vs
        rw [← map_size e1]
        exact this.mono_fp (by simp [srcOf])
      · exact hvs.at fun o e => Heap.get?_push_of_some _ e
      · rw [← e1]; simp [e]
    · rename_i es hp
      subst hx
      obtain ⟨kvs, hd, e1, z1⟩ := (I.nodes p _ hp).sdict
      obtain ⟨ep, hd⟩ := hd.dictAt
      have hlt : p ≠ s.heap.objs.size := Nat.ne_of_lt hd.lt_size
      refine wpAny_pyIter_dict (I.notMods hp rfl) hd (h _ (fun i h => h.IsKeyIter s.heap.objs.size p i kvs.length ep ∧ h.DictAt (strKind C.prog C.w) p kvs ep) (fun i v => ∃ k x, kvs[i]? = some (k, x) ∧ (strKind C.prog C.w).is k v = true) ⟨fun A' hA => ?_, ⟨⟨_, Heap.get?_push_size _ rfl, rfl, rfl⟩, hd.push _⟩, ?_, fun i h ⟨⟨o, ho, _, hd⟩, _⟩ => ⟨o, _, ho, hd⟩⟩)
      · have := Walks.dictKeys (prog := C.prog) (w := C.w) (knd := strKind C.prog C.w) hA s.heap.objs.size p hlt kvs ep
        rw [show (es.map fun e => V.str e.1).length = kvs.length by rw [← e1]; simp]
        exact this.mono_fp (by simp [srcOf])
      · rintro i cx ⟨k, x, e, hk⟩
        obtain ⟨t, rfl⟩ := Value.isStrOf_shape (show Value.isStrOf k cx = true from hk)
        rw [← e1]; simp [e, toV]
    · rename_i es hp
      subst hx
      obtain ⟨kvs, hd, e1, z1⟩ := (I.nodes p _ hp).idict
      obtain ⟨ep, hd⟩ := hd.dictAt
      have hlt : p ≠ s.heap.objs.size := Nat.ne_of_lt hd.lt_size
      refine wpAny_pyIter_dict (I.notMods hp rfl) hd (h _ (fun i h => h.IsKeyIter s.heap.objs.size p i kvs.length ep ∧ h.DictAt (intKind C.prog C.w) p kvs ep) (fun i v => ∃ k x, kvs[i]? = some (k, x) ∧ (intKind C.prog C.w).is k v = true) ⟨fun A' hA => ?_, ⟨⟨_, Heap.get?_push_size _ rfl, rfl, rfl⟩, hd.push _⟩, ?_, fun i h ⟨⟨o, ho, _, hd⟩, _⟩ => ⟨o, _, ho, hd⟩⟩)
      · have := Walks.dictKeys (prog := C.prog) (w := C.w) (knd := intKind C.prog C.w) hA s.heap.objs.size p hlt kvs ep
        rw [show (es.map fun e => V.int e.1).length = kvs.length by rw [← e1]; simp]
        exact this.mono_fp (by simp [srcOf])
      · rintro i cx ⟨k, x, e, hk⟩
        obtain ⟨t, rfl⟩ := Value.isInt_shape (show Value.isInt k cx = true from hk)
        rw [← e1]; simp [e, toV]
    · rename_i a b c hp
      obtain ⟨hsm, rfl⟩ := hx
      obtain ⟨o, ho, t, u, w, rfl⟩ := I.nodes p _ hp
      have e0 := PyProof.Rows.rangeSize_toNat a b c
      refine wpAny_pyIter_range ho (small_range hsm) (h _ (fun i h => IsRangeIter h s.heap.objs.size (a + (i : Nat) * c) (((Builtin.Range.rangeSize a b c).toNat : Int) - (i : Nat)) c) (fun i v => ∃ t, v = .int (a + i * c) t ∧ i < (Builtin.Range.rangeSize a b c).toNat) ⟨fun A' hA => ?_, ?_, ?_, fun i h ho => ⟨_, _, ho, rfl⟩⟩)
      · have W := Walks.range (prog := C.prog) (w := C.w) hA s.heap.objs.size a c (Builtin.Range.rangeSize a b c).toNat
        rw [show (rngItems a b c).length = (Builtin.Range.rangeSize a b c).toNat by simp [rngItems]]
        refine ⟨by simp, fun i h h' st hk => W.frame i h h' st fun b hb o e => hk b (by simp at hb; simp [hb]) o e, fun i s Q E hi st hQ => ?_, fun s Q E st hQ => W.done s Q E st hQ, fun i s Q E st hQ => W.self i s Q E st hQ⟩
        exact W.item i s Q E hi st fun v h' tk ⟨t, e⟩ st' k => hQ v h' tk ⟨t, e, hi⟩ st' k
      · show IsRangeIter _ _ _ _ _
        rw [← e0]
        have := Heap.get?_push_size s.heap (o := { cls := .type "range_iterator", data := .fields #[rawInt a, rawInt (Builtin.Range.rangeSize a b c), rawInt c] }) rfl
        simpa [IsRangeIter] using this
      · rintro i cx ⟨t, rfl, hi⟩
        simp [rngItems, hi, toV]
    · exact False.elim hx
  · exact False.elim hx
theorem tm_range1 {b : Int} {t : Tok} (h : made sn.fz (.rng 0 b 1) Q H) : TM C sn A env ρ (call (.type "range") [.int b t]) (fun v H' => Q (toV v) H') E H := by
  intro s I
  have hD : s.heap.get? s.heap.objs.size = none := get_size _
  refine call_range_1 ⟨_, I.come (n := .rng _ _ _) (fun b o e => Heap.get?_push_of_some _ e) hD ⟨_, Heap.get?_push_size _ rfl, _, _, _, rfl⟩, h _ (I.none_of_new hD) (I.notFz (I.none_of_new hD))⟩
theorem tm_range2 {a b : Int} {t t' : Tok} (h : made sn.fz (.rng a b 1) Q H) : TM C sn A env ρ (call (.type "range") [.int a t, .int b t']) (fun v H' => Q (toV v) H') E H := by
  intro s I
  have hD : s.heap.get? s.heap.objs.size = none := get_size _
  refine call_range_2 ⟨_, I.come (n := .rng _ _ _) (fun b o e => Heap.get?_push_of_some _ e) hD ⟨_, Heap.get?_push_size _ rfl, _, _, _, rfl⟩, h _ (I.none_of_new hD) (I.notFz (I.none_of_new hD))⟩
theorem tm_range3 {a b c : Int} {t t' t'' : Tok} (hd : DivOk c) (h : made sn.fz (.rng a b c) Q H) : TM C sn A env ρ (call (.type "range") [.int a t, .int b t', .int c t'']) (fun v H' => Q (toV v) H') E H := by
  intro s I
  have hD : s.heap.get? s.heap.objs.size = none := get_size _
  refine call_range_3 hd.1 ⟨_, I.come (n := .rng _ _ _) (tk := s.toks) (fun b o e => Heap.get?_push_of_some _ e) hD ⟨_, Heap.get?_push_size _ rfl, _, _, _, rfl⟩, h _ (I.none_of_new hD) (I.notFz (I.none_of_new hD))⟩ (.inl (PyProof.noPylong_of_log2 hd.2))
end
end Mine
namespace Mine
open PySem PySem.Calls PySem.SeqAt
theorem Kept.data {o : Obj} {x : Option Obj} (h : Kept o x) : ∃ o', x = some o' ∧ o'.data = o.data ∧ o'.cls = o.cls := by
  obtain ⟨sl, rfl, _⟩ := h; exact ⟨_, rfl, rfl, rfl⟩
theorem Kept.ns {h h' : Heap} {a : Addr} {m : Str → Option Value} (hn : h.Ns a m) (k : ∀ o, h.get? a = some o → Kept o (h'.get? a)) : h'.Ns a m := by
  obtain ⟨o, es, ep, ho, hd, r⟩ := hn
  obtain ⟨o', ho', hd', _⟩ := (k o ho).data
  exact ⟨o', es, ep, ho', hd'.trans hd, r⟩
theorem Kept.cell {h h' : Heap} {a : Addr} {v : Option Value} (hn : h.IsCell a v) (k : ∀ o, h.get? a = some o → Kept o (h'.get? a)) : h'.IsCell a v := by
  obtain ⟨o, ho, hd⟩ := hn
  obtain ⟨o', ho', hd', _⟩ := (k o ho).data
  exact ⟨o', ho', hd'.trans hd⟩
section
variable {C : Cx} {sn : Snap} {A : Around} {env env' : Env} {ρ ρ' : Str → Option V} {H H' : AH} {s s' : Shared}
theorem Inv.over (I : Inv C sn env ρ H s) {own' fz' : List Addr} (J : Inv C ⟨s.heap, H, own', fz'⟩ env' ρ' H' s') {b : Addr} {o : Obj} (hb : s.heap.get? b = some o) (hn : H.get b = none) (ho : b ∉ own') :
    H'.get b = none ∧ Kept o (s'.heap.get? b) := J.hid b o hb hn ho
theorem Inv.back (I : Inv C sn env ρ H s) (J : Inv C ⟨s.heap, H, [], sn.fz⟩ env' ρ' H' s') : Inv C sn env ρ H' s' := by
  have own : ∀ b ∈ ownOf env, ∀ o, s.heap.get? b = some o → H'.get b = none ∧ Kept o (s'.heap.get? b) := fun b hb o ho => I.over J ho (I.fresh b hb).1 (by simp)
  refine ⟨I.ok, J.base, J.nodes, J.new, fun b o e e1 e2 => ?_, fun b hb => ?_, ?_, fun p hp => ?_, J.gens, J.os, I.mine, fun b hb => ?_, fun b o e => ?_⟩
  · obtain ⟨q, r⟩ := I.hid b o e e1 e2
    obtain ⟨o', ho', _⟩ := r.data
    obtain ⟨q', r'⟩ := I.over J ho' q (by simp)
    exact ⟨q', r.trans fun o'' ho'' => by rw [ho'] at ho''; cases ho''; exact r'⟩
  · obtain ⟨o, ho⟩ := I.own_there hb
    exact ⟨(own b hb o ho).1, (I.fresh b hb).2⟩
  · obtain ⟨m, hm, hv⟩ := I.vars
    refine ⟨m, Kept.ns hm fun o ho => (own _ (List.mem_cons_self ..) o ho).2, fun x v e => ?_⟩
    obtain ⟨cv, a, q⟩ := hv x v e
    refine ⟨cv, ?_, q⟩
    rcases a with a | ⟨a, c, hc, hcell⟩
    · exact .inl a
    · exact .inr ⟨a, c, hc, Kept.cell hcell fun o ho => (own c (List.mem_cons_of_mem _ (List.mem_map.mpr ⟨_, mem_of_lookup hc, rfl⟩)) o ho).2⟩
  · obtain ⟨v, hcell⟩ := I.cells p hp
    exact ⟨v, Kept.cell hcell fun o ho => (own p.2 (List.mem_cons_of_mem _ (List.mem_map.mpr ⟨p, hp, rfl⟩)) o ho).2⟩
  · exact ⟨(J.frz b hb).1.trans (I.frz b hb).1, (J.frz b hb).2⟩
  · obtain ⟨o', ho'⟩ := I.live b o e
    exact J.live b o' ho'
theorem Inv.again (I : Inv C sn env ρ H s) {fz' : List Addr} (hf : ∀ b ∈ sn.fz, b ∈ fz') (J : Inv C ⟨s.heap, H, ownOf env, fz'⟩ env ρ' H' s') : Inv C sn env ρ' H' s' := by
  refine ⟨I.ok, J.base, J.nodes, J.new, fun b o e e1 e2 => ?_, J.fresh, J.vars, J.cells, J.gens, J.os, I.mine, fun b hb => ?_, fun b o e => ?_⟩
  · obtain ⟨q, r⟩ := I.hid b o e e1 e2
    obtain ⟨o', ho', _⟩ := r.data
    have hb : b ∉ ownOf env := fun hb => e2 (I.mine b hb o e)
    obtain ⟨q', r'⟩ := I.over J ho' q hb
    exact ⟨q', r.trans fun o'' ho'' => by rw [ho'] at ho''; cases ho''; exact r'⟩
  · exact ⟨(J.frz b (hf b hb)).1.trans (I.frz b hb).1, (J.frz b (hf b hb)).2⟩
  · obtain ⟨o', ho'⟩ := I.live b o e
    exact J.live b o' ho'
theorem Inv.snap (I : Inv C sn env ρ H s) {fz' : List Addr} (hf : ∀ b ∈ fz', ∃ n, H.get b = some n) : Inv C ⟨s.heap, H, ownOf env, fz'⟩ env ρ H s where
  ok := I.ok
  base := I.base
  nodes := I.nodes
  new := I.new
  hid := fun b o e e1 _ => ⟨e1, by rw [e]; exact Kept.refl o⟩
  fresh := I.fresh
  vars := I.vars
  cells := I.cells
  gens := I.gens
  os := I.os
  mine := fun b hb _ _ => hb
  frz := fun b hb => ⟨rfl, hf b hb⟩
  live := fun b o e => ⟨o, e⟩
end
noncomputable def Junk (C : Cx) (sn : Snap) (env : Env) (H : AH) (b : Addr) : Prop := H.get b = none ∧ b ∉ ownOf env ∧ C.h₀.get? b = none ∧ sn.h.get? b = none
inductive NotedAt (C : Cx) (sn : Snap) (env : Env) (H : AH) (a : Addr) (fl : Value) (vs : Array Value) (s : Shared) : Prop
  | mk (T : Addr) (oT : Obj) (ts : Array Value) (h0 : vs[1]? = some (.ref T)) (h1 : T ≠ a) (h2 : Junk C sn env H T) (h3 : s.heap.get? T = some oT) (h4 : oT.data = .fields ts) (h5 : ts[3]? = some fl) : NotedAt C sn env H a fl vs s
inductive ExcFly (C : Cx) (sn : Snap) (env : Env) (H : AH) (cls e : Value) (st : Option Value) (s : Shared) : Prop
  | mk (a : Addr) (oe : Obj) (vs : Array Value) (h0 : e = .ref a) (h1 : s.heap.get? a = some oe) (h2 : oe.cls = cls) (h3 : oe.data = .fields vs) (h4 : 1 < vs.size) (h5 : Junk C sn env H a)
    (h6 : match st with
      | none => vs[1]? = some .none
      | some fl => NotedAt C sn env H a fl vs s) : ExcFly C sn env H cls e st s
structure FlyS (C : Cx) (sn : Snap) (env : Env) (ρ : Str → Option V) (H : AH) (cls : Value) (e : Value) (st : Option Value) (s : Shared) : Prop where
  inv : Inv C sn env ρ H s
  exc : ExcFly C sn env H cls e st s
noncomputable def Fly (C : Cx) (sn : Snap) (env : Env) (ρ : Str → Option V) (H : AH) (cls : Value) (e : Value) (s : Shared) : Prop :=
  ∃ st, (st = none ∨ st = some .none ∨ st = some (rawInt env.locals)) ∧ FlyS C sn env ρ H cls e st s
noncomputable abbrev Exc := Value → (Str → Option V) → AH → Prop
noncomputable def Exits (C : Cx) (sn : Snap) (env : Env) (X : Exc) (E : Value → Shared → Prop) : Prop := ∀ cls ρ H e s, X cls ρ H → Fly C sn env ρ H cls e s → E e s
structure Stk (C : Cx) (sn : Snap) (A : Around) (env : Env) : Prop where
  frame : env.frame = some env.locals
  stack : ∃ outer, A.frames = some (env :: outer) ∧ ∀ f ∈ outer, f.scope.kind ≠ .module ∧ ∃ b o, f.frame = some b ∧ sn.h.get? b = some o ∧ (∃ es ep, o.data = .dict es ep) ∧ sn.H.get b = none ∧ b ∉ sn.own ∧ C.h₀.get? b = none
section
variable {C : Cx} {sn : Snap} {A : Around} {env : Env} {ρ : Str → Option V} {H : AH} {s : Shared} {E : Value → Shared → Prop}
theorem Inv.slots (I : Inv C sn env ρ H s) {h' : Heap} {fr : List Addr} (jk : Addr → Prop) (hj : ∀ b, jk b → Junk C sn env H b)
    (hfr : ∀ b ∈ fr, b = env.locals ∨ ∃ o, sn.h.get? b = some o ∧ (∃ es ep, o.data = .dict es ep) ∧ sn.H.get b = none ∧ b ∉ sn.own ∧ C.h₀.get? b = none)
    (k1 : ∀ b o, s.heap.get? b = some o → b ∉ fr → ¬ jk b → h'.get? b = some o) (k2 : ∀ b ∈ fr, ∀ o, s.heap.get? b = some o → ∃ sl, h'.get? b = some { o with slots := sl }) :
    Inv C sn env ρ H { s with heap := h' } := by
  have base : ∀ b ∈ fr, C.h₀.get? b = none := fun b hb => by
    rcases hfr b hb with rfl | ⟨o, _, _, _, _, h⟩
    · exact (I.fresh _ (List.mem_cons_self ..)).2
    · exact h
  have vis : ∀ b ∈ fr, H.get b = none := fun b hb => by
    rcases hfr b hb with rfl | ⟨o, e, _, e1, e2, _⟩
    · exact (I.fresh _ (List.mem_cons_self ..)).1
    · exact (I.hid b o e e1 e2).1
  have up : ∀ b o, s.heap.get? b = some o → ¬ jk b → ∃ sl, h'.get? b = some { o with slots := sl } := fun b o e hn => by
    by_cases hb : b ∈ fr
    · exact k2 b hb o e
    · exact ⟨o.slots, k1 b o e hb hn⟩
  have ownj : ∀ b ∈ ownOf env, ¬ jk b := fun b hb hjb => (hj b hjb).2.1 hb
  refine ⟨I.ok, fun b o e => ?_, fun b n e => ?_, I.new, fun b o e e1 e2 => ?_, I.fresh, ?_, fun p hp => ?_, I.gens, I.os, I.mine, fun b hb => ?_, fun b o e => ?_⟩
  · refine k1 b o (I.base b o e) (fun hb => ?_) fun hb => ?_
    · rw [base b hb] at e; cases e
    · rw [(hj b hb).2.2.1] at e; cases e
  · refine (I.nodes b n e).at fun o ho => k1 b o ho (fun hb => ?_) fun hb => ?_
    · rw [vis b hb] at e; cases e
    · rw [(hj b hb).1] at e; cases e
  · obtain ⟨q, r⟩ := I.hid b o e e1 e2
    refine ⟨q, ?_⟩
    obtain ⟨sl, e', hq⟩ := r
    have hnj : ¬ jk b := fun hb => by rw [(hj b hb).2.2.2] at e; cases e
    obtain ⟨sl', e''⟩ := up b _ e' hnj
    refine ⟨sl', e'', fun hd => ?_⟩
    by_cases hb : b ∈ fr
    · exfalso
      rcases hfr b hb with rfl | ⟨o', e3, ⟨es, ep, hd'⟩, _⟩
      · exact e2 (I.mine _ (List.mem_cons_self ..) o e)
      · rw [e] at e3; cases e3; exact hd es ep hd'
    · have := k1 b _ e' hb hnj
      rw [show ({ s with heap := h' } : Shared).heap.get? b = h'.get? b from rfl, this] at e''
      injection e'' with e''
      injection e'' with _ _ _ e4
      rw [← e4]; exact hq hd
  · obtain ⟨m, ⟨o, es, ep, ho, hd, r⟩, hv⟩ := I.vars
    obtain ⟨sl, ho'⟩ := up _ o ho (ownj _ (List.mem_cons_self ..))
    refine ⟨m, ⟨_, es, ep, ho', hd, r⟩, fun x v e => ?_⟩
    obtain ⟨cv, a, q⟩ := hv x v e
    refine ⟨cv, ?_, q⟩
    rcases a with a | ⟨a, c, hc, oc, hoc, hdc⟩
    · exact .inl a
    · obtain ⟨sl, hoc'⟩ := up c oc hoc (ownj c (List.mem_cons_of_mem _ (List.mem_map.mpr ⟨_, mem_of_lookup hc, rfl⟩)))
      exact .inr ⟨a, c, hc, _, hoc', hdc⟩
  · obtain ⟨v, oc, hoc, hdc⟩ := I.cells p hp
    obtain ⟨sl, hoc'⟩ := up p.2 oc hoc (ownj p.2 (List.mem_cons_of_mem _ (List.mem_map.mpr ⟨p, hp, rfl⟩)))
    exact ⟨v, _, hoc', hdc⟩
  · obtain ⟨q, n, e⟩ := I.frz b hb
    obtain ⟨o, ho, _⟩ := I.nodes b n e
    refine ⟨?_, n, e⟩
    rw [← q, ho]
    refine k1 b o ho (fun hb => ?_) fun hb => ?_
    · rw [vis b hb] at e; cases e
    · rw [(hj b hb).1] at e; cases e
  · obtain ⟨o', ho'⟩ := I.live b o e
    obtain ⟨sl, h⟩ := up b o' ho' fun hb => by rw [(hj b hb).2.2.2] at e; cases e
    exact ⟨_, h⟩
end
end Mine
namespace Mine
open PySem PySem.Calls PySem.SeqAt PySem.W
section
variable {C : Cx} {sn : Snap} {A : Around} {env : Env} {ρ : Str → Option V} {H : AH} {s : Shared} {E : Value → Shared → Prop} {cls e : Value}
theorem Inv.junk_of_new (I : Inv C sn env ρ H s) {b : Addr} (h : s.heap.get? b = none) : Junk C sn env H b := by
  refine ⟨I.none_of_new h, fun hb => ?_, ?_, ?_⟩
  · obtain ⟨o, ho⟩ := I.own_there hb; rw [h] at ho; cases ho
  · cases q : C.h₀.get? b with
    | none => rfl
    | some o => have := I.base b o q; rw [h] at this; cases this
  · cases q : sn.h.get? b with
    | none => rfl
    | some o => obtain ⟨o', ho'⟩ := I.live b o q; rw [h] at ho'; cases ho'
theorem Stk.facts (S : Stk C sn A env) (I : Inv C sn env ρ H s) : ∃ outer, A.frames = some (env :: outer) ∧
    (∀ b ∈ (env :: outer).filterMap (·.frame), b = env.locals ∨ ∃ o, sn.h.get? b = some o ∧ (∃ es ep, o.data = .dict es ep) ∧ sn.H.get b = none ∧ b ∉ sn.own ∧ C.h₀.get? b = none) ∧
    (∀ b ∈ (env :: outer).filterMap (·.frame), ∃ o, s.heap.get? b = some o ∧ ∀ vs, o.data ≠ .fields vs) ∧
    ∀ B : Heap, (∀ b ∈ (env :: outer).filterMap (·.frame), B.get? b = none) → s.heap.FunFrames B (env :: outer) := by
  obtain ⟨outer, hfr, hout⟩ := S.stack
  have key : ∀ b ∈ (env :: outer).filterMap (·.frame), b = env.locals ∨ ∃ o, sn.h.get? b = some o ∧ (∃ es ep, o.data = .dict es ep) ∧ sn.H.get b = none ∧ b ∉ sn.own ∧ C.h₀.get? b = none := fun b hb => by
    obtain ⟨f, hf, hfb⟩ := List.mem_filterMap.mp hb
    rcases List.mem_cons.mp hf with rfl | hf
    · rw [S.frame] at hfb; exact .inl (Option.some.inj hfb).symm
    · obtain ⟨_, b', o, h1, h2⟩ := hout f hf
      rw [h1] at hfb; cases hfb
      exact .inr ⟨o, h2⟩
  have there : ∀ b ∈ (env :: outer).filterMap (·.frame), ∃ o, s.heap.get? b = some o ∧ ∀ vs, o.data ≠ .fields vs := fun b hb => by
    rcases key b hb with rfl | ⟨o, h1, ⟨es, ep, hd⟩, h3, h4, h5⟩
    · obtain ⟨m, ⟨o, es, ep, ho, hd, _⟩, _⟩ := I.vars
      exact ⟨o, ho, fun vs q => by rw [hd] at q; cases q⟩
    · obtain ⟨o', ho', hd', _⟩ := (I.hid b o h1 h3 h4).2.data
      exact ⟨o', ho', fun vs q => by rw [hd', hd] at q; cases q⟩
  refine ⟨outer, hfr, key, there, fun B hB => ?_⟩
  have fun_all : ∀ l : List Env, (∀ f ∈ l, f ∈ env :: outer) → s.heap.FunFrames B l := by
    intro l
    induction l with
    | nil => intro _; trivial
    | cons f r ih =>
      intro hl
      have hf := hl f (List.mem_cons_self ..)
      refine ⟨?_, ?_, ih fun g hg => hl g (List.mem_cons_of_mem _ hg)⟩
      · rcases List.mem_cons.mp hf with rfl | hf
        · rw [I.ok.kind]; decide
        · exact (hout f hf).1
      · have : ∃ b, f.frame = some b := by
          rcases List.mem_cons.mp hf with rfl | hf
          · exact ⟨_, S.frame⟩
          · obtain ⟨_, b', o, h1, _⟩ := hout f hf; exact ⟨b', h1⟩
        obtain ⟨b, hb⟩ := this
        have hm : b ∈ (env :: outer).filterMap (·.frame) := List.mem_filterMap.mpr ⟨f, hf, hb⟩
        obtain ⟨o, ho, hd⟩ := there b hm
        exact ⟨b, o, hb, hB b hm, ho, hd⟩
  exact fun_all _ fun f hf => hf
theorem FlyS.after {st : Option Value} {a : Addr} {jk : List Addr} {outer : List Env} {B h' : Heap} {fl a0 : Value} (I : Inv C sn env ρ H s) (hj : ∀ b ∈ a :: jk, Junk C sn env H b)
    (key : ∀ b ∈ (env :: outer).filterMap (·.frame), b = env.locals ∨ ∃ o, sn.h.get? b = some o ∧ (∃ es ep, o.data = .dict es ep) ∧ sn.H.get b = none ∧ b ∉ sn.own ∧ C.h₀.get? b = none)
    (there : ∀ b ∈ (env :: outer).filterMap (·.frame), ∃ o, s.heap.get? b = some o ∧ ∀ vs, o.data ≠ .fields vs)
    (hB : B = hideAll s.heap (a :: jk ++ (env :: outer).filterMap (·.frame))) (N : Heap.NotedW B (env :: outer) a cls a0 fl s.heap h') : FlyS C sn env ρ H cls (.ref a) (some fl) { s with heap := h' } := by
  subst hB
  obtain ⟨n1, n2, n3, n4⟩ := N
  have I' : Inv C sn env ρ H { s with heap := h' } := by
    refine I.slots (fr := (env :: outer).filterMap (·.frame)) (fun b => b ∈ a :: jk) hj key (fun b o e h1 h2 => ?_) fun b hb o e => ?_
    · refine n1 b o (hideAll_get _ e fun hm => ?_)
      rcases List.mem_append.mp hm with hm | hm
      · exact h2 hm
      · exact h1 hm
    · obtain ⟨o', ho', hd'⟩ := there b hb
      rw [e] at ho'; cases ho'
      exact n4 b o e hd'
  obtain ⟨oe, vs, T, oT, ts, he, ⟨hc, h0⟩, hd, h1, hT, hTa, hTo, hTd, h3⟩ := n3
  refine ⟨I', a, oe, vs, rfl, he, hc, hd, (Array.getElem?_eq_some_iff.mp h1).1, hj a (List.mem_cons_self ..), T, oT, ts, h1, hTa, ?_, hTo, hTd, h3⟩
  by_cases hTj : T ∈ a :: jk
  · exact hj T hTj
  · refine I.junk_of_new ?_
    cases q : s.heap.get? T with
    | none => rfl
    | some o =>
      exfalso
      by_cases hTf : T ∈ (env :: outer).filterMap (·.frame)
      · obtain ⟨_, o', ho', hd'⟩ := n2.mem hTf
        rw [hTo] at ho'; cases ho'; exact hd' ts hTd
      · have := hideAll_get (a :: jk ++ (env :: outer).filterMap (·.frame)) q fun hm => by
          rcases List.mem_append.mp hm with hm | hm
          · exact hTj hm
          · exact hTf hm
        rw [hT] at this; cases this
theorem Fly.noted (S : Stk C sn A env) (F : Fly C sn env ρ H cls e s) {Q : Unit → Shared → Prop} (h : ∀ s', FlyS C sn env ρ H cls e (some (rawInt env.locals)) s' → Q () s') : wpAny C.M A (noteFrame e env) Q E s := by
  obtain ⟨st, hst, I, a, oe, vs, rfl, he, hc, hd, hsz, hja, htr⟩ := F
  obtain ⟨outer, hfr, key, there, ff⟩ := S.facts I
  obtain ⟨a0, h0⟩ : ∃ a0, vs[0]? = some a0 := ⟨vs[0], by simp⟩
  rcases hst with rfl | rfl | rfl
  · have hj : ∀ b ∈ [a], Junk C sn env H b := fun b hb => by rw [List.mem_singleton.mp hb]; exact hja
    unfold noteFrame
    simp only [S.frame]
    refine wpAny_bind (wpAny_field he hd htr ?_)
    rw [if_neg (by decide)]
    subst hc
    exact wpAny_entryW hfr (ff (hideAll s.heap (a :: [] ++ (env :: outer).filterMap (·.frame))) fun b hb => hideAll_none _ (List.mem_append.mpr (.inr hb))) S.frame he
      (fun b o q => of_hideAll _ q) (hideAll_none _ (List.mem_append.mpr (.inl (List.mem_cons_self ..)))) hd hsz h0 fun h' N => h _ (FlyS.after (st := none) I hj key there rfl N)
  · obtain ⟨T, oT, ts, h1, hTa, hjT, hTo, hTd, h3⟩ := htr
    have hj : ∀ b ∈ [a, T], Junk C sn env H b := fun b hb => by
      rcases List.mem_cons.mp hb with rfl | hb
      · exact hja
      · rw [List.mem_singleton.mp hb]; exact hjT
    exact wpAny_noteFrame_onW hfr (ff (hideAll s.heap (a :: [T] ++ (env :: outer).filterMap (·.frame))) fun b hb => hideAll_none _ (List.mem_append.mpr (.inr hb))) S.frame
      ⟨oe, vs, T, oT, ts, he, ⟨hc, h0⟩, hd, h1, hideAll_none _ (List.mem_append.mpr (.inl (List.mem_cons_of_mem _ (List.mem_cons_self ..)))), hTa, hTo, hTd, h3⟩
      (fun b o q => of_hideAll _ q) (hideAll_none _ (List.mem_append.mpr (.inl (List.mem_cons_self ..)))) fun h' N => h _ (FlyS.after (st := none) I hj key there rfl N)
  · obtain ⟨T, oT, ts, h1, hTa, hjT, hTo, hTd, h3⟩ := htr
    refine wpAny_noteFrame_againW (base := {}) (a0 := a0) S.frame ⟨oe, vs, T, oT, ts, he, ⟨hc, h0⟩, hd, h1, ?_, hTa, hTo, hTd, h3⟩ (h _ ⟨I, a, oe, vs, rfl, he, hc, hd, hsz, hja, T, oT, ts, h1, hTa, hjT, hTo, hTd, h3⟩)
    cases q : Heap.get? {} T with
    | none => rfl
    | some o => exact absurd (Heap.lt_size q) (Nat.not_lt_zero _)
theorem FlyS.setFlight {fl : Value} {f : Option Addr} (F : FlyS C sn env ρ H cls e (some fl) s) {Q : Unit → Shared → Prop} (h : ∀ s', FlyS C sn env ρ H cls e (some (f.elim .none fun b => rawInt b)) s' → Q () s') : wpAny C.M A (setFlight e f) Q E s := by
  obtain ⟨I, a, oe, vs, rfl, he, hc, hd, hsz, hja, T, oT, ts, h1, hTa, hjT, hTo, hTd, h3⟩ := F
  have hsz3 : 3 < ts.size := (Array.getElem?_eq_some_iff.mp h3).1
  unfold PySem.setFlight
  refine wpAny_bind (wpAny_field he hd h1 ?_)
  rw [if_pos (show (Value.ref T != Value.none) = true from by simp)]
  refine wpAny_setField hTo hTd hsz3 (h _ ?_)
  have other : ∀ b, b ≠ T → (s.heap.update T (Obj.mapFields (·.setIfInBounds 3 (f.elim Value.none fun b => rawInt b)))).get? b = s.heap.get? b := fun b hb => Heap.get?_update_other _ _ (Ne.symm hb)
  refine ⟨I.slots (fr := []) (fun b => b = T) (fun b hb => hb ▸ hjT) (by simp) (fun b o q _ hn => (other b hn).trans q) (by simp), a, oe, vs, rfl, (other a (Ne.symm hTa)).trans he, hc, hd, hsz, hja, T, _, _, h1, hTa, hjT,
    Heap.get?_update_self _ hTo (Obj.isFreed_of_fields (Obj.data_mapFields hTd _)), Obj.data_mapFields hTd _, by simp [hsz3]⟩
theorem Exits.own {X : Exc} (S : Stk C sn A env) (hE : Exits C sn env X E) : Exits C sn env X (notedBy C.M A env (cameBackBy C.M A env E)) := by
  intro cls ρ H e s hx F
  unfold notedBy
  refine F.noted S fun s' F' => ?_
  unfold cameBackBy
  obtain ⟨I, a, oe, vs, rfl, he, hc, hd, hsz, hja, T, oT, ts, h1, r⟩ := id F'
  refine wpAny_bind (wpAny_field he hd h1 ?_)
  rw [if_neg (by simp)]
  rw [S.frame]
  exact F'.setFlight fun s'' F'' => hE cls ρ H _ s'' hx ⟨_, .inr (.inr rfl), F''⟩
theorem leaving_fly (S : Stk C sn A env) (F : Fly C sn env ρ H cls e s) {Q : Unit → Shared → Prop} (h : ∀ s', FlyS C sn env ρ H cls e (some .none) s' → Q () s') : wpAny C.M A (leaving env e) Q E s := by
  unfold leaving
  exact wpAny_bind (F.noted S fun s' F' => F'.setFlight h)
end
end Mine
namespace Mine
open PySem PySem.Calls PySem.SeqAt PySem.W
noncomputable def Frs (C : Cx) (sn : Snap) (A : Around) (env : Env) : Prop :=
  ∃ l, A.frames = some l ∧ ∀ f ∈ l, f.scope.kind ≠ .module ∧ ∃ b, f.frame = some b ∧
    (b = env.locals ∨ ∃ o, sn.h.get? b = some o ∧ (∃ es ep, o.data = .dict es ep) ∧ sn.H.get b = none ∧ b ∉ sn.own ∧ C.h₀.get? b = none)
theorem Stk.frs {C : Cx} {sn : Snap} {A : Around} {env : Env} (S : Stk C sn A env) (hk : env.scope.kind = .function) : Frs C sn A env := by
  obtain ⟨outer, hfr, hout⟩ := S.stack
  refine ⟨_, hfr, fun f hf => ?_⟩
  rcases List.mem_cons.mp hf with rfl | hf
  · exact ⟨by rw [hk]; decide, _, S.frame, .inl rfl⟩
  · obtain ⟨h1, b, o, h2, h3⟩ := hout f hf
    exact ⟨h1, b, h2, .inr ⟨o, h3⟩⟩
structure Good (C : Cx) (fz : List Nat) (d : Nat) (free : Bool) (sn : Snap) (A : Around) (env : Env) : Prop where
  fz : sn.fz = fz
  hd : free = true → A.handled = none
  depth : A.depth + d < recursionLimit
  units : A.units + 3 * d + 300 < cLine
  frs : Frs C sn A env
theorem Good.room {C : Cx} {fz : List Nat} {d : Nat} {free : Bool} {sn : Snap} {A : Around} {env : Env} (G : Good C fz d free sn A env) : Room A := by
  have := G.units; unfold Room; omega
noncomputable def CallsTo (C : Cx) (fz : List Nat) (d : Nat) (free : Bool) (f : Value) (vs : List V) (Q : V → AH → Prop) (X : Value → AH → Prop) (H : AH) : Prop :=
  ∀ sn A env ρ E cvs, cvs.map toV = vs → Good C fz d free sn A env → Exits C sn env (fun cls ρ' H' => ρ' = ρ ∧ X cls H') E →
    TM C sn A env ρ (call f cvs) (fun v H' => Q (toV v) H') E H
inductive FnAt (C : Cx) (a : Addr) (ps : List Str) (body : List Stmt) (scope : Scope) : Prop
  | mk (o : Obj) (fd : FuncData) (h0 : C.h₀.get? a = some o) (h1 : o.data = .func fd) (h2 : fd.body = .stmts body) (h3 : fd.scope = scope) (h4 : fd.globals = mainGlobals) (h5 : fd.builtins = builtinsNs) (h6 : fd.closure = [])
    (h7 : C.h₀.CodeRec fd.code fd.qualname) (h8 : ∀ vals : List Value, vals.length = ps.length → bindArgs fd ⟨vals, []⟩ = pure (ps.zip vals)) : FnAt C a ps body scope
noncomputable def nodupS : List Str → Bool
  | [] => true
  | x :: r => !(r.contains x) && nodupS r
theorem nodupS_iff : ∀ {l : List Str}, nodupS l = true → l.Nodup
  | [], _ => List.nodup_nil
  | x :: r, h => by
    simp only [nodupS, Bool.and_eq_true, Bool.not_eq_true', List.contains_eq_mem, decide_eq_false_iff_not] at h
    exact List.nodup_cons.mpr ⟨h.1, nodupS_iff h.2⟩
noncomputable def scopeOk (scope : Scope) (ps : List Str) : Bool :=
  scope.kind == .function && !scope.isGenerator && !scope.isCoroutine && nodupS (scope.names.map (·.1)) && nodupS ps &&
    (scope.names.all fun x => x.2 != .free) && ps.all fun x => scope.names.lookup x == some .local || scope.names.lookup x == some .cell
noncomputable def kdOf (scope : Scope) (x : Str) : Option NameKind := scope.names.lookup x
noncomputable def argsOf (ps : List Str) (vs : List V) (x : Str) : Option V := (ps.zip vs).lookup x
theorem cellsFrom_some : ∀ (names : List (Str × NameKind)) (n : Nat) (acc : List (Str × Addr)) (x : Str), names.lookup x = some .cell ∨ (acc.lookup x).isSome = true → ((cellsFrom n names acc).lookup x).isSome = true
  | [], _, _, x, h => by
    rcases h with h | h
    · cases h
    · exact h
  | (name, kind) :: r, n, acc, x, h => by
    unfold cellsFrom
    by_cases hx : x == name
    · split
      · refine cellsFrom_some r _ _ x (.inr ?_)
        simp [List.lookup_cons, hx]
      · rename_i hk
        refine cellsFrom_some r _ _ x (.inr ?_)
        rcases h with h | h
        · simp only [List.lookup_cons, hx] at h
          cases h; exact absurd rfl hk
        · exact h
    · have hx' : (x == name) = false := by simpa using hx
      rw [List.lookup_cons, hx'] at h
      split
      · refine cellsFrom_some r _ _ x ?_
        rcases h with h | h
        · exact .inl h
        · refine .inr ?_; rw [List.lookup_cons, hx']; exact h
      · exact cellsFrom_some r _ _ x h
theorem cellsFrom_keys : ∀ (names : List (Str × NameKind)) (n : Nat) (acc : List (Str × Addr)), (names.map (·.1)).Nodup → (acc.map (·.1)).Nodup → (∀ x ∈ acc.map (·.1), x ∉ names.map (·.1)) → ((cellsFrom n names acc).map (·.1)).Nodup
  | [], _, _, _, h, _ => h
  | (name, kind) :: r, n, acc, h1, h2, h3 => by
    rw [List.map_cons, List.nodup_cons] at h1
    unfold cellsFrom
    split
    · refine cellsFrom_keys r _ _ h1.2 ?_ fun x hx => ?_
      · rw [List.map_cons, List.nodup_cons]
        exact ⟨fun hm => h3 name hm (by simp), h2⟩
      · rw [List.map_cons] at hx
        rcases List.mem_cons.mp hx with rfl | hx
        · exact h1.1
        · exact fun hm => h3 x hx (by rw [List.map_cons]; exact List.mem_cons_of_mem _ hm)
    · exact cellsFrom_keys r _ _ h1.2 h2 fun x hx hm => h3 x hx (by rw [List.map_cons]; exact List.mem_cons_of_mem _ hm)
theorem lookup_of_mem {α : Type} : ∀ {l : List (Str × α)}, (l.map (·.1)).Nodup → ∀ {p : Str × α}, p ∈ l → l.lookup p.1 = some p.2
  | [], _, _, h => by cases h
  | (k, v) :: r, nd, p, h => by
    rw [List.map_cons, List.nodup_cons] at nd
    rcases List.mem_cons.mp h with rfl | h'
    · simp
    · have : (p.1 == k) = false := by
        simp only [beq_eq_false_iff_ne]; rintro rfl; exact nd.1 (List.mem_map.mpr ⟨p, h', rfl⟩)
      rw [List.lookup_cons, this]; exact lookup_of_mem nd.2 h'
theorem bindL_other (kd : Str → Option NameKind) : ∀ (b : List (Str × Value)) (m : Str → Option Value) (x : Str), x ∉ b.map (·.1) → bindL kd b m x = m x
  | [], _, _, _ => rfl
  | (n, v) :: r, m, x, h => by
    rw [List.map_cons, List.mem_cons, not_or] at h
    unfold bindL
    rw [bindL_other kd r _ x h.2]
    split
    · simp [h.1]
    · rfl
theorem bindC_other (kd : Str → Option NameKind) : ∀ (b : List (Str × Value)) (m : Str → Option Value) (x : Str), x ∉ b.map (·.1) → bindC kd b m x = m x
  | [], _, _, _ => rfl
  | (n, v) :: r, m, x, h => by
    rw [List.map_cons, List.mem_cons, not_or] at h
    unfold bindC
    rw [bindC_other kd r _ x h.2]
    split
    · rfl
    · simp [h.1]
theorem bind_get (kd : Str → Option NameKind) : ∀ (b : List (Str × Value)) (m m' : Str → Option Value) (x : Str) (v : Value), (b.map (·.1)).Nodup → b.lookup x = some v →
    (kd x = some .local → bindL kd b m x = some v) ∧ (kd x ≠ some .local → bindC kd b m' x = some v)
  | [], _, _, _, _, _, h => by cases h
  | (n, u) :: r, m, m', x, v, nd, h => by
    rw [List.map_cons, List.nodup_cons] at nd
    by_cases hx : x = n
    · subst hx
      simp only [List.lookup_cons, beq_self_eq_true] at h
      cases h
      refine ⟨fun hk => ?_, fun hk => ?_⟩
      · unfold bindL; rw [bindL_other kd r _ x nd.1, if_pos hk]; simp
      · unfold bindC; rw [bindC_other kd r _ x nd.1, if_neg hk]; simp
    · have hb : (x == n) = false := by simpa using hx
      rw [List.lookup_cons, hb] at h
      unfold bindL bindC
      exact bind_get kd r _ _ x v nd.2 h
theorem lookup_zip_map : ∀ (ps : List Str) (cvs : List Value) (x : Str), (ps.zip (cvs.map toV)).lookup x = ((ps.zip cvs).lookup x).map toV
  | [], _, _ => by simp
  | _ :: _, [], _ => by simp
  | p :: ps, v :: cvs, x => by
    simp only [List.map_cons, List.zip_cons_cons, List.lookup_cons]
    split <;> first | rfl | exact lookup_zip_map ps cvs x
section
variable {C : Cx} {sn : Snap} {A : Around} {env : Env} {ρ : Str → Option V} {H : AH} {s : Shared} {E : Value → Shared → Prop}
theorem FlyS.back {env' : Env} {ρ' : Str → Option V} {H' : AH} {cls e : Value} {st : Option Value} {s' : Shared} (I : Inv C sn env ρ H s) (F : FlyS C ⟨s.heap, H, [], sn.fz⟩ env' ρ' H' cls e st s') : FlyS C sn env ρ H' cls e st s' := by
  have jk : ∀ b, Junk C ⟨s.heap, H, [], sn.fz⟩ env' H' b → Junk C sn env H' b := fun b hb => by
    have hn : s.heap.get? b = none := hb.2.2.2
    refine ⟨hb.1, fun ho => ?_, hb.2.2.1, ?_⟩
    · obtain ⟨o, ho⟩ := I.own_there ho; rw [hn] at ho; cases ho
    · cases q : sn.h.get? b with
      | none => rfl
      | some o => obtain ⟨o', ho'⟩ := I.live b o q; rw [hn] at ho'; cases ho'
  obtain ⟨J, a, oe, vs, rfl, he, hc, hd, hsz, hja, htr⟩ := F
  refine ⟨I.back J, a, oe, vs, rfl, he, hc, hd, hsz, jk a hja, ?_⟩
  cases st with
  | none => exact htr
  | some fl =>
    obtain ⟨T, oT, ts, h1, h2, h3, h4, h5, h6⟩ := htr
    exact ⟨T, oT, ts, h1, h2, jk T h3, h4, h5, h6⟩
theorem callsTo_of {a : Addr} {ps : List Str} {body : List Stmt} {scope : Scope} {fz : List Nat} {d : Nat} {free : Bool} {vs : List V} {Q : V → AH → Prop} {X : Value → AH → Prop}
    (F : FnAt C a ps body scope) (hs : scopeOk scope ps = true) (hl : vs.length = ps.length)
    (h : ∀ sn A env E, Good C fz d free sn A env → Stk C sn A env → (∀ x, env.kindOf x = kdOf scope x) → Exits C sn env (fun cls _ H' => X cls H') E →
      TR C sn A env (execs body env) (fun f _ H' => Q (match f with | .ret v => toV v | _ => .none) H') E (argsOf ps vs) H) :
    CallsTo C fz (d + 1) free (.ref a) vs Q X H := by
  intro sn A env ρ E cvs hcv G hE s I
  obtain ⟨o, fd, ho, hd, hb, rfl, hg, hbi, hcl, hcd, hba⟩ := F
  simp only [scopeOk, Bool.and_eq_true, beq_iff_eq, Bool.not_eq_true', List.all_eq_true, bne_iff_ne, Bool.or_eq_true] at hs
  obtain ⟨⟨⟨⟨⟨⟨hk, hgen⟩, hco⟩, nd1⟩, nd2⟩, hfree⟩, hps⟩ := hs
  have nd1 := nodupS_iff nd1
  have nd2 := nodupS_iff nd2
  have hlen : cvs.length = ps.length := by rw [← hl, ← hcv]; simp
  have fresh : ∀ b, s.heap.objs.size ≤ b → s.heap.get? b = none := fun b hb => by
    cases q : s.heap.get? b with
    | none => rfl
    | some o => exact absurd (Heap.lt_size q) (Nat.not_lt.mpr hb)
  have hkeys : ∀ x ∈ ps.zip cvs, x.1 ∈ ps := fun x hx => (List.of_mem_zip hx).1
  have hmap : (ps.zip cvs).map (·.1) = ps := by rw [← List.unzip_fst]; simp [List.unzip_zip, hlen]
  refine wpAny_call (codeAny_call_cells (by have := G.depth; omega) (I.base a o ho) hd (C.nolim.keeps I.base) (hcd.keeps I.base) hb (hba cvs hlen) hcl (fun x hx => ?_) (fun s₁ X₁ => ?_) hco hgen hk)
  · rcases hps x.1 (hkeys x hx) with q | q
    · exact .inl q
    · exact .inr ⟨q, cellsFrom_some _ _ _ _ (.inl q)⟩
  have EL : (callEnvC fd s.heap.objs.size a).locals = s.heap.objs.size := rfl
  have EC : (callEnvC fd s.heap.objs.size a).cells = cellsFrom (s.heap.objs.size + 1) fd.scope.names [] := rfl
  generalize hev : callEnvC fd s.heap.objs.size a = env' at X₁ ⊢
  have EK : ∀ x, env'.kindOf x = kdOf fd.scope x := fun x => by subst hev; rfl
  rw [hev] at EL EC
  obtain ⟨h₁, tk, rfl, hkeep⟩ := X₁.done
  have own : ∀ b ∈ ownOf env', s.heap.get? b = none := fun b hb => by
    rcases List.mem_cons.mp hb with rfl | hb
    · exact fresh _ (by rw [EL]; exact Nat.le_refl _)
    · obtain ⟨p, hp, rfl⟩ := List.mem_map.mp hb
      have := X₁.above p.1 p.2 hp
      rw [EL] at this
      exact fresh _ (Nat.le_of_lt this)
  have ckeys : (env'.cells.map (·.1)).Nodup := by rw [EC]; exact cellsFrom_keys _ _ _ nd1 List.nodup_nil (by simp)
  have ok : EnvOk env' := by
    refine ⟨by subst hev; exact hk, by subst hev; exact hg, by subst hev; exact hbi, ?_, fun x hx => ?_⟩
    · unfold ownOf
      refine List.nodup_cons.mpr ⟨fun hm => ?_, ?_⟩
      · obtain ⟨p, hp, e⟩ := List.mem_map.mp hm
        have := X₁.above p.1 p.2 hp
        rw [e] at this; exact Nat.lt_irrefl _ this
      · exact List.pairwise_map.mpr X₁.apart
    · rw [EK] at hx
      rcases hx with hx | hx
      · rw [EC]; exact Option.isSome_iff_exists.mp (cellsFrom_some _ _ _ _ (.inl hx))
      · exact absurd rfl (hfree _ (mem_of_lookup hx))
  have J : Inv C ⟨s.heap, H, [], sn.fz⟩ env' (argsOf ps vs) H { s with heap := h₁, toks := tk } := by
    refine ⟨ok, fun b o e => hkeep b o (I.base b o e), fun b n e => (I.nodes b n e).at (hkeep b), I.new, fun b o e e1 _ => ⟨e1, by rw [show ({ s with heap := h₁, toks := tk } : Shared).heap.get? b = some o from hkeep b o e]; exact Kept.refl o⟩,
      fun b hb => ⟨I.none_of_new (own b hb), ?_⟩, ⟨_, X₁.toInCall.ns, fun x v e => ?_⟩, fun p hp => ⟨_, X₁.cell p.1 p.2 (lookup_of_mem ckeys hp)⟩, I.gens, I.os, fun b hb o e => ?_, fun b hb => ?_, fun b o e => ⟨o, hkeep b o e⟩⟩
    · cases q : C.h₀.get? b with
      | none => rfl
      | some o => have := I.base b o q; rw [own b hb] at this; cases this
    · unfold argsOf at e
      rw [← hcv, lookup_zip_map] at e
      obtain ⟨cv, hcv1, rfl⟩ := Option.map_eq_some_iff.mp e
      refine ⟨cv, ?_, rfl⟩
      have hxp : x ∈ ps := hkeys _ (mem_of_lookup hcv1)
      obtain ⟨g1, g2⟩ := bind_get env'.kindOf (ps.zip cvs) (fun _ => none) (fun _ => none) x cv (by rw [hmap]; exact nd2) hcv1
      rcases hps x hxp with q | q
      · have : env'.kindOf x = some .local := (EK x).trans q
        exact .inl ⟨this, g1 this⟩
      · have hq : env'.kindOf x = some .cell := (EK x).trans q
        obtain ⟨c, hc⟩ := ok.cell x (.inl hq)
        refine .inr ⟨.inl hq, c, hc, ?_⟩
        have := X₁.cell x c hc
        rwa [g2 (by rw [hq]; decide)] at this
    · rw [own b hb] at e; cases e
    · obtain ⟨q, n, e⟩ := I.frz b hb
      obtain ⟨o, ho, _⟩ := I.nodes b n e
      refine ⟨?_, n, e⟩
      show h₁.get? b = s.heap.get? b
      rw [ho]; exact hkeep b o ho
  have S : Stk C ⟨s.heap, H, [], sn.fz⟩ (A.deeper env') env' := by
    obtain ⟨l, hl1, hl2⟩ := G.frs
    refine ⟨by subst hev; rfl, l, by simp [Around.deeper, hl1], fun f hf => ?_⟩
    obtain ⟨h1, b, h2, h3⟩ := hl2 f hf
    refine ⟨h1, b, ?_⟩
    rcases h3 with rfl | ⟨o, e1, ⟨es, ep, hdd⟩, e2, e3, e4⟩
    · obtain ⟨m, ⟨o, es, ep, ho, hdd, _⟩, _⟩ := I.vars
      exact ⟨o, h2, ho, ⟨es, ep, hdd⟩, (I.fresh _ (List.mem_cons_self ..)).1, by simp, (I.fresh _ (List.mem_cons_self ..)).2⟩
    · obtain ⟨q, r⟩ := I.hid b o e1 e2 e3
      obtain ⟨o', ho', hd', _⟩ := r.data
      exact ⟨o', h2, ho', ⟨es, ep, hd'.trans hdd⟩, q, by simp, e4⟩
  have G' : Good C fz d free ⟨s.heap, H, [], sn.fz⟩ (A.deeper env') env' := ⟨G.fz, G.hd, by have := G.depth; simp only [Around.deeper]; omega, by have := G.units; simp only [Around.deeper]; omega, S.frs ok.kind⟩
  refine wpAny_mono (h _ _ env' _ G' S EK ?_ _ J) (fun f s' hf => ?_) fun _ _ e => e
  · intro cls ρ' H' e s' hx Fl
    refine leaving_fly S Fl fun s'' F'' => ?_
    exact hE cls ρ H' e s'' ⟨rfl, hx⟩ ⟨_, .inr (.inl rfl), FlyS.back I F''⟩
  · obtain ⟨ρ', H', J', q⟩ := hf
    refine ⟨H', I.back J', ?_⟩
    cases f <;> exact q
end
end Mine
namespace Mine
open PySem PySem.Calls PySem.SeqAt PySem.W
set_option genCtorIdx false in
inductive Flw where
  | next | brk | cont | ret (v : V)
noncomputable def toF : Flow → Flw
  | .next => .next | .brk => .brk | .cont => .cont | .ret v => .ret (toV v)
noncomputable abbrev Env' := Str → Option V
section
variable {C : Cx} {sn : Snap} {A : Around} {env : Env} {ρ : Str → Option V} {H : AH} {s : Shared} {E : Value → Shared → Prop} {fz : List Nat} {d : Nat} {free : Bool}
theorem Inv.notOwn (I : Inv C sn env ρ H s) {b : Addr} {o : Obj} (h : sn.h.get? b = some o) (hn : b ∉ sn.own) : b ∉ ownOf env := fun hb => hn (I.mine b hb o h)
theorem FlyS.again {ρ' : Str → Option V} {H' : AH} {cls e : Value} {st : Option Value} {s' : Shared} {fz' : List Addr} (I : Inv C sn env ρ H s) (hf : ∀ b ∈ sn.fz, b ∈ fz') (F : FlyS C ⟨s.heap, H, ownOf env, fz'⟩ env ρ' H' cls e st s') :
    FlyS C sn env ρ' H' cls e st s' := by
  have jk : ∀ b, Junk C ⟨s.heap, H, ownOf env, fz'⟩ env H' b → Junk C sn env H' b := fun b hb => by
    have hn : s.heap.get? b = none := hb.2.2.2
    refine ⟨hb.1, hb.2.1, hb.2.2.1, ?_⟩
    cases q : sn.h.get? b with
    | none => rfl
    | some o => obtain ⟨o', ho'⟩ := I.live b o q; rw [hn] at ho'; cases ho'
  obtain ⟨J, a, oe, vs, rfl, he, hc, hd, hsz, hja, htr⟩ := F
  refine ⟨I.again hf J, a, oe, vs, rfl, he, hc, hd, hsz, jk a hja, ?_⟩
  cases st with
  | none => exact htr
  | some fl =>
    obtain ⟨T, oT, ts, h1, h2, h3, h4, h5, h6⟩ := htr
    exact ⟨T, oT, ts, h1, h2, jk T h3, h4, h5, h6⟩
theorem Exits.again {X : Exc} {fz' : List Addr} (I : Inv C sn env ρ H s) (hf : ∀ b ∈ sn.fz, b ∈ fz') (hE : Exits C sn env X E) : Exits C ⟨s.heap, H, ownOf env, fz'⟩ env X E :=
  fun cls ρ' H' e s' hx ⟨st, hst, F⟩ => hE cls ρ' H' e s' hx ⟨st, hst, F.again I hf⟩
theorem Stk.again {fz' : List Addr} (S : Stk C sn A env) (I : Inv C sn env ρ H s) : Stk C ⟨s.heap, H, ownOf env, fz'⟩ A env := by
  obtain ⟨outer, h1, h2⟩ := S.stack
  refine ⟨S.frame, outer, h1, fun f hf => ?_⟩
  obtain ⟨k1, b, o, k2, k3, ⟨es, ep, k4⟩, k5, k6, k7⟩ := h2 f hf
  obtain ⟨q, r⟩ := I.hid b o k3 k5 k6
  obtain ⟨o', ho', hd', _⟩ := r.data
  exact ⟨k1, b, o', k2, ho', ⟨es, ep, hd'.trans k4⟩, q, I.notOwn k3 k6, k7⟩
theorem Frs.again {fz' : List Addr} (S : Frs C sn A env) (I : Inv C sn env ρ H s) : Frs C ⟨s.heap, H, ownOf env, fz'⟩ A env := by
  obtain ⟨l, h1, h2⟩ := S
  refine ⟨l, h1, fun f hf => ?_⟩
  obtain ⟨k1, b, k2, k3⟩ := h2 f hf
  refine ⟨k1, b, k2, ?_⟩
  rcases k3 with k3 | ⟨o, k3, ⟨es, ep, k4⟩, k5, k6, k7⟩
  · exact .inl k3
  · obtain ⟨q, r⟩ := I.hid b o k3 k5 k6
    obtain ⟨o', ho', hd', _⟩ := r.data
    exact .inr ⟨o', ho', ⟨es, ep, hd'.trans k4⟩, q, I.notOwn k3 k6, k7⟩
theorem Good.again {more : List Nat} (G : Good C fz d free sn A env) (I : Inv C sn env ρ H s) : Good C (more ++ fz) d free ⟨s.heap, H, ownOf env, more ++ sn.fz⟩ A env :=
  ⟨by rw [← G.fz], G.hd, G.depth, G.units, G.frs.again I⟩
theorem ItemsV.src {v : V} {xs : List V} (h : ItemsV H v xs) : ∀ b ∈ srcOf v, ∃ n, H.get b = some n := by
  intro b hb
  unfold srcOf at hb
  split at hb
  · rw [List.mem_singleton] at hb
    subst hb
    unfold ItemsV at h
    simp only at h
    split at h <;> first | exact ⟨_, by assumption⟩ | exact h.elim
  · cases hb
noncomputable def turnEnd (R : Flw → Env' → AH → Prop) (J : Env' → AH → Prop) : Flw → Env' → AH → Prop
  | .next => J
  | .cont => J
  | .brk => R .next
  | .ret v => R (.ret v)
theorem tr_for {x : Str} {px pos : Pos} {iter : Expr} {body : List Stmt} {R : Flw → Env' → AH → Prop} {X : Exc}
    (G : Good C fz d true sn A env) (S : Stk C sn A env) (hE : Exits C sn env X E) (hk : env.kindOf x = some .local ∨ env.kindOf x = some .cell) (hs : ∀ v, foldedSetIterable iter env v = pure v)
    (h : TM C sn A env ρ (eval iter env) (fun v H₁ => ∃ xs, ItemsV H₁ (toV v) xs ∧ ∃ J : Nat → Env' → AH → Prop, J 0 ρ H₁ ∧
      (∀ k y ρ' H', xs[k]? = some y → J k ρ' H' → ∀ sn' E', Good C (srcOf (toV v) ++ fz) d true sn' A env → Stk C sn' A env → Exits C sn' env X E' →
        TR C sn' A env (execs body env) (fun f ρ'' H'' => turnEnd R (J (k + 1)) (toF f) ρ'' H'') E' (upd ρ' x y) H') ∧
      ∀ ρ' H', J xs.length ρ' H' → R .next ρ' H') E H) :
    TR C sn A env (exec (.For (.Name x px) iter body [] pos) env) (fun f ρ' H' => R (toF f) ρ' H') E ρ H := by
  intro s I
  refine wpAny_For (wpAny_mono (h s I) (fun v s₁ hv => ?_) fun _ _ e => e) hs
  obtain ⟨H₁, I₁, xs, hx, J, j0, hbody, hend⟩ := hv
  refine begun_iter I₁ hx fun o St P B => ?_
  have I₂ : Inv C sn env ρ H₁ { s₁ with heap := s₁.heap.push o } := I₁.keeps (tk := s₁.toks) fun b o e => Heap.get?_push_of_some _ e
  have jk : Junk C sn env H₁ s₁.heap.objs.size := I₁.junk_of_new (get_size _)
  generalize s₁.heap.objs.size = It at B jk
  have W := B.walks A (G.hd rfl)
  have hE' := Exits.own S hE
  refine codeAny_forLoop (fun n s' => ∃ k ρ' H', n = xs.length + 1 - k ∧ k ≤ xs.length ∧ Inv C sn env ρ' H' s' ∧ J k ρ' H' ∧ St k s'.heap ∧ Junk C sn env H' It ∧ ∀ b ∈ srcOf (toV v), ∃ n, H'.get b = some n) ?_ (xs.length + 1)
    ⟨0, ρ, H₁, rfl, Nat.zero_le _, I₂, j0, B.start, jk, hx.src⟩
  rintro n s' ⟨k, ρ', H', rfl, hkl, I', hJ, st, jk', src⟩
  by_cases hlt : k < xs.length
  · refine W.item k s' _ _ hlt st fun cv h' tk hP st' hkeep => ?_
    have I3 : Inv C sn env ρ' H' { s' with heap := h', toks := tk } :=
      (I'.slots (fr := []) (h' := h') (fun b => b = It) (fun b hb => hb ▸ jk') (by simp) (fun b o e _ hn => hkeep b o (by simpa using hn) e) (by simp)).toks tk
    have I4 := I3.snap (fz' := srcOf (toV v) ++ sn.fz) fun b hb => by
      rcases List.mem_append.mp hb with hb | hb
      · exact src b hb
      · exact (I'.frz b hb).2
    have hf : ∀ b ∈ sn.fz, b ∈ srcOf (toV v) ++ sn.fz := fun b hb => List.mem_append.mpr (.inr hb)
    refine wpAny_assign_Name (wpAny_mono (TR.storeVar (cv := cv) hk (Q := fun _ ρ'' H'' => ρ'' = upd ρ' x (toV cv) ∧ H'' = H') ⟨rfl, rfl⟩ _ I4) (fun _ s4 h4 => ?_) fun _ _ e => e)
    obtain ⟨_, _, I5, e5, e6⟩ := h4
    rw [e5, e6] at I5
    refine wpAny_mono (hbody k (toV cv) ρ' H' (B.item k cv hP) hJ _ _ (G.again I3) (S.again I3) (hE'.again I3 hf) s4 I5) (fun f s5 h5 => ?_) fun _ _ e => e
    obtain ⟨ρ'', H'', J5, q⟩ := h5
    have Ifin := I3.again hf J5
    obtain ⟨oI, vsI, hoI, hdI⟩ := B.obj _ _ st'
    obtain ⟨hI1, hI2⟩ := J5.hid It oI hoI jk'.1 jk'.2.1
    have hI3 := hI2.same fun es ep e => by rw [hdI] at e; cases e
    have more : ∃ m, m < xs.length + 1 - k ∧ (J (k + 1) ρ'' H'' → ∃ k' ρ' H', m = xs.length + 1 - k' ∧ k' ≤ xs.length ∧ Inv C sn env ρ' H' s5 ∧ J k' ρ' H' ∧ St k' s5.heap ∧ Junk C sn env H' It ∧ ∀ b ∈ srcOf (toV v), ∃ n, H'.get b = some n) := by
      refine ⟨xs.length + 1 - (k + 1), Nat.sub_lt_sub_left (Nat.lt_succ_of_lt hlt) (Nat.lt_succ_self k), fun hJ' => ⟨k + 1, ρ'', H'', rfl, hlt, Ifin, hJ', W.frame _ _ _ st' fun b hb o e => ?_, ⟨hI1, jk'.2⟩, fun b hb => (J5.frz b (List.mem_append.mpr (.inl hb))).2⟩⟩
      rcases List.mem_cons.mp hb with rfl | hb
      · rw [hoI] at e; cases e; exact hI3
      · exact (J5.frz b (List.mem_append.mpr (.inl hb))).1.trans e
    obtain ⟨m, hm, hmore⟩ := more
    cases f with
    | next => exact ⟨m, hm, hmore q⟩
    | cont => exact ⟨m, hm, hmore q⟩
    | brk => exact ⟨ρ'', H'', Ifin, q⟩
    | ret v => exact ⟨ρ'', H'', Ifin, q⟩
  · have hk0 : k = xs.length := by omega
    subst hk0
    refine W.done s' _ _ st fun h' tk hkeep => ?_
    have I3 : Inv C sn env ρ' H' { s' with heap := h', toks := tk } :=
      (I'.slots (fr := []) (h' := h') (fun b => b = It) (fun b hb => hb ▸ jk') (by simp) (fun b o e _ hn => hkeep b o (by simpa using hn) e) (by simp)).toks tk
    exact wpAny_execs_nil ⟨ρ', H', I3, hend ρ' H' hJ⟩
end
end Mine
namespace Mine
open PySem PySem.Calls PySem.SeqAt PySem.W
noncomputable def kdC (scope : Scope) (kd : Str → Option NameKind) (y : Str) : Option NameKind :=
  (scope.names.map fun x => if x.2 == .free && kd x.1 == some .cell then (x.1, NameKind.cell) else x).lookup y
noncomputable def capt (scope : Scope) (kd : Str → Option NameKind) (ρ : Env') : Env' := fun y => if kdC scope kd y = some .cell then ρ y else none
noncomputable def compOk (scope : Scope) (kd : Str → Option NameKind) (x : Str) : Bool :=
  scope.kind == .function && nodupS (scope.names.map (·.1)) && scope.names.lookup x == some .local &&
    scope.names.all fun y => y.2 != .cell && (y.2 != .free || kd y.1 == some .cell)
noncomputable def clOf (env : Env) : List (Str × NameKind) → List (Str × Addr) → List (Str × Addr)
  | [], acc => acc
  | (n, k) :: r, acc => if k == .free then clOf env r ((n, (env.cells.lookup n).getD 0) :: acc) else clOf env r acc
theorem closureFor_of {scope : Scope} {env : Env} (h : ∀ y ∈ scope.names, y.2 = .free → ∃ c, env.cells.lookup y.1 = some c) : closureFor scope env = pure (clOf env scope.names []) := by
  have key : ∀ (names : List (Str × NameKind)) (acc : List (Str × Addr)), (∀ y ∈ names, y.2 = .free → ∃ c, env.cells.lookup y.1 = some c) →
      (forIn names acc fun (x : Str × NameKind) (r : List (Str × Addr)) => (if x.2 == .free then (do let c ← cellOf env x.1; pure (ForInStep.yield ((x.1, c) :: r))) else pure (ForInStep.yield r) : Sem (ForInStep (List (Str × Addr))))) = pure (clOf env names acc) := by
    intro names
    induction names with
    | nil => intro acc _; rfl
    | cons y r ih =>
      intro acc hy
      obtain ⟨n, k⟩ := y
      rw [List.forIn_cons]
      unfold clOf
      by_cases hk : k = .free
      · subst hk
        obtain ⟨c, hc⟩ := hy (n, .free) (List.mem_cons_self ..) rfl
        have hc : env.cells.lookup n = some c := hc
        simp only [beq_self_eq_true, if_true, hc, Option.getD_some]
        have : cellOf env n = pure c := by unfold cellOf; rw [hc]
        rw [this]
        exact ih _ fun y h => hy y (List.mem_cons_of_mem _ h)
      · have hb : (k == NameKind.free) = false := by simpa using hk
        simp only [hb, Bool.false_eq_true, if_false]
        exact ih _ fun y h => hy y (List.mem_cons_of_mem _ h)
  unfold closureFor
  have := key scope.names [] h
  simp only [bind_pure]
  exact this
theorem clOf_mem {env : Env} : ∀ (names : List (Str × NameKind)) (acc : List (Str × Addr)) (p : Str × Addr), p ∈ clOf env names acc ↔ p ∈ acc ∨ ((p.1, NameKind.free) ∈ names ∧ p.2 = (env.cells.lookup p.1).getD 0)
  | [], acc, p => by simp [clOf]
  | (n, k) :: r, acc, p => by
    unfold clOf
    by_cases hk : k = .free
    · subst hk
      simp only [beq_self_eq_true, if_true]
      rw [clOf_mem r _ p]
      constructor
      · rintro (h | ⟨h1, h2⟩)
        · rcases List.mem_cons.mp h with rfl | h
          · exact .inr ⟨List.mem_cons_self .., rfl⟩
          · exact .inl h
        · exact .inr ⟨List.mem_cons_of_mem _ h1, h2⟩
      · rintro (h | ⟨h1, h2⟩)
        · exact .inl (List.mem_cons_of_mem _ h)
        · rcases List.mem_cons.mp h1 with e | h1
          · refine .inl ?_
            obtain ⟨p1, p2⟩ := p
            injection e with e1 e2
            simp only at e1 h2
            subst e1; subst h2
            exact List.mem_cons_self ..
          · exact .inr ⟨h1, h2⟩
    · have hb : (k == NameKind.free) = false := by simpa using hk
      simp only [hb, Bool.false_eq_true, if_false]
      rw [clOf_mem r _ p]
      constructor
      · rintro (h | ⟨h1, h2⟩)
        · exact .inl h
        · exact .inr ⟨List.mem_cons_of_mem _ h1, h2⟩
      · rintro (h | ⟨h1, h2⟩)
        · exact .inl h
        · rcases List.mem_cons.mp h1 with e | h1
          · injection e with e1 e2; exact absurd e2.symm hk
          · exact .inr ⟨h1, h2⟩
theorem clOf_keys {env : Env} : ∀ (names : List (Str × NameKind)) (acc : List (Str × Addr)), (names.map (·.1)).Nodup → (acc.map (·.1)).Nodup → (∀ x ∈ acc.map (·.1), x ∉ names.map (·.1)) → ((clOf env names acc).map (·.1)).Nodup
  | [], _, _, h, _ => h
  | (n, k) :: r, acc, h1, h2, h3 => by
    rw [List.map_cons, List.nodup_cons] at h1
    unfold clOf
    split
    · refine clOf_keys r _ h1.2 ?_ fun x hx => ?_
      · rw [List.map_cons, List.nodup_cons]
        exact ⟨fun hm => h3 n hm (by simp), h2⟩
      · rw [List.map_cons] at hx
        rcases List.mem_cons.mp hx with rfl | hx
        · exact h1.1
        · exact fun hm => h3 x hx (by rw [List.map_cons]; exact List.mem_cons_of_mem _ hm)
    · exact clOf_keys r _ h1.2 h2 fun x hx hm => h3 x hx (by rw [List.map_cons]; exact List.mem_cons_of_mem _ hm)
section
variable {C : Cx} {sn : Snap} {A : Around} {env cenv : Env} {ρ ρ' : Str → Option V} {H H' : AH} {s s' : Shared} {E : Value → Shared → Prop} {fz : List Nat} {d : Nat} {free : Bool} {kd : Str → Option NameKind} {scope : Scope}
theorem Inv.reveal (I : Inv C sn env ρ H s) {a : Addr} {n : Node} (j : Junk C sn env H a) (hn : NodeAt C s.heap a n) : Inv C sn env ρ (H.set a n) s := by
  refine ⟨I.ok, I.base, fun b m e => ?_, fun b m e r => ?_, fun b o e e1 e2 => ?_, fun b hb => ?_, I.vars, I.cells, I.gens, I.os, I.mine, fun b hb => ?_, I.live⟩
  · by_cases h : b = a
    · subst h; rw [AH.set_self] at e; cases e; exact hn
    · rw [AH.set_ne _ _ h] at e; exact I.nodes b m e
  · by_cases h : b = a
    · subst h; exact j.2.2.1
    · rw [AH.set_ne _ _ h] at e; exact I.new b m e r
  · obtain ⟨q, r⟩ := I.hid b o e e1 e2
    refine ⟨?_, r⟩
    rw [AH.set_ne _ _ ?_]; exact q
    rintro rfl; rw [j.2.2.2] at e; cases e
  · obtain ⟨q, r⟩ := I.fresh b hb
    refine ⟨?_, r⟩
    rw [AH.set_ne _ _ ?_]; exact q
    rintro rfl; exact j.2.1 hb
  · obtain ⟨q, m, e⟩ := I.frz b hb
    refine ⟨q, m, ?_⟩
    rw [AH.set_ne _ _ ?_]; exact e
    rintro rfl; rw [j.1] at e; cases e
theorem Inv.backC {cl : List (Str × Addr)} {fz' : List Addr} (I : Inv C sn env ρ H s) (J : Inv C ⟨s.heap, H, cl.map (·.2), fz'⟩ cenv ρ' H' s') (hf : ∀ b ∈ sn.fz, b ∈ fz') (hce : cenv.cells = cl)
    (hcl : ∀ p ∈ cl, env.cells.lookup p.1 = some p.2) (hcap : ∀ p ∈ cl, ∀ v, ρ p.1 = some v → ρ' p.1 = some v ∧ cenv.kindOf p.1 = some .cell ∧ cenv.cells.lookup p.1 = some p.2) : Inv C sn env ρ H' s' := by
  have sub : ∀ b ∈ cl.map (·.2), b ∈ ownOf env := fun b hb => by
    obtain ⟨p, hp, rfl⟩ := List.mem_map.mp hb
    exact List.mem_cons_of_mem _ (List.mem_map.mpr ⟨_, mem_of_lookup (hcl p hp), rfl⟩)
  have subc : ∀ b ∈ cl.map (·.2), b ∈ ownOf cenv := fun b hb => by unfold ownOf; rw [hce]; exact List.mem_cons_of_mem _ hb
  have nd := List.nodup_cons.mp I.ok.apart
  have keep : ∀ b o, s.heap.get? b = some o → H.get b = none → b ∉ cl.map (·.2) → H'.get b = none ∧ Kept o (s'.heap.get? b) := fun b o h1 h2 h3 => J.hid b o h1 h2 h3
  have cells : ∀ p ∈ env.cells, ∃ v, s'.heap.IsCell p.2 v := fun p hp => by
    by_cases hm : p.2 ∈ cl.map (·.2)
    · obtain ⟨q, hq, e⟩ := List.mem_map.mp hm
      rw [← e]; exact J.cells q (by rw [hce]; exact hq)
    · obtain ⟨v, o, ho, hd⟩ := I.cells p hp
      have hown : p.2 ∈ ownOf env := List.mem_cons_of_mem _ (List.mem_map.mpr ⟨p, hp, rfl⟩)
      exact ⟨v, Kept.cell ⟨o, ho, hd⟩ fun o' ho' => by rw [ho] at ho'; cases ho'; exact (keep _ o ho (I.fresh _ hown).1 hm).2⟩
  refine ⟨I.ok, J.base, J.nodes, J.new, fun b o e e1 e2 => ?_, fun b hb => ?_, ?_, cells, J.gens, J.os, I.mine, fun b hb => ?_, fun b o e => ?_⟩
  · obtain ⟨q, r⟩ := I.hid b o e e1 e2
    obtain ⟨o', ho', _⟩ := r.data
    obtain ⟨q', r'⟩ := keep b o' ho' q fun hm => I.notOwn e e2 (sub b hm)
    exact ⟨q', r.trans fun o'' ho'' => by rw [ho'] at ho''; cases ho''; exact r'⟩
  · refine ⟨?_, (I.fresh b hb).2⟩
    by_cases hm : b ∈ cl.map (·.2)
    · exact (J.fresh b (subc b hm)).1
    · obtain ⟨o, ho⟩ := I.own_there hb
      exact (keep b o ho (I.fresh b hb).1 hm).1
  · obtain ⟨m, hm, hv⟩ := I.vars
    have hL : env.locals ∉ cl.map (·.2) := fun h => nd.1 (by
      obtain ⟨p, hp, e⟩ := List.mem_map.mp h
      rw [← e]; exact List.mem_map.mpr ⟨_, mem_of_lookup (hcl p hp), rfl⟩)
    refine ⟨m, Kept.ns hm fun o ho => (keep _ o ho (I.fresh _ (List.mem_cons_self ..)).1 hL).2, fun x v e => ?_⟩
    obtain ⟨cv, a, q⟩ := hv x v e
    rcases a with a | ⟨a, c, hc, hcell⟩
    · exact ⟨cv, .inl a, q⟩
    · by_cases hm : c ∈ cl.map (·.2)
      · obtain ⟨p, hp, e'⟩ := List.mem_map.mp hm
        have hpx : p.1 = x := by
          have h1 := mem_of_lookup (hcl p hp)
          rw [e'] at h1
          exact cell_inj nd.2 h1 (mem_of_lookup hc)
        obtain ⟨k1, k2, k3⟩ := hcap p hp v (by rw [hpx]; exact e)
        obtain ⟨m', _, hv'⟩ := J.vars
        obtain ⟨cv', a', q'⟩ := hv' _ v k1
        rcases a' with ⟨a', _⟩ | ⟨_, c', hc', hcell'⟩
        · rw [k2] at a'; cases a'
        · rw [k3] at hc'; cases hc'
          exact ⟨cv', .inr ⟨a, c, hc, e' ▸ hcell'⟩, q'⟩
      · refine ⟨cv, .inr ⟨a, c, hc, Kept.cell hcell fun o ho => (keep c o ho (I.fresh c ?_).1 hm).2⟩, q⟩
        exact List.mem_cons_of_mem _ (List.mem_map.mpr ⟨_, mem_of_lookup hc, rfl⟩)
  · exact ⟨(J.frz b (hf b hb)).1.trans (I.frz b hb).1, (J.frz b (hf b hb)).2⟩
  · obtain ⟨o', ho'⟩ := I.live b o e
    exact J.live b o' ho'
end
end Mine
namespace Mine
open PySem PySem.Calls PySem.SeqAt PySem.W
section
variable {C : Cx} {sn : Snap} {A : Around} {env cenv : Env} {ρ ρ' : Str → Option V} {H H' : AH} {s s' : Shared} {E : Value → Shared → Prop} {fz : List Nat} {d : Nat} {free : Bool} {kd : Str → Option NameKind} {scope : Scope}
noncomputable def CompFin (C : Cx) (sn : Snap) (env : Env) (ρ : Env') (n : Nat) (J : Nat → List V → AH → Prop) (PP : Value → Addr → Shared → Prop) : Prop :=
  ∀ acc D ys vs H' s', Inv C sn env ρ H' s' → Junk C sn env H' acc → s'.heap.PlainList acc vs → vs.toList.map toV = ys → ys.length ≤ n → acc ≠ D → Junk C sn env H' D → (∃ m, s'.heap.Ns D m) → J n ys H' → PP (.ref acc) D s'
noncomputable def CompTurn (C : Cx) (sn : Snap) (A : Around) (cenv : Env) (ρ : Env') (ifs : List Expr) (elt : Expr) (E : Value → Shared → Prop) (J : List V → AH → Prop) (ys : List V) (H : AH) : Prop :=
  match ifs with
  | [] => TM C sn A cenv ρ (eval elt cenv) (fun v H₃ => J (ys ++ [toV v]) H₃) E H
  | c :: _ => TM C sn A cenv ρ (isTrue c cenv (eval c cenv)) (fun ok H'' => if ok then TM C sn A cenv ρ (eval elt cenv) (fun v H₃ => J (ys ++ [toV v]) H₃) E H'' else J ys H'') E H
structure ScC (scope : Scope) (kd : Str → Option NameKind) (x : Str) : Prop where
  kind : scope.kind = .function
  nd : (scope.names.map (·.1)).Nodup
  x : scope.names.lookup x = some .local
  cell : ∀ y ∈ scope.names, y.2 ≠ .cell
  free : ∀ y ∈ scope.names, y.2 = .free → kd y.1 = some .cell
theorem scC_of {x : Str} (hok : compOk scope kd x = true) : ScC scope kd x := by
  simp only [compOk, Bool.and_eq_true, beq_iff_eq, List.all_eq_true, bne_iff_ne, Bool.or_eq_true] at hok
  exact ⟨hok.1.1.1, nodupS_iff hok.1.1.2, hok.1.2, fun y hy => (hok.2 y hy).1, fun y hy h => (hok.2 y hy).2.resolve_left fun q => q h⟩
noncomputable def lab (kd : Str → Option NameKind) (x : Str × NameKind) : Str × NameKind := if x.2 == .free && kd x.1 == some .cell then (x.1, NameKind.cell) else x
theorem lab_fst (kd : Str → Option NameKind) (x : Str × NameKind) : (lab kd x).1 = x.1 := by unfold lab; split <;> rfl
theorem lab_free {x : Str} (h : kd x = some .cell) : lab kd (x, .free) = (x, .cell) := by unfold lab; rw [h]; rfl
theorem ScC.freec {x y : Str} (S : ScC scope kd x) (hy : (y, NameKind.free) ∈ scope.names) : kdC scope kd y = some .cell := by
  show (scope.names.map (lab kd)).lookup y = _
  refine lookup_of_mem (p := (y, NameKind.cell)) ?_ (List.mem_map.mpr ⟨_, hy, lab_free (S.free _ hy rfl)⟩)
  rw [List.map_map, show ((·.1) ∘ lab kd) = (·.1) from funext (lab_fst kd)]; exact S.nd
theorem ScC.cellf {x y : Str} {k : NameKind} (S : ScC scope kd x) (hk : k = .cell ∨ k = .free) (h : kdC scope kd y = some k) : (y, NameKind.free) ∈ scope.names := by
  obtain ⟨⟨n, k0⟩, hy, e⟩ := List.mem_map.mp (show (y, k) ∈ scope.names.map (lab kd) from mem_of_lookup h)
  have e1 : n = y := (lab_fst kd (n, k0)).symm.trans (congrArg Prod.fst e)
  subst e1
  by_cases hf : k0 = .free
  · subst hf; exact hy
  · have : lab kd (n, k0) = (n, k0) := by unfold lab; rw [show ((n, k0).2 == NameKind.free) = false from beq_eq_false_iff_ne.mpr hf]; rfl
    rw [this] at e
    injection e with _ e
    subst e
    exact absurd (hk.resolve_right hf) (S.cell _ hy)
theorem comp_kinds (ok : EnvOk env) (hkd : ∀ y, env.kindOf y = kd y) (cl : List (Str × Addr)) (D : Addr) (y : Str) : (compEnvC scope cl D env).kindOf y = kdC scope kd y := by
  show (relabel scope env).names.lookup y = _
  unfold relabel kdC
  congr 1
  apply List.map_congr_left
  rintro ⟨n, k⟩ _
  simp only [hkd, ok.kind, beq_self_eq_true, Bool.and_true]
structure ClIs (env : Env) (scope : Scope) (cl : List (Str × Addr)) : Prop where
  mem : ∀ p ∈ cl, (p.1, NameKind.free) ∈ scope.names ∧ env.cells.lookup p.1 = some p.2
  keys : (cl.map (·.1)).Nodup
  get : ∀ y, (y, NameKind.free) ∈ scope.names → ∃ c, (y, c) ∈ cl
theorem clIs_of {x : Str} (ok : EnvOk env) (hkd : ∀ y, env.kindOf y = kd y) (S : ScC scope kd x) : ClIs env scope (clOf env scope.names []) := by
  have at_ : ∀ y, (y, NameKind.free) ∈ scope.names → ∃ c, env.cells.lookup y = some c := fun y h => ok.cell y (.inl ((hkd _).trans (S.free _ h rfl)))
  refine ⟨fun p hp => ?_, clOf_keys _ _ S.nd List.nodup_nil (fun _ h => nomatch h), fun y hy => ?_⟩
  · obtain ⟨h1, h2⟩ := ((clOf_mem _ _ _).mp hp).resolve_left fun h => nomatch h
    obtain ⟨c, hc⟩ := at_ _ h1
    rw [hc] at h2
    exact ⟨h1, by rw [hc, h2]; rfl⟩
  · obtain ⟨c, hc⟩ := at_ y hy
    exact ⟨c, (clOf_mem _ _ (y, c)).mpr (.inr ⟨hy, by rw [hc]; rfl⟩)⟩
theorem ClIs.own {cl : List (Str × Addr)} (L : ClIs env scope cl) {b : Addr} (hb : b ∈ cl.map (·.2)) : b ∈ ownOf env := by
  obtain ⟨p, hp, rfl⟩ := List.mem_map.mp hb
  exact List.mem_cons_of_mem _ (List.mem_map.mpr ⟨_, mem_of_lookup (L.mem p hp).2, rfl⟩)
theorem ClIs.look {cl : List (Str × Addr)} (L : ClIs env scope cl) {p : Str × Addr} (hp : p ∈ cl) : cl.lookup p.1 = some p.2 := lookup_of_mem L.keys hp
theorem Inv.h0_new (I : Inv C sn env ρ H s) {b : Addr} (h : s.heap.get? b = none) : C.h₀.get? b = none := by
  cases q : C.h₀.get? b with
  | none => rfl
  | some o => have := I.base b o q; rw [h] at this; cases this
theorem Inv.own_no (I : Inv C sn env ρ H s) {b : Addr} (h : s.heap.get? b = none) : b ∉ ownOf env := fun hm => by
  obtain ⟨o', ho'⟩ := I.own_there hm; rw [h] at ho'; cases ho'
theorem comp_inv {x : Str} {cl : List (Str × Addr)} {D : Addr} {h₄ : Heap} {m : Str → Option Value} {fz' : List Addr} (I : Inv C sn env ρ H s) (hkd : ∀ y, env.kindOf y = kd y) (S : ScC scope kd x) (L : ClIs env scope cl)
    (keep : ∀ b o', s.heap.get? b = some o' → h₄.get? b = some o') (hns : h₄.Ns D m) (nD : s.heap.get? D = none) (src : ∀ b ∈ fz', ∃ n, H.get b = some n) :
    Inv C ⟨s.heap, H, cl.map (·.2), fz'⟩ (compEnvC scope cl D env) (capt scope kd ρ) H { s with heap := h₄ } := by
  have ownC : ∀ b ∈ ownOf (compEnvC scope cl D env), b = D ∨ b ∈ cl.map (·.2) := fun b hb => List.mem_cons.mp hb
  have kC := comp_kinds (scope := scope) I.ok hkd cl D
  refine ⟨⟨S.kind, I.ok.globals, I.ok.builtins, List.nodup_cons.mpr ⟨fun hm => I.own_no nD (L.own hm), ?_⟩, fun y hy => ?_⟩, fun b o' e => keep b o' (I.base b o' e), fun b n e => (I.nodes b n e).at (keep b), I.new,
    fun b o' e e1 _ => ⟨e1, by rw [show ({ s with heap := h₄ } : Shared).heap.get? b = some o' from keep b o' e]; exact Kept.refl _⟩,
    fun b hb => ?_, ⟨_, hns, fun y w e => ?_⟩, fun p hp => ?_, I.gens, I.os, fun b hb o' e => ?_, fun b hb => ?_, fun b o' e => ⟨o', keep b o' e⟩⟩
  · refine List.pairwise_map.mpr ((List.pairwise_map.mp L.keys).imp_of_mem fun {a b} ha hb hab e => hab ?_)
    have h1 := mem_of_lookup (L.mem a ha).2
    rw [e] at h1
    exact cell_inj (List.nodup_cons.mp I.ok.apart).2 h1 (mem_of_lookup (L.mem b hb).2)
  · rw [kC] at hy
    obtain ⟨c, hc⟩ := L.get y (hy.elim (S.cellf (.inl rfl)) (S.cellf (.inr rfl)))
    exact ⟨c, L.look hc⟩
  · rcases ownC b hb with rfl | hb
    · exact ⟨I.none_of_new nD, I.h0_new nD⟩
    · exact I.fresh b (L.own hb)
  · unfold capt at e
    split at e
    · rename_i hk
      have hf := S.cellf (.inl rfl) hk
      obtain ⟨c, hc⟩ := L.get y hf
      obtain ⟨m, hm, hv⟩ := I.vars
      obtain ⟨cv, a, q⟩ := hv y w e
      rcases a with ⟨a, _⟩ | ⟨_, c', hc', hcell⟩
      · rw [hkd, S.free _ hf rfl] at a; cases a
      · rw [(L.mem _ hc).2] at hc'; cases hc'
        exact ⟨cv, .inr ⟨.inl ((kC y).trans hk), c, L.look hc, hcell.keeps keep⟩, q⟩
    · cases e
  · obtain ⟨w, q⟩ := I.cells _ (mem_of_lookup (L.mem p hp).2)
    exact ⟨w, q.keeps keep⟩
  · rcases ownC b hb with rfl | hb
    · rw [show (⟨s.heap, H, cl.map (·.2), fz'⟩ : Snap).h.get? b = s.heap.get? b from rfl, nD] at e; cases e
    · exact hb
  · obtain ⟨n, e⟩ := src b hb
    obtain ⟨o', ho', _⟩ := I.nodes b n e
    refine ⟨?_, n, e⟩
    show h₄.get? b = s.heap.get? b
    rw [ho']; exact keep b o' ho'
theorem comp_good {cl : List (Str × Addr)} {more : List Addr} (I : Inv C sn env ρ H s) (L : ClIs env scope cl) (G : Good C fz d true sn A env) : Good C (more ++ fz) d true ⟨s.heap, H, cl.map (·.2), more ++ sn.fz⟩ A cenv := by
  refine ⟨by rw [← G.fz], G.hd, G.depth, G.units, ?_⟩
  obtain ⟨l, h1, h2⟩ := G.frs
  refine ⟨l, h1, fun f hf => ?_⟩
  obtain ⟨k1, b, k2, k3⟩ := h2 f hf
  refine ⟨k1, b, k2, .inr ?_⟩
  rcases k3 with rfl | ⟨o', k3, ⟨es, ep, k4⟩, k5, k6, k7⟩
  · obtain ⟨m, ⟨o', es, ep, ho', hd', _⟩, _⟩ := I.vars
    refine ⟨o', ho', ⟨es, ep, hd'⟩, (I.fresh _ (List.mem_cons_self ..)).1, fun hm => ?_, (I.fresh _ (List.mem_cons_self ..)).2⟩
    obtain ⟨p, hp, e⟩ := List.mem_map.mp hm
    exact (List.nodup_cons.mp I.ok.apart).1 (e ▸ List.mem_map.mpr ⟨_, mem_of_lookup (L.mem p hp).2, rfl⟩)
  · obtain ⟨q, r⟩ := I.hid b o' k3 k5 k6
    obtain ⟨o'', ho'', hd'', _⟩ := r.data
    exact ⟨o'', ho'', ⟨es, ep, hd''.trans k4⟩, q, fun hm => I.notOwn k3 k6 (L.own hm), k7⟩
inductive CInv (C : Cx) (sn : Snap) (cenv : Env) (r : Env') (x : Str) (len : Nat) (J : Nat → List V → AH → Prop) (St : Nat → Heap → Prop) (It acc : Addr) (src : List Addr) (n : Nat) (s : Shared) : Prop
  | mk (k : Nat) (ρ : Env') (H : AH) (ys : List V) (vs : Array Value) (e : n = len + 1 - k) (hk : k ≤ len) (I : Inv C sn cenv ρ H s) (hρ : ∀ z, z ≠ x → ρ z = r z) (hJ : J k ys H) (st : St k s.heap)
    (jI : Junk C sn cenv H It) (jA : Junk C sn cenv H acc) (pl : s.heap.PlainList acc vs) (hv : vs.toList.map toV = ys) (hy : ys.length ≤ k) (hs : ∀ b ∈ src, ∃ n, H.get b = some n) : CInv C sn cenv r x len J St It acc src n s
inductive CNext (C : Cx) (sn : Snap) (cenv : Env) (ρ : Env') (St : Nat → Heap → Prop) (k : Nat) (It acc : Addr) (vs : Array Value) (src : List Addr) (H : AH) (s : Shared) : Prop
  | mk (I : Inv C sn cenv ρ H s) (st : St k s.heap) (jI : Junk C sn cenv H It) (jA : Junk C sn cenv H acc) (pl : s.heap.PlainList acc vs) (hs : ∀ b ∈ src, ∃ n, H.get b = some n) : CNext C sn cenv ρ St k It acc vs src H s
theorem comp_next {u : V} {xs : List V} {hb : Heap} {It acc : Addr} {St : Nat → Heap → Prop} {P : Nat → Value → Prop} {k : Nat} {vs : Array Value} {ρ'' : Env'} {H'' : AH} {s5 : Shared}
    (B : Begun C u xs hb It St P) (hA : A.handled = none) (hf : ∀ b ∈ srcOf u, b ∈ sn.fz) (I : Inv C sn cenv ρ H s) (st : St k s.heap) (jI : Junk C sn cenv H It) (jA : Junk C sn cenv H acc) (pl : s.heap.PlainList acc vs)
    (J : Inv C ⟨s.heap, H, ownOf cenv, sn.fz⟩ cenv ρ'' H'' s5) : CNext C sn cenv ρ'' St k It acc vs (srcOf u) H'' s5 := by
  obtain ⟨oI, vsI, hoI, hdI⟩ := B.obj _ _ st
  obtain ⟨hI1, hI2⟩ := J.hid It oI hoI jI.1 jI.2.1
  have hI3 := hI2.same fun es ep e => by rw [hdI] at e; cases e
  obtain ⟨na, hna⟩ := pl
  obtain ⟨hA1, hA2⟩ := J.hid acc _ hna jA.1 jA.2.1
  have hA3 := hA2.same fun es ep e => by cases e
  refine ⟨I.again (fun b hb => hb) J, (B.walks A hA).frame _ _ _ st fun b hb o e => ?_, ⟨hI1, jI.2⟩, ⟨hA1, jA.2⟩, ⟨na, hA3⟩, fun b hb => (J.frz b (hf b hb)).2⟩
  rcases List.mem_cons.mp hb with rfl | hb
  · rw [hoI] at e; cases e; exact hI3
  · exact (J.frz b (hf b hb)).1.trans e
theorem Inv.step (I : Inv C sn cenv ρ H s) {It : Addr} {h' : Heap} {tk : Nat} (jI : Junk C sn cenv H It) (hk : ∀ b o, b ∉ [It] → s.heap.get? b = some o → h'.get? b = some o) : Inv C sn cenv ρ H { s with heap := h', toks := tk } :=
  (I.slots (fr := []) (h' := h') (fun b => b = It) (fun b hb => hb ▸ jI) (fun _ h => nomatch h) (fun b o e _ hn => hk b o (fun hm => hn (List.mem_singleton.mp hm)) e) (fun _ h => nomatch h)).toks tk
theorem comp_elt {u : V} {xs : List V} {hb : Heap} {It acc : Addr} {St : Nat → Heap → Prop} {P : Nat → Value → Prop} {k : Nat} {vs : Array Value} {ys : List V} {r : Env'} {x : Str} {y : V} {H'' : AH} {s5 : Shared} {elt : Expr} {ok : Bool}
    {J : Nat → List V → AH → Prop} (B : Begun C u xs hb It St P) (hA : A.handled = none) (hf : ∀ b ∈ srcOf u, b ∈ sn.fz) (I : Inv C sn cenv ρ H s) (st : St (k + 1) s.heap) (jI : Junk C sn cenv H It) (jA : Junk C sn cenv H acc) (pl : s.heap.PlainList acc vs)
    (hv : vs.toList.map toV = ys) (hy : ys.length ≤ k) (hlt : k < xs.length) (hz : xs.length ≤ sizeLine) (dIA : It ≠ acc)
    (J5 : Inv C ⟨s.heap, H, ownOf cenv, sn.fz⟩ cenv (upd r x y) H'' s5)
    (q : if ok then TM C ⟨s.heap, H, ownOf cenv, sn.fz⟩ A cenv (upd r x y) (eval elt cenv) (fun v H₃ => J (k + 1) (ys ++ [toV v]) H₃) E H'' else J (k + 1) ys H'') :
    (if ok = true then wpAny C.M A (eval elt cenv) (fun x₁ s₄ => wpAny C.M A (call (.builtin "list.append") [.ref acc, x₁]) (fun _ s₅ => ∃ m, m < xs.length + 1 - k ∧ CInv C sn cenv r x xs.length J St It acc (srcOf u) m s₅) E s₄) E s5
      else ∃ m, m < xs.length + 1 - k ∧ CInv C sn cenv r x xs.length J St It acc (srcOf u) m s5) := by
  have hupd : ∀ z, z ≠ x → upd r x y z = r z := fun z hz => if_neg hz
  have lt : xs.length + 1 - (k + 1) < xs.length + 1 - k := by omega
  cases ok with
  | false =>
    obtain ⟨n1, n2, n3, n4, n5, n6⟩ := comp_next B hA hf I st jI jA pl J5
    exact ⟨_, lt, k + 1, _, H'', ys, vs, rfl, hlt, n1, hupd, q, n2, n3, n4, n5, hv, Nat.le_succ_of_le hy, n6⟩
  | true =>
    refine wpAny_mono (q s5 J5) (fun y s6 h6 => ?_) fun _ _ e => e
    obtain ⟨H3, J6, hJ6⟩ := h6
    obtain ⟨n1, n2, n3, n4, n5, n6⟩ := comp_next B hA hf I st jI jA pl J6
    refine wpAny_list_append_plain n5 (fun h7 pl7 sb7 => ?_) (by rw [map_size hv]; omega)
    have ne : ∀ b ∈ It :: srcOf u, b ≠ acc := fun b hb => by
      rcases List.mem_cons.mp hb with rfl | hb
      · exact dIA
      · rintro rfl
        obtain ⟨n, hn⟩ := n6 b hb
        rw [n4.1] at hn; cases hn
    exact ⟨_, lt, k + 1, _, H3, _, _, rfl, hlt, n1.step (tk := s6.toks) n4 fun b o hn e => sb7.extBut b o (fun h => hn (List.mem_singleton.mpr h)) e, hupd, hJ6, (B.walks A hA).frame _ _ _ n2 fun b hb o e => sb7.extBut b o (ne b hb) e, n3, n4, pl7,
      by rw [Array.toList_push, List.map_append, hv]; rfl, by rw [List.length_append]; exact Nat.succ_le_succ hy, n6⟩
theorem comp_loop {u : V} {xs : List V} {hb : Heap} {It acc : Addr} {St : Nat → Heap → Prop} {P : Nat → Value → Prop} {r : Env'} {x : Str} {px pos : Pos} {iter elt : Expr} {ifs : List Expr} {J : Nat → List V → AH → Prop} {R : Result → Shared → Prop} {n : Nat}
    (B : Begun C u xs hb It St P) (G : Good C (srcOf u ++ fz) d true sn A cenv) (kx : cenv.kindOf x = some .local) (hz : xs.length ≤ sizeLine) (hif : ifs.length ≤ 1) (dIA : It ≠ acc)
    (turn : ∀ k y ys H', xs[k]? = some y → J k ys H' → ∀ sn' E', Good C (srcOf u ++ fz) d true sn' A cenv → CompTurn C sn' A cenv (upd r x y) ifs elt E' (J (k + 1)) ys H')
    (fin : ∀ ρ' H' vs s', Inv C sn cenv ρ' H' s' → (∀ z, z ≠ x → ρ' z = r z) → Junk C sn cenv H' acc → s'.heap.PlainList acc vs → (vs.toList.map toV).length ≤ xs.length → J xs.length (vs.toList.map toV) H' → R (.ok .next) s')
    (h : CInv C sn cenv r x xs.length J St It acc (srcOf u) n s) :
    codeAny C.M A (.compLoop (.ListComp elt [⟨.Name x px, iter, ifs, 0⟩] scope pos) 0 (.ref It) (.ref acc) cenv) R s := by
  have hA := G.hd rfl
  have W := B.walks A hA
  have hf : ∀ b ∈ srcOf u, b ∈ sn.fz := fun b hb => by rw [G.fz]; exact List.mem_append.mpr (.inl hb)
  refine codeAny_compLoop_tests (CInv C sn cenv r x xs.length J St It acc (srcOf u)) ?_ n h
  rintro n s' ⟨k, ρ', H', ys, vs, rfl, hkl, I', hρ, hJ, st, jI, jA, pl, hvs, hyk, src⟩
  by_cases hlt : k < xs.length
  · refine W.item k s' _ _ hlt st fun cv h' tk hP st' hkeep => ?_
    have I3 := I'.step (tk := tk) jI hkeep
    have pl3 : h'.PlainList acc vs := pl.at fun o e => hkeep acc o (fun hm => dIA (List.mem_singleton.mp hm).symm) e
    have I4 := I3.snap (fz' := sn.fz) fun b hb => (I'.frz b hb).2
    refine wpAny_assign_Name (wpAny_mono (TR.storeVar (cv := cv) (.inl kx) (Q := fun _ ρ'' H'' => ρ'' = upd ρ' x (toV cv) ∧ H'' = H') ⟨rfl, rfl⟩ _ I4) (fun _ s4 h4 => ?_) fun _ _ e => e)
    obtain ⟨_, _, I5, e5, e6⟩ := h4
    have eu : upd ρ' x (toV cv) = upd r x (toV cv) := funext fun z => by
      by_cases hz : z = x
      · simp [upd, hz]
      · simp [upd, hz, hρ z hz]
    rw [e5, e6, eu] at I5
    have tn := turn k (toV cv) ys H' (B.item k cv hP) hJ _ (notedBy C.M A cenv fun e s' => R (.error e) s') (G.again (more := []) I3)
    match ifs, hif, tn with
    | [], _, tn => exact wpAny_tests_nil (comp_elt (ok := true) B hA hf I3 st' jI jA pl3 hvs hyk hlt hz dIA I5 tn)
    | [c], _, tn =>
      refine wpAny_tests_one (wpAny_mono (tn s4 I5) (fun ok s5 h5 => ?_) fun _ _ e => e)
      obtain ⟨H'', J5, q⟩ := h5
      exact comp_elt B hA hf I3 st' jI jA pl3 hvs hyk hlt hz dIA J5 q
  · have hk0 : k = xs.length := Nat.le_antisymm hkl (Nat.le_of_not_lt hlt)
    subst hk0
    refine W.done s' _ _ st fun h' tk hkeep => ?_
    have pl3 : h'.PlainList acc vs := pl.at fun o e => hkeep acc o (fun hm => dIA (List.mem_singleton.mp hm).symm) e
    exact fin ρ' H' vs _ (I'.step jI hkeep) hρ jA pl3 (by rw [hvs]; exact hyk) (by rw [hvs]; exact hJ)
theorem newAt (h : Heap) {b : Addr} (hb : h.objs.size ≤ b) : h.get? b = none := by
  cases q : h.get? b with
  | none => rfl
  | some o => exact absurd (Heap.lt_size q) (Nat.not_lt.mpr hb)
theorem comp_run {elt iter : Expr} {x : Str} {px pos : Pos} {ifs : List Expr} {u : V} {xs : List V} {It acc D : Addr} {h₂ h₄ : Heap} {St : Nat → Heap → Prop} {P : Nat → Value → Prop} {m : Str → Option Value} {PP : Value → Addr → Result → Shared → Prop}
    (I : Inv C sn env ρ H s) (G : Good C fz d true sn A env) (hkd : ∀ y, env.kindOf y = kd y) (S : ScC scope kd x) (hx : ItemsV H u xs) (hz : xs.length ≤ sizeLine) (hif : ifs.length ≤ 1)
    (J : Nat → List V → AH → Prop) (j0 : J 0 [] H)
    (turn : ∀ k y ys H', xs[k]? = some y → J k ys H' → ∀ sn' cenv E', Good C (srcOf u ++ fz) d true sn' A cenv → (∀ y, cenv.kindOf y = kdC scope kd y) → CompTurn C sn' A cenv (upd (capt scope kd ρ) x y) ifs elt E' (J (k + 1)) ys H')
    (fin : CompFin C sn env ρ xs.length J fun acc D s' => PP acc D (.ok .next) s')
    (B : Begun C u xs h₂ It St P) (keep2 : ∀ b o', h₂.get? b = some o' → h₄.get? b = some o') (keep : ∀ b o', s.heap.get? b = some o' → h₄.get? b = some o') (hns : h₄.Ns D m) (hacc : h₄.PlainList acc #[])
    (nIt : s.heap.get? It = none) (nAcc : s.heap.get? acc = none) (nD : s.heap.get? D = none) (dIA : It ≠ acc) (dAD : acc ≠ D) (dID : It ≠ D) :
    codeAny C.M A (.compStart (.ListComp elt [⟨.Name x px, iter, ifs, 0⟩] scope pos) 0 (.ref It) (.ref acc) (compEnvC scope (clOf env scope.names []) D env)) (PP (.ref acc) D) { s with heap := h₄ } := by
  have L := clIs_of I.ok hkd S
  have W := B.walks A (G.hd rfl)
  have st₄ : St 0 h₄ := W.frame _ _ _ B.start fun b _ o' e => keep2 b o' e
  have Ic := comp_inv (fz' := srcOf u ++ sn.fz) I hkd S L keep hns nD fun b hb => (List.mem_append.mp hb).elim (hx.src b) fun hb => (I.frz b hb).2
  have Gc : Good C (srcOf u ++ fz) d true _ A (compEnvC scope (clOf env scope.names []) D env) := comp_good I L G
  have kC := comp_kinds (scope := scope) I.ok hkd (clOf env scope.names []) D
  have kx : kdC scope kd x = some .local := by rw [← kC x]; exact lookup_relabel_local (env := env) S.x
  have hcells : (compEnvC scope (clOf env scope.names []) D env).cells = clOf env scope.names [] := rfl
  have hloc : (compEnvC scope (clOf env scope.names []) D env).locals = D := rfl
  generalize clOf env scope.names [] = cl at L Ic Gc kC hcells hloc ⊢
  have jOf : ∀ b, s.heap.get? b = none → b ≠ D → Junk C ⟨s.heap, H, cl.map (·.2), srcOf u ++ sn.fz⟩ (compEnvC scope cl D env) H b := fun b hb hbD =>
    ⟨I.none_of_new hb, fun hm => (List.mem_cons.mp hm).elim hbD fun hm => I.own_no hb (L.own hm), I.h0_new hb, hb⟩
  generalize compEnvC scope cl D env = cenv at Ic Gc kC jOf hcells hloc ⊢
  have loop : codeAny C.M A (.compLoop (.ListComp elt [⟨.Name x px, iter, ifs, 0⟩] scope pos) 0 (.ref It) (.ref acc) cenv) (PP (.ref acc) D) { s with heap := h₄ } := by
    refine comp_loop (n := xs.length + 1) B Gc ((kC x).trans kx) hz hif dIA (fun k y ys H' hy hJ sn' E' G' => turn k y ys H' hy hJ sn' cenv E' G' kC) (fun ρ' H' vs s' I3 hρ jA pl hl hJ => ?_)
      ⟨0, _, H, [], #[], rfl, Nat.zero_le _, Ic, fun _ _ => rfl, j0, st₄, jOf It nIt dID, jOf acc nAcc dAD, hacc, rfl, Nat.le_refl _, hx.src⟩
    have If : Inv C sn env ρ H' s' := by
      refine I.backC I3 (fun b hb => List.mem_append.mpr (.inr hb)) hcells (fun p hp => (L.mem p hp).2) fun p hp w e => ?_
      have hkp := S.freec (L.mem p hp).1
      refine ⟨?_, (kC _).trans hkp, by rw [hcells]; exact L.look hp⟩
      rw [hρ _ (by rintro e'; rw [e', kx] at hkp; cases hkp)]
      unfold capt
      rw [if_pos hkp]; exact e
    have jk : ∀ b, H'.get b = none → s.heap.get? b = none → Junk C sn env H' b := fun b hb hb' => by
      refine ⟨hb, I.own_no hb', I.h0_new hb', ?_⟩
      cases q : sn.h.get? b with
      | none => rfl
      | some o' => obtain ⟨o'', ho''⟩ := I.live b o' q; rw [hb'] at ho''; cases ho''
    obtain ⟨m, hm, _⟩ := I3.vars
    rw [hloc] at hm
    exact fin acc D _ vs H' _ If (jk acc jA.1 nAcc) pl rfl hl dAD (jk D (I3.fresh D (by rw [← hloc]; exact List.mem_cons_self ..)).1 nD) ⟨m, hm⟩ hJ
  exact codeAny_compStart_list loop (W.self 0 _ _ _ st₄ loop)
theorem comp_core {elt iter : Expr} {x : Str} {px pos : Pos} {ifs : List Expr} {v : Value} {xs : List V} {PP : Value → Addr → Result → Shared → Prop}
    (I₁ : Inv C sn env ρ H s) (G : Good C fz d true sn A env) (hkd : ∀ y, env.kindOf y = kd y) (hok : compOk scope kd x = true) (hx : ItemsV H (toV v) xs) (hz : xs.length ≤ sizeLine) (hif : ifs.length ≤ 1)
    (J : Nat → List V → AH → Prop) (j0 : J 0 [] H)
    (turn : ∀ k y ys H', xs[k]? = some y → J k ys H' → ∀ sn' cenv E', Good C (srcOf (toV v) ++ fz) d true sn' A cenv → (∀ y, cenv.kindOf y = kdC scope kd y) →
      CompTurn C sn' A cenv (upd (capt scope kd ρ) x y) ifs elt E' (J (k + 1)) ys H')
    (fin : CompFin C sn env ρ xs.length J fun acc D s' => PP acc D (.ok .next) s') :
    wpAny C.M A (pyIter v) (fun it s₂ => wpAny C.M A (newList []) (fun acc s₃ => wpAny C.M A (newFunctionEnv scope env.globals (clOf env scope.names []) [] env.qual none .none (some env)) (fun cenv s₄ =>
      codeAny C.M A (.compStart (.ListComp elt [⟨.Name x px, iter, ifs, 0⟩] scope pos) 0 it acc { cenv with scope := relabel scope env }) (PP acc cenv.locals) s₄) E s₃) E s₂) E s := by
  have S := scC_of hok
  refine begun_iter I₁ hx fun o St P B => wpAny_newObj_type (wpAny_newFunctionEnv S.cell (fun _ h => nomatch h) (fun h₄ hns hsb => ?_) S.kind)
  have z2 : (s.heap.push o).objs.size = s.heap.objs.size + 1 := Heap.size_push ..
  have z3 : ((s.heap.push o).push { cls := .type "list", dict := none, data := .seq ([] : List Value).toArray }).objs.size = s.heap.objs.size + 2 := by rw [Heap.size_push, z2]
  have keep2 : ∀ b o', (s.heap.push o).get? b = some o' → h₄.get? b = some o' := fun b o' e => by
    refine hsb.extBut b o' (Nat.ne_of_lt ?_) (Heap.get?_push_of_some _ (Heap.get?_push_of_some _ e))
    exact Nat.lt_of_lt_of_le (Heap.lt_size e) (by rw [z3, z2]; exact Nat.le_succ _)
  exact comp_run (s := s) (It := s.heap.objs.size) (acc := (s.heap.push o).objs.size) (D := ((s.heap.push o).push { cls := .type "list", dict := none, data := .seq ([] : List Value).toArray }).objs.size) I₁ G hkd S hx hz hif J j0 turn fin B keep2 (fun b o' e => keep2 b o' (Heap.get?_push_of_some _ e)) hns
    ⟨_, hsb.extBut _ _ (Nat.ne_of_lt (by rw [z3, z2]; exact Nat.lt_succ_self _)) (Heap.get?_push_of_some _ (Heap.get?_push_size _ rfl))⟩
    (newAt _ (Nat.le_refl _)) (newAt _ (by rw [z2]; exact Nat.le_succ _)) (newAt _ (by rw [z3]; exact Nat.le_add_right _ 2)) (by rw [z2]; exact (Nat.succ_ne_self _).symm) (by rw [z2, z3]; exact (Nat.succ_ne_self _).symm) (by rw [z3]; exact Nat.ne_of_lt (Nat.lt_add_of_pos_right (by decide)))
end
end Mine
namespace Mine
open PySem PySem.Calls PySem.SeqAt PySem.W
noncomputable def swB (kd : Str → Option NameKind) (value : Expr) (t : Str) (pos : Pos) : Bool :=
  match value with
  | .ListComp _ _ s p | .SetComp _ _ s p | .DictComp _ _ _ s p => kd t == some .local && pos.line == p.line && !(s.names.any fun x => x.1 == t && (x.2 == .local || x.2 == .cell))
  | _ => false
section
variable {C : Cx} {sn : Snap} {A : Around} {env : Env} {ρ : Str → Option V} {H : AH} {s : Shared} {E : Value → Shared → Prop} {fz : List Nat} {d : Nat} {kd : Str → Option NameKind} {scope : Scope}
theorem swapsWith_eq (hk : env.scope.kind = .function) (hkd : ∀ y, env.kindOf y = kd y) (value : Expr) (t : Str) (pos : Pos) (line : Nat) : swapsWith value (some (.Name t pos)) line env = pure (swB kd value t pos) := by
  have hb : (env.blockKind == .function) = true := by unfold Env.blockKind; rw [hk]; rfl
  have key : ∀ (a : Bool) (l : Nat), (env.blockKind == .function && env.kindOf t == some .local && pos.line == l && a) = (kd t == some .local && pos.line == l && a) := fun a l => by rw [hb, hkd]; rfl
  cases value <;> first
    | rfl
    | exact congrArg pure (key _ _)
noncomputable def CompGoal (C : Cx) (A : Around) (fz : List Nat) (d : Nat) (kd : Str → Option NameKind) (scope : Scope) (ρ : Env') (x : Str) (ifs : List Expr) (elt : Expr) (v : V) (Q : List V → AH → Prop) (H₁ : AH) : Prop :=
  ∃ xs, ItemsV H₁ v xs ∧ xs.length ≤ sizeLine ∧ ∃ J : Nat → List V → AH → Prop, J 0 [] H₁ ∧
    (∀ k y ys H', xs[k]? = some y → J k ys H' → ∀ sn' cenv E', Good C (srcOf v ++ fz) d true sn' A cenv → (∀ y, cenv.kindOf y = kdC scope kd y) →
      CompTurn C sn' A cenv (upd (capt scope kd ρ) x y) ifs elt E' (J (k + 1)) ys H') ∧
    ∀ ys H', ys.length ≤ xs.length → J xs.length ys H' → Q ys H'
theorem tm_comp {elt iter : Expr} {x : Str} {px pos : Pos} {ifs : List Expr} {Q : V → AH → Prop}
    (G : Good C fz d true sn A env) (hkd : ∀ y, env.kindOf y = kd y) (hok : compOk scope kd x = true) (hif : ifs.length ≤ 1) (hs : ∀ v, foldedSetIterable iter env v = pure v)
    (h : TM C sn A env ρ (eval iter env) (fun v H₁ => CompGoal C A fz d kd scope ρ x ifs elt (toV v) (fun ys H' => made fz (.list ys) Q H') H₁) E H) :
    TM C sn A env ρ (eval (.ListComp elt [⟨.Name x px, iter, ifs, 0⟩] scope pos) env) (fun v H' => Q (toV v) H') E H := by
  intro s I
  have hok' := hok
  simp only [compOk, Bool.and_eq_true, beq_iff_eq, List.all_eq_true, bne_iff_ne, Bool.or_eq_true] at hok'
  obtain ⟨⟨⟨hkind, hnd⟩, hxl⟩, hall⟩ := hok'
  have hnd := nodupS_iff hnd
  rw [eval_ListComp]
  refine wpAny_comprehension_free (use := none) rfl hs (closureFor_of fun y hy hf => ?_) hkind (fun y hy hl => ?_) (wpAny_mono (h s I) (fun v s₁ hv => ?_) fun _ _ e => e)
  · rcases (hall y hy).2 with q | q
    · exact absurd hf q
    · exact I.ok.cell y.1 (.inl ((hkd _).trans q))
  · have := lookup_of_mem hnd hy
    rwa [hl] at this
  obtain ⟨H₁, I₁, xs, hx, hz, J, j0, turn, hQ⟩ := hv
  refine comp_core (PP := fun acc D => compPost C.M A E none _ acc D) I₁ G hkd hok hx hz hif J j0 turn fun acc D ys vs H' s' I' jA pl hvs hle dAD jD hns hJ => ?_
  obtain ⟨m, hm⟩ := hns
  refine ⟨m, hm, fun h' sb => ?_⟩
  have I2 : Inv C sn env ρ H' { s' with heap := h' } := I'.slots (fr := []) (h' := h') (fun b => b = D) (fun b hb => hb ▸ jD) (by simp) (fun b o e _ hn => sb.extBut b o hn e) (by simp)
  obtain ⟨n, hn⟩ := pl.extBut sb.extBut dAD
  have hlen : ys.length < 2 ^ 62 := Nat.lt_of_le_of_lt (Nat.le_trans hle hz) (by unfold sizeLine; decide)
  refine ⟨_, I2.reveal (n := .list ys) jA ⟨_, hn, hlen, vs, n, rfl, hvs⟩, hQ ys H' hle hJ acc jA.1 ?_⟩
  rw [← G.fz]; exact I2.notFz jA.1
theorem tr_comp_assign {elt iter : Expr} {x t : Str} {px pt pos spos : Pos} {ifs : List Expr} {Q : Env' → AH → Prop}
    (G : Good C fz d true sn A env) (hkd : ∀ y, env.kindOf y = kd y) (hok : compOk scope kd x = true) (hif : ifs.length ≤ 1) (hs : ∀ v, foldedSetIterable iter env v = pure v)
    (hk : env.scope.kind = .function) (hsw : swB kd (.ListComp elt [⟨.Name x px, iter, ifs, 0⟩] scope pos) t pt = true)
    (h : TM C sn A env ρ (eval iter env) (fun v H₁ => CompGoal C A fz d kd scope ρ x ifs elt (toV v) (fun ys H' => made fz (.list ys) (fun v H'' => Q (upd ρ t v) H'') H') H₁) E H) :
    TR C sn A env (exec (.Assign [.Name t pt] (.ListComp elt [⟨.Name x px, iter, ifs, 0⟩] scope pos) spos) env) (fun f ρ' H' => toF f = .next ∧ Q ρ' H') E ρ H := by
  intro s I
  have hok' := hok
  simp only [compOk, Bool.and_eq_true, beq_iff_eq, List.all_eq_true, bne_iff_ne, Bool.or_eq_true] at hok'
  obtain ⟨⟨⟨hkind, hnd⟩, hxl⟩, hall⟩ := hok'
  have hnd := nodupS_iff hnd
  have hkt : env.kindOf t = some .local := by
    rw [hkd]; exact eq_of_beq (Bool.and_eq_true_iff.mp (Bool.and_eq_true_iff.mp hsw).1).1
  rw [exec_Assign_Name_used (hs := by rw [swapsWith_eq hk hkd, hsw])]
  refine wpAny_bind (wpAny_standAt (wpAny_bind ?_))
  show wpAny _ A (do let _ ← comprehension (.ListComp elt [⟨.Name x px, iter, ifs, 0⟩] scope pos) scope env _ (newList []) false (eval iter env) (some (assign (.Name t pt) env))) _ _ s
  refine wpAny_bind (wpAny_mono (wpAny_comprehension_free (use := some (assign (.Name t pt) env)) (Q := fun _ s' => AftR C sn env (fun ρ' H' => Q ρ' H') s') rfl hs (closureFor_of fun y hy hf => ?_) hkind (fun y hy hl => ?_)
    (wpAny_mono (h s I) (fun v s₁ hv => ?_) fun _ _ e => e)) (fun _ s' hq => ?_) fun _ _ e => e)
  · rcases (hall y hy).2 with q | q
    · exact absurd hf q
    · exact I.ok.cell y.1 (.inl ((hkd _).trans q))
  · have := lookup_of_mem hnd hy
    rwa [hl] at this
  · obtain ⟨H₁, I₁, xs, hx, hz, J, j0, turn, hQ⟩ := hv
    refine comp_core (PP := fun acc D => compPost C.M A E (some (assign (.Name t pt) env)) _ acc D) I₁ G hkd hok hx hz hif J j0 turn fun acc D ys vs H' s' I' jA pl hvs hle dAD jD hns hJ => ?_
    have hlen : ys.length < 2 ^ 62 := Nat.lt_of_le_of_lt (Nat.le_trans hle hz) (by unfold sizeLine; decide)
    obtain ⟨n, hn⟩ := pl
    have I2 := I'.reveal (n := .list ys) jA ⟨_, hn, hlen, vs, n, rfl, hvs⟩
    have hq := hQ ys H' hle hJ acc jA.1 (by rw [← G.fz]; exact I'.notFz jA.1)
    have I3 := I2.snap (fz' := sn.fz) fun b hb => (I2.frz b hb).2
    obtain ⟨m, hm⟩ := hns
    have hDn : (H'.set acc (.list ys)).get D = none := by rw [AH.set_ne _ _ dAD.symm]; exact jD.1
    show wpAny _ A (assign (.Name t pt) env (.ref acc)) _ _ s'
    refine wpAny_assign_Name (wpAny_mono (TR.storeVar (cv := .ref acc) (.inl hkt) (Q := fun _ ρ'' H'' => ρ'' = upd ρ t (.ref acc) ∧ H'' = H'.set acc (.list ys)) ⟨rfl, rfl⟩ _ I3) (fun _ s4 h4 => ?_) fun _ _ e => e)
    obtain ⟨_, _, I5, e5, e6⟩ := h4
    rw [e5, e6] at I5
    have I6 := I2.again (fun b hb => hb) I5
    refine ⟨m, Kept.ns hm fun o ho => (I5.hid D o ho hDn jD.2.1).2, fun h' sb => ⟨_, _, I6.slots (fr := []) (h' := h') (fun b => b = D) (fun b hb => hb ▸ ⟨hDn, jD.2⟩) (by simp) (fun b o e _ hn => sb.extBut b o hn e) (by simp), hq⟩⟩
  · obtain ⟨ρ', H', I', q⟩ := hq
    exact wpAny_pure (wpAny_pure ⟨ρ', H', I', rfl, q⟩)
end
end Mine
namespace Mine
open PySem PySem.Calls PySem.SeqAt PySem.W
section
variable {C : Cx} {sn : Snap} {A : Around} {env : Env} {ρ : Str → Option V} {H : AH} {s : Shared} {E : Value → Shared → Prop} {fz : List Nat} {d : Nat}
set_option maxRecDepth 20000 in
theorem tm_seqDisplay {items : Sem (List Value)} {T : String} {mk : List V → Node} {Q : V → AH → Prop} (hT : ∀ (vs : List Value), vs.length < 2 ^ 62 → ObjIs C { cls := .type T, data := .seq vs.toArray } (mk (vs.map toV)))
    (h : TM C sn A env ρ items (fun vs H' => vs.length ≤ sizeLine ∧ made sn.fz (mk (vs.map toV)) Q H') E H) :
    TM C sn A env ρ (items >>= fun vs => newObj (.type T) (.seq vs.toArray)) (fun v H' => Q (toV v) H') E H := by
  refine .bind (h.mono fun vs H' hq => ?_)
  intro s I
  obtain ⟨hz, hq⟩ := hq
  have hD := get_size s.heap
  refine wpAny_newObj_type ⟨_, I.come (n := mk (vs.map toV)) (tk := s.toks) (fun b o e => Heap.get?_push_of_some _ e) hD ⟨_, Heap.get?_push_size _ rfl, hT vs ?_⟩, hq _ (I.none_of_new hD) (I.notFz (I.none_of_new hD))⟩ ?_
  · exact Nat.lt_of_le_of_lt hz (by unfold sizeLine; decide)
  · show vs.toArray.size ≤ sizeLine
    rw [List.size_toArray]; exact hz
end
end Mine
set_option maxRecDepth 100000
namespace Mine
open PySem PySem.Calls PyProof.Rows
section
variable {prog : Program} {w : World} {A : Around} {E : Value → Shared → Prop} {s : Shared}
theorem adjust_upto (b n : Nat) (h : b ≤ n) : Builtin.Slice.sliceAdjust none (some (b : Int)) 1 (n : Int) = ((0 : Int), (b : Int)) := by
  unfold Builtin.Slice.sliceAdjust
  have h1 : ¬ ((1 : Int) < 0) := by omega
  have h2 : ¬ ((b : Int) < 0) := by omega
  simp only [h1, h2, if_false]
  congr 1
  omega
theorem places_upto (b : Nat) : Builtin.Slice.slicePlaces 0 (b : Int) 1 = b := by
  unfold Builtin.Slice.slicePlaces
  have h1 : (1 : Int) > 0 := by omega
  simp only [h1, if_true, Int.ediv_one]
  split <;> omega
theorem sliceApplied_upto {sl : Addr} {b n : Nat} {u : Tok} {Q : Int × Int × Nat → Shared → Prop} (hs : s.heap.IsSliceOf sl .none (.int b u) .none) (hb : b ≤ n) (h : Q ((0 : Int), 1, b) s) :
    wpAny (model prog w) A (Builtin.Slice.sliceApplied (.ref sl) (pure (n : Int))) Q E s := by
  obtain ⟨os, hos, hcs, hds⟩ := id hs
  unfold Builtin.Slice.sliceApplied Builtin.Slice.sliceFields
  refine wpAny_bind (wpAny_bind (wpAny_field hos hds (x := .none) rfl (wpAny_bind (wpAny_field hos hds (x := .int b u) rfl (wpAny_bind (wpAny_field hos hds (x := .none) rfl (wpAny_pure ?_)))))))
  refine wpAny_bind (slicePart_none ?_)
  show wpAny _ _ (if ((1 : Int) == 0) = true then _ else _) _ _ s
  rw [if_neg (by decide)]
  refine wpAny_bind (slicePart_none (wpAny_bind (slicePart_int (wpAny_bind (wpAny_pure ?_)))))
  show wpAny _ _ (match Builtin.Slice.sliceAdjust none (some (b : Int)) 1 (n : Int) with | (lo, hi) => pure (lo, (1 : Int), Builtin.Slice.slicePlaces lo hi 1)) _ _ s
  rw [adjust_upto b n hb]
  show wpAny _ _ (pure ((0 : Int), (1 : Int), Builtin.Slice.slicePlaces 0 (b : Int) 1)) _ _ s
  rw [places_upto b]
  exact wpAny_pure h
theorem pick_upto (xs : Array Value) (b : Nat) : ((List.range b).filterMap fun (k : Nat) => xs[((0 : Int) + (k : Int) * 1).toNat]?).toArray = (xs.toList.take b).toArray := by
  have e : (fun (k : Nat) => xs[((0 : Int) + (k : Int) * 1).toNat]?) = fun k => xs[0 + k]? := by
    funext k
    have : ((0 : Int) + (k : Int) * 1).toNat = 0 + k := by omega
    rw [this]
  rw [e]
  have := pick_run xs 0 b
  rw [List.filterMap_map] at this
  have e2 : ((fun x => xs[x]?) ∘ fun x => 0 + x) = fun k => xs[0 + k]? := rfl
  rw [e2] at this
  rw [this, List.drop_zero]
theorem getItem_tuple_upto {t sl : Addr} {items : Array Value} {b : Nat} {u : Tok} {Q : Value → Shared → Prop} (ht : IsTup s.heap t items) (hs : s.heap.IsSliceOf sl .none (.int b u) .none) (hb : b < items.size)
    (h : Q (.ref s.heap.objs.size) { s with heap := s.heap.push { cls := .type "tuple", data := .seq (items.toList.take b).toArray } })
    (hsz : items.size ≤ sizeLine) : wpAny (model prog w) A (getItem (.ref t) (.ref sl)) Q E s := by
  have hdrop : sizeOk (.seq (items.toList.take b).toArray) := by
    show (items.toList.take b).toArray.size ≤ sizeLine
    rw [List.size_toArray, List.length_take, Array.length_toList]
    omega
  obtain ⟨os, hos, hcs, hds⟩ := id hs
  have hTs : s.TypeIs (.ref sl) "slice" := ⟨os, hos, hcs⟩
  unfold getItem
  try with_reducible refine wpAny_holding ?_
  first | refine wpAny_bind (wpAny_pure ?_) | skip
  refine wpAny_bind (wpAny_sequenceKey ht.typeIs (by decide) ?_)
  refine wpAny_bind (wpAny_callSpecial?_slot (name := Str.ofString "__getitem__") ht.typeIs slot_tuple_getitem
    (wpAny_call_entry slot_tuple_getitem ht.typeIs entry_tuple_getitem ?_ (args_tuple_getitem _ _)))
  show wpAny _ _ (Builtin.Tuple.tupleItemsOf (.ref t) >>= _) _ _ s
  refine wpAny_bind (tupleItemsOf_ ht ?_)
  refine wpAny_bind (wpAny_typeOf hTs ?_)
  rw [if_pos (by decide)]
  refine wpAny_bind (sliceApplied_upto hs (Nat.le_of_lt hb) ?_)
  have hno : ¬ (((0 : Int) == 0 && (1 : Int) == 1 && b == items.size) = true) := by
    have : (b == items.size) = false := by rw [beq_eq_false_iff_ne]; omega
    rw [this]; simp
  show wpAny _ _ (if ((0 : Int) == 0 && (1 : Int) == 1 && b == items.size) = true then _ else _) _ _ s
  rw [if_neg hno, pick_upto items b]
  first
    | exact wpAny_bind (m := Builtin.Tuple.tupleExact _) (wpAny_newObj_type (wpAny_pure ⟨_, rfl, wpAny_pure h⟩) hdrop)
    | exact wpAny_bind (m := Builtin.Tuple.tupleExact _) (wpAny_newObj_type (wpAny_bind (wpAny_pure (wpAny_pure ⟨_, rfl, wpAny_pure h⟩))) hdrop)
    | exact wpAny_bind (wpAny_bind (m := Builtin.Tuple.tupleExact _) (wpAny_newObj_type (wpAny_pure (wpAny_pure ⟨_, rfl, wpAny_pure h⟩)) hdrop))
    | exact wpAny_bind (wpAny_bind (m := Builtin.Tuple.tupleExact _) (wpAny_newObj_type (wpAny_pure ⟨_, rfl, wpAny_pure h⟩) hdrop))
end
end Mine
namespace Mine
open PySem PySem.Calls PySem.SeqAt PySem.MeetsSeq PySem.MeetsSeq2 PySem.MeetsSeq3
open PySem.AutoSeq1 (wpAny_loadPart')
noncomputable def EqW (prog : Program) (w : World) (A : Around) (s : Shared) (y x : Value) (b : Bool) : Prop :=
  ∀ (E : Value → Shared → Prop) (Q : Bool → Shared → Prop), Q b s → wpAny (model prog w) A (eqBool y x) Q E s
noncomputable def FinW (prog : Program) (w : World) (A : Around) (R : Result → Shared → Prop) (fin : Fin) (s' : Shared) : Prop :=
  match fin with | .done f => R (.ok f) s' | .again c' => c'.quiet = true ∧ codeAny (model prog w) A c' R s'
section
variable {prog : Program} {w : World} {A : Around} {R : Result → Shared → Prop} {hp : Heap} {g : Array GenState} {d : Drawn} {tk : Nat} {os : OsState} {l b : Addr} {items items2 : Array Value} {n n2 : Nat} {dd dd2 : Option Addr} {sl sl2 : Array (Option Value)} {e : Nat → Bool}
theorem eq_loopW (hsz : items.size = items2.size) (hl : hp.get? l = some { cls := .type "list", dict := dd, data := .seq items n, slots := sl }) (hb : hp.get? b = some { cls := .type "list", dict := dd2, data := .seq items2 n2, slots := sl2 })
    (he : ∀ j (h1 : j < items.size) (h2 : j < items2.size), EqW prog w A.in1 ⟨hp, g, d, tk, os⟩ items[j] items2[j] (e j)) (k : Nat) : ∀ i : Nat, items.size - i = k → R (.ok (.ret (.bool (((List.range items.size).drop i).all e)))) ⟨hp, g, d, tk, os⟩ →
      wpAny (model prog w) A.in1 (Builtin.«list.__eq__.loop» ⟨[.ref l, .ref b, rawInt i, rawInt 2], []⟩) (FinW prog w A R) (fun e s' => R (.error e) s') ⟨hp, g, d, tk, os⟩ := by
  induction k with
  | zero =>
    intro i hk h
    wp_walk using wpAny_loadPart' hl, wpAny_loadPart' hb
    have hi1 : items[((i : Nat) : Int).toNat]? = none := by simp; omega
    have hi2 : items2[((i : Nat) : Int).toNat]? = none := by simp; omega
    have hd : (List.range items.size).drop i = [] := by simp; omega
    rw [hd] at h
    rw [hi1, hi2]
    wp_walk using wpAny_loadPart' hl, wpAny_loadPart' hb
    show R (.ok (.ret (.bool (items.size == items2.size)))) _
    rw [hsz]
    simpa using h
  | succ k ih =>
    intro i hk h
    wp_walk using wpAny_loadPart' hl, wpAny_loadPart' hb
    have hlt : i < items.size := by omega
    have hlt2 : i < items2.size := by omega
    have hi1 : items[((i : Nat) : Int).toNat]? = some items[i] := by simp [hlt]
    have hi2 : items2[((i : Nat) : Int).toNat]? = some items2[i] := by simp [hlt2]
    have hd : (List.range items.size).drop i = i :: (List.range items.size).drop (i + 1) := by simp [List.drop_eq_getElem_cons, hlt]
    rw [hd, List.all_cons] at h
    rw [hi1, hi2]
    refine wpAny_bind (he i hlt hlt2 _ _ ?_)
    cases hb' : e i with
    | true =>
      rw [hb'] at h
      wp_walk
      exact ⟨plainId_quiet plain_eq_loop _, codeAny_builtin entry_eq_loop (by
        rw [Around.under_plainId plain_eq_loop _]
        exact ih (i + 1) (by omega) (by simpa using h))⟩
    | false =>
      rw [hb'] at h
      wp_walk using wpAny_loadPart' hl, wpAny_loadPart' hb
      rw [hi1, hi2]
      wp_walk
      show R (.ok (.ret (.bool false))) _
      simpa using h
theorem ne_loopW (hsz : items.size = items2.size) (hl : hp.get? l = some { cls := .type "list", dict := dd, data := .seq items n, slots := sl }) (hb : hp.get? b = some { cls := .type "list", dict := dd2, data := .seq items2 n2, slots := sl2 })
    (he : ∀ j (h1 : j < items.size) (h2 : j < items2.size), EqW prog w A.in1 ⟨hp, g, d, tk, os⟩ items[j] items2[j] (e j)) (k : Nat) : ∀ i : Nat, items.size - i = k → R (.ok (.ret (.bool (!((List.range items.size).drop i).all e)))) ⟨hp, g, d, tk, os⟩ →
      wpAny (model prog w) A.in1 (Builtin.«list.__eq__.loop» ⟨[.ref l, .ref b, rawInt i, rawInt 3], []⟩) (FinW prog w A R) (fun e s' => R (.error e) s') ⟨hp, g, d, tk, os⟩ := by
  induction k with
  | zero =>
    intro i hk h
    wp_walk using wpAny_loadPart' hl, wpAny_loadPart' hb
    have hi1 : items[((i : Nat) : Int).toNat]? = none := by simp; omega
    have hi2 : items2[((i : Nat) : Int).toNat]? = none := by simp; omega
    have hd : (List.range items.size).drop i = [] := by simp; omega
    rw [hd] at h
    rw [hi1, hi2]
    wp_walk using wpAny_loadPart' hl, wpAny_loadPart' hb
    show R (.ok (.ret (.bool (items.size != items2.size)))) _
    rw [hsz]
    simpa using h
  | succ k ih =>
    intro i hk h
    wp_walk using wpAny_loadPart' hl, wpAny_loadPart' hb
    have hlt : i < items.size := by omega
    have hlt2 : i < items2.size := by omega
    have hi1 : items[((i : Nat) : Int).toNat]? = some items[i] := by simp [hlt]
    have hi2 : items2[((i : Nat) : Int).toNat]? = some items2[i] := by simp [hlt2]
    have hd : (List.range items.size).drop i = i :: (List.range items.size).drop (i + 1) := by simp [List.drop_eq_getElem_cons, hlt]
    rw [hd, List.all_cons] at h
    rw [hi1, hi2]
    refine wpAny_bind (he i hlt hlt2 _ _ ?_)
    cases hb' : e i with
    | true =>
      rw [hb'] at h
      wp_walk
      exact ⟨plainId_quiet plain_eq_loop _, codeAny_builtin entry_eq_loop (by
        rw [Around.under_plainId plain_eq_loop _]
        exact ih (i + 1) (by omega) (by simpa using h))⟩
    | false =>
      rw [hb'] at h
      wp_walk using wpAny_loadPart' hl, wpAny_loadPart' hb
      rw [hi1, hi2]
      wp_walk
      show R (.ok (.ret (.bool true))) _
      simpa using h
end
section
variable {prog : Program} {w : World} {A : Around} {s : Shared} {l b : Addr} {items items2 : Array Value} {e : Nat → Bool} {Q : Value → Shared → Prop} {E : Value → Shared → Prop}
theorem rcW (hl : s.heap.IsList l items) (hb : s.heap.IsList b items2) (hsz : items.size = items2.size) (hu : A.units < cLine) (he : ∀ j (h1 : j < items.size) (h2 : j < items2.size), EqW prog w A.in1 s items[j] items2[j] (e j)) (h : Q (.bool ((List.range items.size).all e)) s) :
    wpAny (model prog w) A (richCompare .Eq (.ref l) (.ref b)) Q E s := by
  obtain ⟨⟨cls, dd, data, sl⟩, ho, hc, n, hd⟩ := id hl
  obtain ⟨⟨cls2, dd2, data2, sl2⟩, ho2, hc2, n2, hd2⟩ := id hb
  simp only at hc hd hc2 hd2
  subst hc hd hc2 hd2
  obtain ⟨hp, g, d, tk, os⟩ := s
  have hT : Shared.TypeIs ⟨hp, g, d, tk, os⟩ (.ref l) "list" := ⟨_, ho, rfl⟩
  refine wpAny_richCompare_same_room (op := .Eq) hT ⟨_, ho2, rfl⟩ F.slot_list_eq (wpAny_call (codeAny_call_builtin F.slot_list_eq.plain F.entry_list_eq (F.slot_list_eq.check _ _ _ _ _ _ _ _ hT (F.args_list_eq_2 _ _) ?_))) hu
  have f3 := AutoSeq1.sub_list_list
  have hne : ¬ (items.size != items2.size) = true := by simp [hsz]
  wp_walk using wpAny_loadPart' ho, wpAny_loadPart' ho2
  exact ⟨plainId_quiet plain_eq_loop _, codeAny_builtin entry_eq_loop (by
    rw [Around.under_plainId plain_eq_loop _]
    exact eq_loopW (R := wants (fun v s' => v ≠ .notImplemented ∧ Q v s') E) hsz ho ho2 he _ 0 rfl ⟨(fun x => nomatch x), h⟩)⟩
theorem rcNeW (hl : s.heap.IsList l items) (hb : s.heap.IsList b items2) (hsz : items.size = items2.size) (hu : A.units < cLine) (he : ∀ j (h1 : j < items.size) (h2 : j < items2.size), EqW prog w A.in1 s items[j] items2[j] (e j)) (h : Q (.bool (!(List.range items.size).all e)) s) :
    wpAny (model prog w) A (richCompare .NotEq (.ref l) (.ref b)) Q E s := by
  obtain ⟨⟨cls, dd, data, sl⟩, ho, hc, n, hd⟩ := id hl
  obtain ⟨⟨cls2, dd2, data2, sl2⟩, ho2, hc2, n2, hd2⟩ := id hb
  simp only at hc hd hc2 hd2
  subst hc hd hc2 hd2
  obtain ⟨hp, g, d, tk, os⟩ := s
  have hT : Shared.TypeIs ⟨hp, g, d, tk, os⟩ (.ref l) "list" := ⟨_, ho, rfl⟩
  refine wpAny_richCompare_same_room (op := .NotEq) hT ⟨_, ho2, rfl⟩ F.slot_list_ne (wpAny_call (codeAny_call_builtin F.slot_list_ne.plain F.entry_list_ne (F.slot_list_ne.check _ _ _ _ _ _ _ _ hT (F.args_list_ne_2 _ _) ?_))) hu
  have f3 := AutoSeq1.sub_list_list
  have hne : ¬ (items.size != items2.size) = true := by simp [hsz]
  wp_walk using wpAny_loadPart' ho, wpAny_loadPart' ho2
  exact ⟨plainId_quiet plain_eq_loop _, codeAny_builtin entry_eq_loop (by
    rw [Around.under_plainId plain_eq_loop _]
    exact ne_loopW (R := wants (fun v s' => v ≠ .notImplemented ∧ Q v s') E) hsz ho ho2 he _ 0 rfl ⟨(fun x => nomatch x), h⟩)⟩
end
end Mine
namespace Mine
open PySem PySem.Calls PySem.SeqAt PySem.W PyProof.Rows
section
variable {C : Cx} {sn : Snap} {A : Around} {env : Env} {ρ : Str → Option V} {H : AH} {E : Value → Shared → Prop} {Q : V → AH → Prop}
theorem tm_all {p0 : Nat} {bs : List Bool} (hh : A.handled = none) (hp : H.get p0 = some (.list (bs.map V.bool))) (hQ : Q (.bool (bs.all id)) H) : TM C sn A env ρ (call (.builtin "all") [.ref p0]) (fun v H' => Q (toV v) H') E H := by
      intro s I
      refine call_all_walk ?_
      refine begun_iter (v := .ref p0) (xs := bs.map V.bool) I (by show ItemsV H (.ref p0) _; simp [ItemsV, hp]) fun o St P B => ?_
      have W := B.walks A.in1 hh
      refine ⟨_, _, _, _, P, St, fun i => bs.getD i true, rfl, W, B.start, ?_, fun h' tk hk => ?_⟩
      · intro i v s' Q' E' hv hq
        have := B.item i v hv
        rw [List.getElem?_map] at this
        cases q : bs[i]? with
        | none => rw [q] at this; cases this
        | some b =>
          rw [q] at this
          simp only [Option.map_some, Option.some.injEq] at this
          have hvb := toV_bool this.symm
          subst hvb
          have hg : bs.getD i true = b := by simp [List.getD, q]
          have hq : Q' (bs.getD i true) s' := hq
          rw [hg] at hq
          exact wpAny_truthy_bool hq
      · have hall : (List.range (bs.map V.bool).length).all (fun i => bs.getD i true) = bs.all id := by
          rw [List.length_map, Bool.eq_iff_iff, List.all_eq_true, List.all_eq_true]
          constructor
          · intro h b hb
            obtain ⟨i, hi, e⟩ := List.mem_iff_getElem.mp hb
            have := h i (List.mem_range.mpr hi)
            simp [List.getD, hi, e] at this
            exact this
          · intro h i hi
            have hi := List.mem_range.mp hi
            have := h bs[i] (List.getElem_mem hi)
            simpa [List.getD, hi] using this
        rw [hall]
        have hIt : s.heap.get? s.heap.objs.size = none := get_size _
        have I2 : Inv C sn env ρ H { s with heap := s.heap.push o } := I.keeps (tk := s.toks) fun b o e => Heap.get?_push_of_some _ e
        have jk : Junk C sn env H s.heap.objs.size := I.junk_of_new hIt
        exact ⟨H, (I2.slots (fr := []) (h' := h') (fun b => b = s.heap.objs.size) (fun b hb => hb ▸ jk) (by simp) (fun b o e _ hn => hk b o (by simpa using hn) e) (by simp)).toks tk, hQ⟩
end
end Mine
namespace Mine
open PySem PySem.Calls PySem.SeqAt PySem.W PyProof.Rows
section
variable {C : Cx} {sn : Snap} {A : Around} {env : Env} {ρ : Str → Option V} {H : AH} {E : Value → Shared → Prop} {Q : V → AH → Prop}
theorem tm_dict1 {k v : Expr} {pos : Pos} (hsub : ∀ D s', H.get D = none → D ∉ sn.fz → Inv C sn env ρ (H.set D (.sdict [])) s' → wpAny C.M A (eval k env) (fun kv s₁ => ∃ H₁, Inv C ⟨s'.heap, H.set D (.sdict []), ownOf env, D :: sn.fz⟩ env ρ H₁ s₁ ∧
      wpAny C.M A (eval v env) (fun vv s₂ => ∃ H₂ x, toV kv = .str x ∧ Inv C ⟨s'.heap, H.set D (.sdict []), ownOf env, D :: sn.fz⟩ env ρ H₂ s₂ ∧ Q (.ref D) (H₂.set D (.sdict [(x, toV vv)]))) E s₁) E s') :
    TM C sn A env ρ (eval (.Dict [some k] [v] pos) env) (fun v H' => Q (toV v) H') E H := by
  intro s I
  have hD := get_size s.heap
  have hn := I.none_of_new hD
  have hnf : s.heap.objs.size ∉ sn.fz := I.notFz hn
  have hget : (s.heap.push { cls := .type "dict", data := .dict #[] }).get? s.heap.objs.size = some { cls := .type "dict", data := .dict #[] } := Heap.get?_push_size _ rfl
  have hio : Obj.IsDictOf (strKind C.prog C.w) ({ cls := .type "dict", data := .dict #[] } : Obj) [] := ⟨#[], 0, ⟨rfl, rfl, rfl⟩, rfl, fun _ h => by simp at h, .nil, List.nodup_nil⟩
  have I' : Inv C sn env ρ (H.set s.heap.objs.size (.sdict [])) { s with heap := s.heap.push { cls := .type "dict", data := .dict #[] } } :=
    I.come (tk := s.toks) (fun b o e => Heap.get?_push_of_some _ e) hD ⟨_, hget, by simp, [], hio, rfl⟩
  refine wpAny_Dict_walk (knd := strKind C.prog C.w) rfl rfl (by simp) (by simp) (pairTrees_cons_walk ?_)
  refine wpAny_mono (hsub _ _ hn hnf I') (fun kv s₁ h₁ => ?_) fun _ _ e => e
  obtain ⟨H₁, J₁, h₁⟩ := h₁
  refine wpAny_mono h₁ (fun vv s₂ h₂ => ?_) fun _ _ e => e
  obtain ⟨H₂, x, ex, J₂, h₂⟩ := h₂
  obtain ⟨t, rfl⟩ := toV_str ex
  refine pairTrees_nil_walk ?_
  have I₂ : Inv C sn env ρ H₂ s₂ := I'.again (fun b hb => List.mem_cons_of_mem _ hb) J₂
  obtain ⟨hk2, n, hn2⟩ := J₂.frz s.heap.objs.size (List.mem_cons_self ..)
  have hk2 : s₂.heap.get? s.heap.objs.size = some { cls := .type "dict", data := .dict #[] } := hk2.trans hget
  have hro : n.isRO = false := by
    obtain ⟨o, ho, hi⟩ := I₂.nodes _ _ hn2
    rw [hk2] at ho
    cases ho
    cases n <;> first | rfl | (obtain ⟨_, hc, _⟩ := hi; injection hc with hc; exact absurd hc (by decide))
  refine ⟨[(x, vv)], ⟨strKind_is _ _ x t, rfl, True.intro⟩, Heap.dictOf_iff.mpr ⟨_, hk2, hio⟩, fun h' hd' hs => ?_⟩
  obtain ⟨ob, ho, hob⟩ := Heap.dictOf_iff.mp hd'
  exact ⟨_, I₂.turn (h' := h') (tk := s₂.toks + 1) (n' := .sdict [(x, toV vv)]) hn2 hro hnf hs.extBut ⟨ob, ho, by simp, [(x, vv)], by simpa [merged, stored] using hob, rfl⟩, h₂⟩
end
end Mine
namespace Mine
open PySem PySem.Calls PySem.SeqAt PySem.W
noncomputable def Look (H : AH) (p : Nat) (k : Node → Prop) : Prop := match H.get p with | some n => k n | none => False
noncomputable def Got {α : Type} (o : Option α) (k : α → Prop) : Prop := match o with | some v => k v | none => False
noncomputable def req (b : Bool) (P : Prop) : Prop := match b with | true => P | false => False
noncomputable def br (b : Bool) (A B : Prop) : Prop := match b with | true => A | false => B
noncomputable def onInt (v : V) (k : Int → Prop) : Prop := match v with | .int i => k i | _ => False
noncomputable def onStr (v : V) (k : Str → Prop) : Prop := match v with | .str i => k i | _ => False
noncomputable def onRef (v : V) (k : Nat → Prop) : Prop := match v with | .ref i => k i | _ => False
noncomputable def onList (n : Node) (k : List V → Prop) : Prop := match n with | .list xs => k xs | .rlist xs => k xs | _ => False
noncomputable def onSeq (n : Node) (k : List V → Prop) : Prop := match n with | .tuple xs => k xs | n => onList n k
noncomputable def onOwn (n : Node) (k : List V → Prop) : Prop := match n with | .list xs => k xs | _ => False
theorem look {H : AH} {p : Nat} {k : Node → Prop} {n : Node} (h : H.get p = some n) (r : k n) : Look H p k := by unfold Look; rw [h]; exact r
theorem got {α : Type} {o : Option α} {k : α → Prop} {v : α} (h : o = some v) (r : k v) : Got o k := by subst h; exact r
theorem reqd {b : Bool} {P : Prop} (h : b = true) (r : P) : req b P := by subst h; exact r
theorem reqp {c : Prop} [Decidable c] {P : Prop} (h : c) (r : P) : req (decide c) P := reqd (decide_eq_true h) r
theorem brs {b : Bool} {A B : Prop} (h1 : b = true → A) (h2 : b = false → B) : br b A B := by cases b; exact h2 rfl; exact h1 rfl
theorem brd {c : Prop} [Decidable c] {A B : Prop} (h1 : c → A) (h2 : ¬ c → B) : br (decide c) A B := brs (fun h => h1 (of_decide_eq_true h)) fun h => h2 (of_decide_eq_false h)
theorem brt {b : Bool} {A B : Prop} (h : b = true) (r : A) : br b A B := by subst h; exact r
theorem brf {b : Bool} {A B : Prop} (h : b = false) (r : B) : br b A B := by subst h; exact r
inductive LookO (H : AH) (p : Nat) (k : Node → Prop) : Prop
  | mk (n : Node) (e : H.get p = some n) (h : k n) : LookO H p k
inductive GotO {α : Type} (o : Option α) (k : α → Prop) : Prop
  | mk (v : α) (e : o = some v) (h : k v) : GotO o k
inductive IntO (v : V) (k : Int → Prop) : Prop
  | mk (i : Int) (e : v = .int i) (h : k i) : IntO v k
inductive StrO (v : V) (k : Str → Prop) : Prop
  | mk (i : Str) (e : v = .str i) (h : k i) : StrO v k
inductive RefO (v : V) (k : Nat → Prop) : Prop
  | mk (i : Nat) (e : v = .ref i) (h : k i) : RefO v k
inductive ListO (n : Node) (k : List V → Prop) : Prop
  | mk (xs : List V) (e : n.seqL = some xs) (h : k xs) : ListO n k
inductive OwnO (n : Node) (k : List V → Prop) : Prop
  | mk (xs : List V) (e : n = .list xs) (h : k xs) : OwnO n k
inductive SeqO (n : Node) (k : List V → Prop) : Prop
  | mk (xs : List V) (e : n.seqL = some xs ∨ n = .tuple xs) (h : k xs) : SeqO n k
inductive IntVO (v : Value) (k : Int → Prop) : Prop
  | mk (i : Int) (t : Nat) (e : v = .int i t) (h : k i) : IntVO v k
inductive StrVO (v : Value) (k : Str → Prop) : Prop
  | mk (i : Str) (t : Nat) (e : v = .str i t) (h : k i) : StrVO v k
inductive RefVO (v : Value) (k : Nat → Prop) : Prop
  | mk (p : Nat) (e : v = .ref p) (h : k p) : RefVO v k
theorem look_out {H : AH} {p : Nat} {k : Node → Prop} (h : Look H p k) : LookO H p k := by
  unfold Look at h; cases q : H.get p with
  | none => rw [q] at h; exact h.elim
  | some n => rw [q] at h; exact ⟨n, q, h⟩
theorem got_out {α : Type} {o : Option α} {k : α → Prop} (h : Got o k) : GotO o k := by
  cases o with
  | none => exact h.elim
  | some v => exact ⟨v, rfl, h⟩
theorem req_out {b : Bool} {P : Prop} (h : req b P) : b = true ∧ P := by cases b; exact h.elim; exact ⟨rfl, h⟩
theorem reqp_out {c : Prop} [Decidable c] {P : Prop} (h : req (decide c) P) : c ∧ P := ⟨of_decide_eq_true (req_out h).1, (req_out h).2⟩
theorem onInt_out {v : V} {k : Int → Prop} (h : onInt v k) : IntO v k := by cases v <;> first | exact ⟨_, rfl, h⟩ | exact h.elim
theorem onStr_out {v : V} {k : Str → Prop} (h : onStr v k) : StrO v k := by cases v <;> first | exact ⟨_, rfl, h⟩ | exact h.elim
theorem onRef_out {v : V} {k : Nat → Prop} (h : onRef v k) : RefO v k := by cases v <;> first | exact ⟨_, rfl, h⟩ | exact h.elim
theorem onList_out {n : Node} {k : List V → Prop} (h : onList n k) : ListO n k := by cases n <;> first | exact ⟨_, rfl, h⟩ | exact h.elim
theorem onOwn_out {n : Node} {k : List V → Prop} (h : onOwn n k) : OwnO n k := by cases n <;> first | exact ⟨_, rfl, h⟩ | exact h.elim
theorem onSeq_out {n : Node} {k : List V → Prop} (h : onSeq n k) : SeqO n k := by
  cases n <;> first | exact ⟨_, .inr rfl, h⟩ | exact ⟨_, .inl rfl, h⟩ | exact h.elim
theorem intV {v : Value} {k : Int → Prop} (h : onInt (toV v) k) : IntVO v k := by
  obtain ⟨i, e, h⟩ := onInt_out h; obtain ⟨t, rfl⟩ := toV_int e; exact ⟨i, t, rfl, h⟩
theorem strV {v : Value} {k : Str → Prop} (h : onStr (toV v) k) : StrVO v k := by
  obtain ⟨i, e, h⟩ := onStr_out h; obtain ⟨t, rfl⟩ := toV_str e; exact ⟨i, t, rfl, h⟩
theorem refV {v : Value} {k : Nat → Prop} (h : onRef (toV v) k) : RefVO v k := by
  obtain ⟨i, e, h⟩ := onRef_out h; exact ⟨i, toV_ref e, h⟩
inductive Rep (x : Str) (n : Int) (k : Str → Prop) : Prop
  | mk : MulOk x n → k (strRep x n) → Rep x n k
inductive Cat (x y : Str) (k : Str → Prop) : Prop
  | mk : x.length + y.length ≤ sizeLine → k (x ++ y) → Cat x y k
inductive Mem (H : AH) (xs : List V) (v : V) (k : Bool → Prop) : Prop
  | mk (e : V → Bool) : (∀ y ∈ xs, ∃ d, EqV H y v (e y) d ∧ d ≤ deepest) → k (xs.any e) → Mem H xs v k
inductive Ix (H : AH) (xs : List V) (x : V) (k : Int → Prop) : Prop
  | mk (e : V → Bool) (j : Nat) (y : V) : (∀ y ∈ xs, ∃ d, EqV H y x (e y) d ∧ d ≤ deepest) → xs[j]? = some y → e y = true → (∀ (m : Nat) z, m < j → xs[m]? = some z → e z = false) → k j → Ix H xs x k
inductive ItEq (H : AH) (x y : V) (r : Bool) : Prop
  | eqv (d : Nat) (h : EqV H x y r d) (hd : d + 1 ≤ deepest) : ItEq H x y r
  | same (p : Nat) (hx : x = .ref p) (hy : y = .ref p) (hr : r = true) : ItEq H x y r
inductive Same (H : AH) (a b : V) (k : Bool → Prop) : Prop
  | mk (r : Bool) (d : Nat) : EqV H a b r d → d ≤ deepest → k r → Same H a b k
  | items (p q : Nat) (n m : Node) (xs ys : List V) (e : Nat → Bool) (ha : a = .ref p) (hb : b = .ref q) (hn : H.get p = some n) (hm : H.get q = some m) (en : n.seqL = some xs) (em : m.seqL = some ys) (hl : xs.length = ys.length) (he : ∀ (i : Nat) x y, xs[i]? = some x → ys[i]? = some y → ItEq H x y (e i)) (hk : k ((List.range xs.length).all e)) : Same H a b k
inductive DEq {K : Type} [DecidableEq K] (es fs : List (K × V)) (k : Bool → Prop) : Prop
  | mk : dSc es fs → k (dEq es fs) → DEq es fs k
inductive Jn (t : Str) (xs : List V) (k : Str → Prop) : Prop
  | mk (ss : List Str) : xs = ss.map V.str → JoinOk t ss = true → k (Txt.join t ss) → Jn t xs k
structure Made (fz : List Nat) (n : Node) (Q : V → AH → Prop) (H : AH) : Prop where
  out : made fz n Q H
inductive Bx12 {α : Type} (P Q : α → Prop) : Prop
  | mk (a : α) (h0 : P a) (h1 : Q a) : Bx12 P Q
inductive Bx13 {α : Type} (P Q R : α → Prop) : Prop
  | mk (a : α) (h0 : P a) (h1 : Q a) (h2 : R a) : Bx13 P Q R
inductive Bx14 {α : Type} (P Q R S : α → Prop) : Prop
  | mk (a : α) (h0 : P a) (h1 : Q a) (h2 : R a) (h3 : S a) : Bx14 P Q R S
inductive Bx15 {α : Type} (P Q R S T : α → Prop) : Prop
  | mk (a : α) (h0 : P a) (h1 : Q a) (h2 : R a) (h3 : S a) (h4 : T a) : Bx15 P Q R S T
inductive Bx22 {α β : Type} (P Q : α → β → Prop) : Prop
  | mk (a : α) (b : β) (h0 : P a b) (h1 : Q a b) : Bx22 P Q
inductive Bx23 {α β : Type} (P Q R : α → β → Prop) : Prop
  | mk (a : α) (b : β) (h0 : P a b) (h1 : Q a b) (h2 : R a b) : Bx23 P Q R
inductive Bx24 {α β : Type} (P Q R S : α → β → Prop) : Prop
  | mk (a : α) (b : β) (h0 : P a b) (h1 : Q a b) (h2 : R a b) (h3 : S a b) : Bx24 P Q R S
inductive Bx43 {α β γ δ : Type} (P Q R : α → β → γ → δ → Prop) : Prop
  | mk (a : α) (b : β) (c : γ) (d : δ) (h0 : P a b c d) (h1 : Q a b c d) (h2 : R a b c d) : Bx43 P Q R
inductive Bx53 {α β γ δ ε : Type} (P Q R : α → β → γ → δ → ε → Prop) : Prop
  | mk (a : α) (b : β) (c : γ) (d : δ) (e : ε) (h0 : P a b c d e) (h1 : Q a b c d e) (h2 : R a b c d e) : Bx53 P Q R
noncomputable def oAdd (fz : List Nat) (a b : V) (Q : V → AH → Prop) (H : AH) : Prop :=
  match a with
  | .int x => onInt b fun y => Q (.int (x + y)) H
  | .str x => onStr b fun y => Cat x y fun s => Q (.str s) H
  | .ref p => onRef b fun q => Look H p fun n => Look H q fun m => match n with
    | .tuple xs => (match m with
      | .tuple ys => req (!xs.isEmpty && !ys.isEmpty) (req (decide (xs.length + ys.length ≤ sizeLine)) (Made fz (.tuple (xs ++ ys)) Q H))
      | _ => False)
    | n => onList n fun xs => onList m fun ys => req (decide (xs.length + ys.length ≤ sizeLine)) (Made fz (.list (xs ++ ys)) Q H)
  | _ => False
noncomputable def oMul (a b : V) (Q : V → AH → Prop) (H : AH) : Prop :=
  match a with
  | .int x => onInt b fun y => IntMulOk x y ∧ Q (.int (x * y)) H
  | .str x => onInt b fun y => Rep x y fun s => Q (.str s) H
  | _ => False
noncomputable def divOk (y : Int) : Bool := decide (y ≠ 0) && decide (y.natAbs.log2 < 9000)
noncomputable def oBin (fz : List Nat) (op : Operator) (a b : V) (Q : V → AH → Prop) (H : AH) : Prop :=
  match op with
  | .Add => oAdd fz a b Q H
  | .Sub => onInt a fun x => onInt b fun y => Q (.int (x - y)) H
  | .Mult => oMul a b Q H
  | .FloorDiv => onInt a fun x => onInt b fun y => req (divOk y) (Q (.int (x.fdiv y)) H)
  | .Mod => onInt a fun x => onInt b fun y => req (decide (y ≠ 0)) (Q (.int (x.fmod y)) H)
  | .Pow => onInt a fun x => onInt b fun y => req (decide (2 ≤ x) && decide (1 ≤ y) && !Builtin.Int.intTooBig (((Builtin.Int.intBits x : Nat) : Int) * y)) (Q (.int (x ^ y.toNat)) H)
  | _ => False
section
variable {C : Cx} {sn : Snap} {A : Around} {env : Env} {ρ : Str → Option V} {H : AH} {E : Value → Shared → Prop} {Q : V → AH → Prop}
set_option tactic.hygienic true in
theorem oAdd_ok {a b : Value} (h : oAdd sn.fz (toV a) (toV b) Q H) : TM C sn A env ρ (binaryOp .Add a b) (fun v H' => Q (toV v) H') E H := by
  cases a <;> try exact h.elim
  case int x t => obtain ⟨y, u, rfl, h⟩ := intV h; exact fun _ I => P.add_int (toks_still I (v := .int _ _) h _)
  case str x t => obtain ⟨y, u, rfl, h⟩ := strV h; obtain ⟨h1, h⟩ := h; exact TM.bin_str h1 h
  case ref p =>
    obtain ⟨q, rfl, h⟩ := refV h
    obtain ⟨n, hn, h⟩ := look_out h
    obtain ⟨m, hm, h⟩ := look_out h
    cases n <;> try exact h.elim
    case tuple xs =>
      cases m <;> try exact h.elim
      case tuple ys =>
        obtain ⟨h1, h⟩ := req_out h
        obtain ⟨h2, h⟩ := reqp_out h
        simp only [Bool.and_eq_true, Bool.not_eq_true', List.isEmpty_eq_false_iff] at h1
        exact TM.bin_tuple hn hm h1.1 h1.2 h2 h.out
    all_goals
      obtain ⟨ys, em, h⟩ := onList_out (n := m) h
      obtain ⟨h1, h⟩ := reqp_out h
      exact TM.bin_list hn hm rfl em h1 h.out
set_option tactic.hygienic true in
theorem oBin_ok {op : Operator} {a b : Value} (h : oBin sn.fz op (toV a) (toV b) Q H) : TM C sn A env ρ (binaryOp op a b) (fun v H' => Q (toV v) H') E H := by
  cases op <;> try exact h.elim
  case Add => exact oAdd_ok h
  case Sub => obtain ⟨x, t, rfl, h⟩ := intV h; obtain ⟨y, u, rfl, h⟩ := intV h; exact fun _ I => P.sub_int (toks_still I (v := .int _ _) h _)
  case Mult =>
    cases a <;> try exact h.elim
    case int x t => obtain ⟨y, u, rfl, h⟩ := intV h; exact fun _ I => P.mul_int (toks_still I (v := .int _ _) h.2 _) h.1
    case str x t => obtain ⟨y, u, rfl, h⟩ := intV h; obtain ⟨h1, h⟩ := h; exact TM.bin_rep h1 h
  case FloorDiv =>
    obtain ⟨x, t, rfl, h⟩ := intV h; obtain ⟨y, u, rfl, h⟩ := intV h
    obtain ⟨h1, h⟩ := req_out h
    have h1 := Bool.and_eq_true_iff.mp h1
    exact fun _ I => PyProof.Rows.floordiv_int (of_decide_eq_true h1.1) (toks_still I (v := .int _ _) h _) (.inl (PyProof.noPylong_of_log2 (of_decide_eq_true h1.2)))
  case Mod =>
    obtain ⟨x, t, rfl, h⟩ := intV h; obtain ⟨y, u, rfl, h⟩ := intV h
    obtain ⟨h1, h⟩ := reqp_out h
    exact fun _ I => PyProof.Rows.mod_int' h1 (toks_still I (v := .int _ _) h _)
  case Pow =>
    obtain ⟨x, t, rfl, h⟩ := intV h; obtain ⟨y, u, rfl, h⟩ := intV h
    obtain ⟨h1, h⟩ := req_out h
    simp only [Bool.and_eq_true, decide_eq_true_eq, Bool.not_eq_true'] at h1
    obtain ⟨⟨h1, h2⟩, h3⟩ := h1
    exact fun _ I => AutoIntOps.pow_4 (by omega) (by simp; omega) (by simp; omega) (by simp; omega) (by simp [h3]) (toks_still I (v := .int _ _) h _)
end
noncomputable def oTruth (v : V) (k : Bool → Prop) (H : AH) : Prop :=
  match v with
  | .bool b => k b
  | .none => k false
  | .int i => k (i != 0)
  | _ => False
inductive ChAt (x : Str) (i : Int) (k : Nat → Prop) : Prop
  | mk (c : Nat) : 0 ≤ i → i < 2 ^ 62 → x.cps[i.toNat]? = some c → k c → ChAt x i k
noncomputable def oIdx (o i : V) (Q : V → Prop) (H : AH) : Prop :=
  match o with
  | .ref p => Look H p fun n => match n with
    | .sdict es => onStr i fun k => Got (dget es k) Q
    | .idict es => onInt i fun k => Got (dget es k) Q
    | n => onSeq n fun xs => onInt i fun k => Got (pick xs k) Q
  | .str x => onInt i fun k => ChAt x k fun c => Q (.str ⟨#[c]⟩)
  | _ => False
noncomputable def oIn (v b : V) (Q : Bool → Prop) (H : AH) : Prop :=
  match b with
  | .str x => onStr v fun y => Q (strIn y x)
  | .ref p => Look H p fun n => match n with
    | .sdict es => onStr v fun k => Q (es.any fun p => p.1 = k)
    | .idict es => onInt v fun k => Q (es.any fun p => p.1 = k)
    | n => onSeq n fun xs => Mem H xs v Q
  | _ => False
noncomputable def isN0 (v : V) (k : Bool → Prop) : Prop := match v with | .none => k true | .bi _ => False | _ => k false
noncomputable def oCmp (op : CmpOp) (a b : V) (Q : Bool → Prop) (H : AH) : Prop :=
  match op with
  | .Eq => opEq2 a b Q H
  | .NotEq => opEq2 a b (fun r => Q (!r)) H
  | .In => oIn a b Q H
  | .NotIn => oIn a b (fun r => Q (!r)) H
  | .Lt => onInt a fun x => onInt b fun y => Q (decide (x < y))
  | .LtE => onInt a fun x => onInt b fun y => Q (decide (x ≤ y))
  | .Gt => onInt a fun x => onInt b fun y => Q (decide (x > y))
  | .GtE => onInt a fun x => onInt b fun y => Q (decide (x ≥ y))
  | .Is => (match b with | .none => isN0 a Q | _ => False)
  | .IsNot => (match b with | .none => isN0 a fun r => Q (!r) | _ => False)
end Mine
namespace Mine
open PySem PySem.Calls PySem.SeqAt PySem.W
theorem seqIx {k : Int} {n : Nat} (h0 : 0 ≤ k) (h : k.toNat < n) : seqIndex? k n = some k.toNat := by
  unfold seqIndex?
  have h2 : k < n := by omega
  simp [Int.not_lt.mpr h0, h0, h2]
theorem seqIxN {k : Int} {n : Nat} (h0 : k < 0) (h : (k + n).toNat < n) (hn : -(n : Int) ≤ k) : seqIndex? k n = some (k + n).toNat := by
  unfold seqIndex?
  have h1 : 0 ≤ k + n := by omega
  have h2 : k + n < n := by omega
  simp [h0, h1, h2]
noncomputable def lEq : List Nat → List Nat → Bool
  | [], [] => true
  | a :: r, b :: q => Nat.beq a b && lEq r q
  | _, _ => false
theorem lEq_iff : ∀ a b : List Nat, lEq a b = decide (a = b)
  | [], [] => rfl
  | [], _ :: _ => rfl
  | _ :: _, [] => rfl
  | a :: r, b :: q => by
    rw [lEq, lEq_iff r q, Bool.eq_iff_iff]
    simp [Nat.beq_eq]
noncomputable def sEq (a b : Str) : Bool := lEq a.cps.toList b.cps.toList
theorem sEq_iff (a b : Str) : sEq a b = decide (a = b) := by
  unfold sEq
  rw [lEq_iff, Bool.eq_iff_iff]
  simp only [decide_eq_true_eq]
  constructor
  · intro h; obtain ⟨⟨x⟩⟩ := a; obtain ⟨⟨y⟩⟩ := b; simp at h; rw [h]
  · rintro rfl; rfl
theorem sEq_t {a b : Str} (h : sEq a b = true) : a = b := by rw [sEq_iff] at h; exact of_decide_eq_true h
theorem sEq_f {a b : Str} (h : sEq a b = false) : a ≠ b := by rw [sEq_iff] at h; exact of_decide_eq_false h
noncomputable def scE (a b : V) : Option Bool :=
  match a with
  | .str x => (match b with | .str y => some (sEq x y) | .int _ => some false | .none => some false | .bool _ => some false | _ => none)
  | .int x => (match b with | .int y => some (decide (x = y)) | b => scEq (.int x) b)
  | a => scEq a b
set_option tactic.hygienic true in
theorem scE_ok {a b : V} {r : Bool} (h : scE a b = some r) : scEq a b = some r := by
  cases a <;> try exact h
  case str x =>
    cases b <;> try exact h
    case str y => rw [← h]; show some (x == y) = some (sEq x y); rw [sEq_iff]; rfl
  case int x =>
    cases b <;> try exact h
noncomputable def oEq (a b : V) (Q : Bool → Prop) (H : AH) : Prop :=
  match a with
  | .ref p => (match b with
    | .ref q => Look H p fun n => Look H q fun m => (match n with
      | .sdict es => (match m with | .sdict fs => DEq es fs Q | _ => False)
      | .idict es => (match m with | .idict fs => DEq es fs Q | _ => False)
      | _ => Same H (.ref p) (.ref q) Q)
    | _ => False)
  | a => Got (scE a b) Q
noncomputable def oCmp2 (op : CmpOp) (a b : V) (Q : Bool → Prop) (H : AH) : Prop :=
  match op with
  | .Eq => oEq a b Q H
  | .NotEq => oEq a b (fun r => Q (!r)) H
  | op => oCmp op a b Q H
section
variable {C : Cx} {sn : Snap} {A : Around} {env : Env} {ρ : Str → Option V} {H : AH} {E : Value → Shared → Prop}
theorem eqV_two {a b : Value} {r : Bool} {d : Nat} {Q : Bool → Prop} (hr : Room A) (he : EqV H (toV a) (toV b) r d) (hd : d ≤ deepest) (q : Q r) :
    ∃ r, Q r ∧ ∀ s, Inv C sn env ρ H s → (∀ (P : Value → Shared → Prop), P (.bool r) s → wpAny C.M A (compareOp .Eq a b) P E s) ∧ (∀ (P : Value → Shared → Prop), P (.bool !r) s → wpAny C.M A (compareOp .NotEq a b) P E s) := by
  have hu : A.units + 200 < cLine := hr
  refine ⟨r, q, fun s I => ?_⟩
  have := (he.sound (A := A) (x := a) (y := b) I.nodesIn (by unfold deepest at hd; omega) rfl rfl).2
  exact ⟨fun P hP => this.1 _ _ _ _ hP, fun P hP => this.2 _ _ _ _ hP⟩
theorem dEq_two {K : Type} [DecidableEq K] {knd : KeyKind C.prog C.w K} {p q : Nat} {es fs : List (K × V)} {Q : Bool → Prop} (hr : Room A)
    (hp : ∀ s, Inv C sn env ρ H s → (p == sysModules) = false ∧ ∃ ka, s.heap.DictOf knd p ka ∧ ka.map (fun p => (p.1, toV p.2)) = es) (hq : ∀ s, Inv C sn env ρ H s → (q == sysModules) = false ∧ ∃ ka, s.heap.DictOf knd q ka ∧ ka.map (fun p => (p.1, toV p.2)) = fs)
    (h : DEq es fs Q) : ∃ r, Q r ∧ ∀ s, Inv C sn env ρ H s → (∀ (P : Value → Shared → Prop), P (.bool r) s → wpAny C.M A (compareOp .Eq (.ref p) (.ref q)) P E s) ∧ (∀ (P : Value → Shared → Prop), P (.bool !r) s → wpAny C.M A (compareOp .NotEq (.ref p) (.ref q)) P E s) := by
  have hu : A.units + 200 < cLine := hr
  obtain ⟨h1, h2⟩ := h
  refine ⟨_, h2, fun s I => ?_⟩
  obtain ⟨m1, ka, da, e1⟩ := hp s I
  obtain ⟨m2, kb, db, e2⟩ := hq s I
  have hl : (ka.length == kb.length) = (es.length == fs.length) := by rw [← e1, ← e2]; simp
  exact ⟨fun P hP => W.keq_eq m1 m2 da db (by omega) (fun _ => hits_of e2 ka es e1 h1) (by rw [hl]; exact hP), fun P hP => W.keq_ne m1 m2 da db (by omega) (fun _ => hits_of e2 ka es e1 h1) (by rw [hl]; exact hP)⟩
theorem items_two {p q : Nat} {n m : Node} {xs ys : List V} {e : Nat → Bool} {Q : Bool → Prop} (hr : Room A) (hn : H.get p = some n) (hm : H.get q = some m) (en : n.seqL = some xs) (em : m.seqL = some ys) (hl : xs.length = ys.length) (he : ∀ (i : Nat) x y, xs[i]? = some x → ys[i]? = some y → ItEq H x y (e i)) (hq : Q ((List.range xs.length).all e)) :
    ∃ r, Q r ∧ ∀ s, Inv C sn env ρ H s → (∀ (P : Value → Shared → Prop), P (.bool r) s → wpAny C.M A (compareOp .Eq (.ref p) (.ref q)) P E s) ∧ (∀ (P : Value → Shared → Prop), P (.bool !r) s → wpAny C.M A (compareOp .NotEq (.ref p) (.ref q)) P E s) := by
  have hu : A.units + 200 < cLine := hr
  refine ⟨_, hq, fun s I => ?_⟩
  obtain ⟨vs, hvs, e1, _⟩ := (I.nodes p n hn).isList en
  obtain ⟨ws, hws, e2, _⟩ := (I.nodes q m hm).isList em
  have s1 : vs.size = xs.length := map_size e1
  have s2 : ws.size = ys.length := map_size e2
  have at_ : ∀ {us : Array Value} {rs : List V}, us.toList.map toV = rs → ∀ j (h : j < us.size), rs[j]? = some (toV us[j]) := fun {us rs} ee j h => by rw [← ee]; simp [h]
  have hW : ∀ j (h1 : j < vs.size) (h2 : j < ws.size), EqW C.prog C.w A.in1 s vs[j] ws[j] (e j) := fun j h1 h2 => by
    cases he j _ _ (at_ e1 j h1) (at_ e2 j h2) with
    | eqv d h hd => exact fun E Q hq => (h.sound (A := A.in1) I.nodesIn (by show A.units + 1 + d < cLine; unfold deepest at hd; omega) rfl rfl).1 C.prog C.w E Q hq
    | same p hx hy hr' =>
      rw [toV_ref hx, toV_ref hy, hr']
      exact fun E Q hq => EqAt.same _ C.prog C.w E Q hq
  have hsz : vs.size = ws.size := by rw [s1, s2, hl]
  exact ⟨fun P hP => rcW hvs hws hsz (by omega) hW (by rw [s1]; exact hP), fun P hP => rcNeW hvs hws hsz (by omega) hW (by rw [s1]; exact hP)⟩
theorem oEq_ok {a b : Value} {Q : Bool → Prop} (hr : Room A) (h : oEq (toV a) (toV b) Q H) :
    ∃ r, Q r ∧ ∀ s, Inv C sn env ρ H s → (∀ (P : Value → Shared → Prop), P (.bool r) s → wpAny C.M A (compareOp .Eq a b) P E s) ∧ (∀ (P : Value → Shared → Prop), P (.bool !r) s → wpAny C.M A (compareOp .NotEq a b) P E s) := by
  by_cases ha : ∃ p, a = .ref p
  · obtain ⟨p, rfl⟩ := ha
    have hb : ∃ q, b = .ref q := by cases b <;> first | exact ⟨_, rfl⟩ | exact h.elim
    obtain ⟨q, rfl⟩ := hb
    obtain ⟨n, hn, h⟩ := look_out h
    obtain ⟨m, hm, h⟩ := look_out h
    cases n
    case sdict es =>
      cases m <;> try exact h.elim
      exact dEq_two (knd := strKind C.prog C.w) hr (fun s I => ⟨I.notMods hn rfl, let ⟨ka, da, e, _⟩ := (I.nodes p _ hn).sdict; ⟨ka, da, e⟩⟩) (fun s I => ⟨I.notMods hm rfl, let ⟨ka, da, e, _⟩ := (I.nodes q _ hm).sdict; ⟨ka, da, e⟩⟩) h
    case idict es =>
      cases m <;> try exact h.elim
      exact dEq_two (knd := intKind C.prog C.w) hr (fun s I => ⟨I.notMods hn rfl, let ⟨ka, da, e, _⟩ := (I.nodes p _ hn).idict; ⟨ka, da, e⟩⟩) (fun s I => ⟨I.notMods hm rfl, let ⟨ka, da, e, _⟩ := (I.nodes q _ hm).idict; ⟨ka, da, e⟩⟩) h
    all_goals
      cases h with
      | mk r d he hd q => exact eqV_two hr he hd q
      | items p' q' n' m' xs ys e ha hb hn' hm' en em hl he hk => cases ha; cases hb; exact items_two hr hn' hm' en em hl he hk
  · have h : Got (scE (toV a) (toV b)) Q := by cases a <;> first | exact h | exact absurd ⟨_, rfl⟩ ha
    obtain ⟨r, e, q⟩ := got_out h
    exact eqV_two hr (.sc (scE_ok e)) (Nat.zero_le _) q
set_option tactic.hygienic true in
theorem oIn_ok {a b : Value} {Q : Bool → Prop} (h : oIn (toV a) (toV b) Q H) : opIn (toV a) (toV b) Q H := by
  cases b <;> try exact h.elim
  case str x t => obtain ⟨y, u, rfl, h⟩ := strV h; exact h
  case ref p =>
    obtain ⟨n, hn, h⟩ := look_out h
    show (match H.get p with
    | some (.list xs) | some (.rlist xs) | some (.tuple xs) => ∃ e : V → Bool, (∀ y ∈ xs, ∃ d, EqV H y (toV a) (e y) d ∧ d ≤ deepest) ∧ Q (xs.any e)
    | some (.sdict es) => (match toV a with | .str k => Q (es.any fun p => p.1 = k) | _ => False)
    | some (.idict es) => (match toV a with | .int k => Q (es.any fun p => p.1 = k) | _ => False)
    | _ => False : Prop)
    rw [hn]
    cases n <;> first | exact h | (obtain ⟨e, h1, h2⟩ := h; exact ⟨e, h1, h2⟩) | exact h.elim | (obtain ⟨y, u, rfl, h⟩ := strV h; exact h) | (obtain ⟨y, u, rfl, h⟩ := intV h; exact h)
theorem isN0_ok {a : Value} {k : Bool → Prop} (h : isN0 (toV a) k) : (∀ id, a ≠ .builtin id) ∧ k (a == Value.none) := by
  cases a <;> first | exact h.elim | exact ⟨fun id e => (nomatch e), h⟩
theorem oCmp_ok {op : CmpOp} {a b : Value} {Q : Bool → Prop} (hr : Room A) (h : oCmp2 op (toV a) (toV b) Q H) :
    TM C sn A env ρ (compareOp op a b) (fun v H' => (∃ r, v = .bool r ∧ Q r) ∧ H' = H) E H := by
  cases op
  case Eq =>
    obtain ⟨r, q, k⟩ := oEq_ok (C := C) (sn := sn) (env := env) (ρ := ρ) (E := E) hr h
    exact fun s I => (k s I).1 _ ⟨H, I, ⟨_, rfl, q⟩, rfl⟩
  case NotEq =>
    obtain ⟨r, q, k⟩ := oEq_ok (Q := fun r => Q (!r)) (C := C) (sn := sn) (env := env) (ρ := ρ) (E := E) hr h
    exact fun s I => (k s I).2 _ ⟨H, I, ⟨_, rfl, q⟩, rfl⟩
  case In => exact (TM.opIn_ hr (oIn_ok h)).1
  case NotIn => exact ((TM.opIn_ hr (oIn_ok (Q := fun r => Q (!r)) h)).2).mono fun v H' ⟨⟨r, e, q⟩, e'⟩ => ⟨⟨_, e, q⟩, e'⟩
  case Lt => obtain ⟨x, t, rfl, h⟩ := intV h; obtain ⟨y, u, rfl, h⟩ := intV h; exact fun s I => P.lt_int ⟨H, I, ⟨_, rfl, h⟩, rfl⟩
  case LtE => obtain ⟨x, t, rfl, h⟩ := intV h; obtain ⟨y, u, rfl, h⟩ := intV h; exact fun s I => P.le_int ⟨H, I, ⟨_, rfl, h⟩, rfl⟩
  case Gt => obtain ⟨x, t, rfl, h⟩ := intV h; obtain ⟨y, u, rfl, h⟩ := intV h; exact fun s I => P.gt_int ⟨H, I, ⟨_, rfl, h⟩, rfl⟩
  case GtE => obtain ⟨x, t, rfl, h⟩ := intV h; obtain ⟨y, u, rfl, h⟩ := intV h; exact fun s I => P.ge_int ⟨H, I, ⟨_, rfl, h⟩, rfl⟩
  case Is =>
    cases b <;> try exact h.elim
    obtain ⟨h1, h2⟩ := isN0_ok (k := Q) h
    refine fun s I => wpAny_is_plain ?_ ⟨H, I, ⟨_, rfl, h2⟩, rfl⟩
    cases a <;> first | rfl | exact absurd rfl (h1 _)
  case IsNot =>
    cases b <;> try exact h.elim
    obtain ⟨h1, h2⟩ := isN0_ok (k := fun r => Q (!r)) h
    refine fun s I => wpAny_isNot_plain ?_ ⟨H, I, ⟨_, rfl, h2⟩, rfl⟩
    cases a <;> first | rfl | exact absurd rfl (h1 _)
set_option tactic.hygienic true in
theorem oTruth_ok {v : Value} {k : Bool → Prop} (h : oTruth (toV v) k H) : TM C sn A env ρ (truthy v) (fun b H' => k b ∧ H' = H) E H := by
  intro s I
  cases v <;> try exact h.elim
  case none => exact PyProof.Rows.truthy_none ⟨H, I, h, rfl⟩
  case bool b => exact wpAny_truthy_bool ⟨H, I, h, rfl⟩
  case int i t => exact PyProof.Rows.truthy_int ⟨H, I, h, rfl⟩
theorem dget_val {K : Type} [DecidableEq K] {kvs : List (K × Value)} {es : List (K × V)} {k : K} {v : V} (e1 : kvs.map (fun p => (p.1, toV p.2)) = es) (h : dget es k = some v) : ∃ cv, valueAt kvs k = some cv ∧ toV cv = v := by
  rw [dget_map e1] at h
  exact Option.map_eq_some_iff.mp h
set_option tactic.hygienic true in
theorem oIdx_ok {value slice : Expr} {o i : Value} {Q : V → Prop} (h : oIdx (toV o) (toV i) Q H) :
    TM C sn A env ρ (PyProof.Rows.subscriptTail value slice o i) (fun v H' => Q (toV v) ∧ H' = H) E H := by
  intro s I
  cases o <;> try exact h.elim
  case str x t =>
    obtain ⟨k, u, rfl, h⟩ := intV h
    obtain ⟨c, h1, h2, hc, h⟩ := h
    refine tail_of (typeIs_str s x t) PyProof.Rows.slot_str_getitem.lookup (PyProof.Rows.getItem_str (c := c) (by simp; omega) ?_ ⟨H, I.toks _, h, rfl⟩)
    have := (Array.getElem?_eq_some_iff.mp hc).1
    have e : seqIndex? k x.length = some k.toNat := seqIx h1 this
    rw [e]; exact hc
  case ref p =>
    obtain ⟨n, hn, h⟩ := look_out h
    have seqs : onSeq n (fun xs => onInt (toV i) fun k => Got (pick xs k) Q) → wpAny C.M A (PyProof.Rows.subscriptTail value slice (.ref p) i) (fun v s' => Aft C sn env ρ (fun H' => Q (toV v) ∧ H' = H) s') E s := by
      intro hh
      clear h
      obtain ⟨xs, en, hh⟩ := onSeq_out hh
      obtain ⟨k, u, rfl, hh⟩ := intV hh
      obtain ⟨v, hv, h⟩ := got_out hh
      rcases en with en | rfl
      · obtain ⟨vs, hvs, e1, z1⟩ := (I.nodes p n hn).isList en
        obtain ⟨cv, e, q | q⟩ := pick_get e1 z1 hv
        · exact tail_of hvs.typeIs slot_list_getitem.lookup (wpAny_getItem_list hvs q.1 (Int.lt_of_lt_of_le q.2.1 (by decide)) q.2.2 ⟨H, I, by rw [e]; exact h, rfl⟩)
        · exact tail_of hvs.typeIs slot_list_getitem.lookup (wpAny_getItem_list_neg hvs q.1 q.2.1 (Int.le_trans (by decide) q.2.2.1) q.2.2.2 ⟨H, I, by rw [e]; exact h, rfl⟩)
      · obtain ⟨vs, hvs, e1, z1⟩ := (I.nodes p _ hn).isTuple
        obtain ⟨cv, e, q⟩ := pick_get e1 z1 hv
        have hvs' : PyProof.Rows.IsTup s.heap p vs := hvs
        have key : ∀ j : Nat, seqIndex? k vs.size = some j → vs[j]? = some cv → k < 2 ^ 62 ∧ -(2 ^ 62) ≤ k → wpAny C.M A (PyProof.Rows.subscriptTail value slice (.ref p) (.int k u)) (fun v s' => Aft C sn env ρ (fun H' => Q (toV v) ∧ H' = H) s') E s := fun j h1 h2 h3 =>
          tail_of hvs'.typeIs PyProof.Rows.slot_tuple_getitem.lookup (PyProof.Rows.getItem_tuple hvs' (Int.le_trans (by decide) h3.2) (Int.lt_of_lt_of_le h3.1 (by decide)) h1 h2 ⟨H, I, by rw [e]; exact h, rfl⟩)
        rcases q with q | q
        · have := (Array.getElem?_eq_some_iff.mp q.2.2).1
          exact key k.toNat (seqIx q.1 this) q.2.2 ⟨q.2.1, Int.le_trans (by decide) q.1⟩
        · have := (Array.getElem?_eq_some_iff.mp q.2.2.2).1
          exact key (k + vs.size).toNat (seqIxN q.1 this q.2.1) q.2.2.2 ⟨Int.lt_trans q.1 (by decide), q.2.2.1⟩
    cases n <;> try exact seqs h
    case sdict es =>
      obtain ⟨k, u, rfl, h⟩ := strV h
      obtain ⟨v, hv, h⟩ := got_out h
      obtain ⟨kvs, hd, e1, _⟩ := (I.nodes p _ hn).sdict
      obtain ⟨cv, q, rfl⟩ := dget_val e1 hv
      exact tail_of hd.typeIs slot_dict_getitem.lookup (wpAny_getItem_of (strKind_is _ _ k u) hd.mapOf q ⟨H, I.toks _, h, rfl⟩)
    case idict es =>
      obtain ⟨k, u, rfl, h⟩ := intV h
      obtain ⟨v, hv, h⟩ := got_out h
      obtain ⟨kvs, hd, e1, _⟩ := (I.nodes p _ hn).idict
      obtain ⟨cv, q, rfl⟩ := dget_val e1 hv
      exact tail_of hd.typeIs slot_dict_getitem.lookup (wpAny_getItem_of (intKind_is _ _ k u) hd.mapOf q ⟨H, I.toks _, h, rfl⟩)
end
end Mine
namespace Mine
open PySem PySem.Calls PySem.SeqAt PySem.W PyProof.Rows
noncomputable def arg0 (vs : List V) (P : Prop) : Prop := match vs with | [] => P | _ => False
noncomputable def arg1 (vs : List V) (k : V → Prop) : Prop := match vs with | a :: r => arg0 r (k a) | _ => False
noncomputable def arg2 (vs : List V) (k : V → V → Prop) : Prop := match vs with | a :: r => arg1 r (k a) | _ => False
inductive Arg1O (vs : List Value) (k : V → Prop) : Prop
  | mk (a : Value) (e : vs = [a]) (h : k (toV a)) : Arg1O vs k
inductive Arg2O (vs : List Value) (k : V → V → Prop) : Prop
  | mk (a b : Value) (e : vs = [a, b]) (h : k (toV a) (toV b)) : Arg2O vs k
theorem arg0_out {vs : List Value} {P : Prop} (h : arg0 (vs.map toV) P) : vs = [] ∧ P := by
  cases vs with
  | nil => exact ⟨rfl, h⟩
  | cons _ _ => exact h.elim
theorem arg1_out {vs : List Value} {k : V → Prop} (h : arg1 (vs.map toV) k) : Arg1O vs k := by
  cases vs with
  | nil => exact h.elim
  | cons a r => obtain ⟨rfl, h⟩ := arg0_out h; exact ⟨a, rfl, h⟩
theorem arg2_out {vs : List Value} {k : V → V → Prop} (h : arg2 (vs.map toV) k) : Arg2O vs k := by
  cases vs with
  | nil => exact h.elim
  | cons a r => obtain ⟨b, rfl, h⟩ := arg1_out h; exact ⟨a, b, rfl, h⟩
noncomputable def oSet (fz : List Nat) (o i v : V) (Q : AH → Prop) (H : AH) : Prop :=
  match o with
  | .ref p => Look H p fun n => req (decide (p ∉ fz)) (match n with
    | .list xs => onInt i fun k => req (decide (0 ≤ k) && decide (k < xs.length)) (Q (H.set p (.list (xs.set k.toNat v))))
    | .sdict es => (match i with
      | .str k => req (decide (es.length ≤ sizeLine)) (Q (H.set p (.sdict (dput es k v))))
      | .int k => (match es with | [] => Q (H.set p (.idict [(k, v)])) | _ => False)
      | _ => False)
    | .idict es => onInt i fun k => req (decide (es.length ≤ sizeLine)) (Q (H.set p (.idict (dput es k v))))
    | _ => False)
  | _ => False
noncomputable abbrev oSl1 (fz : List Nat) (n : Node) (lo hi : V) (Q : V → AH → Prop) (H : AH) : Prop :=
  onList n fun xs => req (decide (xs.length ≤ sizeLine)) (match lo with
    | .none => onInt hi fun b => req (decide (0 ≤ b)) (Made fz (.list (xs.take b.toNat)) Q H)
    | .int a => (match hi with
      | .none => req (decide (0 ≤ a)) (Made fz (.list (xs.drop a.toNat)) Q H)
      | .int b => req (decide (0 ≤ a) && decide (a ≤ b) && decide (b ≤ xs.length)) (Made fz (.list ((xs.drop a.toNat).take (b - a).toNat)) Q H)
      | _ => False)
    | _ => False)
noncomputable def oSlice (fz : List Nat) (o lo hi : V) (Q : V → AH → Prop) (H : AH) : Prop :=
  onRef o fun p => Look H p fun n => match n with
    | .tuple xs => (match lo with | .none => onInt hi fun b => req (decide (xs.length ≤ sizeLine) && decide (0 ≤ b) && decide (b < xs.length)) (Made fz (.tuple (xs.take b.toNat)) Q H) | _ => False)
    | n => oSl1 fz n lo hi Q H
inductive Mth where
  | append | extend | lclear | index | join
noncomputable def Mth.name : Mth → Str
  | .append => "append" | .extend => "extend" | .lclear => "clear" | .index => "index" | .join => "join"
noncomputable def Mth.id : Mth → String
  | .append => "list.append" | .extend => "list.extend" | .lclear => "list.clear" | .index => "list.index" | .join => "str.join"
noncomputable def Mth.ty : Mth → String
  | .append => "list" | .extend => "list" | .lclear => "list" | .index => "list" | .join => "str"
theorem Mth.facts (m : Mth) : PlainAttrs m.ty ∧ Slot m.ty m.name m.id ∧ typeOf (.builtin m.id) = pure (.type "method_descriptor") := by
  cases m
  · exact ⟨F.plainAttrs_list, F.slot_list_append, F.type_list_append⟩
  · exact ⟨F.plainAttrs_list, F.slot_list_extend, F.type_list_extend⟩
  · exact ⟨F.plainAttrs_list, F.slot_list_clear, F.type_list_clear⟩
  · exact ⟨F.plainAttrs_list, F.slot_list_index, F.type_list_index⟩
  · exact ⟨F.plainAttrs_str, F.slot_str_join, F.type_str_join⟩
noncomputable def onL (m : Mth) (P : Prop) : Prop := match m with | .append => P | .extend => P | .lclear => P | .index => P | _ => False
noncomputable def onD (m : Mth) (P : Prop) : Prop := match m with | _ => False
noncomputable def onJ (m : Mth) (P : Prop) : Prop := match m with | .join => P | _ => False
noncomputable def oGet (m : Mth) (o : V) (P : Prop) (H : AH) : Prop :=
  match o with
  | .str _ => onJ m P
  | .ref p => Look H p fun n => match n with | .list _ => onL m P | .sdict _ => onD m P | .idict _ => onD m P | _ => False
  | _ => False
noncomputable def oMeth (fz : List Nat) (m : Mth) (o : V) (vs : List V) (Q : V → AH → Prop) (H : AH) : Prop :=
  match m with
  | .append => arg1 vs fun x => onRef o fun p => Look H p fun n => req (decide (p ∉ fz)) (onOwn n fun xs => req (decide (xs.length ≤ sizeLine)) (Q .none (H.set p (.list (xs ++ [x])))))
  | .extend => arg1 vs fun x => onRef x fun q => onRef o fun p => Look H p fun n => Look H q fun m => req (decide (p ∉ fz)) (onOwn n fun xs => onOwn m fun ys => req (decide (xs.length + ys.length ≤ sizeLine)) (Q .none (H.set p (.list (xs ++ ys)))))
  | .lclear => arg0 vs (onRef o fun p => Look H p fun n => req (decide (p ∉ fz)) (onOwn n fun xs => req (decide (xs.length ≤ sizeLine)) (Q .none (H.set p (.list [])))))
  | .index => arg1 vs fun x => onRef o fun p => Look H p fun n => onOwn n fun xs => Ix H xs x fun j => Q (.int j) H
  | .join => arg1 vs fun x => onStr o fun t => onRef x fun p => Look H p fun n => onOwn n fun xs => Jn t xs fun s => Q (.str s) H
section
variable {C : Cx} {sn : Snap} {A : Around} {env : Env} {ρ : Str → Option V} {H : AH} {E : Value → Shared → Prop} {Q : V → AH → Prop}
theorem small_succ {n : Nat} (h : n ≤ sizeLine) : n + 1 < 2 ^ 62 := Nat.lt_of_le_of_lt (Nat.succ_le_succ h) (by rw [sizeLine_eq]; decide)
theorem dput_small {K : Type} [DecidableEq K] {es : List (K × V)} {k : K} {v : V} (h : es.length ≤ sizeLine) : (dput es k v).length < 2 ^ 62 := Nat.lt_of_le_of_lt (dput_length ..) (small_succ h)
set_option tactic.hygienic true in
theorem oSet_ok {o i v : Value} {Q : AH → Prop} (h : oSet sn.fz (toV o) (toV i) (toV v) Q H) : TM C sn A env ρ (setItem o i v) (fun _ H' => Q H') E H := by
  intro s I
  cases o <;> try exact h.elim
  case ref p =>
    replace h := look_out h
    obtain ⟨n, hp, h⟩ := h
    replace h := reqp_out h
    obtain ⟨hf, h⟩ := h
    cases n <;> try exact h.elim
    case list xs =>
      replace h := intV h
      obtain ⟨k, t, rfl, h⟩ := h
      replace h := req_out h
      obtain ⟨h1, h⟩ := h
      simp only [Bool.and_eq_true, decide_eq_true_eq] at h1
      obtain ⟨ob, ho, hz, vs, kk, rfl, e1⟩ := I.nodes p _ hp
      have hs := map_size e1
      refine PySem.W.ki_setAt (n := kk) ho h1.1 (by omega) (by omega) ⟨_, I.turnList (ys := xs.set k.toNat (toV v)) hp hf ho _ ?_ ?_, h⟩
      · rw [Array.toList_setIfInBounds, List.map_set, e1]
      · rw [List.length_set]; exact hz
    case sdict es =>
      cases i <;> try exact h.elim
      case str k t =>
        replace h := reqp_out h
        obtain ⟨h1, h⟩ := h
        obtain ⟨kvs, hd, e1, z1⟩ := (I.nodes p _ hp).sdict
        have hl : kvs.length = es.length := by rw [← e1]; simp
        refine wpAny_setItem_pairs (strKind_is _ _ k t) hd (fun h' hd' hs => ?_) (by rw [hl]; exact h1)
        obtain ⟨ob, ho, hio⟩ := Heap.dictOf_iff.mp hd'
        refine ⟨_, I.turn (n' := .sdict _) hp rfl hf hs.extBut ⟨ob, ho, ?_, _, hio, dput_map e1 k v⟩, h⟩
        exact dput_small h1
      case int k t =>
        cases es with
        | cons _ _ => exact h.elim
        | nil =>
          obtain ⟨kvs, hd, rfl⟩ := I.asInt hp
          refine wpAny_setItem_pairs (intKind_is _ _ k t) hd (fun h' hd' hs => ?_) (by simp [sizeLine_eq])
          obtain ⟨ob, ho, hio⟩ := Heap.dictOf_iff.mp hd'
          exact ⟨_, I.turn (n' := .idict [(k, toV v)]) hp rfl hf hs.extBut ⟨ob, ho, by simp, _, hio, by simp [stored]⟩, h⟩
    case idict es =>
      replace h := intV h
      obtain ⟨k, t, rfl, h⟩ := h
      replace h := reqp_out h
      obtain ⟨h1, h⟩ := h
      obtain ⟨kvs, hd, e1, z1⟩ := (I.nodes p _ hp).idict
      have hl : kvs.length = es.length := by rw [← e1]; simp
      refine wpAny_setItem_pairs (intKind_is _ _ k t) hd (fun h' hd' hs => ?_) (by rw [hl]; exact h1)
      obtain ⟨ob, ho, hio⟩ := Heap.dictOf_iff.mp hd'
      refine ⟨_, I.turn (n' := .idict _) hp rfl hf hs.extBut ⟨ob, ho, ?_, _, hio, dput_map e1 k v⟩, h⟩
      exact dput_small h1
set_option maxRecDepth 20000 in
set_option tactic.hygienic true in
theorem oGet_ok {m : Mth} {ov : Value} {pl : Sem Bool} {P : Prop} (h : oGet m (toV ov) P H) : TM C sn A env ρ (getMethod ov m.name pl) (fun r H' => r = (.builtin m.id, [ov]) ∧ P ∧ H' = H) E H := by
  intro s I
  obtain ⟨pa, sl, ty⟩ := m.facts
  cases ov <;> try exact h.elim
  case str x t =>
    have hm : m.ty = "str" ∧ P := by cases m <;> first | exact ⟨rfl, h⟩ | exact h.elim
    rw [hm.1] at pa sl
    exact getMethod_builtin (typeIs_str s x t) pa sl ty (fun a e => by cases e) ⟨H, I, rfl, hm.2, rfl⟩
  case ref p =>
    replace h := look_out h
    obtain ⟨n, hp, h⟩ := h
    cases n <;> try exact h.elim
    case list xs =>
      have hm : m.ty = "list" ∧ P := by cases m <;> first | exact ⟨rfl, h⟩ | exact h.elim
      rw [hm.1] at pa sl
      obtain ⟨o, ho, _, vs, kk, rfl, _⟩ := I.nodes p _ hp
      exact getMethod_builtin ⟨_, ho, rfl⟩ pa sl ty (fun a e => by cases e; exact ⟨_, ho, rfl⟩) ⟨H, I, rfl, hm.2, rfl⟩
    all_goals
      have hm : m.ty = "dict" ∧ P := by cases m <;> first | exact ⟨rfl, h⟩ | exact h.elim
      rw [hm.1] at pa sl
      obtain ⟨o, ho, _, kvs, ⟨_, _, ⟨hc, hd, _⟩, _⟩, _⟩ := I.nodes p _ hp
      exact getMethod_builtin ⟨_, ho, hc⟩ pa sl ty (fun a e => by cases e; exact ⟨_, ho, hd⟩) ⟨H, I, rfl, hm.2, rfl⟩
set_option tactic.hygienic true in
theorem oMeth_ok {m : Mth} {o : Value} {vs : List Value} (hr : Room A) (h : oMeth sn.fz m (toV o) (vs.map toV) Q H) : TM C sn A env ρ (call (.builtin m.id) (o :: vs)) (fun v H' => Q (toV v) H') E H := by
  have hu : A.units + 200 < cLine := hr
  intro s I
  cases m
  case append =>
    replace h := arg1_out h
    obtain ⟨x, rfl, h⟩ := h
    replace h := refV h
    obtain ⟨p, rfl, h⟩ := h
    replace h := look_out h
    obtain ⟨n, hp, h⟩ := h
    replace h := reqp_out h
    obtain ⟨hf, h⟩ := h
    replace h := onOwn_out h
    obtain ⟨xs, rfl, h⟩ := h
    replace h := reqp_out h
    obtain ⟨hz, h⟩ := h
    obtain ⟨vs, ⟨k, ho⟩, e1, z1⟩ := (I.nodes _ _ hp).plainList
    refine wpAny_list_append_plain ⟨k, ho⟩ (fun h' hl hs => ⟨_, I.turn (n' := .list _) (tk := s.toks) hp rfl hf hs.extBut ?_, h⟩) (by rw [map_size e1]; exact hz)
    obtain ⟨k', ho'⟩ := hl
    refine ⟨_, ho', ?_, _, _, rfl, ?_⟩
    · rw [List.length_append]; exact small_succ hz
    · simp [e1]
  case extend =>
    replace h := arg1_out h
    obtain ⟨x, rfl, h⟩ := h
    replace h := refV h
    obtain ⟨q, rfl, h⟩ := h
    replace h := refV h
    obtain ⟨p, rfl, h⟩ := h
    replace h := look_out h
    obtain ⟨n, hp, h⟩ := h
    replace h := look_out h
    obtain ⟨m, hq, h⟩ := h
    replace h := reqp_out h
    obtain ⟨hf, h⟩ := h
    replace h := onOwn_out h
    obtain ⟨xs, rfl, h⟩ := h
    replace h := onOwn_out h
    obtain ⟨ys, rfl, h⟩ := h
    replace h := reqp_out h
    obtain ⟨h2, h⟩ := h
    obtain ⟨vs, ⟨k, ho⟩, e1, z1⟩ := (I.nodes _ _ hp).plainList
    obtain ⟨ws, ⟨k2, ho2⟩, e2, z2⟩ := (I.nodes _ _ hq).plainList
    have hz : vs.size + ws.size ≤ sizeLine := by rw [map_size e1, map_size e2]; exact h2
    refine call_meets PySem.F.slot_list_extend ⟨_, ho, rfl⟩ PySem.F.entry_list_extend (PySem.F.args_list_extend_2 _ _) (PySem.AutoSeq1.list_extend_list_list_0 _ vs k _ ws k2 ?_ (by omega) (by omega)) ⟨ho, ho2, _, I.turnList (ys := xs ++ ys) hp hf ho _ ?_ ?_, h⟩
    · have : Builtin.List.listTooLong (vs.size + ws.size) = false := by
        unfold Builtin.List.listTooLong
        simp; omega
      rw [this]; simp
    · simp [e1, e2]
    · rw [List.length_append]; exact Nat.lt_of_le_of_lt h2 (by rw [sizeLine_eq]; decide)
  case lclear =>
    replace h := arg0_out h
    obtain ⟨rfl, h⟩ := h
    replace h := refV h
    obtain ⟨p, rfl, h⟩ := h
    replace h := look_out h
    obtain ⟨n, hp, h⟩ := h
    replace h := reqp_out h
    obtain ⟨hf, h⟩ := h
    replace h := onOwn_out h
    obtain ⟨xs, rfl, h⟩ := h
    replace h := reqp_out h
    obtain ⟨hz, h⟩ := h
    obtain ⟨vs, ⟨k, ho⟩, e1, z1⟩ := (I.nodes _ _ hp).plainList
    exact call_meets PySem.F.slot_list_clear ⟨_, ho, rfl⟩ PySem.F.entry_list_clear (PySem.F.args_list_clear_1 _) (PySem.AutoSeq1.list_clear_list_0 _ vs k (by rw [map_size e1]; exact hz)) ⟨ho, _, I.turnList (ys := []) hp hf ho _ (by simp) (by simp), h⟩
  case index =>
    replace h := arg1_out h
    obtain ⟨u, rfl, h⟩ := h
    replace h := refV h
    obtain ⟨p, rfl, h⟩ := h
    replace h := look_out h
    obtain ⟨n, hp, h⟩ := h
    replace h := onOwn_out h
    obtain ⟨xs, rfl, h⟩ := h
    obtain ⟨ee, j, y, he, hj, hy, hno, q⟩ := h
    obtain ⟨vs, ⟨k, ho⟩, e1, z1⟩ := (I.nodes _ _ hp).plainList
    obtain ⟨cv, q1, q2⟩ := map_get e1 hj
    obtain ⟨hlt, q1⟩ := Array.getElem?_eq_some_iff.mp q1
    have hs := map_size e1
    refine call_meets PySem.F.slot_list_index ⟨_, ho, rfl⟩ PySem.F.entry_list_index (PySem.F.args_list_index_2 _ _) (list_indexAt _ vs k none #[] u (fun y => ee (toV y)) j hlt (by omega) (by rw [q1, q2]; exact hy) (fun m hm hmj => ?_)) ⟨ho, fun y hy => ?_, H, I.toks _, q⟩
    · exact hno m (toV vs[m]) hmj (by rw [← e1]; simp [hm])
    · obtain ⟨d, hd, hle⟩ := he (toV y) (by rw [← e1]; exact List.mem_map.mpr ⟨y, by simpa using hy, rfl⟩)
      exact (hd.sound (A := A.in1) I.nodesIn (by show A.units + 1 + d < cLine; unfold deepest at hle; omega) rfl rfl).1
  case join =>
    replace h := arg1_out h
    obtain ⟨x, rfl, h⟩ := h
    replace h := strV h
    obtain ⟨t, u, rfl, h⟩ := h
    replace h := refV h
    obtain ⟨p, rfl, h⟩ := h
    replace h := look_out h
    obtain ⟨n, hp, h⟩ := h
    replace h := onOwn_out h
    obtain ⟨xs, rfl, h⟩ := h
    obtain ⟨ss, rfl, hok, q⟩ := h
    obtain ⟨vs, ⟨k, ho⟩, e1, z1⟩ := (I.nodes _ _ hp).plainList
    obtain ⟨l, rfl, e2⟩ := strs_values e1
    exact SC.join ⟨_, ho, rfl, k, rfl⟩ e2 hok fun t' tk => toks_still I (v := .str _ t') q tk
theorem toNat_sub' (a b : Nat) : ((b : Int) - (a : Int)).toNat = b - a := Int.toNat_sub b a
theorem tm_sliceO {value : Expr} {lower upper : Option Expr} {pp pos : Pos} {o : Value}
    (h : TM C sn A env ρ (evalPart lower env) (fun l H₁ => TM C sn A env ρ (evalPart upper env) (fun u H₂ => oSlice sn.fz (toV o) (toV l) (toV u) Q H₂) E H₁) E H) :
    ∀ s, Inv C sn env ρ H s → wpAny C.M A (eval (.Slice lower upper none pp) env) (fun i s' => wpAny C.M A (standAt pos >>= fun _ => PyProof.Rows.subscriptTail value (.Slice lower upper none pp) o i) (fun v s'' => Aft C sn env ρ (fun H' => Q (toV v) H') s'') E s') E s := by
  intro s I
  refine wpAny_Slice (wpAny_mono (h s I) (fun l s₁ h₁ => ?_) fun _ _ e => e)
  obtain ⟨H₁, I₁, h₁⟩ := h₁
  refine wpAny_mono (h₁ s₁ I₁) (fun u s₂ h₂ => ?_) fun _ _ e => e
  obtain ⟨H₂, I₂, h₂⟩ := h₂
  rw [evalPart_none]
  refine wpAny_pure (wpAny_bind (wpAny_standAt ?_))
  obtain ⟨p, rfl, h₂⟩ := refV h₂
  obtain ⟨n, hp, h₂⟩ := look_out h₂
  by_cases ht : ∃ xs, n = .tuple xs
  · obtain ⟨xs, rfl⟩ := ht
    cases l <;> try exact h₂.elim
    obtain ⟨b, t, rfl, h₂⟩ := intV h₂
    obtain ⟨h3, hq⟩ := req_out h₂
    simp only [Bool.and_eq_true, decide_eq_true_eq] at h3
    obtain ⟨⟨hz, h0⟩, hb⟩ := h3
    obtain ⟨b, rfl⟩ := Int.eq_ofNat_of_zero_le h0
    obtain ⟨o, ho, hlen, hc, hdn, vs, k, hdat, e1⟩ := I₂.nodes p _ hp
    have hT : IsTup (s₂.heap.push { cls := .type "slice", data := .fields #[.none, .int (b : Int) t, .none] }) p vs := ⟨o, Heap.get?_push_of_some _ ho, hc, k, hdat⟩
    have I₃ : Inv C sn env ρ H₂ { s₂ with heap := s₂.heap.push { cls := .type "slice", data := .fields #[.none, .int (b : Int) t, .none] } } := I₂.keeps (tk := s₂.toks) fun b o e => Heap.get?_push_of_some _ e
    have hD := get_size (s₂.heap.push { cls := .type "slice", data := .fields #[.none, .int (b : Int) t, .none] })
    have hm := map_size e1
    refine tail_of hT.typeIs PyProof.Rows.slot_tuple_getitem.lookup (getItem_tuple_upto hT (Heap.IsSliceOf.new _ _ _ _) (by rw [hm]; exact Int.ofNat_lt.mp hb) ⟨_, I₃.come (n := .tuple (xs.take b)) (tk := s₂.toks) (fun b o e => Heap.get?_push_of_some _ e) hD ⟨_, Heap.get?_push_size _ rfl, ?_, rfl, rfl, _, _, rfl, ?_⟩, hq.out _ (I₃.none_of_new hD) (I₃.notFz (I₃.none_of_new hD))⟩ (by rw [hm]; exact hz))
    · exact Nat.lt_of_le_of_lt (List.length_take_le' ..) hlen
    · rw [← e1, List.map_take]
  replace h₂ : oSl1 sn.fz n (toV l) (toV u) Q H₂ := by cases n <;> first | exact h₂ | exact absurd ⟨_, rfl⟩ ht
  obtain ⟨xs, en, h₂⟩ := onList_out h₂
  obtain ⟨hz, h₂⟩ := reqp_out h₂
  obtain ⟨vs, hvs, e1, z1⟩ := (I₂.nodes p n hp).isList en
  have hvs' := hvs.push { cls := .type "slice", data := .fields #[l, u, .none] }
  refine tail_of hvs'.typeIs slot_list_getitem.lookup ?_
  have fin : ∀ {lo hi : Option Int} {ys : List V}, IsPart l lo → IsPart u hi → (slicePick vs lo hi none).toList.map toV = ys → ys.length < 2 ^ 62 → Made sn.fz (.list ys) Q H₂ →
      wpAny C.M A (getItem (.ref p) (.ref s₂.heap.objs.size)) (fun v s' => Aft C sn env ρ (fun H' => Q (toV v) H') s') E { s₂ with heap := s₂.heap.push { cls := .type "slice", data := .fields #[l, u, .none] } } := by
    intro lo hi ys pl pu hy hlen hq
    have I₃ : Inv C sn env ρ H₂ { s₂ with heap := s₂.heap.push { cls := .type "slice", data := .fields #[l, u, .none] } } := I₂.keeps (tk := s₂.toks) fun b o e => Heap.get?_push_of_some _ e
    have hD := get_size (s₂.heap.push { cls := .type "slice", data := .fields #[l, u, .none] })
    exact wpAny_getItem_list_slice hvs' (Heap.IsSliceOf.new _ _ _ _) pl pu .none (by simp) ⟨_, I₃.come (n := .list ys) (tk := s₂.toks) (fun b o e => Heap.get?_push_of_some _ e) hD ⟨_, Heap.get?_push_size _ rfl, hlen, _, _, rfl, hy⟩, hq.out _ (I₃.none_of_new hD) (I₃.notFz (I₃.none_of_new hD))⟩ (by rw [map_size e1]; exact hz)
  cases l <;> try exact h₂.elim
  case none =>
    obtain ⟨b, t, rfl, h₂⟩ := intV h₂
    obtain ⟨hb, hq⟩ := reqp_out h₂
    obtain ⟨b, rfl⟩ := Int.eq_ofNat_of_zero_le hb
    refine fin .none (.int _ _) ?_ (Nat.lt_of_le_of_lt (List.length_take_le' ..) z1) hq
    rw [slicePick_upto', List.map_take, e1]; rfl
  case int a t =>
    cases u <;> try exact h₂.elim
    case none =>
      obtain ⟨hb, hq⟩ := reqp_out h₂
      obtain ⟨a, rfl⟩ := Int.eq_ofNat_of_zero_le hb
      refine fin (.int _ _) .none ?_ (Nat.lt_of_le_of_lt (by rw [List.length_drop]; exact Nat.sub_le ..) z1) hq
      rw [slicePick_from', List.map_drop, e1]; rfl
    case int b t' =>
      obtain ⟨h2, hq⟩ := req_out h₂
      simp only [Bool.and_eq_true, decide_eq_true_eq] at h2
      obtain ⟨⟨ha, hab⟩, hb⟩ := h2
      obtain ⟨a1, rfl⟩ := Int.eq_ofNat_of_zero_le ha
      obtain ⟨b1, rfl⟩ := Int.eq_ofNat_of_zero_le (Int.le_trans ha hab)
      have hm := map_size e1
      refine fin (.int _ _) (.int _ _) ?_ ?_ hq
      · rw [slicePick_run _ _ _ (by rw [hm]; exact Int.ofNat_le.mp hb) (Int.ofNat_le.mp hab)]
        rw [List.map_take, List.map_drop, e1, Int.toNat_natCast, toNat_sub']
      · exact Nat.lt_of_le_of_lt (List.length_take_le' ..) (Nat.lt_of_le_of_lt (by rw [List.length_drop]; exact Nat.sub_le ..) z1)
end
end Mine
set_option maxRecDepth 100000
namespace Mine
open PySem PySem.Calls PySem.SeqAt PySem.W PyProof.Rows
noncomputable def ddS (σ : List Str) (v : Str) : List Str := if v ∈ σ then σ else σ ++ [v]
noncomputable def dd (l : List Str) : List Str := l.foldl ddS []
theorem dd_snoc (l : List Str) (v : Str) : dd (l ++ [v]) = ddS (dd l) v := by unfold dd; rw [List.foldl_append]; rfl
theorem dd_facts (l : List Str) : (∀ v, v ∈ dd l ↔ v ∈ l) ∧ (dd l).length ≤ l.length ∧ ((dd l).length = l.length ↔ l.Nodup) := by
  have key : ∀ r : List Str, (∀ v, v ∈ dd r.reverse ↔ v ∈ r.reverse) ∧ (dd r.reverse).length ≤ r.length ∧ ((dd r.reverse).length = r.length ↔ r.Nodup) := by
    intro r
    induction r with
    | nil => exact ⟨fun v => Iff.rfl, Nat.le_refl _, by simp [dd]⟩
    | cons a r ih =>
      obtain ⟨h1, h2, h3⟩ := ih
      rw [List.reverse_cons, dd_snoc]
      unfold ddS
      by_cases ha : a ∈ dd r.reverse
      · rw [if_pos ha]
        have ha' : a ∈ r := by simpa using (h1 a).mp ha
        refine ⟨fun v => ?_, by simp; omega, ?_⟩
        · rw [h1 v]; simp only [List.mem_append, List.mem_singleton, List.mem_reverse]
          exact ⟨.inl, fun h => h.elim id fun e => e ▸ ha'⟩
        · rw [List.length_cons, List.nodup_cons]
          exact ⟨fun h => by omega, fun h => absurd ha' h.1⟩
      · rw [if_neg ha]
        have ha' : a ∉ r := fun h => ha ((h1 a).mpr (by simpa using h))
        refine ⟨fun v => ?_, by simp; omega, ?_⟩
        · rw [List.mem_append, List.mem_append, h1 v]
        · rw [List.length_append, List.length_cons, List.nodup_cons, ← h3]
          simp only [List.length_cons, List.length_nil]
          exact ⟨fun h => ⟨ha', by omega⟩, fun h => by omega⟩
  have := key l.reverse
  rw [List.reverse_reverse, List.length_reverse, (List.reverse_perm l).nodup_iff] at this
  exact this
section
variable {prog : Program} {w : World} {A : Around} {R : Result → Shared → Prop} {I : Addr} {fp wr : List Addr} {G : Array GenState → Array GenState → Prop} {P : Nat → Value → Prop} {St : Nat → Shared → Prop}
theorem set_loop {ss : List Str} {n : Nat} (W : WalksS prog w A.in1 I fp wr G n P St) (hn : n = ss.length) (S : Addr) (hSf : S ∉ fp)
    (hval : ∀ i v, P i v → ∃ x t, ss[i]? = some x ∧ v = .str x t) (hb : ss.length + 1 < scanBound) :
    ∀ (k i : Nat) (s : Shared), ss.length - i = k → i ≤ ss.length → St i s →
      s.heap.SetOf (strKind prog w) S (fun k' => decide (k' ∈ dd (ss.take i))) (dd (ss.take i)).length →
      (∀ s', Moved (S :: wr) G s s' → s'.heap.SetOf (strKind prog w) S (fun k' => decide (k' ∈ dd ss)) (dd ss).length → R (.ok (.ret .none)) s') →
      codeAny (model prog w) A (.builtin "set.update.loop" ⟨[.ref S, .ref I], []⟩) R s := by
  subst hn
  have hSw : S ∉ wr := fun h => hSf (W.sub _ h)
  have hsub : ∀ b ∈ wr, b ∈ S :: wr := fun b hb => List.mem_cons_of_mem _ hb
  intro k
  induction k with
  | zero =>
    intro i s hk hi hst hS hR
    have hin : i = ss.length := Nat.le_antisymm hi (Nat.le_of_sub_eq_zero hk)
    subst hin
    rw [List.take_length] at hS
    refine codeAny_builtin PyProof.Rows.F.entry_set_update_loop ?_
    rw [Around.under_plainId PyProof.Rows.F.plain_set_update_loop _]
    show wpAny _ A.in1 (pyNext (.ref I) >>= _) _ _ s
    refine wpAny_bind (W.done s _ _ hst fun s' hm => ?_)
    show wpAny _ A.in1 (ret Value.none) _ _ s'
    exact wpAny_pure (hR s' (hm.mono hsub) (by
      obtain ⟨o, es, ep, t, ho, rest⟩ := hS
      exact ⟨o, es, ep, t, hm.heap S _ hSw ho, rest⟩))
  | succ k ih =>
    intro i s hk hi hst hS hR
    have hlt : i < ss.length := Nat.lt_of_sub_pos (by rw [hk]; exact Nat.succ_pos _)
    refine codeAny_builtin PyProof.Rows.F.entry_set_update_loop ?_
    rw [Around.under_plainId PyProof.Rows.F.plain_set_update_loop _]
    show wpAny _ A.in1 (pyNext (.ref I) >>= _) _ _ s
    refine wpAny_bind (W.item i s _ _ hlt hst fun v s' hP hst' hm => ?_)
    obtain ⟨x, t, hx, rfl⟩ := hval i v hP
    have hS' : s'.heap.SetOf (strKind prog w) S (fun k' => decide (k' ∈ dd (ss.take i))) (dd (ss.take i)).length := by
      obtain ⟨o, es, ep, tb, ho, rest⟩ := hS
      exact ⟨o, es, ep, tb, hm.heap S _ hSw ho, rest⟩
    show wpAny _ A.in1 (holding [Value.str x t] (setAdd S (.str x t)) >>= _) _ _ s'
    refine wpAny_bind (wpAny_holding ?_)
    unfold setAdd
    refine wpAny_holding ?_
    refine wpAny_bind ((strKind prog w).pyHash (k := x) (strKind_is _ _ _ _) ?_)
    have hle := (dd_facts (ss.take i)).2.1
    rw [List.length_take] at hle
    refine wpAny_setAddHashed_of (knd := strKind prog w) (s := { s' with toks := s'.toks + 1 }) (strKind_is _ _ _ _) rfl hS' (Nat.lt_of_le_of_lt (Nat.succ_le_succ (Nat.le_trans hle (Nat.min_le_right ..))) hb) fun h' hsb hS2 => ?_
    have ht : ss.take (i + 1) = ss.take i ++ [x] := by rw [List.take_add_one, hx]; rfl
    have hSi : h'.SetOf (strKind prog w) S (fun k' => decide (k' ∈ dd (ss.take (i + 1)))) (dd (ss.take (i + 1))).length := by
      refine SetOf_congr hS2 (fun k' => ?_) ?_
      · rw [ht, dd_snoc]; unfold ddS
        by_cases hm : x ∈ dd (ss.take i)
        · rw [if_pos hm]
          by_cases e : k' = x
          · subst e; simp [hm]
          · simp [e]
        · rw [if_neg hm]; simp
      · rw [ht, dd_snoc]; unfold ddS
        by_cases hm : x ∈ dd (ss.take i)
        · simp [hm]
        · simp [hm]
    refine wpAny_pure ⟨plainId_quiet PyProof.Rows.F.plain_set_update_loop _, ih (i + 1) _ (by rw [← Nat.sub_sub, hk]; rfl) hlt (W.frame _ s' _ _ hst' (Nat.le_succ _) fun b hb o e => ?_) hSi fun s'' hm'' hS'' => ?_⟩
    · rw [hsb.2 b (fun h : b = S => hSf (by rw [← h]; exact hb))]; exact e
    · refine hR s'' (Moved.trans W.gtrans ((hm.mono hsub).then_heap (Nat.le_succ _) fun b o hb e => ?_) hm'') hS''
      rw [hsb.2 b (fun h : b = S => hb (by rw [h]; exact List.mem_cons_self))]; exact e
end
section
variable {prog : Program} {w : World} {A : Around} {E : Value → Shared → Prop} {s : Shared}
theorem callType_at {T newId initId : String} {Bi : Builtin} {args : List Value} {Q Q₁ : Value → Shared → Prop} (ft : TypeCalled T newId initId)
    (hct : checkTypeCall T ⟨args, []⟩ = pure ()) (entryI : entryFor table initId = some Bi) (hnew : codeAny (model prog w) A.in1 (.call (.builtin newId) ⟨.type T :: args, []⟩) (wants Q₁ E) s)
    (hnext : ∀ obj s₁, Q₁ obj s₁ → s₁.TypeIs obj T ∧ codeAny (model prog w) A.in1 (.call (.builtin initId) ⟨obj :: args, []⟩) (wants (fun r s₂ => r = .none ∧ Q obj s₂) E) s₁) : wpAny (model prog w) A (call (.type T) args) Q E s := by
  obtain ⟨c, tl, hmro⟩ := ft.mro
  have hmade := ft.made
  have hsub := ft.sub
  refine wpAny_call (codeAny_of_tree ?_)
  show wpAny _ _ (callAny (.type T) _) _ _ _
  refine wpAny_pure ⟨Code.quiet_builtin _ (by decide +kernel), codeAny_builtin F.entry_type_call ?_⟩
  rw [Around.under_plain (weight_type_call_type T args []) rfl]
  have h1 := ft.notType
  have h2 := ft.canCreate
  repeat (any_goals (first | assumption | wp_step))
  refine codeAny_mono hnew fun r s₁ hr => ?_
  cases r with
  | error e => exact hr
  | ok fl =>
    cases fl with
    | ret obj =>
      obtain ⟨hT, hsi⟩ := hnext _ _ hr
      have hli := ft.init.lookup
      have hbi := ft.init.bind obj
      repeat (any_goals (first | assumption | wp_step))
      refine codeAny_mono hsi fun r₂ s₂ hr₂ => ?_
      cases r₂ with
      | error e => exact hr₂
      | ok fl₂ =>
        cases fl₂ with
        | ret r =>
          obtain ⟨rfl, hq⟩ := hr₂
          repeat (any_goals (first | assumption | wp_step))
        | _ => exact hr₂.elim
    | _ => exact hr.elim
theorem set_fill {S l : Addr} {items : Array Value} {ss : List Str} {led : Bool} {R : Result → Shared → Prop} (hh : A.handled = none) (hS : s.heap.get? S = some { cls := .type "set", dict := none, data := .set #[] 0 (.fresh 0 0 led) }) (hl : s.heap.IsList l items) (hne : S ≠ l)
    (hi : items.toList.map toV = ss.map V.str) (hb : items.size + 1 < scanBound)
    (h : ∀ (h' : Heap) (tk : Nat), h'.SetOf (strKind prog w) S (fun k' => decide (k' ∈ dd ss)) (dd ss).length → (∀ b o, b ≠ S → s.heap.get? b = some o → h'.get? b = some o) → R (.ok (.ret .none)) { s with heap := h', toks := tk }) :
    codeAny (model prog w) A (.call (.builtin "set.__init__") ⟨[.ref S, .ref l], []⟩) R s := by
  have hT : s.TypeIs (.ref S) "set" := ⟨_, hS, rfl⟩
  have hlen : items.size = ss.length := by have := congrArg List.length hi; simpa using this
  refine codeAny_call_builtin F.called_set.init.plain F.entry_set_init (check_set_init_1 hT ?_)
  obtain ⟨ol, hol, hcl, nl, hdl⟩ := id hl
  obtain ⟨ocls, odict, odata, oslots⟩ := ol
  simp only at hcl hdl
  subst hcl; subst hdl
  have hsls := PySem.F.sub_list_set
  have hslf := PySem.F.sub_list_frozenset
  have hne' : (Value.type "list" == Value.type "dict") = false := by decide
  unfold Builtin.«set.__init__» noKeywords Builtin.Frozenset.updateFrom
  generalize hPI : pyIter = PI
  wp_walk
  subst hPI
  refine wpAny_pyIter_list hl ?_
  refine wpAny_bind (wpAny_runValue ?_)
  have hneI : l ≠ s.heap.objs.size := Nat.ne_of_lt (Heap.lt_size hol)
  have hSI : S ≠ s.heap.objs.size := Nat.ne_of_lt (Heap.lt_size hS)
  have hSf : S ∉ [s.heap.objs.size, l] := by
    simp only [List.mem_cons, List.mem_singleton, List.not_mem_nil, or_false, not_or]
    exact ⟨hSI, hne⟩
  have hval : ∀ (i : Nat) (v : Value), items[i]? = some v → ∃ x t, ss[i]? = some x ∧ v = .str x t := fun i v hv => by
    have e := congrArg (fun l => l[i]?) hi
    simp only [List.getElem?_map, Array.getElem?_toList, hv, Option.map_some] at e
    cases hs : ss[i]? with
    | none => rw [hs] at e; cases e
    | some x => rw [hs] at e; simp at e; obtain ⟨t, rfl⟩ := toV_str e; exact ⟨x, t, rfl, rfl⟩
  refine set_loop (ss := ss) ((Walks.list (by simp [hh]) _ l hneI items).toS) hlen S hSf hval (hlen ▸ hb) (ss.length - 0) 0 _ rfl (Nat.zero_le _) ⟨⟨_, Heap.get?_push_size _ rfl, rfl, rfl⟩, (hl.push _)⟩
    (SetOf_congr ((setObjOf_fresh (knd := strKind prog w) led).setOf (Heap.get?_push_of_some _ hS) (by unfold scanBound; decide)) (fun _ => rfl) rfl) fun s' hm hS' => ?_
  obtain ⟨h', g', d', tk', os'⟩ := s'
  have eg : g' = s.gens := hm.gens
  have ed : d' = s.drawn := hm.drawn
  have eo : os' = s.os := hm.os
  subst eg; subst ed; subst eo
  refine wpAny_pure (wpAny_pure (h h' tk' hS' fun b o hb e => hm.heap b o ?_ (Heap.get?_push_of_some _ e)))
  simp only [List.mem_cons, List.mem_singleton, List.not_mem_nil, or_false, not_or]
  exact ⟨hb, Nat.ne_of_lt (Heap.lt_size e)⟩
theorem call_set_strs {l : Addr} {items : Array Value} {ss : List Str} {Q : Value → Shared → Prop}
    (hh : A.handled = none) (hl : s.heap.IsList l items) (hi : items.toList.map toV = ss.map V.str) (hb : items.size + 1 < scanBound)
    (h : ∀ (h' : Heap) (tk : Nat), h'.SetOf (strKind prog w) s.heap.objs.size (fun k' => decide (k' ∈ dd ss)) (dd ss).length →
      (∀ b o, b < s.heap.objs.size → s.heap.get? b = some o → h'.get? b = some o) → Q (.ref s.heap.objs.size) { s with heap := h', toks := tk }) :
    wpAny (model prog w) A (call (.type "set") [.ref l]) Q E s := by
  refine callType_at (Q₁ := fun obj s₁ => ∃ led : Bool, obj = .ref s.heap.objs.size ∧ s₁ = { s with heap := s.heap.push { cls := .type "set", dict := none, data := .set #[] 0 (.fresh 0 0 led) } }) F.called_set (PySem.F.typeCall_set_1 (.ref l)) F.entry_set_init (code_set_new_1 (.ref l) fun led => ⟨led, rfl, rfl⟩) ?_
  rintro obj s₁ ⟨led, rfl, rfl⟩
  have hS : (s.heap.push { cls := .type "set", dict := none, data := .set #[] 0 (.fresh 0 0 led) }).get? s.heap.objs.size = some { cls := .type "set", dict := none, data := .set #[] 0 (.fresh 0 0 led) } := Heap.get?_push_size _ rfl
  refine ⟨⟨_, hS, rfl⟩, set_fill (s := { s with heap := s.heap.push { cls := .type "set", dict := none, data := .set #[] 0 (.fresh 0 0 led) } }) (by simpa using hh) hS (hl.push _) (fun e => ?_) hi hb fun h' tk hS' hk => ⟨rfl, h h' tk hS' fun b o hb e => hk b o (Nat.ne_of_lt hb) (Heap.get?_push_of_some _ e)⟩⟩
  obtain ⟨o, ho, _⟩ := hl
  exact absurd (Heap.lt_size ho) (by rw [← e]; exact Nat.lt_irrefl _)
end
section
variable {C : Cx} {sn : Snap} {A : Around} {env : Env} {ρ : Str → Option V} {H : AH} {E : Value → Shared → Prop} {Q : V → AH → Prop}
theorem tm_set_strs {p : Nat} {n : Node} {ss : List Str} (hh : A.handled = none) (hp : H.get p = some n) (en : n.seqL = some (ss.map V.str)) (hz : ss.length ≤ 1000)
    (h : ∀ n : Nat, n ≤ ss.length → (n = ss.length ↔ ss.Nodup) → made sn.fz (.sset n) Q H) :
    TM C sn A env ρ (call (.type "set") [.ref p]) (fun v H' => Q (toV v) H') E H := by
  intro s I
  have hD : s.heap.get? s.heap.objs.size = none := get_size _
  obtain ⟨vs, hl, e1, z1⟩ := (I.nodes p _ hp).isList en
  have hsz : vs.size = ss.length := by rw [map_size e1, List.length_map]
  obtain ⟨f1, f2, f3⟩ := dd_facts ss
  refine call_set_strs hh hl e1 (by unfold scanBound; omega) fun h' tk hS hk => ?_
  obtain ⟨o, ho, hex, es, ep, t, hd, _, _, hn, hf⟩ := hS.objOf
  exact ⟨_, I.come (n := .sset (dd ss).length) (tk := tk) (fun b o e => hk b o (Heap.lt_size e) e) hD ⟨o, ho, by omega, hex, es, ep, t, hd, hn, hf⟩, h _ f2 f3 _ (I.none_of_new hD) (I.notFz (I.none_of_new hD))⟩
end
end Mine
namespace Mine
open PySem PySem.Calls PySem.SeqAt PySem.W PyProof.Rows
section
variable {C : Cx} {sn : Snap} {A : Around} {env : Env} {ρ : Str → Option V} {H : AH} {E : Value → Shared → Prop} {Q : V → AH → Prop}
theorem tm_list_dict {p : Nat} {es : List (Str × V)} (hh : A.handled = none) (hp : H.get p = some (.sdict es)) (hz : es.length ≤ 1000) (h : made sn.fz (.list (es.map fun e => V.str e.1)) Q H) :
    TM C sn A env ρ (call (.type "list") [.ref p]) (fun v H' => Q (toV v) H') E H := by
  intro s I
  have hD : s.heap.get? s.heap.objs.size = none := get_size _
  obtain ⟨kvs, hd, e1, z1⟩ := (I.nodes _ _ hp).sdict
  obtain ⟨ep, hat⟩ := hd.dictAt
  have hl : kvs.length = es.length := by rw [← e1]; simp
  refine W.kdl_call (W.kdl_dict (knd := strKind C.prog C.w) (kvs := kvs) (ep := ep) (I.notMods hp rfl)) hh hat (Nat.le_trans (hl ▸ hz) (by unfold sizeLine; decide)) fun h' tk acc c' hk ho' hacc => ⟨_, I.come (n := .list (es.map fun (e : Str × V) => V.str e.1)) (tk := tk) hk hD ⟨_, ho', by rw [List.length_map]; omega, acc, c', rfl, ?_⟩, h _ (I.none_of_new hD) (I.notFz (I.none_of_new hD))⟩
  have hsz : acc.size = kvs.length := hacc.1
  apply List.ext_getElem?
  intro i
  rw [← e1, List.map_map, List.getElem?_map, List.getElem?_map, Array.getElem?_toList]
  by_cases hi : i < acc.size
  · obtain ⟨k, x, hx, hk⟩ := hacc.2 i acc[i] (Array.getElem?_eq_getElem hi)
    obtain ⟨t, e⟩ := Value.isStrOf_shape hk
    rw [Array.getElem?_eq_getElem hi, hx, e]; rfl
  · rw [Array.getElem?_eq_none (by omega), List.getElem?_eq_none (by omega)]; rfl
end
end Mine
namespace Mine
open PySem PySem.Calls PySem.SeqAt PySem.W PyProof.Rows
inductive Bi where
  | len | min | all | range | int | list | set
noncomputable def Bi.name : Bi → Str
  | .len => "len" | .min => "min" | .all => "all" | .range => "range" | .int => "int" | .list => "list" | .set => "set"
noncomputable def Bi.val : Bi → Value
  | .len => .builtin "len" | .min => .builtin "min" | .all => .builtin "all" | .range => .type "range" | .int => .type "int" | .list => .type "list" | .set => .type "set"
noncomputable def Bi.walks : Bi → Bool
  | .min => true | .all => true | .set => true | .list => true | _ => false
theorem Bi.noRef (b : Bi) (a : Addr) : b.val ≠ .ref a := by cases b <;> exact fun e => nomatch e
inductive StS (fz : List Nat) (xs : List V) (Q : V → AH → Prop) (H : AH) : Prop
  | mk (ss : List Str) : xs = ss.map V.str → ss.length ≤ 1000 → (∀ n : Nat, n ≤ ss.length → (n = ss.length ↔ ss.Nodup) → Made fz (.sset n) Q H) → StS fz xs Q H
inductive Lst (fz : List Nat) (p : Nat) (Q : V → AH → Prop) (H : AH) : Prop
  | mk (xs : List V) : ItemsV H (.ref p) xs → xs.length ≤ 1000 → Made fz (.list xs) Q H → Lst fz p Q H
noncomputable def oRange (fz : List Nat) (vs : List V) (Q : V → AH → Prop) (H : AH) : Prop :=
  match vs with
  | a :: r => onInt a fun x => (match r with
    | [] => Made fz (.rng 0 x 1) Q H
    | b :: r => onInt b fun y => (match r with
      | [] => Made fz (.rng x y 1) Q H
      | c :: r => onInt c fun z => (match r with | [] => req (divOk z) (Made fz (.rng x y z) Q H) | _ => False)))
  | [] => False
noncomputable def oBi (fz : List Nat) (b : Bi) (vs : List V) (Q : V → AH → Prop) (H : AH) : Prop :=
  match b with
  | .len => arg1 vs fun v => match v with
    | .str x => req (decide (x.length < 2 ^ 62)) (Q (.int x.length) H)
    | .ref p => Look H p fun n => match n with
      | .sdict es => Q (.int es.length) H
      | .idict es => Q (.int es.length) H
      | .sset n => Q (.int n) H
      | n => onSeq n fun xs => Q (.int xs.length) H
    | _ => False
  | .min => arg2 vs fun a b => onInt a fun x => onInt b fun y => Q (.int (if y < x then y else x)) H
  | .all => arg1 vs fun v => onRef v fun p => Look H p fun n => onOwn n fun xs => ∃ bs : List Bool, xs = bs.map V.bool ∧ Q (.bool (bs.all id)) H
  | .range => oRange fz vs Q H
  | .int => arg1 vs fun v => match v with | .bool b => Q (.int (if b then 1 else 0)) H | _ => False
  | .list => arg1 vs fun v => onRef v fun p => Look H p fun n => match n with
    | .sdict _ => Lst fz p Q H
    | n => onSeq n fun xs => req (decide (xs.length ≤ sizeLine)) (Made fz (.list xs) Q H)
  | .set => arg1 vs fun v => onRef v fun p => Look H p fun n => onList n fun xs => StS fz xs Q H
inductive Ty where
  | bool | int | str | list | tuple | dict
noncomputable def Ty.name : Ty → Str
  | .bool => "bool" | .int => "int" | .str => "str" | .list => "list" | .tuple => "tuple" | .dict => "dict"
noncomputable def Ty.s : Ty → String
  | .bool => "bool" | .int => "int" | .str => "str" | .list => "list" | .tuple => "tuple" | .dict => "dict"
noncomputable def Bi.ty : Bi → Option Ty
  | .int => some .int | .list => some .list | _ => none
theorem Bi.ty_val {b : Bi} {t : Ty} (h : b.ty = some t) : b.val = .type t.s := by cases b <;> cases h <;> rfl
noncomputable def isBool : Ty → Bool | .bool => true | .int => true | _ => false
noncomputable def isInt : Ty → Bool | .int => true | _ => false
noncomputable def isStr : Ty → Bool | .str => true | _ => false
noncomputable def isList : Ty → Bool | .list => true | _ => false
noncomputable def isTuple : Ty → Bool | .tuple => true | _ => false
noncomputable def isDict : Ty → Bool | .dict => true | _ => false
noncomputable def oIsi (v : V) (t : Ty) (Q : V → AH → Prop) (H : AH) : Prop :=
  match v with
  | .none => Q (.bool false) H
  | .bool _ => Q (.bool (isBool t)) H
  | .int _ => Q (.bool (isInt t)) H
  | .str _ => Q (.bool (isStr t)) H
  | .ref p => Look H p fun n => match n with
    | .list _ => Q (.bool (isList t)) H
    | .rlist _ => Q (.bool (isList t)) H
    | .tuple _ => Q (.bool (isTuple t)) H
    | .sdict _ => Q (.bool (isDict t)) H
    | .idict _ => Q (.bool (isDict t)) H
    | .inst d => Look H d fun _ => req (isStr t) (Q (.bool false) H)
    | _ => False
  | _ => False
section
variable {C : Cx} {sn : Snap} {A : Around} {env : Env} {ρ : Str → Option V} {H : AH} {E : Value → Shared → Prop} {Q : V → AH → Prop}
set_option tactic.hygienic true in
theorem oIsi_ok {a : Value} {t : Ty} (hb : ∃ K : Frag, K.In C.h₀ ∧ bkNeg K C.bc = true) (h : oIsi (toV a) t Q H) : TM C sn A env ρ (call (.builtin "isinstance") [a, .type t.s]) (fun v H' => Q (toV v) H') E H := by
  have key : ∀ K b, kindV H (toV a) = some K → isiT K t.s = b → Q (.bool b) H → TM C sn A env ρ (call (.builtin "isinstance") [a, .type t.s]) (fun v H' => Q (toV v) H') E H := fun K b h1 h2 h3 =>
    tm_isi (K := K) (by cases t <;> decide) h1 (by rw [h2]; exact h3)
  cases a <;> try exact h.elim
  case none => exact key "NoneType" false rfl (by cases t <;> decide) h
  case bool b => exact key "bool" _ rfl (by cases t <;> decide) h
  case int b => exact key "int" _ rfl (by cases t <;> decide) h
  case str b => exact key "str" _ rfl (by cases t <;> decide) h
  case ref p =>
    obtain ⟨n, hp, h⟩ := look_out h
    have kv : ∀ K, (match n with | .list _ | .rlist _ => some "list" | .tuple _ => some "tuple" | .sdict _ | .idict _ => some "dict" | _ => none : Option String) = some K → kindV H (toV (.ref p)) = some K := fun K e => by
      show (match H.get p with | some (.list _) | some (.rlist _) => some "list" | some (.tuple _) => some "tuple" | some (.sdict _) | some (.idict _) => some "dict" | _ => none : Option String) = some K
      rw [hp]; cases n <;> exact e
    cases n <;> try exact h.elim
    case list => exact key "list" _ (kv _ rfl) (by cases t <;> decide) h
    case rlist => exact key "list" _ (kv _ rfl) (by cases t <;> decide) h
    case tuple => exact key "tuple" _ (kv _ rfl) (by cases t <;> decide) h
    case sdict => exact key "dict" _ (kv _ rfl) (by cases t <;> decide) h
    case idict => exact key "dict" _ (kv _ rfl) (by cases t <;> decide) h
    case inst d =>
      obtain ⟨m, hd, h⟩ := look_out h
      obtain ⟨ht, h⟩ := req_out h
      obtain ⟨K, hK, hn⟩ := hb
      cases t <;> try cases ht
      unfold bkNeg at hn
      simp only [Bool.and_eq_true, beq_iff_eq] at hn
      obtain ⟨⟨n1, n2⟩, ⟨n3, n4⟩, ⟨n5, n6⟩, n7⟩ := hn
      intro s I
      obtain ⟨o, ho, hc, hdict, hno⟩ := I.nodes p _ hp
      obtain ⟨od, hod, _⟩ := I.nodes d _ hd
      have hi : InstAt s.heap p o C.bc (some od) := ⟨ho, hc, by unfold PySem.W.notCls; cases q : o.data <;> first | rfl | exact absurd q (hno _), by rw [hdict]; exact hod⟩
      exact kin_callT (T := "str") (fun x y e => I.base _ _ (hK x y e)) hi n7 (by kernel_rfl) n1 n2 n3 n4 n5 n6 ⟨H, I.toks _, h⟩
set_option tactic.hygienic true in
theorem oBi_ok {b : Bi} {vs : List Value} (hh : b.walks = true → A.handled = none) (h : oBi sn.fz b (vs.map toV) Q H) : TM C sn A env ρ (call b.val vs) (fun v H' => Q (toV v) H') E H := by
  cases b
  case len =>
    replace h := arg1_out h
    obtain ⟨v, rfl, h⟩ := h
    cases v <;> try exact h.elim
    case str x t => exact tm_len_str (reqp_out h).1 (reqp_out h).2
    case ref p =>
      replace h := look_out h
      obtain ⟨n, hp, h⟩ := h
      cases n <;> try exact h.elim
      case list xs => exact tm_len_list hp rfl h
      case rlist xs => exact tm_len_list hp rfl h
      case tuple xs => exact tm_len_tuple hp h
      case sdict es =>
        intro s I
        obtain ⟨kvs, hd, e1, z1⟩ := (I.nodes _ _ hp).sdict
        exact tm_len_dict I hd e1 z1 (I.notMods hp rfl) h
      case idict es =>
        intro s I
        obtain ⟨kvs, hd, e1, z1⟩ := (I.nodes _ _ hp).idict
        exact tm_len_dict I hd e1 z1 (I.notMods hp rfl) h
      case sset n =>
        intro s I
        obtain ⟨o, ho, hz, hex, es, ep, t, hd, rfl, hf⟩ := I.nodes _ _ hp
        exact call_len_set ho hex hd hf (by omega) (toks_still I (v := .int _ _) h _)
  case min =>
    replace h := arg2_out h
    obtain ⟨v, u, rfl, h⟩ := h
    replace h := intV h
    obtain ⟨x, t, rfl, h⟩ := h
    replace h := intV h
    obtain ⟨y, t', rfl, h⟩ := h
    intro s I
    refine min_two_ints (hh rfl) fun h' tk k => ⟨H, I.keeps k, ?_⟩
    split <;> rename_i hc <;> simpa [toV, hc] using h
  case all =>
    replace h := arg1_out h
    obtain ⟨v, rfl, h⟩ := h
    obtain ⟨p, rfl, h⟩ := refV h
    obtain ⟨n, hp, h⟩ := look_out h
    obtain ⟨xs, rfl, h⟩ := onOwn_out h
    obtain ⟨bs, rfl, hQ⟩ := h
    exact tm_all (hh rfl) hp hQ
  case range =>
    match vs, h with
    | [], h => exact h.elim
    | a :: r, h =>
      obtain ⟨x, t, rfl, h⟩ := intV h
      match r, h with
      | [], h => exact tm_range1 h.out
      | b :: r, h =>
        obtain ⟨y, t', rfl, h⟩ := intV h
        match r, h with
        | [], h => exact tm_range2 h.out
        | c :: r, h =>
          obtain ⟨z, t'', rfl, h⟩ := intV h
          match r, h with
          | [], h =>
            obtain ⟨h1, h⟩ := req_out h
            have h1 := Bool.and_eq_true_iff.mp h1
            exact tm_range3 ⟨of_decide_eq_true h1.1, of_decide_eq_true h1.2⟩ h.out
          | _ :: _, h => exact h.elim
  case int =>
    replace h := arg1_out h
    obtain ⟨v, rfl, h⟩ := h
    cases v <;> try exact h.elim
    case bool b => exact fun s I => call_int_bool (toks_still I (v := .int _ _) h _)
  case list =>
    replace h := arg1_out h
    obtain ⟨v, rfl, h⟩ := h
    obtain ⟨p, rfl, h⟩ := refV h
    obtain ⟨n, hp, h⟩ := look_out h
    have seqs : onSeq n (fun xs => req (decide (xs.length ≤ sizeLine)) (Made sn.fz (.list xs) Q H)) → TM C sn A env ρ (call (.type "list") [.ref p]) (fun v H' => Q (toV v) H') E H := fun h => by
      obtain ⟨xs, en, h⟩ := onSeq_out h
      have hs : n.seq = some xs := by
        rcases en with en | rfl
        · cases n <;> first | exact en | cases en
        · rfl
      exact tm_list_copy hp hs (reqp_out h).1 (reqp_out h).2.out
    cases n <;> try exact seqs h
    case sdict es =>
      obtain ⟨xs, hx, hz, h⟩ := h
      unfold ItemsV at hx
      simp only [hp] at hx
      subst hx
      rw [List.length_map] at hz
      exact tm_list_dict (hh rfl) hp hz h.out
  case set =>
    replace h := arg1_out h
    obtain ⟨v, rfl, h⟩ := h
    obtain ⟨p, rfl, h⟩ := refV h
    obtain ⟨n, hp, h⟩ := look_out h
    obtain ⟨xs, en, h⟩ := onList_out h
    obtain ⟨ss, rfl, hz, h⟩ := h
    exact tm_set_strs (hh rfl) hp en hz fun n h1 h2 => (h n h1 h2).out
end
end Mine
namespace Mine
open PySem PySem.Calls PySem.SeqAt PySem.W PyProof.Rows
noncomputable def onInst (n : Node) (k : Nat → Prop) : Prop := match n with | .inst d => k d | _ => False
noncomputable def onAttrs (n : Node) (k : List (Option V) → Prop) : Prop := match n with | .attrs l => k l | _ => False
theorem onInst_out {n : Node} {k : Nat → Prop} (h : onInst n k) : ∃ d, n = .inst d ∧ k d := by cases n <;> first | exact ⟨_, rfl, h⟩ | exact h.elim
theorem onAttrs_out {n : Node} {k : List (Option V) → Prop} (h : onAttrs n k) : ∃ d, n = .attrs d ∧ k d := by cases n <;> first | exact ⟨_, rfl, h⟩ | exact h.elim
noncomputable def notBi (v : V) : Bool := match v with | .bi _ => false | _ => true
noncomputable def oAttr (ov : V) (i : Nat) (k : V → Prop) (H : AH) : Prop := onRef ov fun x => Look H x fun n => onInst n fun d => Look H d fun m => onAttrs m fun l => Got (l[i]?).join fun v => req (notBi v) (k v)
theorem inst_at {C : Cx} {h : Heap} {x d : Addr} {l : List (Option V)} (hx : NodeAt C h x (.inst d)) (hd : NodeAt C h d (.attrs l)) (hne : d ≠ x) : ∃ mA, h.Inst x C.bc mA ∧ (∀ y, mA y ≠ none → y ∈ C.ats) ∧ ∀ (i : Nat) y, C.ats[i]? = some y → (mA y).map toV = (l[i]?).join := by
  obtain ⟨o, ho, hc, hdd, hdat⟩ := hx
  obtain ⟨od, hod, es, ep, mA, e1, e2, e3, e4, e5, e6⟩ := hd
  exact ⟨mA, ⟨o, ho, hc, hdat, .inr ⟨d, hdd, hne, od, es, ep, hod, e1, e2, e3, e4⟩⟩, e5, e6⟩
section
variable {C : Cx} {sn : Snap} {A : Around} {env : Env} {ρ : Str → Option V} {H : AH} {E : Value → Shared → Prop}
theorem oAttr_ok {ov : Value} {i : Nat} {name : Str} {expr : Bool} {k : V → Prop} (hi : C.ats[i]? = some name) (h : oAttr (toV ov) i k H) : TM C sn A env ρ (getAttr ov name expr) (fun v H' => k (toV v) ∧ H' = H) E H := by
  intro s I
  have X := C.bk (fun e => by rw [e] at hi; cases hi)
  obtain ⟨x, rfl, h⟩ := refV h
  obtain ⟨n, hx, h⟩ := look_out h
  replace h := onInst_out h
  obtain ⟨d, rfl, h⟩ := h
  obtain ⟨m, hd, h⟩ := look_out h
  replace h := onAttrs_out h
  obtain ⟨l, rfl, h⟩ := h
  obtain ⟨v, hv, h⟩ := got_out h
  obtain ⟨hb, h⟩ := req_out h
  obtain ⟨mA, hI, _, e6⟩ := inst_at (I.nodes _ _ hx) (I.nodes _ _ hd) (fun e => by subst e; rw [hx] at hd; cases hd)
  have e := e6 i name hi
  rw [hv] at e
  obtain ⟨cv, hcv, rfl⟩ := Option.map_eq_some_iff.mp e
  have hh : handedOut cv = pure cv := by cases cv <;> first | rfl | cases hb
  obtain ⟨nm, q, bs, sn', sub, col, dd, k0, k1, k2, k3, k5, hC⟩ := (X.cls.keeps I.base).obj
  obtain ⟨hp, g, dr, t, os⟩ := s
  exact load_attr hC (X.cls.keeps I.base).ns X.ga (X.no _ (List.mem_of_getElem? hi)).1 (X.no _ (List.mem_of_getElem? hi)).2 hI hcv hh ⟨H, I.toks _, h, rfl⟩
noncomputable def oSetAttr (fz : List Nat) (ov : V) (i : Nat) (u : V) (Q : AH → Prop) (H : AH) : Prop := onRef ov fun x => Look H x fun n => onInst n fun d => Look H d fun m => onAttrs m fun l => req (decide (d ∉ fz)) (req (decide (i < l.length)) (Q (H.set d (.attrs (l.set i (some u))))))
theorem oSetAttr_ok {ov u : Value} {i : Nat} {name : Str} {Q : AH → Prop} (hi : C.ats[i]? = some name) (h : oSetAttr sn.fz (toV ov) i (toV u) Q H) : TM C sn A env ρ (setAttr ov name u) (fun _ H' => Q H') E H := by
  intro s I
  have X := C.bk (fun e => by rw [e] at hi; cases hi)
  obtain ⟨x, rfl, h⟩ := refV h
  obtain ⟨n, hx, h⟩ := look_out h
  replace h := onInst_out h
  obtain ⟨d, rfl, h⟩ := h
  obtain ⟨m, hd, h⟩ := look_out h
  replace h := onAttrs_out h
  obtain ⟨l, rfl, h⟩ := h
  obtain ⟨hf, h⟩ := reqp_out h
  obtain ⟨hil, h⟩ := reqp_out h
  have hne : d ≠ x := fun e => by subst e; rw [hx] at hd; cases hd
  obtain ⟨mA, hI, e5, e6⟩ := inst_at (I.nodes _ _ hx) (I.nodes _ _ hd) hne
  obtain ⟨ox, hox, hcx, hdx, hdt⟩ := I.nodes _ _ hx
  obtain ⟨nm, q, bs, sn', sub, col, dd, k0, k1, k2, k3, k5, hC⟩ := (X.cls.keeps I.base).obj
  obtain ⟨hp, g, dr, t, os⟩ := s
  have hxC : x ≠ C.bc := fun e => by
    subst e
    obtain ⟨_, _, _, _, _, _, _, _, _, _, _, _, hC0⟩ := X.cls.obj
    have := I.new _ _ hx rfl
    rw [this] at hC0; cases hC0
  refine store_attr PySem.F.store_object hC (X.cls.keeps I.base).ns X.sa (X.no _ (List.mem_of_getElem? hi)).1 (X.no _ (List.mem_of_getElem? hi)).2 hxC hI (fun h' tk' I' hk hsame => ?_) (ns := C.ats) ?_ X.sz
  · obtain ⟨o₁, g1, c1, d1, s1, k1'⟩ := hsame ox hox
    have e1 : o₁ = ox := by
      have := k1' d hdx
      cases o₁; cases ox
      simp only at c1 d1 s1 this hdx
      subst c1 d1 s1
      rw [this, hdx]
    subst e1
    have kk : ∀ b o, b ≠ d → hp.get? b = some o → h'.get? b = some o := fun b o hb e => by
      by_cases hbx : b = x
      · subst hbx; rw [hox] at e; cases e; exact g1
      · exact hk b o hbx (fun o₀ dx e₀ ed => by rw [hox] at e₀; cases e₀; rw [hdx] at ed; cases ed; exact hb) e
    obtain ⟨o', ho', _, _, hd'⟩ := I'
    rw [g1] at ho'; cases ho'
    rcases hd' with ⟨hn0, _⟩ | ⟨d', hd', _, od, es, ep, hod, f1, f2, f3, f4⟩
    · rw [hdx] at hn0; cases hn0
    rw [hdx] at hd'; cases hd'
    refine ⟨_, I.turn (n' := .attrs (l.set i (some (toV u)))) hd rfl hf (fun b o hb e => kk b o hb e) ⟨od, hod, es, ep, _, f1, f2, f3, f4, fun y hy => ?_, fun j y hj => ?_⟩, h⟩
    · by_cases hyn : y = name
      · subst hyn; exact List.mem_of_getElem? hi
      · rw [if_neg hyn] at hy; exact e5 y hy
    · by_cases hji : j = i
      · subst hji
        rw [hi] at hj; cases hj
        rw [if_pos rfl, List.getElem?_set_self hil]; rfl
      · have hyn : y ≠ name := fun e => by
          subst e
          have hj' := (List.getElem?_eq_some_iff.mp hj).1
          exact hji ((List.getElem?_inj hj' X.nd).mp (hj.trans hi.symm))
        rw [if_neg hyn, List.getElem?_set_ne (fun e => hji e.symm)]
        exact e6 j y hj
  · exact e5
noncomputable def oInst (ov : V) (k : Prop) (H : AH) : Prop := onRef ov fun x => Look H x fun n => onInst n fun d => Look H d fun m => onAttrs m fun _ => k
structure MethIs (C : Cx) (name : Str) (f : Addr) : Prop where
  is : C.bm name = some (.ref f)
  fn : ∃ o, C.h₀.get? f = some o ∧ o.cls = .type "function"
  obj : ∃ y, typeLookup (.type "object") name = pure y
  own : name ∉ C.ats
  some : C.ats ≠ []
theorem oInst_ok {ov : Value} {name : Str} {pl : Sem Bool} {f : Addr} {k : Prop} (Mt : MethIs C name f) (h : oInst (toV ov) k H) : TM C sn A env ρ (getMethod ov name pl) (fun r H' => r = (.ref f, [ov]) ∧ k ∧ H' = H) E H := by
  intro s I
  have X := C.bk Mt.some
  obtain ⟨x, rfl, h⟩ := refV h
  obtain ⟨n, hx, h⟩ := look_out h
  replace h := onInst_out h
  obtain ⟨d, rfl, h⟩ := h
  obtain ⟨m, hd, h⟩ := look_out h
  replace h := onAttrs_out h
  obtain ⟨l, rfl, h⟩ := h
  obtain ⟨mA, hI, e5, _⟩ := inst_at (I.nodes _ _ hx) (I.nodes _ _ hd) (fun e => by subst e; rw [hx] at hd; cases hd)
  obtain ⟨nm, q, bs, sn', sub, col, dd, k0, k1, k2, k3, k5, hC⟩ := (X.cls.keeps I.base).obj
  obtain ⟨o, ho, hfc⟩ := Mt.fn
  obtain ⟨y, hy⟩ := Mt.obj
  have hsh : mA name = none := by
    cases q : mA name with
    | none => rfl
    | some v => exact absurd (e5 name (by rw [q]; simp)) Mt.own
  have hb := I.base _ _ ho
  have hns := (X.cls.keeps I.base).ns
  obtain ⟨hp, g, dr, t, os⟩ := s
  exact method_of hC hns X.ga X.gh Mt.is hb hfc hy hI hsh ⟨H, I, rfl, h, rfl⟩
end
end Mine
namespace Mine
set_option genInjectivity false
open PySem PySem.Calls PySem.SeqAt PySem.W PyProof.Rows
noncomputable def tx (l : List Nat) : Str := ⟨⟨l⟩⟩
noncomputable abbrev Tr := List Nat → List V → (V → AH → Prop) → (Nat → AH → Prop) → AH → Prop
set_option genCtorIdx false in
inductive G where
  | val (v : V) | con (T : Tr) (any : Bool) | bi (b : Bi) | isi | ty (t : Ty) | exc (i : Nat) | verr | attr (i : Nat) | meth (T : Tr)
set_option genCtorIdx false in
inductive Cap where
  | own (x : Str) | free (i : Nat) | gl (i : Nat)
set_option genCtorIdx false in
inductive CE where
  | none | bool (b : Bool) | int (i : Int) | str (s : List Nat)
  | var (i : Nat) | glob (j : Nat)
  | bin (op : Operator) (a b : CE) | not (a : CE) | neg (a : CE)
  | bop (op : BoolOp) (es : CE)
  | cmp (op : CmpOp) (a b : CE) | cmp2 (op op' : CmpOp) (a b c : CE)
  | attr (j : Nat) (o : CE) | om (j : Nat) (o as : CE)
  | meth (m : Mth) (o as : CE) | call (j : Nat) (as : CE) | isi (j j' : Nat) (a : CE)
  | list (es : CE) | tup (es : CE) | dict0 | dict1 (k v : CE)
  | sub (o i : CE) | slice (o : CE) | sliceT (o b : CE) | sliceF (o a : CE) | slice2 (o a b : CE)
  | comp (elt it : CE) (caps : List Cap) (x : Nat) | compIf (elt it c : CE) (caps : List Cap) (x : Nat)
  | nil | cons (a r : CE)
set_option genCtorIdx false in
inductive PT where
  | nil | n (p q : Pos) (i : Nat) (a b c : PT)
noncomputable def PT.p : PT → Pos | .n p _ _ _ _ _ => p | .nil => default
noncomputable def PT.q : PT → Pos | .n _ q _ _ _ _ => q | .nil => default
noncomputable def PT.i : PT → Nat | .n _ _ i _ _ _ => i | .nil => 0
noncomputable def PT.a : PT → PT | .n _ _ _ a _ _ => a | .nil => .nil
noncomputable def PT.b : PT → PT | .n _ _ _ _ b _ => b | .nil => .nil
noncomputable def PT.c : PT → PT | .n _ _ _ _ _ c => c | .nil => .nil
noncomputable abbrev Sc := List (Str × NameKind)
noncomputable abbrev Gx := List (Str × G)
noncomputable def nameAt (sc : Sc) (i : Nat) : Str := match sc[i]? with | some p => p.1 | none => default
noncomputable def gnameAt (gx : Gx) (i : Nat) : Str := match gx[i]? with | some p => p.1 | none => default
noncomputable def capN (sc : Sc) (gx : Gx) : Cap → Str × NameKind
  | .own x => (x, .local) | .free i => (nameAt sc i, .free) | .gl i => (gnameAt gx i, .globalImplicit)
noncomputable def capR (sc : Sc) (gx : Gx) : Cap → Str × NameKind
  | .own x => (x, .local) | .free i => (nameAt sc i, .cell) | .gl i => (gnameAt gx i, .globalImplicit)
noncomputable def capS (sc : Sc) (gx : Gx) (caps : List Cap) : Scope := ⟨.function, caps.map (capN sc gx), false, false, []⟩
mutual
noncomputable def toE : CE → Sc → Gx → PT → Expr
  | .none, _, _, t => .Constant .none t.i t.p
  | .bool b, _, _, t => .Constant (.bool b) t.i t.p
  | .int i, _, _, t => .Constant (.int i) t.i t.p
  | .str s, _, _, t => .Constant (.str (tx s)) t.i t.p
  | .var i, sc, _, t => .Name (nameAt sc i) t.p
  | .glob j, sc, _, t => .Name (nameAt sc j) t.p
  | .bin op a b, sc, gx, t => .BinOp (toE a sc gx t.a) op (toE b sc gx t.b) t.p
  | .not a, sc, gx, t => .UnaryOp .Not (toE a sc gx t.a) t.p
  | .neg a, sc, gx, t => .UnaryOp .USub (toE a sc gx t.a) t.p
  | .bop op es, sc, gx, t => .BoolOp op (toA es sc gx t.a) t.p
  | .cmp op a b, sc, gx, t => .Compare (toE a sc gx t.a) [op] [toE b sc gx t.b] t.p
  | .cmp2 op op' a b c, sc, gx, t => .Compare (toE a sc gx t.a) [op, op'] [toE b sc gx t.b, toE c sc gx t.c] t.p
  | .meth m o as, sc, gx, t => .Call (.Attribute (toE o sc gx t.a) m.name t.q) (toA as sc gx t.b) [] t.p
  | .attr j o, sc, gx, t => .Attribute (toE o sc gx t.a) (gnameAt gx j) t.p
  | .om j o as, sc, gx, t => .Call (.Attribute (toE o sc gx t.a) (gnameAt gx j) t.q) (toA as sc gx t.b) [] t.p
  | .call j as, sc, gx, t => .Call (.Name (nameAt sc j) t.q) (toA as sc gx t.a) [] t.p
  | .isi j j' a, sc, gx, t => .Call (.Name (nameAt sc j) t.q) [toE a sc gx t.a, .Name (nameAt sc j') t.b.p] [] t.p
  | .list es, sc, gx, t => .List (toA es sc gx t.a) t.p
  | .tup es, sc, gx, t => .Tuple (toA es sc gx t.a) t.i t.p
  | .dict0, _, _, t => .Dict [] [] t.p
  | .dict1 k v, sc, gx, t => .Dict [some (toE k sc gx t.a)] [toE v sc gx t.b] t.p
  | .sub o i, sc, gx, t => .Subscript (toE o sc gx t.a) (toE i sc gx t.b) t.p
  | .slice o, sc, gx, t => .Subscript (toE o sc gx t.a) (.Slice none none none t.q) t.p
  | .sliceT o b, sc, gx, t => .Subscript (toE o sc gx t.a) (.Slice none (some (toE b sc gx t.b)) none t.q) t.p
  | .sliceF o b, sc, gx, t => .Subscript (toE o sc gx t.a) (.Slice (some (toE b sc gx t.b)) none none t.q) t.p
  | .slice2 o a b, sc, gx, t => .Subscript (toE o sc gx t.a) (.Slice (some (toE a sc gx t.b)) (some (toE b sc gx t.c)) none t.q) t.p
  | .comp elt it caps x, sc, gx, t => .ListComp (toE elt (caps.map (capR sc gx)) gx t.a) [⟨.Name (nameAt (caps.map (capR sc gx)) x) t.q, toE it sc gx t.b, [], 0⟩] (capS sc gx caps) t.p
  | .compIf elt it c caps x, sc, gx, t => .ListComp (toE elt (caps.map (capR sc gx)) gx t.a) [⟨.Name (nameAt (caps.map (capR sc gx)) x) t.q, toE it sc gx t.b, [toE c (caps.map (capR sc gx)) gx t.c], 0⟩] (capS sc gx caps) t.p
  | .nil, _, _, t => .Constant .none t.i t.p
  | .cons _ _, _, _, t => .Constant .none t.i t.p
noncomputable def toA : CE → Sc → Gx → PT → List Expr
  | .cons a r, sc, gx, t => toE a sc gx t.a :: toA r sc gx t.b
  | _, _, _, _ => []
end
structure Kids where
  p : Pos
  q : Pos
  i : Nat
  l : List Expr
  as : List Expr
noncomputable def posOf : Expr → Pos
  | .Name _ p => p | .Attribute _ _ p => p | .Slice _ _ _ p => p | _ => default
noncomputable def subs : Expr → List Expr
  | .Attribute x _ _ => [x] | .Slice x y _ _ => x.toList ++ y.toList | .Name _ _ => [] | e => [e]
noncomputable def kids (e : Expr) : Kids :=
  match e with
  | .BinOp l _ r p => ⟨p, p, 0, [l, r], []⟩
  | .UnaryOp _ x p => ⟨p, p, 0, [x], []⟩
  | .BoolOp _ xs p => ⟨p, p, 0, [], xs⟩
  | .IfExp x y z p => ⟨p, p, 0, [x, y, z], []⟩
  | .Compare x _ ys p => ⟨p, p, 0, x :: ys, []⟩
  | .Call f xs _ p => ⟨p, posOf f, 0, subs f ++ xs, xs⟩
  | .List xs p => ⟨p, p, 0, [], xs⟩
  | .Tuple xs i p => ⟨p, p, i, [], xs⟩
  | .Dict ks vs p => ⟨p, p, 0, ks.filterMap id ++ vs, []⟩
  | .Subscript x (.Slice lo hi st q) p => ⟨p, q, 0, x :: subs (.Slice lo hi st q), []⟩
  | .Subscript x y p => ⟨p, p, 0, [x, y], []⟩
  | .ListComp x gens _ p => (match gens with | ⟨tg, y, zs, _⟩ :: _ => ⟨p, posOf tg, 0, x :: y :: zs, []⟩ | [] => ⟨p, p, 0, [], []⟩)
  | .Constant _ i p => ⟨p, p, i, [], []⟩
  | .Name _ p => ⟨p, p, 0, [], []⟩
  | .Attribute x _ p => ⟨p, p, 0, [x], []⟩
  | _ => ⟨default, default, 0, [], []⟩
noncomputable def Kids.k (K : Kids) (i : Nat) : Expr := match K.l[i]? with | some e => e | none => .Constant .none 0 default
noncomputable def Kids.t (K : Kids) (a b c : PT) : PT := .n K.p K.q K.i a b c
mutual
/-- the places, out of the text itself -/
noncomputable def posE : CE → Kids → PT
  | .bin _ a b, K => K.t (posE a (kids (K.k 0))) (posE b (kids (K.k 1))) .nil
  | .not a, K => K.t (posE a (kids (K.k 0))) .nil .nil
  | .neg a, K => K.t (posE a (kids (K.k 0))) .nil .nil
  | .bop _ es, K => K.t (posA es K.as) .nil .nil
  | .cmp _ a b, K => K.t (posE a (kids (K.k 0))) (posE b (kids (K.k 1))) .nil
  | .cmp2 _ _ a b c, K => K.t (posE a (kids (K.k 0))) (posE b (kids (K.k 1))) (posE c (kids (K.k 2)))
  | .meth _ o as, K => K.t (posE o (kids (K.k 0))) (posA as K.as) .nil
  | .attr _ o, K => K.t (posE o (kids (K.k 0))) .nil .nil
  | .om _ o as, K => K.t (posE o (kids (K.k 0))) (posA as K.as) .nil
  | .call _ as, K => K.t (posA as K.as) .nil .nil
  | .isi _ _ a, K => K.t (posE a (kids (K.k 0))) (.n (kids (K.k 1)).p (kids (K.k 1)).p 0 .nil .nil .nil) .nil
  | .list es, K => K.t (posA es K.as) .nil .nil
  | .tup es, K => K.t (posA es K.as) .nil .nil
  | .dict1 k v, K => K.t (posE k (kids (K.k 0))) (posE v (kids (K.k 1))) .nil
  | .sub o i, K => K.t (posE o (kids (K.k 0))) (posE i (kids (K.k 1))) .nil
  | .slice o, K => K.t (posE o (kids (K.k 0))) .nil .nil
  | .sliceT o b, K => K.t (posE o (kids (K.k 0))) (posE b (kids (K.k 1))) .nil
  | .sliceF o b, K => K.t (posE o (kids (K.k 0))) (posE b (kids (K.k 1))) .nil
  | .slice2 o a b, K => K.t (posE o (kids (K.k 0))) (posE a (kids (K.k 1))) (posE b (kids (K.k 2)))
  | .comp elt it _ _, K => K.t (posE elt (kids (K.k 0))) (posE it (kids (K.k 1))) .nil
  | .compIf elt it c _ _, K => K.t (posE elt (kids (K.k 0))) (posE it (kids (K.k 1))) (posE c (kids (K.k 2)))
  | _, K => K.t .nil .nil .nil
noncomputable def posA : CE → List Expr → PT
  | .cons a r, x :: xs => .n default default 0 (posE a (kids x)) (posA r xs) .nil
  | _, _ => .nil
end
end Mine
namespace Mine
set_option genInjectivity false
open PySem PySem.Calls PySem.SeqAt PySem.W PyProof.Rows
structure KK where
  C : Cx
  sc : Sc
  gs : List (Option G)
  gx : Gx
  fz : List Nat
  d : Nat
  free : Bool
  sup : List (List Nat)
noncomputable abbrev Ev := List (Option V)
noncomputable abbrev QV := V → AH → Prop
noncomputable abbrev QX := Nat → AH → Prop
noncomputable def oVar (ρ : Ev) (i : Nat) (Q : V → Prop) : Prop := match ρ[i]? with | some (some v) => Q v | _ => False
noncomputable def gAt (K : KK) (j : Nat) (k : G → Prop) : Prop := match K.gs[j]? with | some (some g) => k g | _ => False
noncomputable def oGlob (g : G) (Q : V → Prop) : Prop := match g with | .val v => Q v | _ => False
noncomputable def onFn (g : G) (P : Prop) : Prop := match g with | .con _ _ => P | .bi _ => P | _ => False
noncomputable def gxAt (K : KK) (j : Nat) (k : G → Prop) : Prop := match K.gx[j]? with | some p => k p.2 | none => False
noncomputable def onAttrG (g : G) (k : Nat → Prop) : Prop := match g with | .attr i => k i | _ => False
noncomputable def onMethG (g : G) (k : Tr → Prop) : Prop := match g with | .meth T => k T | _ => False
noncomputable def oCall (K : KK) (X : QX) (g : G) (vs : List V) (Q : QV) (H : AH) : Prop :=
  match g with
  | .con T _ => T K.fz vs Q X H
  | .bi b => req (K.free || !b.walks) (oBi K.fz b vs Q H)
  | _ => False
noncomputable def catches (K : KK) (i j : Nat) : Bool := match K.sup[i]? with | some l => l.any (Nat.beq j) | none => false
noncomputable def onExc (v : V) (k : Nat → Prop) (H : AH) : Prop := onRef v fun p => Look H p fun n => match n with | .exc i => k i | _ => False
noncomputable def onIs (g g' : G) (P : Prop) : Prop := match g with | .isi => (match g' with | .ty _ => P | .bi b => Got b.ty (fun _ => P) | .exc _ => P | .verr => P | _ => False) | _ => False
noncomputable def oIsG (K : KK) (g g' : G) (v : V) (Q : QV) (H : AH) : Prop :=
  match g with
  | .isi => (match g' with
    | .ty t => oIsi v t Q H
    | .bi b => Got b.ty fun t => oIsi v t Q H
    | .exc j => onExc v (fun i => Q (.bool (catches K i j)) H) H
    | .verr => onExc v (fun _ => Q (.bool true) H) H
    | _ => False)
  | _ => False
noncomputable def hG : Option G → Option G
  | some (.con T true) => some (.con T true)
  | some (.con _ false) => none
  | some (.meth _) => none
  | g => g
noncomputable def KK.hnd (K : KK) : KK := { K with free := false, gs := K.gs.map hG }
noncomputable def KK.more (K : KK) (v : V) : KK := { K with fz := srcOf v ++ K.fz }
noncomputable def capG (gx : Gx) : Cap → Option G
  | .gl i => (match gx[i]? with | some p => some p.2 | none => none)
  | _ => none
noncomputable def KK.comp (K : KK) (caps : List Cap) (v : V) : KK := { K with sc := caps.map (capR K.sc K.gx), gs := caps.map (capG K.gx), fz := srcOf v ++ K.fz }
noncomputable def capV (ρ : Ev) : Cap → Option V
  | .free i => (match ρ[i]? with | some v => v | none => none)
  | _ => none
noncomputable def capE (ρ : Ev) (caps : List Cap) (x : Nat) (y : V) : Ev := (caps.map (capV ρ)).set x (some y)
noncomputable def nameOk (x : Str) : Bool := x != ("__debug__" : Str) && x != ("__classdict__" : Str)
noncomputable def capOk (sc : Sc) (gx : Gx) : Cap → Bool
  | .own x => nameOk x
  | .free i => (match sc[i]? with | some p => p.2 == .cell | none => false)
  | .gl i => (match gx[i]? with | some p => nameOk p.1 | none => false)
noncomputable def isOwn : Option Cap → Bool
  | some (.own _) => true
  | _ => false
noncomputable def compChk (sc : Sc) (gx : Gx) (caps : List Cap) (x : Nat) : Bool := nodupS (caps.map fun c => (capR sc gx c).1) && caps.all (capOk sc gx) && isOwn caps[x]?
inductive compG (K : KK) (turn : V → (List V → AH → Prop) → List V → AH → Prop) (Q : QV) (v : V) (H₁ : AH) : Prop
  | mk (xs : List V) (hx : ItemsV H₁ v xs) (hz : xs.length ≤ sizeLine) (J : Nat → List V → AH → Prop) (j0 : J 0 [] H₁) (tn : ∀ (k : Nat) y ys H', xs[k]? = some y → J k ys H' → turn y (J (k + 1)) ys H') (fin : ∀ ys H', ys.length ≤ xs.length → J xs.length ys H' → Made K.fz (.list ys) Q H') : compG K turn Q v H₁
noncomputable def nX : QX := fun _ _ => False
noncomputable def bAnd (op : BoolOp) (b : Bool) (more : Prop) (stop : Prop) : Prop := match op with | .And => br b more stop | .Or => br b stop more
noncomputable def isAnd : BoolOp → Bool | .And => true | .Or => false
noncomputable def oNeg (v : V) (Q : QV) (H : AH) : Prop := onInt v fun i => Q (.int (-i)) H
noncomputable def oDict1 (k : V) (D : Nat) (v : V) (Q : QV) (H : AH) : Prop := onStr k fun x => Q (.ref D) (H.set D (.sdict [(x, v)]))
inductive D0 (fz : List Nat) (Q : QV) (H : AH) : Prop
  | s : Made fz (.sdict []) Q H → D0 fz Q H
  | i : Made fz (.idict []) Q H → D0 fz Q H
mutual
noncomputable def wE : CE → KK → Ev → QX → QV → AH → Prop
  | .none, _, _, _, Q, H => Q .none H
  | .bool b, _, _, _, Q, H => Q (.bool b) H
  | .int i, _, _, _, Q, H => Q (.int i) H
  | .str s, _, _, _, Q, H => Q (.str (tx s)) H
  | .var i, _, ρ, _, Q, H => oVar ρ i fun v => Q v H
  | .glob j, K, _, _, Q, H => gAt K j fun g => oGlob g fun v => Q v H
  | .bin op a b, K, ρ, X, Q, H => wE a K ρ X (fun x H₁ => wE b K ρ X (fun y H₂ => oBin K.fz op x y Q H₂) H₁) H
  | .not a, K, ρ, X, Q, H => wE a K ρ X (fun v H₁ => oTruth v (fun b => Q (.bool (!b)) H₁) H₁) H
  | .neg a, K, ρ, X, Q, H => wE a K ρ X (fun v H₁ => oNeg v Q H₁) H
  | .bop op es, K, ρ, X, Q, H => wB es op K ρ X Q H
  | .cmp op a b, K, ρ, X, Q, H => wE a K ρ X (fun x H₁ => wE b K ρ X (fun y H₂ => oCmp2 op x y (fun r => Q (.bool r) H₂) H₂) H₁) H
  | .cmp2 op op' a b c, K, ρ, X, Q, H => wE a K ρ X (fun x H₁ => wE b K ρ X (fun y H₂ => oCmp2 op x y (fun r => br r (wE c K ρ X (fun z H₃ => oCmp2 op' y z (fun r => Q (.bool r) H₃) H₃) H₂) (Q (.bool false) H₂)) H₂) H₁) H
  | .meth m o as, K, ρ, X, Q, H => wE o K ρ X (fun ov H₁ => oGet m ov (wA as K ρ X (fun vs H₂ => oMeth K.fz m ov vs Q H₂) H₁) H₁) H
  | .attr j o, K, ρ, X, Q, H => wE o K ρ X (fun ov H₁ => gxAt K j fun g => onAttrG g fun i => oAttr ov i (fun v => Q v H₁) H₁) H
  | .om j o as, K, ρ, X, Q, H => wE o K ρ X (fun ov H₁ => gxAt K j fun g => onMethG g fun T => oInst ov (wA as K ρ X (fun vs H₂ => T K.fz (ov :: vs) Q X H₂) H₁) H₁) H
  | .call j as, K, ρ, X, Q, H => gAt K j fun g => onFn g (wA as K ρ X (fun vs H₁ => oCall K X g vs Q H₁) H)
  | .isi j j' a, K, ρ, X, Q, H => gAt K j fun g => gAt K j' fun g' => onIs g g' (wE a K ρ X (fun v H₁ => oIsG K g g' v Q H₁) H)
  | .list es, K, ρ, X, Q, H => wA es K ρ X (fun vs H₁ => req (decide (vs.length ≤ 1000)) (Made K.fz (.list vs) Q H₁)) H
  | .tup es, K, ρ, X, Q, H => wA es K ρ X (fun vs H₁ => req (decide (vs.length ≤ 1000)) (Made K.fz (.tuple vs) Q H₁)) H
  | .dict0, K, _, _, Q, H => D0 K.fz Q H
  | .dict1 k v, K, ρ, X, Q, H => ∀ D, H.get D = none → D ∉ K.fz → wE k (K.more (.ref D)) ρ X (fun kv H₁ => wE v (K.more (.ref D)) ρ X (fun vv H₂ => oDict1 kv D vv Q H₂) H₁) (H.set D (.sdict []))
  | .sub o i, K, ρ, X, Q, H => wE o K ρ X (fun ov H₁ => wE i K ρ X (fun iv H₂ => oIdx ov iv (fun r => Q r H₂) H₂) H₁) H
  | .slice o, K, ρ, X, Q, H => wE o K ρ X (fun ov H₁ => oSlice K.fz ov .none .none Q H₁) H
  | .sliceT o b, K, ρ, X, Q, H => wE o K ρ X (fun ov H₁ => wE b K ρ X (fun u H₂ => oSlice K.fz ov .none u Q H₂) H₁) H
  | .sliceF o a, K, ρ, X, Q, H => wE o K ρ X (fun ov H₁ => wE a K ρ X (fun l H₂ => oSlice K.fz ov l .none Q H₂) H₁) H
  | .slice2 o a b, K, ρ, X, Q, H => wE o K ρ X (fun ov H₁ => wE a K ρ X (fun l H₂ => wE b K ρ X (fun u H₃ => oSlice K.fz ov l u Q H₃) H₂) H₁) H
  | .comp elt it caps x, K, ρ, X, Q, H => wE it K ρ X (fun v H₁ => compG K (fun y J ys H' => wE elt (K.comp caps v) (capE ρ caps x y) nX (fun u H₂ => J (ys ++ [u]) H₂) H') Q v H₁) H
  | .compIf elt it c caps x, K, ρ, X, Q, H => wE it K ρ X (fun v H₁ => compG K (fun y J ys H' => wT c (K.comp caps v) (capE ρ caps x y) nX (fun b H₂ => br b (wE elt (K.comp caps v) (capE ρ caps x y) nX (fun u H₃ => J (ys ++ [u]) H₃) H₂) (J ys H₂)) H') Q v H₁) H
  | .nil, _, _, _, _, _ => False
  | .cons _ _, _, _, _, _, _ => False
noncomputable def wT : CE → KK → Ev → QX → (Bool → AH → Prop) → AH → Prop
  | .not a, K, ρ, X, k, H => wT a K ρ X (fun b H₁ => k (!b) H₁) H
  | .bop op es, K, ρ, X, k, H => wTB es op K ρ X k H
  | .cmp op a b, K, ρ, X, k, H => wE a K ρ X (fun x H₁ => wE b K ρ X (fun y H₂ => oCmp2 op x y (fun r => k r H₂) H₂) H₁) H
  | .cmp2 op op' a b c, K, ρ, X, k, H => wE a K ρ X (fun x H₁ => wE b K ρ X (fun y H₂ => oCmp2 op x y (fun r => br r (wE c K ρ X (fun z H₃ => oCmp2 op' y z (fun r => k r H₃) H₃) H₂) (k false H₂)) H₂) H₁) H
  | .var i, _, ρ, _, k, H => oVar ρ i fun v => oTruth v (fun b => k b H) H
  | .bool b, _, _, _, k, H => k b H
  | .call j as, K, ρ, X, k, H => gAt K j fun g => onFn g (wA as K ρ X (fun vs H₁ => oCall K X g vs (fun v H₂ => oTruth v (fun b => k b H₂) H₂) H₁) H)
  | .isi j j' a, K, ρ, X, k, H => gAt K j fun g => gAt K j' fun g' => onIs g g' (wE a K ρ X (fun v H₁ => oIsG K g g' v (fun v H₂ => oTruth v (fun b => k b H₂) H₂) H₁) H)
  | .meth m o as, K, ρ, X, k, H => wE o K ρ X (fun ov H₁ => oGet m ov (wA as K ρ X (fun vs H₂ => oMeth K.fz m ov vs (fun v H₂ => oTruth v (fun b => k b H₂) H₂) H₂) H₁) H₁) H
  | .sub o i, K, ρ, X, k, H => wE o K ρ X (fun ov H₁ => wE i K ρ X (fun iv H₂ => oIdx ov iv (fun r => oTruth r (fun b => k b H₂) H₂) H₂) H₁) H
  | _, _, _, _, _, _ => False
noncomputable def wA : CE → KK → Ev → QX → (List V → AH → Prop) → AH → Prop
  | .nil, _, _, _, Q, H => Q [] H
  | .cons a r, K, ρ, X, Q, H => wE a K ρ X (fun v H₁ => wA r K ρ X (fun vs H₂ => Q (v :: vs) H₂) H₁) H
  | _, _, _, _, _, _ => False
noncomputable def wB : CE → BoolOp → KK → Ev → QX → QV → AH → Prop
  | .cons e .nil, _, K, ρ, X, Q, H => wE e K ρ X Q H
  | .cons e (.cons e' r), op, K, ρ, X, Q, H => wE e K ρ X (fun v H₁ => oTruth v (fun b => bAnd op b (wB (.cons e' r) op K ρ X Q H₁) (Q v H₁)) H₁) H
  | _, _, _, _, _, _, _ => False
noncomputable def wTB : CE → BoolOp → KK → Ev → QX → (Bool → AH → Prop) → AH → Prop
  | .nil, op, _, _, _, k, H => k (isAnd op) H
  | .cons e r, op, K, ρ, X, k, H => wT e K ρ X (fun b H₁ => bAnd op b (wTB r op K ρ X k H₁) (k b H₁)) H
  | _, _, _, _, _, _, _ => False
end
noncomputable def notComp : CE → Bool | .comp _ _ _ _ => false | .compIf _ _ _ _ _ => false | _ => true
noncomputable def notTC : CE → Bool | .comp _ _ _ _ => false | .compIf _ _ _ _ _ => false | .tup _ => false | _ => true
noncomputable def isCons : CE → Bool | .cons _ _ => true | _ => false
noncomputable def baseOk : CE → Bool | .call _ as => isCons as | _ => true
noncomputable def lenA : CE → Nat | .cons _ r => lenA r + 1 | _ => 0
mutual
noncomputable def chkE : CE → Sc → Gx → Bool → PT → Bool
  | .var i, sc, _, _, _ => (match sc[i]? with | some _ => true | none => false)
  | .bin _ a b, sc, gx, fr, t => chkE a sc gx fr t.a && chkE b sc gx fr t.b
  | .not a, sc, gx, fr, t => chkE a sc gx fr t.a
  | .neg a, sc, gx, fr, t => chkE a sc gx fr t.a
  | .bop _ es, sc, gx, fr, t => chkA es sc gx fr t.a
  | .cmp _ a b, sc, gx, fr, t => chkE a sc gx fr t.a && chkE b sc gx fr t.b
  | .cmp2 _ _ a b c, sc, gx, fr, t => chkE a sc gx fr t.a && (chkE b sc gx fr t.b && chkE c sc gx fr t.c)
  | .meth _ o as, sc, gx, fr, t => (Nat.beq t.q.endLine t.p.line && (Nat.blt (lenA as) 30 && baseOk o)) && (chkE o sc gx fr t.a && chkA as sc gx fr t.b)
  | .attr _ o, sc, gx, fr, t => (fr && baseOk o) && chkE o sc gx fr t.a
  | .om _ o as, sc, gx, fr, t => (fr && (Nat.beq t.q.endLine t.p.line && (Nat.blt (lenA as) 30 && baseOk o))) && (chkE o sc gx fr t.a && chkA as sc gx fr t.b)
  | .call _ as, sc, gx, fr, t => chkA as sc gx fr t.a
  | .isi _ _ a, sc, gx, fr, t => chkE a sc gx fr t.a
  | .list es, sc, gx, fr, t => chkA es sc gx fr t.a
  | .tup es, sc, gx, fr, t => chkA es sc gx fr t.a
  | .dict1 k v, sc, gx, fr, t => chkE k sc gx fr t.a && chkE v sc gx fr t.b
  | .sub o i, sc, gx, fr, t => chkE o sc gx fr t.a && chkE i sc gx fr t.b
  | .slice o, sc, gx, fr, t => chkE o sc gx fr t.a
  | .sliceT o b, sc, gx, fr, t => chkE o sc gx fr t.a && chkE b sc gx fr t.b
  | .sliceF o b, sc, gx, fr, t => chkE o sc gx fr t.a && chkE b sc gx fr t.b
  | .slice2 o a b, sc, gx, fr, t => chkE o sc gx fr t.a && (chkE a sc gx fr t.b && chkE b sc gx fr t.c)
  | .comp elt it caps x, sc, gx, fr, t => (fr && compChk sc gx caps x) && (chkE it sc gx fr t.b && chkE elt (caps.map (capR sc gx)) gx fr t.a)
  | .compIf elt it c caps x, sc, gx, fr, t => (fr && compChk sc gx caps x) && (chkE it sc gx fr t.b && (chkE elt (caps.map (capR sc gx)) gx fr t.a && chkE c (caps.map (capR sc gx)) gx fr t.c))
  | _, _, _, _, _ => true
noncomputable def chkA : CE → Sc → Gx → Bool → PT → Bool
  | .cons a r, sc, gx, fr, t => chkE a sc gx fr t.a && chkA r sc gx fr t.b
  | _, _, _, _, _ => true
end
set_option genCtorIdx false in
inductive CS where
  | skip
  | ret (e : CE) (r : CS) | set (i : Nat) (e : CE) (r : CS) | setSub (o i v : CE) (r : CS) | setAttr (j : Nat) (o v : CE) (r : CS) | expr (e : CE) (r : CS)
  | ife (t : CE) (a b r : CS) | for_ (x : Nat) (it : CE) (b r : CS)
  | unpack (is : List Nat) (e : CE) (r : CS) | raise (j : Nat) (as : CE) (r : CS) | try_ (b hs r : CS) | hnd (j : Nat) (nm : Option Nat) (b r : CS)
noncomputable def toN : List Nat → Sc → PT → List Expr
  | i :: is, sc, t => .Name (nameAt sc i) t.p :: toN is sc t.a
  | [], _, _ => []
noncomputable def posN : List Nat → List Expr → PT
  | _ :: is, e :: es => .n (posOf e) default 0 (posN is es) .nil .nil
  | _, _ => .nil
mutual
noncomputable def toB : CS → Sc → Gx → PT → List Stmt
  | .ret e r, sc, gx, t => .Return (some (toE e sc gx t.a)) t.p :: toB r sc gx t.c
  | .set i e r, sc, gx, t => .Assign [.Name (nameAt sc i) t.q] (toE e sc gx t.a) t.p :: toB r sc gx t.c
  | .setSub o i v r, sc, gx, t => .Assign [.Subscript (toE o sc gx t.b.a) (toE i sc gx t.b.b) t.q] (toE v sc gx t.a) t.p :: toB r sc gx t.c
  | .setAttr j o v r, sc, gx, t => .Assign [.Attribute (toE o sc gx t.b) (gnameAt gx j) t.q] (toE v sc gx t.a) t.p :: toB r sc gx t.c
  | .expr e r, sc, gx, t => .Expr (toE e sc gx t.a) t.p :: toB r sc gx t.c
  | .ife c a b r, sc, gx, t => .If (toE c sc gx t.a) (toB a sc gx t.b.a) (toB b sc gx t.b.b) t.p :: toB r sc gx t.c
  | .for_ x it b r, sc, gx, t => .For (.Name (nameAt sc x) t.q) (toE it sc gx t.a) (toB b sc gx t.b) [] t.p :: toB r sc gx t.c
  | .unpack is e r, sc, gx, t => .Assign [.Tuple (toN is sc t.b) t.i t.q] (toE e sc gx t.a) t.p :: toB r sc gx t.c
  | .raise j as r, sc, gx, t => .Raise (some (.Call (.Name (nameAt sc j) t.q) (toA as sc gx t.a) [] t.b.p)) none t.p :: toB r sc gx t.c
  | .try_ b hs r, sc, gx, t => .Try (toB b sc gx t.a) (toH hs sc gx t.b) [] [] t.p :: toB r sc gx t.c
  | .skip, _, _, _ => []
  | .hnd _ _ _ _, _, _, _ => []
noncomputable def toH : CS → Sc → Gx → PT → List ExceptHandler
  | .hnd j nm b r, sc, gx, t => .ExceptHandler (some (.Name (nameAt sc j) t.q)) (nm.map (nameAt sc)) (toB b sc gx t.a) t.p :: toH r sc gx t.c
  | _, _, _, _ => []
end
structure SKids where
  p : Pos
  q : Pos
  i : Nat
  e : Kids
  f : Kids
  g : Kids
  a : List Stmt
  b : List Stmt
  h : List ExceptHandler
noncomputable def noKids : Kids := ⟨default, default, 0, [], []⟩
noncomputable def skids (s : Stmt) : SKids :=
  match s with
  | .Return (some e) p => ⟨p, p, 0, kids e, noKids, noKids, [], [], []⟩
  | .Return none p => ⟨p, p, 0, noKids, noKids, noKids, [], [], []⟩
  | .Assign (.Name _ q :: _) v p => ⟨p, q, 0, kids v, noKids, noKids, [], [], []⟩
  | .Assign (.Subscript o i q :: _) v p => ⟨p, q, 0, kids v, kids o, kids i, [], [], []⟩
  | .Assign (.Attribute o _ q :: _) v p => ⟨p, q, 0, kids v, kids o, noKids, [], [], []⟩
  | .Assign (.Tuple es i q :: _) v p => ⟨p, q, i, kids v, ⟨p, p, 0, [], es⟩, noKids, [], [], []⟩
  | .Expr e p => ⟨p, p, 0, kids e, noKids, noKids, [], [], []⟩
  | .If c a b p => ⟨p, p, 0, kids c, noKids, noKids, a, b, []⟩
  | .For (.Name _ q) it a _ p => ⟨p, q, 0, kids it, noKids, noKids, a, [], []⟩
  | .While c a _ p => ⟨p, p, 0, kids c, noKids, noKids, a, [], []⟩
  | .Pass p => ⟨p, p, 0, noKids, noKids, noKids, [], [], []⟩
  | .Break p => ⟨p, p, 0, noKids, noKids, noKids, [], [], []⟩
  | .Continue p => ⟨p, p, 0, noKids, noKids, noKids, [], [], []⟩
  | .Raise (some e) _ p => ⟨p, (kids e).q, 0, kids e, noKids, noKids, [], [], []⟩
  | .Try a h _ _ p => ⟨p, p, 0, noKids, noKids, noKids, a, [], h⟩
  | _ => ⟨default, default, 0, noKids, noKids, noKids, [], [], []⟩
mutual
noncomputable def posB : CS → List Stmt → PT
  | .ret e r, s :: ss => .n (skids s).p (skids s).q 0 (posE e (skids s).e) .nil (posB r ss)
  | .set _ e r, s :: ss => .n (skids s).p (skids s).q 0 (posE e (skids s).e) .nil (posB r ss)
  | .setSub o i v r, s :: ss => .n (skids s).p (skids s).q 0 (posE v (skids s).e) (.n default default 0 (posE o (skids s).f) (posE i (skids s).g) .nil) (posB r ss)
  | .setAttr _ o v r, s :: ss => .n (skids s).p (skids s).q 0 (posE v (skids s).e) (posE o (skids s).f) (posB r ss)
  | .expr e r, s :: ss => .n (skids s).p (skids s).q 0 (posE e (skids s).e) .nil (posB r ss)
  | .ife c a b r, s :: ss => .n (skids s).p (skids s).q 0 (posE c (skids s).e) (.n default default 0 (posB a (skids s).a) (posB b (skids s).b) .nil) (posB r ss)
  | .for_ _ it b r, s :: ss => .n (skids s).p (skids s).q 0 (posE it (skids s).e) (posB b (skids s).a) (posB r ss)
  | .unpack is e r, s :: ss => .n (skids s).p (skids s).q (skids s).i (posE e (skids s).e) (posN is (skids s).f.as) (posB r ss)
  | .raise _ as r, s :: ss => .n (skids s).p (skids s).q 0 (posA as (skids s).e.as) (.n (skids s).e.p default 0 .nil .nil .nil) (posB r ss)
  | .try_ b hs r, s :: ss => .n (skids s).p (skids s).q 0 (posB b (skids s).a) (posH hs (skids s).h) (posB r ss)
  | _, _ => .nil
noncomputable def posH : CS → List ExceptHandler → PT
  | .hnd _ _ b r, .ExceptHandler c _ ss p :: hs => .n p (match c with | some e => posOf e | none => p) 0 (posB b ss) .nil (posH r hs)
  | _, _ => .nil
end
noncomputable def storeB (sc : Sc) (i : Nat) : Bool := match sc[i]? with | some p => p.2 == .local || p.2 == .cell | none => false
noncomputable def localB (sc : Sc) (nm : Option Nat) : Bool := match nm with | some i => (match sc[i]? with | some p => p.2 == .local | none => false) | none => true
noncomputable def isStm : CS → Bool | .skip => false | .hnd _ _ _ _ => false | _ => true
noncomputable def isHnd : CS → Bool | .hnd _ _ _ _ => true | _ => false
noncomputable def swapOk : List Nat → CE → Sc → PT → Bool
  | [i, j, k], .tup (.cons (.list _) (.cons _ (.cons _ .nil))), sc, t => ((localB sc (some i) && localB sc (some j)) && localB sc (some k)) && (((!(Nat.beq i j) && !(Nat.beq i k)) && !(Nat.beq j k)) && (Nat.beq t.a.p.line t.p.line && Nat.beq t.a.a.p.line t.p.line))
  | _, _, _, _ => false
mutual
noncomputable def chkB : CS → Sc → Gx → Bool → PT → Bool
  | .ret e r, sc, gx, fr, t => chkE e sc gx fr t.a && chkB r sc gx fr t.c
  | .set i e r, sc, gx, fr, t => storeB sc i && (chkE e sc gx fr t.a && chkB r sc gx fr t.c)
  | .setSub o i v r, sc, gx, fr, t => notComp v && ((chkE o sc gx fr t.b.a && chkE i sc gx fr t.b.b) && (chkE v sc gx fr t.a && chkB r sc gx fr t.c))
  | .setAttr _ o v r, sc, gx, fr, t => (fr && notComp v) && (chkE o sc gx fr t.b && (chkE v sc gx fr t.a && chkB r sc gx fr t.c))
  | .expr e r, sc, gx, fr, t => notComp e && (chkE e sc gx fr t.a && chkB r sc gx fr t.c)
  | .ife c a b r, sc, gx, fr, t => chkE c sc gx fr t.a && ((chkB a sc gx fr t.b.a && chkB b sc gx fr t.b.b) && chkB r sc gx fr t.c)
  | .for_ x it b r, sc, gx, fr, t => (fr && storeB sc x) && (chkE it sc gx fr t.a && (chkB b sc gx fr t.b && chkB r sc gx fr t.c))
  | .unpack is e r, sc, gx, fr, t => ((fr && is.all (storeB sc)) && (notTC e || swapOk is e sc t.b)) && (chkE e sc gx fr t.a && chkB r sc gx fr t.c)
  | .raise _ as r, sc, gx, fr, t => (fr && Nat.blt (lenA as) 30) && (chkA as sc gx fr t.a && chkB r sc gx fr t.c)
  | .try_ b hs r, sc, gx, fr, t => (fr && isHnd hs) && (chkB b sc gx fr t.a && (chkH hs sc gx fr t.b && chkB r sc gx fr t.c))
  | .skip, _, _, _, _ => true
  | .hnd _ _ _ _, _, _, _, _ => true
noncomputable def chkH : CS → Sc → Gx → Bool → PT → Bool
  | .hnd _ nm b r, sc, gx, fr, t => ((localB sc nm && isStm b) && chkB b sc gx false t.a) && chkH r sc gx fr t.c
  | _, _, _, _, _ => true
end
structure Nx (P : Prop) : Prop where
  out : P
noncomputable abbrev PS := Flw → Ev → AH → Prop
noncomputable abbrev XS := Nat → Ev → AH → Prop
noncomputable def atX (X : XS) (ρ : Ev) : QX := fun i H => X i ρ H
noncomputable def xq (X : QX) : XS := fun i _ H => X i H
noncomputable def thenR (f : Ev → AH → Prop) (R : PS) : PS := fun fl => match fl with | .next => f | .brk => R .brk | .cont => R .cont | .ret v => R (.ret v)
noncomputable def turnR (R : PS) (J : Ev → AH → Prop) : PS := fun fl => match fl with | .next => J | .cont => J | .brk => R .next | .ret v => R (.ret v)
inductive forG (ρ : Ev) (body : V → V → PS → Ev → AH → Prop) (R : PS) (v : V) (H₁ : AH) : Prop
  | mk (xs : List V) (hx : ItemsV H₁ v xs) (J : Nat → Ev → AH → Prop) (j0 : J 0 ρ H₁) (tn : ∀ (k : Nat) y ρ' H', xs[k]? = some y → J k ρ' H' → body v y (turnR R (J (k + 1))) ρ' H') (fin : ∀ ρ' H', J xs.length ρ' H' → R .next ρ' H') : forG ρ body R v H₁
noncomputable def setAll : Ev → List Nat → List V → Ev
  | ρ, i :: is, x :: xs => setAll (ρ.set i (some x)) is xs
  | ρ, _, _ => ρ
noncomputable def oUnp (v : V) (n : Nat) (k : List V → Prop) (H : AH) : Prop := onRef v fun p => Look H p fun m => match m with | .tuple xs => req (Nat.beq xs.length n) (k xs) | _ => False
noncomputable def isExc (g : G) (k : Nat → Prop) : Prop := match g with | .exc i => k i | _ => False
noncomputable def setN (ρ : Ev) (nm : Option Nat) (v : Option V) : Ev := match nm with | some i => ρ.set i v | none => ρ
mutual
noncomputable def wS : CS → KK → XS → PS → Ev → AH → Prop
  | .skip, _, _, R, ρ, H => R .next ρ H
  | .ret e _, K, X, R, ρ, H => wE e K ρ (atX X ρ) (fun v H₁ => R (.ret v) ρ H₁) H
  | .set i e r, K, X, R, ρ, H => wE e K ρ (atX X ρ) (fun v H₁ => Nx (wS r K X R (ρ.set i (some v)) H₁)) H
  | .setSub o i v r, K, X, R, ρ, H => wE v K ρ (atX X ρ) (fun u H₁ => wE o K ρ (atX X ρ) (fun ov H₂ => wE i K ρ (atX X ρ) (fun iv H₃ => oSet K.fz ov iv u (fun H₄ => Nx (wS r K X R ρ H₄)) H₃) H₂) H₁) H
  | .setAttr j o v r, K, X, R, ρ, H => wE v K ρ (atX X ρ) (fun u H₁ => wE o K ρ (atX X ρ) (fun ov H₂ => gxAt K j fun g => onAttrG g fun i => oSetAttr K.fz ov i u (fun H₃ => Nx (wS r K X R ρ H₃)) H₂) H₁) H
  | .expr e r, K, X, R, ρ, H => wE e K ρ (atX X ρ) (fun _ H₁ => Nx (wS r K X R ρ H₁)) H
  | .ife c a b r, K, X, R, ρ, H => wT c K ρ (atX X ρ) (fun t H₁ => br t (wS a K X (thenR (fun ρ H => Nx (wS r K X R ρ H)) R) ρ H₁) (wS b K X (thenR (fun ρ H => Nx (wS r K X R ρ H)) R) ρ H₁)) H
  | .for_ x it b r, K, X, R, ρ, H => wE it K ρ (atX X ρ) (forG ρ (fun v y R' ρ' H' => wS b (K.more v) X R' (ρ'.set x (some y)) H') (thenR (fun ρ H => Nx (wS r K X R ρ H)) R)) H
  | .unpack is e r, K, X, R, ρ, H => wE e K ρ (atX X ρ) (fun v H₁ => oUnp v is.length (fun xs => Nx (wS r K X R (setAll ρ is xs) H₁)) H₁) H
  | .raise j as _, K, X, _, ρ, H => gAt K j fun g => isExc g fun i => wA as K ρ (atX X ρ) (fun _ H₁ => X i ρ H₁) H
  | .try_ b hs r, K, X, R, ρ, H => wS b K (fun i ρ' H' => wH hs K (thenR (fun ρ H => Nx (wS r K X R ρ H)) R) i ρ' H') (thenR (fun ρ H => Nx (wS r K X R ρ H)) R) ρ H
  | .hnd _ _ _ _, _, _, _, _, _ => False
/-- what a raise of the `i`-th class meets -/
noncomputable def wH : CS → KK → PS → Nat → Ev → AH → Prop
  | .hnd j nm b r, K, R, i, ρ, H => gAt K j fun g => isExc g fun i' => br (catches K i i')
      (∀ a, H.get a = none → a ∉ K.fz → wS b K.hnd (fun _ _ _ => False) (fun f ρ' H' => R f (setN ρ' nm none) H') (setN ρ nm (some (.ref a))) (H.set a (.exc i)))
      (wH r K R i ρ H)
  | _, _, _, _, _, _ => False
end
end Mine
set_option maxRecDepth 100000
namespace Mine
open PySem PySem.Spec PySem.Calls PySem.W PyProof.Rows Builtin Builtin.ObjectAttr Builtin.Getset_descriptor
section
variable {prog : Program} {w : World} {A : Around} {E : Value → Shared → Prop} {s : Shared} {K : Frag} {x D : Addr} {name : Str}
theorem neg_find {M : Model} {h : Heap} (X : K.In h) {g a : Value} (ha : findIn K (.ref D) name = some (some a)) (hn : specialIn K a "__get__" = some (some g)) (htk : takesIn K a = some true) : Looks M h (find (.ref x) (.ref D) name) (.bind g a) := by
  have L1 := looks_findIn (M := M) X ha
  have L2 : Looks M h (getOf (some a)) (some g) := looks_specialIn X hn
  have L3 := looks_takesIn (M := M) X htk
  refine L1.andThen (L2.andThen ?_)
  exact (show Looks M h (dataDescriptor? (some a) (some g)) (some (g, a)) from L3.andThen .now).andThen (Looks.tag .now)
theorem neg_get {tp : Value} {R : Result → Shared → Prop} (X : K.In s.heap) (L0 : Looks (model prog w) s.heap (typeOf (.ref x)) (.ref D)) (hm : mroIn K D (.type "object") = some true)
    (h : R (.ok (.ret (.ref D))) s) : codeAny (model prog w) A (.call (.builtin "getset_descriptor.__get__") ⟨[.builtin "object.__class__", .ref x, tp], []⟩) R s := by
  obtain ⟨hh, g, dr, t, os⟩ := s
  have L1 := looks_mroIn (M := model prog w) X hm
  refine codeAny_call_builtin KF.slot_gs.plain KF.entry_gs (KF.slot_gs.check _ _ _ _ _ _ _ _ KF.type_class (KF.args_gs _ _ _) ?_)
  unfold Builtin.«getset_descriptor.__get__» descrGet
  rw [dga_obj]
  refine wpAny_bind (wpAny_pure ?_)
  unfold descrGetter descrCheckInstance descrNameAndClass isInstance
  simp only [KF.owner_class]
  repeat lk
  refine ⟨Code.quiet_builtin _ (by decide +kernel), codeAny_builtin KF.entry_class ?_⟩
  unfold Builtin.«object.__class__» shownTypeOf
  repeat lk
  exact h
theorem neg_slot {tk : Tok} {Q : Fin → Shared → Prop} (L0 : Looks (model prog w) s.heap (typeOf (.ref x)) (.ref D)) {g a : Value} (L1 : Looks (model prog w) s.heap (find (.ref x) (.ref D) name) (.bind g a))
    (h : wpAny (model prog w) A (call g [a, .ref x, .ref D]) (fun v s' => Q (.done (.ret v)) s') E s) : wpAny (model prog w) A (Builtin.«object.__getattribute__» ⟨[.ref x, .str name tk], []⟩) Q E s := by
  obtain ⟨hh, gg, dr, t, os⟩ := s
  unfold Builtin.«object.__getattribute__»
  refine wpAny_bind (wpAny_pure ?_)
  refine wpAny_bind (wpAny_pure ?_)
  refine wpAny_bind (L0.at (wpAny_bind (L1.at ?_)))
  show wpAny _ _ (holding [a] (call g [a, .ref x, .ref D]) >>= ret) _ _ _
  exact wpAny_bind (wpAny_holding (wpAny_mono h (fun v s' z => wpAny_pure z) fun _ _ z => z))
theorem neg_open {Q : Option Value → Shared → Prop} (X : K.In s.heap) (L0 : Looks (model prog w) s.heap (typeOf (.ref x)) (.ref D)) (hga : findIn K (.ref D) "__getattribute__" = some (some (.builtin "BaseException.__getattribute__")))
    (hgh : findIn K (.ref D) "__getattr__" = some none) (hbe : mroIn K D (.type "BaseException") = some true) {g a : Value} (L2 : Looks (model prog w) s.heap (find (.ref x) (.ref D) name) (.bind g a))
    (h : ∀ (A : Around) (E : Value → Shared → Prop) (R : Value → Shared → Prop), R (.ref D) { s with toks := s.toks + 1 } → wpAny (model prog w) A (call g [a, .ref x, .ref D]) R E { s with toks := s.toks + 1 })
    (hq : Q (some (.ref D)) { s with toks := s.toks + 1 }) : wpAny (model prog w) A (getAttr? (.ref x) name) Q E s := by
  have L3 := looks_mroIn (M := model prog w) X hbe
  have L1 := looks_findIn (M := model prog w) X hga
  have L4 := looks_findIn (M := model prog w) X hgh
  obtain ⟨hh, gg, dr, t, os⟩ := s
  have f3 := F.excAttr_ValueError.ga.bind (.ref x)
  have hk : builtinKind "BaseException.__getattribute__" = some .slot := by decide +kernel
  have hsplit : splitId "BaseException.__getattribute__" = some ("BaseException", "__getattribute__") := by decide +kernel
  have hx2 : (Value.builtin "BaseException.__getattribute__" == Value.builtin "object.__getattribute__") = false := by decide +kernel
  have hne : (onTheHeap (Value.ref D) && Value.builtin "BaseException.__getattribute__" == Value.builtin "object.__getattribute__") = false := by rw [hx2]; rfl
  have ha := F.args_bexc_ga (.ref x) (.str name t)
  unfold getAttr? getAttrBy? getAttrBy
  refine wpAny_bind (wpAny_mkText (wpAny_bind (wpAny_attempt (wpAny_holding (wpAny_bind (L0.at (wpAny_bind (L1.at ?_))))))))
  simp only [hne, Bool.false_eq_true, if_false]
  unfold getAttrByItsOwn
  refine wpAny_bind (L4.at (wpAny_bind (wpAny_attempt (wpAny_holding ?_))))
  show wpAny _ _ (boundAndCalled _ _ _) _ _ _
  unfold boundAndCalled
  rw [f3]
  refine wpAny_bind (wpAny_pure (wpAny_call (codeAny_call_builtin F.excAttr_ValueError.ga.plain F.entry_bexc_ga ?_)))
  simp only [checkBuiltinCall, hk, hsplit]
  refine wpAny_bind ?_
  unfold isInstance
  refine wpAny_bind (L0.at (L3.at ?_))
  simp only [Bool.not_true, Bool.false_eq_true, if_false]
  refine wpAny_of_eq ha ?_
  exact neg_slot (s := ⟨hh, gg, dr, t + 1, os⟩) L0 L2 (h _ _ _ (wpAny_pure (wpAny_pure hq)))
variable (hga : findIn K (.ref D) "__getattribute__" = some (some (.builtin "BaseException.__getattribute__"))) (hgh : findIn K (.ref D) "__getattr__" = some none) (hbe : mroIn K D (.type "BaseException") = some true) (hdct : hasDictIn K D = true) (ha : findIn K (.ref D) "__class__" = some (some (.builtin "object.__class__")))
  (hn : specialIn K (.builtin "object.__class__") "__get__" = some (some (.builtin "getset_descriptor.__get__"))) (htk : takesIn K (.builtin "object.__class__") = some true) (hm : mroIn K D (.type "object") = some true)
include hga hgh hbe hdct ha hn htk hm
set_option tactic.hygienic true in
theorem neg_nested {ox : Obj} {c : Addr} {dep : Int} {tk : Tok} {Q : Fin → Shared → Prop} (X : K.In s.heap) (hx : s.heap.get? x = some ox) (hc : ox.cls = .ref D) (e : kin_not K D c = true) (h : Q (.done (.ret (.bool false))) { s with toks := s.toks + 1 }) :
    wpAny (model prog w) A (Builtin.«isinstance.nested» ⟨[.ref x, .ref c, .int dep tk], []⟩) Q E s := by
  unfold kin_not at e
  rw [Bool.and_eq_true, Bool.and_eq_true, Bool.and_eq_true] at e
  obtain ⟨⟨⟨e0, e1⟩, e2⟩, e3⟩ := e
  have hty : Looks (model prog w) s.heap (typeOf (.ref c)) (.type "type") := looks_typeIn X (beq_iff_eq.mp e2)
  have isc : ∀ b, (clsIn K b).isSome = true → Looks (model prog w) s.heap (isType (.ref b)) true := by
    intro b eb
    unfold clsIn at eb
    split at eb
    · rename_i c' d' cd' sl' ho
      intro A' Q' E' s' k q
      unfold isType loadHead
      exact wpAny_bind (wpAny_loadPart (k _ _ (X _ _ ho)) (wpAny_pure q))
    · cases eb
  have his := isc c e1
  have hisD := isc D (by obtain ⟨cd, hcd, _⟩ := any_some hdct; rw [hcd]; rfl)
  have hsub : Looks (model prog w) s.heap (isSubtype (.ref D) (.ref c)) false := looks_subIn X (beq_iff_eq.mp e3)
  have hne : (Value.ref D == Value.ref c) = false := Bool.eq_false_iff.mpr fun q => of_decide_eq_true e0 (Value.ref.inj (beq_iff_eq.mp q))
  have L0 : Looks (model prog w) s.heap (typeOf (.ref x)) (.ref D) := hc ▸ (Looks.ld hx).andThen .now
  have hcls : ∀ (A : Around) (E : Value → Shared → Prop) (Q : Option Value → Shared → Prop), Q (some (.ref D)) { s with toks := s.toks + 1 } → wpAny (model prog w) A (getAttr? (.ref x) "__class__") Q E s := fun A E Q h =>
    neg_open X L0 hga hgh hbe (neg_find X ha hn htk) (fun A E R r => wpAny_call (neg_get (s := { s with toks := s.toks + 1 }) X L0 hm r)) h
  obtain ⟨h0, g, d, tt, os⟩ := s
  have LI : Looks (model prog w) h0 (isInstance (.ref x) (.ref c)) false := L0.andThen hsub
  unfold Builtin.«isinstance.nested»
  refine wpAny_bind (L0.at ?_)
  rw [if_neg (fun q => by rw [hne] at q; exact Bool.noConfusion q)]
  refine wpAny_bind (hty.at ?_)
  rw [if_pos (by decide)]
  k_delta "plainIsInstance"
  refine wpAny_bind (wpAny_bind (his.at ?_))
  simp only [Bool.not_true, Bool.false_eq_true, if_false]
  refine wpAny_bind (LI.at ?_)
  simp only [Bool.false_eq_true, if_false]
  refine wpAny_bind (hcls _ _ _ ?_)
  refine wpAny_bind (hisD.at ?_)
  simp only [Bool.not_true, Bool.false_eq_true, if_false]
  refine wpAny_bind (wpAny_rule ?_)
  refine hsub.at ?_
  first
    | exact wpAny_pure h
    | exact wpAny_pure (wpAny_pure h)
    | exact wpAny_bind (wpAny_pure (wpAny_pure h))
end
end Mine
namespace Mine
set_option genInjectivity false
open PySem PySem.Calls PySem.SeqAt PySem.W PyProof.Rows
noncomputable def envOf : Sc → Ev → Str → Option V
  | p :: sc, a :: l, x => if x = p.1 then a else envOf sc l x
  | _, _, _ => none
theorem envOf_some : ∀ {sc : Sc} {l : Ev} {i : Nat} {p : Str × NameKind} {v : V}, (sc.map (·.1)).Nodup → sc[i]? = some p → l[i]? = some (some v) → envOf sc l p.1 = some v
  | [], _, _, _, _, _, h, _ => by cases h
  | _ :: _, [], _, _, _, _, _, h => by cases h
  | q :: sc, a :: l, 0, p, v, _, h1, h2 => by
    simp at h1 h2; subst h1; subst h2; simp [envOf]
  | q :: sc, a :: l, i + 1, p, v, nd, h1, h2 => by
    rw [List.map_cons, List.nodup_cons] at nd
    simp only [List.getElem?_cons_succ] at h1 h2
    have : p.1 ≠ q.1 := fun e => nd.1 (e ▸ List.mem_map.mpr ⟨p, List.mem_of_getElem? h1, rfl⟩)
    simp only [envOf, if_neg this]
    exact envOf_some nd.2 h1 h2
theorem envOf_set : ∀ {sc : Sc} {l : Ev} {i : Nat} {p : Str × NameKind} {a : Option V} {y : Str} {w : V}, (sc.map (·.1)).Nodup → sc[i]? = some p → envOf sc (l.set i a) y = some w → (y = p.1 ∧ a = some w) ∨ (y ≠ p.1 ∧ envOf sc l y = some w)
  | [], _, _, _, _, _, _, _, h, _ => by cases h
  | _ :: _, [], _, _, _, _, _, _, _, h => by cases h
  | q :: sc, b :: l, 0, p, a, y, w, nd, h1, h2 => by
    simp at h1; subst h1
    simp only [List.set_cons_zero, envOf] at h2 ⊢
    by_cases hy : y = q.1
    · rw [if_pos hy] at h2; exact .inl ⟨hy, h2⟩
    · rw [if_neg hy] at h2 ⊢; exact .inr ⟨hy, h2⟩
  | q :: sc, b :: l, i + 1, p, a, y, w, nd, h1, h2 => by
    rw [List.map_cons, List.nodup_cons] at nd
    simp only [List.getElem?_cons_succ] at h1
    have hpq : p.1 ≠ q.1 := fun e => nd.1 (e ▸ List.mem_map.mpr ⟨p, List.mem_of_getElem? h1, rfl⟩)
    simp only [List.set_cons_succ, envOf] at h2 ⊢
    by_cases hy : y = q.1
    · rw [if_pos hy] at h2 ⊢; exact .inr ⟨fun e => hpq (e.symm.trans hy), h2⟩
    · rw [if_neg hy] at h2 ⊢; exact envOf_set nd.2 h1 h2
theorem look_at : ∀ {sc : Sc} {i : Nat} {p : Str × NameKind}, (sc.map (·.1)).Nodup → sc[i]? = some p → sc.lookup p.1 = some p.2 := fun nd h => lookup_of_mem nd (List.mem_of_getElem? h)
theorem nameAt_eq {sc : Sc} {i : Nat} {p : Str × NameKind} (h : sc[i]? = some p) : nameAt sc i = p.1 := by unfold nameAt; rw [h]
theorem Inv.less {C : Cx} {sn : Snap} {env : Env} {ρ ρ' : Str → Option V} {H : AH} {s : Shared} (I : Inv C sn env ρ H s) (h : ∀ x v, ρ' x = some v → ρ x = some v) : Inv C sn env ρ' H s :=
  ⟨I.ok, I.base, I.nodes, I.new, I.hid, I.fresh, let ⟨m, h1, h2⟩ := I.vars; ⟨m, h1, fun x v e => h2 x v (h x v e)⟩, I.cells, I.gens, I.os, I.mine, I.frz, I.live⟩
noncomputable def GV (C : Cx) (x : Str) : Option Value := (C.mg x).or (C.mb x)
noncomputable def Callee (C : Cx) (f : Value) : Prop :=
  ∀ (A : Around) (E : Value → Shared → Prop) (s : Shared) (Q : Keeper → Shared → Prop), (∀ b o, C.h₀.get? b = some o → s.heap.get? b = some o) → Q .frame s → Q .machine s → wpAny C.M A (keeperOf f) Q E s
inductive Xv (C : Cx) (X : QX) (cls : Value) (H : AH) : Prop
  | mk (i : Nat) (a : Addr) (e : C.ex[i]? = some a) (hc : cls = .ref a) (h : X i H) : Xv C X cls H
noncomputable def Meets (C : Cx) (d : Nat) (free : Bool) (f : Value) (T : Tr) : Prop := ∀ fz vs Q X H, T fz vs Q X H → CallsTo C fz d free f vs Q (Xv C X) H
noncomputable def GOk (C : Cx) (d : Nat) (free : Bool) (x : Str) : G → Prop
  | .val v => ∃ cv, GV C x = some cv ∧ toV cv = v
  | .con T any => ∃ f, GV C x = some f ∧ Callee C f ∧ Meets C d free f T ∧ (any = true → ∀ free, Meets C d free f T)
  | .bi b => GV C x = some b.val
  | .isi => GV C x = some (.builtin "isinstance")
  | .ty t => GV C x = some (.type t.s)
  | .exc i => ∃ a, C.ex[i]? = some a ∧ GV C x = some (.ref a)
  | .verr => GV C x = some (.type "ValueError")
  | .attr i => C.ats[i]? = some x
  | .meth T => ∃ f, MethIs C x f ∧ Callee C (.ref f) ∧ Meets C d free (.ref f) T
structure XC where
  nm : Str
  q : Str
  N : Addr
  bs : List Value
  bm : List Value
  hdct : Bool
  sn : List Str
  sub : List Value
  ab : Bool
  col : Option Bool
  dd : Option Addr
  k0 : Option Value
  k1 : Option Value
  k2 : Option Value
  k3 : Option Value
  k5 : Option Value
  mN : Str → Option Value
noncomputable abbrev XC.obj (x : XC) (a : Addr) : Obj := excClassObj x.nm x.q a x.N x.bs x.bm x.hdct x.sn x.sub x.ab x.col x.dd x.k0 x.k1 x.k2 x.k3 x.k5 "ValueError.__new__"
structure ExcIs (C : Cx) (sup : List (List Nat)) (i : Nat) (a : Addr) : Prop where
  obj : ∃ x : XC, C.h₀.get? a = some (x.obj a) ∧ C.h₀.Ns x.N x.mN ∧ x.mN "__init__" = none ∧
    OwnTail C.h₀ [.type "ValueError", .type "Exception", .type "BaseException", .type "object"] x.bm ∧ ∀ j b, C.ex[j]? = some b → (Value.ref a :: x.bm).contains (.ref b) = (match sup[i]? with | some l => l.any (Nat.beq j) | none => false)
  neg : ∃ K : Frag, K.In C.h₀ ∧ NegOk K a ∧ ∀ j b, C.ex[j]? = some b → (match sup[i]? with | some l => l.any (Nat.beq j) | none => false) = false → kin_not K a b = true
structure KOk (K : KK) : Prop where
  nd : (K.sc.map (·.1)).Nodup
  nm : ∀ p ∈ K.sc, nameOk p.1 = true
  gs : ∀ (j : Nat) (g : G), K.gs[j]? = some (some g) → ∃ x, K.sc[j]? = some (x, NameKind.globalImplicit) ∧ GOk K.C K.d K.free x g
  gx : K.free = true → ∀ p ∈ K.gx, GOk K.C K.d true p.1 p.2
  exs : ∀ i a, K.C.ex[i]? = some a → ExcIs K.C K.sup i a
  bk : ∃ F : Frag, F.In K.C.h₀ ∧ bkNeg F K.C.bc = true
theorem KOk.more {K : KK} (h : KOk K) (v : V) : KOk (K.more v) := ⟨h.nd, h.nm, h.gs, h.gx, h.exs, h.bk⟩
theorem KOk.hnd {K : KK} (h : KOk K) : KOk K.hnd := by
  refine ⟨h.nd, h.nm, fun j g e => ?_, fun e => (by cases e), h.exs, h.bk⟩
  have e : (K.gs.map hG)[j]? = some (some g) := e
  rw [List.getElem?_map] at e
  obtain ⟨g0, e0, e1⟩ := Option.map_eq_some_iff.mp e
  cases g0 with
  | none => cases e1
  | some g1 =>
    obtain ⟨x, hx, hg⟩ := h.gs j g1 e0
    refine ⟨x, hx, ?_⟩
    cases g1 with
    | con T any =>
      cases any with
      | false => cases e1
      | true => cases e1; obtain ⟨f, h1, h2, _, h4⟩ := hg; exact ⟨f, h1, h2, h4 rfl _, h4⟩
    | meth T => cases e1
    | _ => cases e1; exact hg
theorem gxAt_out {K : KK} {j : Nat} {k : G → Prop} (h : gxAt K j k) : ∃ p, K.gx[j]? = some p ∧ k p.2 := by
  unfold gxAt at h
  cases q : K.gx[j]? with
  | none => rw [q] at h; exact h.elim
  | some p => rw [q] at h; exact ⟨p, rfl, h⟩
theorem gnameAt_eq {gx : Gx} {j : Nat} {p : Str × G} (h : gx[j]? = some p) : gnameAt gx j = p.1 := by unfold gnameAt; rw [h]
theorem onAttrG_out {g : G} {k : Nat → Prop} (h : onAttrG g k) : ∃ i, g = .attr i ∧ k i := by cases g <;> first | exact ⟨_, rfl, h⟩ | exact h.elim
theorem onMethG_out {g : G} {k : Tr → Prop} (h : onMethG g k) : ∃ T, g = .meth T ∧ k T := by cases g <;> first | exact ⟨_, rfl, h⟩ | exact h.elim
theorem gAt_out {K : KK} {j : Nat} {k : G → Prop} (h : gAt K j k) : ∃ g, K.gs[j]? = some (some g) ∧ k g := by
  unfold gAt at h
  cases q : K.gs[j]? with
  | none => rw [q] at h; exact h.elim
  | some o => cases o with
    | none => rw [q] at h; exact h.elim
    | some g => rw [q] at h; exact ⟨g, rfl, h⟩
theorem oVar_out {ρ : Ev} {i : Nat} {Q : V → Prop} (h : oVar ρ i Q) : ∃ v, ρ[i]? = some (some v) ∧ Q v := by
  unfold oVar at h
  cases q : ρ[i]? with
  | none => rw [q] at h; exact h.elim
  | some o => cases o with
    | none => rw [q] at h; exact h.elim
    | some g => rw [q] at h; exact ⟨g, rfl, h⟩
structure At (K : KK) (ρ : Ev) (X : QX) (sn : Snap) (A : Around) (env : Env) (E : Value → Shared → Prop) : Prop where
  good : Good K.C K.fz K.d K.free sn A env
  kd : ∀ y, env.kindOf y = K.sc.lookup y
  exits : Exits K.C sn env (fun cls ρ' H' => ρ' = envOf K.sc ρ ∧ Xv K.C X cls H') E
section
variable {C : Cx} {sn : Snap} {A : Around} {env : Env} {ρ : Str → Option V} {H : AH} {s : Shared} {E : Value → Shared → Prop}
theorem GV.load {x : Str} {cv : Value} {Q : Value → AH → Prop} (hk : env.kindOf x = some .globalImplicit) (hv : GV C x = some cv) (h : Q cv H) : TM C sn A env ρ (loadName env x) Q E H := by
  unfold GV at hv
  cases hm : C.mg x with
  | some v => rw [hm] at hv; simp at hv; subst hv; exact TM.loadGlob hk hm h
  | none => rw [hm] at hv; simp at hv; exact TM.loadBi hk hm hv h
theorem tm_callWith {pos : Pos} {f : Value} {first : List Value} {args : List (Bool × Sem Value)} {Q : Value → AH → Prop} (hc : Callee C f) (hp : plainArgs args)
    (h : TMs C sn A env ρ E (args.map (·.2)) (fun vs H' => TM C sn A env ρ (call f (first ++ vs)) Q E H') H) : TM C sn A env ρ (callWith pos f first args []) Q E H := by
  have ha : args.any (·.1) = false := by rw [List.any_eq_false]; intro x hx; rw [hp x hx]; simp
  unfold callWith
  refine .bind (.holding (tm_evalArgs hp ?_))
  refine h.mono fun vs H' q => .bind (.standAt ?_)
  simp only [ha, List.any_nil, Bool.or_false]
  have tail : ∀ {t : Sem Value}, TM C sn A env ρ t Q E H' → TM C sn A env ρ (t >>= fun r => PySem.holding [r] point >>= fun _ => pure r) Q E H' :=
    fun ht => .bind (ht.mono fun r _ hr => .bind (.holding (.point (.pure hr))))
  refine .bind ?_
  intro s I
  refine hc A E s _ I.base ⟨H', I, ?_⟩ ⟨H', I, ?_⟩
  · refine .ite ?_
    split
    · exact tail q
    · exact tail (by unfold callMarked; exact .keep q)
  · exact tail q
theorem Callee.func {a : Addr} {o : Obj} {fd : FuncData} (ho : C.h₀.get? a = some o) (hd : o.data = .func fd) : Callee C (.ref a) := by
  intro A E s Q hb h1 _
  unfold keeperOf
  refine wpAny_bind (wpAny_load (hb a o ho) ?_)
  rw [hd]; exact wpAny_pure h1
theorem Callee.other {f : Value} (hf : ∀ a, f ≠ .ref a) : Callee C f := by
  intro A E s Q _ _ h2
  have hk : keeperOf f = pure .machine := by cases f <;> first | rfl | exact absurd rfl (hf _)
  rw [hk]; exact wpAny_pure h2
end
end Mine
namespace Mine
open PySem PySem.Calls PySem.SeqAt PySem.W PyProof.Rows
noncomputable def SE (ce : CE) : Prop := ∀ (K : KK) (t : PT) (ρ : Ev) (X : QX), KOk K → chkE ce K.sc K.gx K.free t = true → ∀ (Q : QV) (H : AH), wE ce K ρ X Q H → ∀ sn A env E, At K ρ X sn A env E → TM K.C sn A env (envOf K.sc ρ) (eval (toE ce K.sc K.gx t) env) (fun v H' => Q (toV v) H') E H
noncomputable def ST (ce : CE) : Prop := ∀ (K : KK) (t : PT) (ρ : Ev) (X : QX), KOk K → chkE ce K.sc K.gx K.free t = true → ∀ (k : Bool → AH → Prop) (H : AH), wT ce K ρ X k H → ∀ sn A env E, At K ρ X sn A env E → TM K.C sn A env (envOf K.sc ρ) (isTrue (toE ce K.sc K.gx t) env (eval (toE ce K.sc K.gx t) env)) k E H
noncomputable def SA (ce : CE) : Prop := ∀ (K : KK) (t : PT) (ρ : Ev) (X : QX), KOk K → chkA ce K.sc K.gx K.free t = true → ∀ (Q : List V → AH → Prop) (H : AH), wA ce K ρ X Q H → ∀ sn A env E, At K ρ X sn A env E → TMs K.C sn A env (envOf K.sc ρ) E ((toA ce K.sc K.gx t).map fun e => eval e env) (fun vs H' => Q (vs.map toV) H') H
noncomputable def SB (ce : CE) : Prop := ∀ (op : BoolOp) (pos : Pos) (K : KK) (t : PT) (ρ : Ev) (X : QX), KOk K → chkA ce K.sc K.gx K.free t = true → ∀ (Q : QV) (H : AH), wB ce op K ρ X Q H → ∀ sn A env E, At K ρ X sn A env E → TM K.C sn A env (envOf K.sc ρ) (boolOp pos op (evalEach (toA ce K.sc K.gx t) env)) (fun v H' => Q (toV v) H') E H
noncomputable def STB (ce : CE) : Prop := ∀ (op : BoolOp) (K : KK) (t : PT) (ρ : Ev) (X : QX), KOk K → chkA ce K.sc K.gx K.free t = true → ∀ (k : Bool → AH → Prop) (H : AH), wTB ce op K ρ X k H → ∀ sn A env E, At K ρ X sn A env E → TM K.C sn A env (envOf K.sc ρ) (allTrue op (toA ce K.sc K.gx t) env) k E H
noncomputable def isStar : Expr → Bool | .Starred _ _ => true | _ => false
noncomputable def isSet : Expr → Bool | .Set _ _ _ => true | _ => false
theorem no_tf (h : true = false) : False := nomatch h
theorem noStar (ce : CE) (sc : Sc) (gx : Gx) (t : PT) : isStar (toE ce sc gx t) = false ∧ isSet (toE ce sc gx t) = false := by cases ce <;> exact ⟨rfl, rfl⟩
theorem starEach_plain {env : Env} {e : Expr} {r : List Expr} (h : isStar e = false) : starEach (e :: r) env = (false, eval e env) :: starEach r env := by
  cases e <;> first | rfl | exact (no_tf h).elim
theorem behind_notSet {op : CmpOp} {e : Expr} (h : isSet e = false) : behindInMarks op e = false := by
  cases e <;> first | rfl | exact (no_tf h).elim
theorem notSet {env : Env} (ce : CE) (sc : Sc) (gx : Gx) (t : PT) : ∀ v, foldedSetIterable (toE ce sc gx t) env v = pure v := by intro v; cases ce <;> rfl
theorem plain_args {env : Env} {pos : Pos} (sc : Sc) (gx : Gx) : ∀ (ce : CE) (t : PT), plainArgs (backTo pos (starEach (toA ce sc gx t) env)) ∧ (backTo pos (starEach (toA ce sc gx t) env)).map (·.2) = (toA ce sc gx t).map fun e => eval e env := by
  intro ce
  induction ce with
  | cons a r _ ih =>
    intro t
    obtain ⟨h1, h2⟩ := ih t.b
    show plainArgs (backTo pos (starEach (toE a sc gx t.a :: toA r sc gx t.b) env)) ∧ (backTo pos (starEach (toE a sc gx t.a :: toA r sc gx t.b) env)).map (·.2) = eval (toE a sc gx t.a) env :: (toA r sc gx t.b).map fun e => eval e env
    rw [starEach_plain (noStar ..).1]
    refine ⟨fun x hx => ?_, ?_⟩
    · rcases List.mem_cons.mp (show x ∈ (false, eval (toE a sc gx t.a) env) :: backTo pos (starEach (toA r sc gx t.b) env) from hx) with rfl | hx
      · rfl
      · exact h1 x hx
    · show eval (toE a sc gx t.a) env :: (backTo pos (starEach (toA r sc gx t.b) env)).map (·.2) = _
      rw [h2]
  | _ => exact fun t => ⟨fun x hx => (List.not_mem_nil (show x ∈ ([] : List (Bool × Sem Value)) from hx)).elim, rfl⟩
theorem toA_length (sc : Sc) (gx : Gx) : ∀ (ce : CE) (t : PT), (toA ce sc gx t).length = lenA ce := by
  intro ce
  induction ce with
  | cons a r _ ih => intro t; show (toE a sc gx t.a :: toA r sc gx t.b).length = _; rw [List.length_cons, ih]; rfl
  | _ => exact fun t => rfl
section
variable {C : Cx} {sn : Snap} {A : Around} {env : Env} {ρ : Str → Option V} {H : AH} {E : Value → Shared → Prop}
theorem args_at {K : KK} {ρ : Ev} {X : QX} {as : CE} {t : PT} {pos : Pos} {Q : List V → AH → Prop} (ih : SA as) (ok : KOk K) (hc : chkA as K.sc K.gx K.free t = true) (h : wA as K ρ X Q H) (at_ : At K ρ X sn A env E) :
    plainArgs (backTo pos (starEach (toA as K.sc K.gx t) env)) ∧ TMs K.C sn A env (envOf K.sc ρ) E ((backTo pos (starEach (toA as K.sc K.gx t) env)).map (·.2)) (fun vs H' => Q (vs.map toV) H') H := by
  obtain ⟨h1, h2⟩ := plain_args (env := env) (pos := pos) K.sc K.gx as t
  exact ⟨h1, by rw [h2]; exact ih K t ρ X ok hc Q H h sn A env E at_⟩
theorem cmp1_at {pos : Pos} {a : Value} {op : CmpOp} {b : Expr} {k : Bool → AH → Prop} (hr : Room A) (hb : TM C sn A env ρ (eval b env) (fun y H₂ => oCmp2 op (toV a) (toV y) (fun r => k r H₂) H₂) E H) :
    TM C sn A env ρ (compareChain pos a [op] [eval b env]) (fun v H' => ∃ r, v = .bool r ∧ k r H') E H ∧ TM C sn A env ρ (testChain pos a [op] [eval b env]) (fun r H' => k r H') E H := by
  constructor
  · show TM C sn A env ρ (do let rv ← holding [a] (eval b env); standAt pos; operate [a, rv] (compareOp op a rv)) _ E H
    exact .bind (.holding (hb.mono fun b H₁ h₁ => .bind (.standAt (.operate ((oCmp_ok hr h₁).mono fun v H₂ ⟨⟨r, e, q⟩, e'⟩ => by subst e'; exact ⟨r, e, q⟩)))))
  · show TM C sn A env ρ (do let rv ← holding [a] (eval b env); standAt pos; let c ← operate [a, rv] (compareOp op a rv); holding [c] (truthy c)) _ E H
    refine .bind (.holding (hb.mono fun b H₁ h₁ => .bind (.standAt (.bind (.operate ((oCmp_ok hr h₁).mono fun v H₂ h₂ => ?_))))))
    obtain ⟨⟨r, rfl, hk⟩, rfl⟩ := h₂
    exact .holding ((oTruth_ok (v := .bool r) (k := fun b => k b H₂) hk).mono fun b H₃ ⟨h1, h2⟩ => by subst h2; exact h1)
theorem cmp2_at {pos : Pos} {a : Value} {op op' : CmpOp} {b c : Expr} {k : Bool → AH → Prop} {W : V → AH → Prop} (hr : Room A) (hW : ∀ (y : Value) H₂, W (toV y) H₂ → TM C sn A env ρ (eval c env) (fun z H₃ => oCmp2 op' (toV y) (toV z) (fun r => k r H₃) H₃) E H₂)
    (hb : TM C sn A env ρ (eval b env) (fun y H₂ => oCmp2 op (toV a) (toV y) (fun r => br r (W (toV y) H₂) (k false H₂)) H₂) E H) :
    TM C sn A env ρ (compareChain pos a [op, op'] [eval b env, eval c env]) (fun v H' => ∃ r, v = .bool r ∧ k r H') E H ∧ TM C sn A env ρ (testChain pos a [op, op'] [eval b env, eval c env]) (fun r H' => k r H') E H := by
  constructor
  · show TM C sn A env ρ (do
      let rv ← holding [a] (eval b env)
      standAt pos
      let c' ← holding [a, rv] (compareOp op a rv)
      release [a, rv] [c']
      if ← holding [c', rv] (truthy c') then compareChain pos rv [op'] [eval c env] else pure c') _ E H
    refine .bind (.holding (hb.mono fun b H₁ h₁ => .bind (.standAt (.bind (.holding ((oCmp_ok hr h₁).mono fun v H₂ h₂ => ?_))))))
    obtain ⟨⟨r, rfl, hk⟩, rfl⟩ := h₂
    refine .bind (.release (.bind (.holding ((oTruth_ok (v := .bool r) (k := fun b => b = r) rfl).mono fun b' H₃ ⟨h1, h2⟩ => ?_))))
    subst h1; subst h2
    cases b'
    · exact .pure ⟨false, rfl, hk⟩
    · exact (cmp1_at hr (hW _ _ hk)).1
  · show TM C sn A env ρ (do
      let rv ← holding [a] (eval b env)
      standAt pos
      let c' ← holding [a, rv] (compareOp op a rv)
      release [a, rv] [c']
      if ← holding [c', rv] (truthy c') then testChain pos rv [op'] [eval c env] else pure false) _ E H
    refine .bind (.holding (hb.mono fun b H₁ h₁ => .bind (.standAt (.bind (.holding ((oCmp_ok hr h₁).mono fun v H₂ h₂ => ?_))))))
    obtain ⟨⟨r, rfl, hk⟩, rfl⟩ := h₂
    refine .bind (.release (.bind (.holding ((oTruth_ok (v := .bool r) (k := fun b => b = r) rfl).mono fun b' H₃ ⟨h1, h2⟩ => ?_))))
    subst h1; subst h2
    cases b'
    · exact .pure hk
    · exact (cmp1_at hr (hW _ _ hk)).2
theorem marked1 {op : CmpOp} {e : Expr} (h : isSet e = false) : markedEach [op] [e] (evalEach [e] env) = [eval e env] := by
  show [markedBehindIn op e (eval e env)] = _; rw [markedBehindIn_of_false (behind_notSet h)]
theorem marked2 {op op' : CmpOp} {e e' : Expr} (h : isSet e' = false) : markedEach [op, op'] [e, e'] (evalEach [e, e'] env) = [eval e env, eval e' env] := by
  show eval e env :: markedEach [op'] [e'] (evalEach [e'] env) = _; rw [marked1 h]
set_option tactic.hygienic true in
theorem attributeBase_plain {o : CE} {sc : Sc} {gx : Gx} {t : PT} {name : Str} {whole : Sem Value} (h : baseOk o = true) : attributeBase (toE o sc gx t) name env whole = whole := by
  cases o <;> try rfl
  case call j as =>
    have : ∃ e r, toA as sc gx t.a = e :: r := by
      cases as <;> first | exact ⟨_, _, rfl⟩ | cases h
    obtain ⟨e, r, he⟩ := this
    show attributeBase (.Call (.Name (nameAt sc j) t.q) (toA as sc gx t.a) [] t.p) name env whole = whole
    rw [he]; rfl
theorem name_at {K : KK} {ρ : Ev} {X : QX} {i : Nat} {pos : Pos} {v : V} {p : Str × NameKind} (ok : KOk K) (hi : K.sc[i]? = some p) (hv : ρ[i]? = some (some v)) {Q : QV} (h : Q v H) : TM K.C sn A env (envOf K.sc ρ) (eval (.Name (nameAt K.sc i) pos) env) (fun v H' => Q (toV v) H') E H := by
  have hn := ok.nm p (List.mem_of_getElem? hi)
  simp only [nameOk, Bool.and_eq_true, bne_iff_ne] at hn
  rw [nameAt_eq hi, eval_Name env p.1 pos (by simpa using hn.1)]
  exact .bind (.standAt (TM.loadVar (envOf_some ok.nd hi hv) (fun cv e => by rw [e]; exact h) (by simpa using hn.2)))
theorem glob_at {K : KK} {ρ : Ev} {X : QX} {j : Nat} {pos : Pos} {g : G} (ok : KOk K) (hg : K.gs[j]? = some (some g)) (at_ : At K ρ X sn A env E) : ∃ x, GOk K.C K.d K.free x g ∧ ∀ {cv : Value} {Q : Value → AH → Prop}, GV K.C x = some cv → Q cv H → TM K.C sn A env (envOf K.sc ρ) (eval (.Name (nameAt K.sc j) pos) env) Q E H := by
  obtain ⟨x, hx, hg⟩ := ok.gs j g hg
  refine ⟨x, hg, fun hv h => ?_⟩
  have hn := ok.nm _ (List.mem_of_getElem? hx)
  simp only [nameOk, Bool.and_eq_true, bne_iff_ne] at hn
  rw [nameAt_eq hx, eval_Name env x pos (by simpa using hn.1)]
  exact .bind (.standAt (GV.load ((at_.kd x).trans (look_at ok.nd hx)) hv h))
end
end Mine
set_option maxRecDepth 100000
namespace Mine
open PySem PySem.Calls PySem.SeqAt PySem.W PyProof.Rows
section
variable {prog : Program} {w : World} {A : Around} {E : Value → Shared → Prop} {h : Heap} {g : Array GenState} {d : Drawn} {t : Nat} {os : OsState}
variable {nm q : Str} {a N : Addr} {bs bm : List Value} {hdct : Bool} {sn : List Str} {sub : List Value} {ab : Bool} {col : Option Bool} {dd : Option Addr} {k0 k1 k2 k3 k5 : Option Value} {newId : String}
theorem typeOf_ref {p : Addr} {o : Obj} {Q : Value → Shared → Prop} (ho : h.get? p = some o) (hq : Q o.cls ⟨h, g, d, t, os⟩) : wpAny (model prog w) A (typeOf (.ref p)) Q E ⟨h, g, d, t, os⟩ := by
  unfold typeOf
  repeat (first | with_reducible refine wpAny_loadPart_at ho ?_ | wp_step)
  exact hq
theorem isx_nested {p : Addr} {o : Obj} {c : Value} {dep : Int} {tk : Tok} {Q : Fin → Shared → Prop} (ho : h.get? p = some o) (hc : o.cls = .ref a) (ha : h.get? a = some (excClassObj nm q a N bs bm hdct sn sub ab col dd k0 k1 k2 k3 k5 newId))
    (hty : ∀ (A : Around) (E : Value → Shared → Prop) (Q : Value → Shared → Prop), Q (.type "type") ⟨h, g, d, t, os⟩ → wpAny (model prog w) A (typeOf c) Q E ⟨h, g, d, t, os⟩) (his : ∀ (A : Around) (E : Value → Shared → Prop) (Q : Bool → Shared → Prop), Q true ⟨h, g, d, t, os⟩ → wpAny (model prog w) A (isType c) Q E ⟨h, g, d, t, os⟩)
    (hin : (Value.ref a :: bm).contains c = true) (hq : Q (.done (.ret (.bool true))) ⟨h, g, d, t, os⟩) :
    wpAny (model prog w) A (Builtin.«isinstance.nested» ⟨[.ref p, c, .int dep tk], []⟩) Q E ⟨h, g, d, t, os⟩ := by
  unfold Builtin.«isinstance.nested»
  refine wpAny_bind (typeOf_ref ho ?_)
  rw [hc]
  by_cases he : (Value.ref a == c) = true
  · rw [if_pos he]
    repeat (first | assumption | wp_step)
  · rw [if_neg he]
    refine wpAny_bind (hty _ _ _ ?_)
    rw [if_pos (by decide)]
    k_delta "plainIsInstance"
    refine wpAny_bind (wpAny_bind (his _ _ _ ?_))
    simp only [Bool.not_true, Bool.false_eq_true, if_false]
    unfold isInstance
    refine wpAny_bind (wpAny_bind (typeOf_ref ho ?_))
    rw [hc]
    refine wpAny_isSubtype_exc ha ?_
    rw [hin]
    simp only [if_true]
    exact wpAny_pure (wpAny_pure hq)
end
section
variable {C : Cx} {sn : Snap} {A : Around} {env : Env} {ρ : Str → Option V} {H : AH} {E : Value → Shared → Prop} {Q : QV}
theorem isx_ok {p : Nat} {i : Nat} {a : Addr} {c : Value} {sup : List (List Nat)} (hp : H.get p = some (.exc i)) (hi : C.ex[i]? = some a) (X : ExcIs C sup i a)
    (hc : (∃ j b, C.ex[j]? = some b ∧ c = .ref b ∧ ExcIs C sup j b ∧ (match sup[i]? with | some l => l.any (Nat.beq j) | none => false) = true) ∨ c = .type "ValueError") (h : Q (.bool true) H) :
    TM C sn A env ρ (call (.builtin "isinstance") [.ref p, c]) (fun v H' => Q (toV v) H') E H := by
  intro s I
  obtain ⟨o, ho, a', ha', hcls⟩ := I.nodes p _ hp
  rw [hi] at ha'; cases ha'
  obtain ⟨x, hC, hN, hini, hT, hsup⟩ := X.obj
  refine call_isinstance (S := fun _ R s => s.heap.get? p = some o ∧ (∀ b o, C.h₀.get? b = some o → s.heap.get? b = some o) ∧ R (.ok (.ret (.bool true))) s) (fun _ _ _ _ s' hs => isinstance_outer ?_ (by intro e; cases e)) ⟨ho, I.base, H, I, h⟩
  obtain ⟨h', g, d, t, os⟩ := s'
  obtain ⟨h1, h2, h3⟩ := hs
  rcases hc with ⟨j, b, hb, rfl, Xb, hj⟩ | rfl
  · obtain ⟨x', hC', _⟩ := Xb.obj
    refine isx_nested h1 hcls (h2 _ _ hC) (fun _ _ _ hq => typeOf_ref (h2 _ _ hC') hq) (fun _ _ _ hq => ?_) ((hsup j b hb).trans hj) h3
    unfold isType
    repeat (first | with_reducible refine wpAny_loadPart_at (h2 _ _ hC') ?_ | wp_step)
    exact hq
  · refine isx_nested h1 hcls (h2 _ _ hC) (fun _ _ _ hq => ?_) (fun _ _ _ hq => ?_) ?_ h3
    · rw [show typeOf (.type "ValueError") = pure (.type "type") from by kernel_rfl]; exact wpAny_pure hq
    · rw [show isType (.type "ValueError") = pure true from by kernel_rfl]; exact wpAny_pure hq
    · rw [List.contains_cons, hT.hasType (b := true) (by decide)]; simp
theorem isx_not {p : Nat} {i j : Nat} {a b : Addr} {sup : List (List Nat)} (hp : H.get p = some (.exc i)) (hi : C.ex[i]? = some a) (X : ExcIs C sup i a) (hb : C.ex[j]? = some b) (hj : (match sup[i]? with | some l => l.any (Nat.beq j) | none => false) = false) (h : Q (.bool false) H) :
    TM C sn A env ρ (call (.builtin "isinstance") [.ref p, .ref b]) (fun v H' => Q (toV v) H') E H := by
  intro s I
  obtain ⟨o, ho, a', ha', hcls⟩ := I.nodes p _ hp
  rw [hi] at ha'; cases ha'
  obtain ⟨K, hK, hn, hnot⟩ := X.neg
  have hn : negOk K a = true := hn
  unfold negOk at hn
  simp only [Bool.and_eq_true, beq_iff_eq] at hn
  obtain ⟨⟨⟨⟨n1, n1'⟩, n1''⟩, n2⟩, ⟨n3, n4⟩, n5, n6⟩ := hn
  refine call_isinstance (S := fun _ R s => s.heap.get? p = some o ∧ K.In s.heap ∧ R (.ok (.ret (.bool false))) { s with toks := s.toks + 1 }) (fun _ _ _ _ s' hs => isinstance_outer ?_ (by intro e; cases e)) ⟨ho, fun x y e => I.base _ _ (hK x y e), H, I.toks _, h⟩
  obtain ⟨h1, h2, h3⟩ := hs
  exact neg_nested n1 n1' n1'' n2 n3 n4 n5 n6 h2 h1 hcls (hnot j b hb hj) h3
end
end Mine
namespace Mine
open PySem PySem.Calls PySem.SeqAt PySem.W PyProof.Rows
theorem envOf_at : ∀ {sc : Sc} {l : Ev} {i : Nat} {p : Str × NameKind}, (sc.map (·.1)).Nodup → sc[i]? = some p → envOf sc l p.1 = (l[i]?).join
  | [], _, _, _, _, h => by cases h
  | _ :: _, [], i, _, _, _ => by simp [envOf]
  | q :: sc, a :: l, 0, p, _, h1 => by simp at h1; subst h1; simp [envOf]
  | q :: sc, a :: l, i + 1, p, nd, h1 => by
    rw [List.map_cons, List.nodup_cons] at nd
    simp only [List.getElem?_cons_succ] at h1 ⊢
    have : p.1 ≠ q.1 := fun e => nd.1 (e ▸ List.mem_map.mpr ⟨p, List.mem_of_getElem? h1, rfl⟩)
    simp only [envOf, if_neg this]
    exact envOf_at nd.2 h1
theorem envOf_not : ∀ {sc : Sc} {l : Ev} {y : Str}, y ∉ sc.map (·.1) → envOf sc l y = none
  | [], _, _, _ => by simp [envOf]
  | _ :: _, [], _, _ => by simp [envOf]
  | q :: sc, a :: l, y, h => by
    rw [List.map_cons, List.mem_cons, not_or] at h
    simp only [envOf, if_neg h.1]
    exact envOf_not h.2
section
variable {sc : Sc} {gx : Gx} {caps : List Cap} {x : Nat}
structure CompIs (sc : Sc) (gx : Gx) (caps : List Cap) (x : Nat) : Prop where
  nd : ((caps.map (capR sc gx)).map (·.1)).Nodup
  ok : ∀ c ∈ caps, capOk sc gx c = true
  own : ∃ y, caps[x]? = some (.own y)
theorem compIs_of (h : compChk sc gx caps x = true) : CompIs sc gx caps x := by
  simp only [compChk, Bool.and_eq_true, List.all_eq_true] at h
  refine ⟨by rw [List.map_map]; exact nodupS_iff h.1.1, h.1.2, ?_⟩
  have := h.2
  cases q : caps[x]? with
  | none => rw [q] at this; cases this
  | some c => cases c with
    | own y => exact ⟨y, rfl⟩
    | _ => rw [q] at this; cases this
variable (I : CompIs sc gx caps x) (nd : (sc.map (·.1)).Nodup)
include I nd
theorem CompIs.free {i : Nat} (h : .free i ∈ caps) : ∃ p, sc[i]? = some p ∧ p.2 = .cell ∧ sc.lookup p.1 = some .cell ∧ nameAt sc i = p.1 := by
  have : (match sc[i]? with | some p => p.2 == .cell | none => false) = true := I.ok _ h
  cases q : sc[i]? with
  | none => rw [q] at this; cases this
  | some p =>
    rw [q] at this
    have hp : p.2 = .cell := by simpa using this
    exact ⟨p, rfl, hp, by rw [look_at nd q, hp], nameAt_eq q⟩
theorem CompIs.kdC (y : Str) : Mine.kdC (capS sc gx caps) (fun y => sc.lookup y) y = (caps.map (capR sc gx)).lookup y := by
  unfold Mine.kdC capS
  simp only [List.map_map]
  congr 1
  apply List.map_congr_left
  intro c hc
  cases c with
  | own x => rfl
  | gl i => rfl
  | free i =>
    obtain ⟨p, _, _, h3, h4⟩ := I.free nd hc
    simp only [Function.comp, capN, capR, h4, h3]
    rfl
theorem CompIs.compOk : Mine.compOk (capS sc gx caps) (fun y => sc.lookup y) (nameAt (caps.map (capR sc gx)) x) = true := by
  obtain ⟨y, hy⟩ := I.own
  have hx : (caps.map (capR sc gx))[x]? = some (y, .local) := by rw [List.getElem?_map, hy]; rfl
  have hN : (caps.map (capN sc gx)).map (·.1) = (caps.map (capR sc gx)).map (·.1) := by
    rw [List.map_map, List.map_map]
    apply List.map_congr_left
    intro c _; cases c <;> rfl
  have hxN : (caps.map (capN sc gx))[x]? = some (y, .local) := by rw [List.getElem?_map, hy]; rfl
  unfold Mine.compOk
  simp only [capS, Bool.and_eq_true, List.all_eq_true, Bool.or_eq_true, bne_iff_ne, beq_iff_eq]
  refine ⟨⟨⟨trivial, ?_⟩, ?_⟩, fun z hz => ?_⟩
  · have key : ∀ l : List Str, l.Nodup → nodupS l = true := by
      intro l
      induction l with
      | nil => intro _; rfl
      | cons a r ih => intro h; rw [List.nodup_cons] at h; simp [nodupS, h.1, ih h.2]
    rw [hN]; exact key _ I.nd
  · rw [nameAt_eq hx]
    exact look_at (by rw [hN]; exact I.nd) hxN
  · obtain ⟨c, hc, rfl⟩ := List.mem_map.mp hz
    cases c with
    | own x => exact ⟨fun e => (nomatch e), .inl fun e => (nomatch e)⟩
    | gl i => exact ⟨fun e => (nomatch e), .inl fun e => (nomatch e)⟩
    | free i =>
      obtain ⟨p, _, _, h3, h4⟩ := I.free nd hc
      exact ⟨fun e => (nomatch e), .inr (by simp only [capN, h4, h3])⟩
theorem CompIs.env (ρ : Ev) (u : V) : upd (capt (capS sc gx caps) (fun y => sc.lookup y) (envOf sc ρ)) (nameAt (caps.map (capR sc gx)) x) u = envOf (caps.map (capR sc gx)) (capE ρ caps x u) := by
  obtain ⟨z, hz⟩ := I.own
  have hx : (caps.map (capR sc gx))[x]? = some (z, .local) := by rw [List.getElem?_map, hz]; rfl
  have hlt : x < caps.length := (List.getElem?_eq_some_iff.mp hz).1
  rw [nameAt_eq hx]
  funext y
  unfold upd capt
  rw [I.kdC nd]
  by_cases hy : y = z
  · rw [if_pos hy, hy, envOf_at I.nd hx]
    simp [capE, hlt]
  · rw [if_neg hy]
    by_cases hm : y ∈ (caps.map (capR sc gx)).map (·.1)
    · obtain ⟨p, hp, rfl⟩ := List.mem_map.mp hm
      obtain ⟨i, hi, e⟩ := List.mem_iff_getElem.mp hp
      have hi' : (caps.map (capR sc gx))[i]? = some p := by rw [List.getElem?_eq_getElem hi, e]
      have hix : i ≠ x := fun e => by rw [e, hx] at hi'; cases hi'; exact hy rfl
      rw [look_at I.nd hi', envOf_at I.nd hi']
      unfold capE
      rw [List.getElem?_set_ne (fun e => hix e.symm), List.getElem?_map]
      rw [List.getElem?_map] at hi'
      obtain ⟨c, hc, rfl⟩ := Option.map_eq_some_iff.mp hi'
      rw [hc]
      cases c with
      | own x => rfl
      | gl i => rfl
      | free j =>
        obtain ⟨p, h1, _, _, h4⟩ := I.free nd (List.mem_of_getElem? hc)
        show (if some NameKind.cell = some NameKind.cell then envOf sc ρ (nameAt sc j) else none) = Option.join (some (capV ρ (.free j)))
        rw [if_pos rfl, h4, envOf_at nd h1]
        show Option.join ρ[j]? = (match ρ[j]? with | some v => v | none => none)
        cases ρ[j]? <;> rfl
    · rw [envOf_not hm]
      split
      · rename_i h; exact absurd (List.mem_map.mpr ⟨_, mem_of_lookup h, rfl⟩) hm
      · rfl
end
theorem KOk.comp {K : KK} (ok : KOk K) {caps : List Cap} {x : Nat} (I : CompIs K.sc K.gx caps x) (hf : K.free = true) (v : V) : KOk (K.comp caps v) := by
  refine ⟨I.nd, fun p hp => ?_, fun j g hg => ?_, ok.gx, ok.exs, ok.bk⟩
  · obtain ⟨c, hc, rfl⟩ := List.mem_map.mp hp
    have := I.ok c hc
    cases c with
    | own x => exact this
    | free i => obtain ⟨p, h1, _, _, h4⟩ := I.free ok.nd hc; show nameOk (nameAt K.sc i) = true; rw [h4]; exact ok.nm p (List.mem_of_getElem? h1)
    | gl i =>
      replace this : (match K.gx[i]? with | some p => nameOk p.1 | none => false) = true := this
      show nameOk (gnameAt K.gx i) = true
      unfold gnameAt
      cases q : K.gx[i]? with
      | none => rw [q] at this; cases this
      | some p => rw [q] at this; exact this
  · have hg : (caps.map (capG K.gx))[j]? = some (some g) := hg
    rw [List.getElem?_map] at hg
    obtain ⟨c, hc, e⟩ := Option.map_eq_some_iff.mp hg
    cases c with
    | own x => cases e
    | free i => cases e
    | gl i =>
      replace e : (match K.gx[i]? with | some p => some p.2 | none => none) = some g := e
      cases q : K.gx[i]? with
      | none => rw [q] at e; cases e
      | some p =>
        rw [q] at e
        cases e
        refine ⟨p.1, ?_, by rw [show (K.comp caps v).free = K.free from rfl, hf]; exact ok.gx hf p (List.mem_of_getElem? q)⟩
        show (caps.map (capR K.sc K.gx))[j]? = _
        rw [List.getElem?_map, hc]
        simp [capR, gnameAt, q]
end Mine
namespace Mine
open PySem PySem.Calls PySem.SeqAt PySem.W PyProof.Rows
theorem At.more {K : KK} {ρ : Ev} {X : QX} {sn : Snap} {A : Around} {env : Env} {E : Value → Shared → Prop} {H : AH} {s : Shared} {ρ' : Str → Option V} (a : At K ρ X sn A env E) {D : Nat} (I : Inv K.C sn env ρ' H s) :
    At (K.more (.ref D)) ρ X ⟨s.heap, H, ownOf env, [D] ++ sn.fz⟩ A env E :=
  ⟨a.good.again (more := [D]) I, a.kd, Exits.again I (fun _ hb => List.mem_cons_of_mem _ hb) a.exits⟩
theorem and2 {a b : Bool} (h : (a && b) = true) : a = true ∧ b = true := Bool.and_eq_true_iff.mp h
theorem bAnd_out {op : BoolOp} {b : Bool} {M S : Prop} (h : bAnd op b M S) : (b = isAnd op → M) ∧ (b = (!isAnd op) → S) := by
  cases op <;> cases b <;> exact ⟨fun e => (by first | exact h | cases e), fun e => (by first | exact h | cases e)⟩
theorem form_at {env : Env} {pos : Pos} {sc : Sc} {gx : Gx} {as : CE} {t : PT} (h : lenA as < 30) : methodCallForm ((toA as sc gx t).length + ([] : List Keyword).length) (backTo pos (starEach (toA as sc gx t) env)) (backToKw pos (keywordEach [] env)) = true := by
  have h1 : (backTo pos (starEach (toA as sc gx t) env)).all (fun x => !x.1) = true := List.all_eq_true.mpr fun x hx => by rw [(plain_args sc gx as t).1 x hx]; rfl
  show ((backTo pos (starEach (toA as sc gx t) env)).all (fun x => !x.1) && true && decide ((toA as sc gx t).length + 0 + 0 < 30)) = true
  rw [h1, toA_length]
  exact decide_eq_true h
section
variable {K : KK} {ρ : Ev} {X : QX} {sn : Snap} {A : Around} {env : Env} {E : Value → Shared → Prop} {H : AH}
theorem val_test {e : Expr} {k : Bool → AH → Prop} (h : TM K.C sn A env (envOf K.sc ρ) (eval e env) (fun v H₁ => oTruth (toV v) (fun b => k b H₁) H₁) E H) (he : isTrue e env (eval e env) = (do let v ← eval e env; standAt e.pos; holding [v] (truthy v))) :
    TM K.C sn A env (envOf K.sc ρ) (isTrue e env (eval e env)) k E H := by
  rw [he]
  exact .bind (h.mono fun v H₁ h₁ => .bind (.standAt (.holding ((oTruth_ok h₁).mono fun b H₂ ⟨hb, e⟩ => by subst e; exact hb))))
theorem meth_at {o as : CE} {m : Mth} {t : PT} {Q : QV} (iho : SE o) (iha : SA as) (ok : KOk K) (hc : chkE (.meth m o as) K.sc K.gx K.free t = true) (a : At K ρ X sn A env E)
    (h : wE o K ρ X (fun ov H₁ => oGet m ov (wA as K ρ X (fun vs H₂ => oMeth K.fz m ov vs Q H₂) H₁) H₁) H) : TM K.C sn A env (envOf K.sc ρ) (eval (toE (.meth m o as) K.sc K.gx t) env) (fun v H' => Q (toV v) H') E H := by
  obtain ⟨h1, h2⟩ := and2 hc
  obtain ⟨hl, h1⟩ := and2 h1
  obtain ⟨hn, hb⟩ := and2 h1
  obtain ⟨co, ca⟩ := and2 h2
  have hl : t.q.endLine = t.p.line := Nat.eq_of_beq_eq_true hl
  have hn : lenA as < 30 := Nat.le_of_ble_eq_true hn
  show TM K.C sn A env (envOf K.sc ρ) (eval (.Call (.Attribute (toE o K.sc K.gx t.a) m.name t.q) (toA as K.sc K.gx t.b) [] t.p) env) _ E H
  rw [arm_eval_Call, attributeBase_plain hb]
  refine .bind ((iho K t.a ρ X ok co _ H h sn A env E a).mono fun ov H₁ h₁ => .bind (.standAt ?_))
  obtain ⟨hpa, _⟩ := plain_args (env := env) (pos := t.p) K.sc K.gx as t.b
  have hform := form_at (env := env) (pos := t.p) (sc := K.sc) (gx := K.gx) (t := t.b) hn
  have hpos : methodCallPos true (toE o K.sc K.gx t.a) env t.q t.p = pure t.p := by unfold methodCallPos; simp [hl]
  unfold methodCall
  rw [hform, hpos]
  refine .bind (.holding ((oGet_ok h₁).mono fun r H₂ hr => ?_))
  obtain ⟨rfl, hk, rfl⟩ := hr
  refine .bind (.pure ?_)
  obtain ⟨_, hts⟩ := args_at (pos := t.p) iha ok ca hk a
  refine tm_callWith_other (fun a e => by cases e) hpa (hts.mono fun vs H₃ h₃ => ?_)
  exact oMeth_ok a.good.room (by rw [a.good.fz]; exact h₃)
theorem attr_at {o : CE} {j : Nat} {t : PT} {Q : QV} (iho : SE o) (ok : KOk K) (hc : chkE (.attr j o) K.sc K.gx K.free t = true) (a : At K ρ X sn A env E)
    (h : wE o K ρ X (fun ov H₁ => gxAt K j fun g => onAttrG g fun i => oAttr ov i (fun v => Q v H₁) H₁) H) : TM K.C sn A env (envOf K.sc ρ) (eval (toE (.attr j o) K.sc K.gx t) env) (fun v H' => Q (toV v) H') E H := by
  obtain ⟨h1, co⟩ := and2 hc
  obtain ⟨hf, hb⟩ := and2 h1
  show TM K.C sn A env (envOf K.sc ρ) (eval (.Attribute (toE o K.sc K.gx t.a) (gnameAt K.gx j) t.p) env) _ E H
  rw [arm_eval_Attribute, attributeBase_plain hb]
  refine .bind ((iho K t.a ρ X ok co _ H h sn A env E a).mono fun ov H₁ h₁ => .bind (.standAt ?_))
  obtain ⟨p, hp, h₁⟩ := gxAt_out h₁
  obtain ⟨i, hi, h₁⟩ := onAttrG_out h₁
  have hg := ok.gx hf p (List.mem_of_getElem? hp)
  rw [hi] at hg
  rw [gnameAt_eq hp]
  refine .bind (.holding ((oAttr_ok hg h₁).mono fun v H₂ hv => ?_))
  obtain ⟨hv, rfl⟩ := hv
  exact fun s I => wpAny_bind (wpAny_letTemporaryGo (wpAny_pure ⟨_, I, hv⟩))
theorem om_at {o as : CE} {j : Nat} {t : PT} {Q : QV} (iho : SE o) (iha : SA as) (ok : KOk K) (hc : chkE (.om j o as) K.sc K.gx K.free t = true) (a : At K ρ X sn A env E)
    (h : wE o K ρ X (fun ov H₁ => gxAt K j fun g => onMethG g fun T => oInst ov (wA as K ρ X (fun vs H₂ => T K.fz (ov :: vs) Q X H₂) H₁) H₁) H) : TM K.C sn A env (envOf K.sc ρ) (eval (toE (.om j o as) K.sc K.gx t) env) (fun v H' => Q (toV v) H') E H := by
  obtain ⟨h1, h2⟩ := and2 hc
  obtain ⟨hf, h1⟩ := and2 h1
  obtain ⟨hl, h1⟩ := and2 h1
  obtain ⟨hn, hb⟩ := and2 h1
  obtain ⟨co, ca⟩ := and2 h2
  have hl : t.q.endLine = t.p.line := Nat.eq_of_beq_eq_true hl
  have hn : lenA as < 30 := Nat.le_of_ble_eq_true hn
  show TM K.C sn A env (envOf K.sc ρ) (eval (.Call (.Attribute (toE o K.sc K.gx t.a) (gnameAt K.gx j) t.q) (toA as K.sc K.gx t.b) [] t.p) env) _ E H
  rw [arm_eval_Call, attributeBase_plain hb]
  refine .bind ((iho K t.a ρ X ok co _ H h sn A env E a).mono fun ov H₁ h₁ => .bind (.standAt ?_))
  obtain ⟨hpa, _⟩ := plain_args (env := env) (pos := t.p) K.sc K.gx as t.b
  have hform := form_at (env := env) (pos := t.p) (sc := K.sc) (gx := K.gx) (t := t.b) hn
  have hpos : methodCallPos true (toE o K.sc K.gx t.a) env t.q t.p = pure t.p := by unfold methodCallPos; simp [hl]
  obtain ⟨p, hp, h₁⟩ := gxAt_out h₁
  obtain ⟨T, hT, h₁⟩ := onMethG_out h₁
  have hg := ok.gx hf p (List.mem_of_getElem? hp)
  rw [hT] at hg
  obtain ⟨f, hM, hcl, hm⟩ := hg
  rw [gnameAt_eq hp]
  unfold methodCall
  rw [hform, hpos]
  refine .bind (.holding ((oInst_ok hM h₁).mono fun r H₂ hr => ?_))
  obtain ⟨rfl, hk, rfl⟩ := hr
  refine .bind (.pure ?_)
  obtain ⟨_, hts⟩ := args_at (pos := t.p) iha ok ca hk a
  refine tm_callWith (first := [ov]) hcl hpa (hts.mono fun vs H₃ h₃ => ?_)
  have G' : Good K.C K.fz K.d true sn A env := ⟨a.good.fz, fun _ => a.good.hd hf, a.good.depth, a.good.units, a.good.frs⟩
  exact hm _ _ Q X H₃ h₃ sn A env (envOf K.sc ρ) E (ov :: vs) rfl G' a.exits
theorem call_at {as : CE} {j : Nat} {t : PT} {Q : QV} (iha : SA as) (ok : KOk K) (hc : chkA as K.sc K.gx K.free t.a = true) (a : At K ρ X sn A env E)
    (h : gAt K j fun g => onFn g (wA as K ρ X (fun vs H₁ => oCall K X g vs Q H₁) H)) : TM K.C sn A env (envOf K.sc ρ) (eval (toE (.call j as) K.sc K.gx t) env) (fun v H' => Q (toV v) H') E H := by
  obtain ⟨g, hg, h⟩ := gAt_out h
  obtain ⟨x, hx, load⟩ := glob_at (H := H) (pos := t.q) ok hg a
  show TM K.C sn A env (envOf K.sc ρ) (do callWith t.p (← eval (.Name (nameAt K.sc j) t.q) env) [] (backTo t.p (starEach (toA as K.sc K.gx t.a) env)) (backToKw t.p (keywordEach [] env))) _ E H
  refine .bind ?_
  cases g with
  | con T any =>
    obtain ⟨hpa, hts⟩ := args_at (pos := t.p) iha ok hc h a
    obtain ⟨f, hv, hcl, hm, _⟩ := hx
    refine load hv (tm_callWith hcl hpa (hts.mono fun vs H₁ h₁ => ?_))
    exact hm _ _ Q X H₁ h₁ sn A env (envOf K.sc ρ) E vs rfl a.good a.exits
  | bi b =>
    obtain ⟨hpa, hts⟩ := args_at (pos := t.p) iha ok hc h a
    refine load hx (tm_callWith (Callee.other b.noRef) hpa (hts.mono fun vs H₁ h₁ => ?_))
    obtain ⟨h1, h2⟩ := req_out h₁
    refine oBi_ok (fun e => a.good.hd ?_) (by rw [a.good.fz]; exact h2)
    simpa [e] using h1
  | _ => exact h.elim
set_option tactic.hygienic true in
theorem isi_at {x : CE} {j j' : Nat} {t : PT} {Q : QV} (ih : SE x) (ok : KOk K) (hc : chkE x K.sc K.gx K.free t.a = true) (a : At K ρ X sn A env E)
    (h : gAt K j fun g => gAt K j' fun g' => onIs g g' (wE x K ρ X (fun v H₁ => oIsG K g g' v Q H₁) H)) : TM K.C sn A env (envOf K.sc ρ) (eval (toE (.isi j j' x) K.sc K.gx t) env) (fun v H' => Q (toV v) H') E H := by
  obtain ⟨g, hg, h⟩ := gAt_out h
  obtain ⟨g', hg', h⟩ := gAt_out h
  obtain ⟨y, hy, load⟩ := glob_at (H := H) (pos := t.q) ok hg a
  show TM K.C sn A env (envOf K.sc ρ) (do callWith t.p (← eval (.Name (nameAt K.sc j) t.q) env) [] (backTo t.p (starEach [toE x K.sc K.gx t.a, .Name (nameAt K.sc j') t.b.p] env)) (backToKw t.p (keywordEach [] env))) _ E H
  rw [starEach_plain (noStar ..).1, starEach_plain rfl]
  have key : wE x K ρ X (fun v H₁ => oIsG K g g' v Q H₁) H → ∀ c : Value, (∀ H₁ (Q' : Value → AH → Prop), Q' c H₁ → TM K.C sn A env (envOf K.sc ρ) (eval (.Name (nameAt K.sc j') t.b.p) env) Q' E H₁) → (∀ v H₁, oIsG K g g' (toV v) Q H₁ → GV K.C y = some (.builtin "isinstance") ∧ TM K.C sn A env (envOf K.sc ρ) (call (.builtin "isinstance") [v, c]) (fun v H' => Q (toV v) H') E H₁) → GV K.C y = some (.builtin "isinstance") →
      TM K.C sn A env (envOf K.sc ρ) (do callWith t.p (← eval (.Name (nameAt K.sc j) t.q) env) [] (backTo t.p ((false, eval (toE x K.sc K.gx t.a) env) :: (false, eval (.Name (nameAt K.sc j') t.b.p) env) :: starEach [] env)) (backToKw t.p (keywordEach [] env))) (fun v H' => Q (toV v) H') E H := by
    intro h c h1 h2 h3
    refine .bind (load h3 (tm_callWith_other (first := []) (fun a e => by cases e) (fun z hz => ?_) ?_))
    · have hz : z ∈ [(false, eval (toE x K.sc K.gx t.a) env), (false, eval (.Name (nameAt K.sc j') t.b.p) env)] := hz
      rcases List.mem_cons.mp hz with rfl | hz
      · rfl
      · rw [List.mem_singleton.mp hz]
    · show TM K.C sn A env (envOf K.sc ρ) (eval (toE x K.sc K.gx t.a) env) _ E H
      exact (ih K t.a ρ X ok hc _ H h sn A env E a).mono fun v H₁ h₁ => h1 H₁ _ (h2 v H₁ h₁).2
  cases g with
  | isi =>
    have hy : GV K.C y = some (.builtin "isinstance") := hy
    have two : ∀ c : Value, (∀ y', GOk K.C K.d K.free y' g' → GV K.C y' = some c) → (∀ v H₁, oIsG K .isi g' (toV v) Q H₁ → TM K.C sn A env (envOf K.sc ρ) (call (.builtin "isinstance") [v, c]) (fun v H' => Q (toV v) H') E H₁) → wE x K ρ X (fun v H₁ => oIsG K .isi g' v Q H₁) H → _ := fun c h1 h2 h =>
      key h c (fun H₁ Q' q => let ⟨y', hy', load'⟩ := glob_at (H := H₁) (pos := t.b.p) ok hg' a; load' (h1 y' hy') q) (fun v H₁ h₁ => ⟨hy, h2 v H₁ h₁⟩) hy
    cases g' with
    | ty ty => exact two (.type ty.s) (fun y' h => h) (fun v H₁ h₁ => oIsi_ok ok.bk h₁) h
    | bi b =>
      obtain ⟨ty, hty, h⟩ := got_out h
      refine two (.type ty.s) (fun y' h => by rw [← Bi.ty_val hty]; exact h) (fun v H₁ h₁ => ?_) h
      obtain ⟨ty', hty', h₁⟩ := got_out h₁
      rw [hty] at hty'; cases hty'
      exact oIsi_ok ok.bk h₁
    | exc i =>
      obtain ⟨y', hy', _⟩ := glob_at (H := H) (pos := t.b.p) ok hg' a
      obtain ⟨b, hb, _⟩ := hy'
      refine two (.ref b) (fun y' h => by obtain ⟨b', h1, h2⟩ := h; rw [hb] at h1; cases h1; exact h2) (fun v H₁ h₁ => ?_) h
      obtain ⟨p, rfl, h₁⟩ := refV h₁
      obtain ⟨n, hp, h₁⟩ := look_out h₁
      cases n <;> try exact h₁.elim
      rename_i i0
      refine fun s I => ?_
      obtain ⟨_, _, a0, ha0, _⟩ := I.nodes p _ hp
      replace h₁ : Q (.bool (catches K i0 i)) H₁ := h₁
      cases hcat : catches K i0 i with
      | true => rw [hcat] at h₁; exact isx_ok hp ha0 (ok.exs _ _ ha0) (.inl ⟨i, b, hb, rfl, ok.exs _ _ hb, hcat⟩) h₁ s I
      | false => rw [hcat] at h₁; exact isx_not hp ha0 (ok.exs _ _ ha0) hb hcat h₁ s I
    | verr =>
      refine two (.type "ValueError") (fun y' h => h) (fun v H₁ h₁ => ?_) h
      obtain ⟨p, rfl, h₁⟩ := refV h₁
      obtain ⟨n, hp, h₁⟩ := look_out h₁
      cases n <;> try exact h₁.elim
      refine fun s I => ?_
      obtain ⟨_, _, a0, ha0, _⟩ := I.nodes p _ hp
      exact isx_ok hp ha0 (ok.exs _ _ ha0) (.inr rfl) h₁ s I
    | _ => exact h.elim
  | _ => exact h.elim
end
end Mine
namespace Mine
open PySem PySem.Calls PySem.SeqAt PySem.W PyProof.Rows
section
variable {K : KK} {ρ : Ev} {X : QX} {sn : Snap} {A : Around} {env : Env} {E : Value → Shared → Prop} {H : AH}
theorem seq_at {es : CE} {t : PT} {Q : QV} {T : String} {mk : List V → Node} {pos : Pos} (hT : ∀ (vs : List Value), vs.length < 2 ^ 62 → ObjIs K.C { cls := .type T, data := .seq vs.toArray } (mk (vs.map toV))) (ih : SA es) (ok : KOk K) (hc : chkA es K.sc K.gx K.free t = true) (a : At K ρ X sn A env E)
    (h : wA es K ρ X (fun vs H₁ => req (decide (vs.length ≤ 1000)) (Made K.fz (mk vs) Q H₁)) H) : TM K.C sn A env (envOf K.sc ρ) (do standAt pos; let vs ← spliced (backTo pos (starEach (toA es K.sc K.gx t) env)); newObj (.type T) (.seq vs.toArray)) (fun v H' => Q (toV v) H') E H := by
  refine .bind (.standAt ?_)
  obtain ⟨hpa, hts⟩ := args_at (pos := pos) ih ok hc h a
  refine tm_seqDisplay hT ((tm_spliced hpa hts).mono fun vs H₁ h₁ => ?_)
  obtain ⟨h1, h2⟩ := reqp_out h₁
  rw [List.length_map] at h1
  exact ⟨Nat.le_trans h1 (by unfold sizeLine; decide), by rw [a.good.fz]; exact h2.out⟩
theorem slice_at {o : CE} {t : PT} {lo hi : Option Expr} {wl wu : (V → AH → Prop) → AH → Prop} {Q : QV} {p q : Pos} (iho : SE o) (ok : KOk K) (hc : chkE o K.sc K.gx K.free t = true) (a : At K ρ X sn A env E)
    (hl : ∀ Q H, wl Q H → TM K.C sn A env (envOf K.sc ρ) (evalPart lo env) (fun v H' => Q (toV v) H') E H) (hu : ∀ Q H, wu Q H → TM K.C sn A env (envOf K.sc ρ) (evalPart hi env) (fun v H' => Q (toV v) H') E H)
    (h : wE o K ρ X (fun ov H₁ => wl (fun l H₂ => wu (fun u H₃ => oSlice K.fz ov l u Q H₃) H₂) H₁) H) :
    TM K.C sn A env (envOf K.sc ρ) (eval (.Subscript (toE o K.sc K.gx t) (.Slice lo hi none q) p) env) (fun v H' => Q (toV v) H') E H := by
  rw [eval_Subscript]
  refine .bind ((iho K t ρ X ok hc _ H h sn A env E a).mono fun ov H₁ h₁ => ?_)
  have := tm_sliceO (value := toE o K.sc K.gx t) (pos := p) (pp := q) (o := ov) (Q := Q) ((hl _ H₁ h₁).mono fun l H₂ h₂ => (hu _ H₂ h₂).mono fun u H₃ h₃ => by rw [a.good.fz]; exact h₃)
  intro s I
  exact wpAny_bind (wpAny_holding (this s I))
theorem comp_at {v : Value} {caps : List Cap} {x : Nat} {ifs : List Expr} {elt : Expr} {Q : QV} {turn : V → V → (List V → AH → Prop) → List V → AH → Prop} (ok : KOk K) (a : At K ρ X sn A env E) (I : CompIs K.sc K.gx caps x) (hf : K.free = true)
    (ht : ∀ y J ys H', turn (toV v) y J ys H' → ∀ sn' cenv E', At (K.comp caps (toV v)) (capE ρ caps x y) nX sn' A cenv E' → CompTurn K.C sn' A cenv (envOf (K.comp caps (toV v)).sc (capE ρ caps x y)) ifs elt E' J ys H')
    (h : compG K (turn (toV v)) Q (toV v) H) : CompGoal K.C A K.fz K.d (fun y => K.sc.lookup y) (capS K.sc K.gx caps) (envOf K.sc ρ) (nameAt (caps.map (capR K.sc K.gx)) x) ifs elt (toV v) (fun ys H' => made K.fz (.list ys) Q H') H := by
  obtain ⟨xs, hx, hz, J, j0, tn, fin⟩ := h
  refine ⟨xs, hx, hz, J, j0, fun k y ys H' hy hJ sn' cenv E' Gc hkc => ?_, fun ys H' h1 h2 => (fin ys H' h1 h2).out⟩
  rw [I.env ok.nd]
  exact ht y _ ys H' (tn k y ys H' hy hJ) sn' cenv E' ⟨⟨Gc.fz, fun _ => Gc.hd rfl, Gc.depth, Gc.units, Gc.frs⟩, fun y => (hkc y).trans (I.kdC ok.nd y), fun _ _ _ _ _ h => by obtain ⟨_, _, _, _, _, h⟩ := h; exact h.elim⟩
end
noncomputable def tQ (k : Bool → AH → Prop) : QV := fun v H => oTruth v (fun b => k b H) H
set_option tactic.hygienic true in
set_option backward.match.sparseCases true in
theorem sound : ∀ ce : CE, SE ce ∧ ST ce ∧ SA ce ∧ SB ce ∧ STB ce := by
  intro ce
  have noT : ∀ ce : CE, (∀ K ρ X k H, wT ce K ρ X k H → False) → ST ce := fun ce h K t ρ X ok hc k H hw => (h K ρ X k H hw).elim
  have no3 : ∀ ce : CE, (∀ K ρ X Q H, wA ce K ρ X Q H → False) → (∀ op K ρ X Q H, wB ce op K ρ X Q H → False) → (∀ op K ρ X Q H, wTB ce op K ρ X Q H → False) → SA ce ∧ SB ce ∧ STB ce := fun ce h1 h2 h3 =>
    ⟨fun K t ρ X ok hc k H hw => (h1 K ρ X k H hw).elim, fun op pos K t ρ X ok hc k H hw => (h2 op K ρ X k H hw).elim, fun op K t ρ X ok hc k H hw => (h3 op K ρ X k H hw).elim⟩
  have plain : ∀ ce : CE, SE ce → (∀ K ρ X k H, wT ce K ρ X k H → False) → (∀ K ρ X Q H, wA ce K ρ X Q H → False) → (∀ op K ρ X Q H, wB ce op K ρ X Q H → False) → (∀ op K ρ X Q H, wTB ce op K ρ X Q H → False) → SE ce ∧ ST ce ∧ SA ce ∧ SB ce ∧ STB ce := fun ce h ht h1 h2 h3 =>
    ⟨h, noT ce ht, no3 ce h1 h2 h3⟩
  have tested : ∀ ce : CE, SE ce → (∀ K ρ X k H, wT ce K ρ X k H → wE ce K ρ X (tQ k) H) → (∀ sc gx t env, isTrue (toE ce sc gx t) env (eval (toE ce sc gx t) env) = (do let v ← eval (toE ce sc gx t) env; standAt (toE ce sc gx t).pos; holding [v] (truthy v))) → (∀ K ρ X Q H, wA ce K ρ X Q H → False) → (∀ op K ρ X Q H, wB ce op K ρ X Q H → False) → (∀ op K ρ X Q H, wTB ce op K ρ X Q H → False) → SE ce ∧ ST ce ∧ SA ce ∧ SB ce ∧ STB ce := fun ce h ht hi h1 h2 h3 =>
    ⟨h, fun K t ρ X ok hc k H hw sn A env E a => val_test (h K t ρ X ok hc (tQ k) H (ht K ρ X k H hw) sn A env E a) (hi _ _ _ _), no3 ce h1 h2 h3⟩
  induction ce with
  | none => exact plain _ (fun K t ρ X ok hc Q H h sn A env E a => by show TM _ _ _ _ _ (eval (.Constant .none t.i t.p) env) _ _ _; rw [eval_Constant]; exact .pure h) (fun _ _ _ _ _ h => h) (fun _ _ _ _ _ h => h) (fun _ _ _ _ _ _ h => h) fun _ _ _ _ _ _ h => h
  | bool b => exact tested _ (fun K t ρ X ok hc Q H h sn A env E a => by show TM _ _ _ _ _ (eval (.Constant (.bool b) t.i t.p) env) _ _ _; rw [eval_Constant]; exact .pure h) (fun _ _ _ _ _ h => h) (fun _ _ _ _ => rfl) (fun _ _ _ _ _ h => h) (fun _ _ _ _ _ _ h => h) fun _ _ _ _ _ _ h => h
  | int i => exact plain _ (fun K t ρ X ok hc Q H h sn A env E a => by show TM _ _ _ _ _ (eval (.Constant (.int i) t.i t.p) env) _ _ _; rw [eval_Constant]; exact .mkInt fun _ => h) (fun _ _ _ _ _ h => h) (fun _ _ _ _ _ h => h) (fun _ _ _ _ _ _ h => h) fun _ _ _ _ _ _ h => h
  | str s => exact plain _ (fun K t ρ X ok hc Q H h sn A env E a => by show TM _ _ _ _ _ (eval (.Constant (.str (tx s)) t.i t.p) env) _ _ _; rw [eval_Constant]; exact .mkText fun _ => h) (fun _ _ _ _ _ h => h) (fun _ _ _ _ _ h => h) (fun _ _ _ _ _ _ h => h) fun _ _ _ _ _ _ h => h
  | var i =>
    refine tested _ (fun K t ρ X ok hc Q H h sn A env E a => ?_) (fun _ _ _ _ _ h => h) (fun _ _ _ _ => rfl) (fun _ _ _ _ _ h => h) (fun _ _ _ _ _ _ h => h) fun _ _ _ _ _ _ h => h
    obtain ⟨v, hv, h⟩ := oVar_out h
    have hc : (match K.sc[i]? with | some _ => true | none => false) = true := hc
    cases q : K.sc[i]? with
    | none => rw [q] at hc; cases hc
    | some p => exact name_at (X := X) ok q hv h
  | glob j =>
    refine plain _ (fun K t ρ X ok hc Q H h sn A env E a => ?_) (fun _ _ _ _ _ h => h) (fun _ _ _ _ _ h => h) (fun _ _ _ _ _ _ h => h) fun _ _ _ _ _ _ h => h
    obtain ⟨g, hg, h⟩ := gAt_out h
    obtain ⟨x, hx, load⟩ := glob_at (H := H) (pos := t.p) ok hg a
    cases g <;> try exact h.elim
    obtain ⟨cv, hv, rfl⟩ := hx
    exact load hv h
  | bin op a b iha ihb =>
    refine plain _ (fun K t ρ X ok hc Q H h sn A env E at_ => ?_) (fun _ _ _ _ _ h => h) (fun _ _ _ _ _ h => h) (fun _ _ _ _ _ _ h => h) fun _ _ _ _ _ _ h => h
    obtain ⟨c1, c2⟩ := and2 hc
    show TM _ _ _ _ _ (eval (.BinOp (toE a K.sc K.gx t.a) op (toE b K.sc K.gx t.b) t.p) env) _ _ _
    rw [eval_BinOp]
    exact .bind ((iha.1 K t.a ρ X ok c1 _ H h sn A env E at_).mono fun x H₁ h₁ => .bind (.holding ((ihb.1 K t.b ρ X ok c2 _ H₁ h₁ sn A env E at_).mono fun y H₂ h₂ => .bind (.standAt (.operate (oBin_ok (by rw [at_.good.fz]; exact h₂)))))))
  | not a iha =>
    refine ⟨fun K t ρ X ok hc Q H h sn A env E at_ => ?_, fun K t ρ X ok hc k H h sn A env E at_ => ?_, no3 _ (fun _ _ _ _ _ h => h) (fun _ _ _ _ _ _ h => h) fun _ _ _ _ _ _ h => h⟩
    · show TM _ _ _ _ _ (eval (.UnaryOp .Not (toE a K.sc K.gx t.a) t.p) env) _ _ _
      rw [arm_eval_UnaryOp]
      refine .bind ((iha.1 K t.a ρ X ok hc _ H h sn A env E at_).mono fun v H₁ h₁ => .bind (.standAt (.holding ?_)))
      show TM K.C sn A env _ (unaryOp .Not v) _ E H₁
      unfold unaryOp
      refine .holding ?_
      show TM K.C sn A env _ (do return Value.bool (!(← truthy v))) _ E H₁
      exact .bind ((oTruth_ok h₁).mono fun b H₂ ⟨hb, e⟩ => by subst e; exact .pure hb)
    · show TM _ _ _ _ _ (isTrue (.UnaryOp .Not (toE a K.sc K.gx t.a) t.p) env _) _ _ _
      rw [arm_isTrue_UnaryOp]
      exact .bind ((iha.2.1 K t.a ρ X ok hc _ H h sn A env E at_).mono fun b H₁ h₁ => .pure h₁)
  | neg a iha =>
    refine plain _ (fun K t ρ X ok hc Q H h sn A env E at_ => ?_) (fun _ _ _ _ _ h => h) (fun _ _ _ _ _ h => h) (fun _ _ _ _ _ _ h => h) fun _ _ _ _ _ _ h => h
    show TM _ _ _ _ _ (eval (.UnaryOp .USub (toE a K.sc K.gx t.a) t.p) env) _ _ _
    rw [arm_eval_UnaryOp]
    refine .bind ((iha.1 K t.a ρ X ok hc _ H h sn A env E at_).mono fun v H₁ h₁ => .bind (.standAt (.holding ?_)))
    obtain ⟨i, t', rfl, h₁⟩ := intV h₁
    intro s I
    exact PyProof.Rows.neg_int ⟨H₁, I.toks _, h₁⟩
  | bop op es ih =>
    refine ⟨fun K t ρ X ok hc Q H h sn A env E at_ => ?_, fun K t ρ X ok hc k H h sn A env E at_ => ?_, no3 _ (fun _ _ _ _ _ h => h) (fun _ _ _ _ _ _ h => h) fun _ _ _ _ _ _ h => h⟩
    · show TM _ _ _ _ _ (eval (.BoolOp op (toA es K.sc K.gx t.a) t.p) env) _ _ _
      rw [arm_eval_BoolOp]
      exact ih.2.2.2.1 op t.p K t.a ρ X ok hc Q H h sn A env E at_
    · show TM _ _ _ _ _ (isTrue (.BoolOp op (toA es K.sc K.gx t.a) t.p) env _) _ _ _
      rw [arm_isTrue_BoolOp]
      exact ih.2.2.2.2 op K t.a ρ X ok hc k H h sn A env E at_
  | cmp op a b iha ihb =>
    have key : ∀ (K : KK) (t : PT) (ρ : Ev) (X : QX), KOk K → chkE (.cmp op a b) K.sc K.gx K.free t = true → ∀ (k : Bool → AH → Prop) (H : AH), wT (.cmp op a b) K ρ X k H → ∀ sn A env E, At K ρ X sn A env E →
        TM K.C sn A env (envOf K.sc ρ) (eval (toE a K.sc K.gx t.a) env) (fun x H₁ => TM K.C sn A env (envOf K.sc ρ) (compareChain t.p x [op] [eval (toE b K.sc K.gx t.b) env]) (fun v H' => ∃ r, v = .bool r ∧ k r H') E H₁ ∧ TM K.C sn A env (envOf K.sc ρ) (testChain t.p x [op] [eval (toE b K.sc K.gx t.b) env]) (fun r H' => k r H') E H₁) E H := by
      intro K t ρ X ok hc k H h sn A env E at_
      obtain ⟨c1, c2⟩ := and2 hc
      exact (iha.1 K t.a ρ X ok c1 _ H h sn A env E at_).mono fun x H₁ h₁ => cmp1_at at_.good.room (ihb.1 K t.b ρ X ok c2 _ H₁ h₁ sn A env E at_)
    refine ⟨fun K t ρ X ok hc Q H h sn A env E at_ => ?_, fun K t ρ X ok hc k H h sn A env E at_ => ?_, no3 _ (fun _ _ _ _ _ h => h) (fun _ _ _ _ _ _ h => h) fun _ _ _ _ _ _ h => h⟩
    · show TM _ _ _ _ _ (eval (.Compare (toE a K.sc K.gx t.a) [op] [toE b K.sc K.gx t.b] t.p) env) _ _ _
      rw [arm_eval_Compare, marked1 (noStar ..).2]
      exact .bind ((key K t ρ X ok hc (fun r H => Q (.bool r) H) H h sn A env E at_).mono fun x H₁ h₁ => h₁.1.mono fun v H₂ ⟨r, e, q⟩ => by subst e; exact q)
    · show TM _ _ _ _ _ (isTrue (.Compare (toE a K.sc K.gx t.a) [op] [toE b K.sc K.gx t.b] t.p) env _) _ _ _
      rw [arm_isTrue_Compare, marked1 (noStar ..).2]
      exact .bind ((key K t ρ X ok hc k H h sn A env E at_).mono fun x H₁ h₁ => h₁.2)
  | cmp2 op op' a b c iha ihb ihc =>
    have key : ∀ (K : KK) (t : PT) (ρ : Ev) (X : QX), KOk K → chkE (.cmp2 op op' a b c) K.sc K.gx K.free t = true → ∀ (k : Bool → AH → Prop) (H : AH), wT (.cmp2 op op' a b c) K ρ X k H → ∀ sn A env E, At K ρ X sn A env E →
        TM K.C sn A env (envOf K.sc ρ) (eval (toE a K.sc K.gx t.a) env) (fun x H₁ => TM K.C sn A env (envOf K.sc ρ) (compareChain t.p x [op, op'] [eval (toE b K.sc K.gx t.b) env, eval (toE c K.sc K.gx t.c) env]) (fun v H' => ∃ r, v = .bool r ∧ k r H') E H₁ ∧ TM K.C sn A env (envOf K.sc ρ) (testChain t.p x [op, op'] [eval (toE b K.sc K.gx t.b) env, eval (toE c K.sc K.gx t.c) env]) (fun r H' => k r H') E H₁) E H := by
      intro K t ρ X ok hc k H h sn A env E at_
      obtain ⟨c1, c2⟩ := and2 hc
      obtain ⟨c2, c3⟩ := and2 c2
      exact (iha.1 K t.a ρ X ok c1 _ H h sn A env E at_).mono fun x H₁ h₁ => cmp2_at (W := fun y H₂ => wE c K ρ X (fun z H₃ => oCmp2 op' y z (fun r => k r H₃) H₃) H₂) at_.good.room (fun y H₂ h₂ => ihc.1 K t.c ρ X ok c3 _ H₂ h₂ sn A env E at_) (ihb.1 K t.b ρ X ok c2 _ H₁ h₁ sn A env E at_)
    refine ⟨fun K t ρ X ok hc Q H h sn A env E at_ => ?_, fun K t ρ X ok hc k H h sn A env E at_ => ?_, no3 _ (fun _ _ _ _ _ h => h) (fun _ _ _ _ _ _ h => h) fun _ _ _ _ _ _ h => h⟩
    · show TM _ _ _ _ _ (eval (.Compare (toE a K.sc K.gx t.a) [op, op'] [toE b K.sc K.gx t.b, toE c K.sc K.gx t.c] t.p) env) _ _ _
      rw [arm_eval_Compare, marked2 (noStar ..).2]
      exact .bind ((key K t ρ X ok hc (fun r H => Q (.bool r) H) H h sn A env E at_).mono fun x H₁ h₁ => h₁.1.mono fun v H₂ ⟨r, e, q⟩ => by subst e; exact q)
    · show TM _ _ _ _ _ (isTrue (.Compare (toE a K.sc K.gx t.a) [op, op'] [toE b K.sc K.gx t.b, toE c K.sc K.gx t.c] t.p) env _) _ _ _
      rw [arm_isTrue_Compare, marked2 (noStar ..).2]
      exact .bind ((key K t ρ X ok hc k H h sn A env E at_).mono fun x H₁ h₁ => h₁.2)
  | meth m o as iho iha => exact tested _ (fun K t ρ X ok hc Q H h sn A env E at_ => meth_at iho.1 iha.2.2.1 ok hc at_ h) (fun _ _ _ _ _ h => h) (fun _ _ _ _ => rfl) (fun _ _ _ _ _ h => h) (fun _ _ _ _ _ _ h => h) fun _ _ _ _ _ _ h => h
  | attr j o iho => exact plain _ (fun K t ρ X ok hc Q H h sn A env E at_ => attr_at iho.1 ok hc at_ h) (fun _ _ _ _ _ h => h) (fun _ _ _ _ _ h => h) (fun _ _ _ _ _ _ h => h) fun _ _ _ _ _ _ h => h
  | om j o as iho iha => exact plain _ (fun K t ρ X ok hc Q H h sn A env E at_ => om_at iho.1 iha.2.2.1 ok hc at_ h) (fun _ _ _ _ _ h => h) (fun _ _ _ _ _ h => h) (fun _ _ _ _ _ _ h => h) fun _ _ _ _ _ _ h => h
  | call j as iha => exact tested _ (fun K t ρ X ok hc Q H h sn A env E at_ => call_at iha.2.2.1 ok hc at_ h) (fun _ _ _ _ _ h => h) (fun _ _ _ _ => rfl) (fun _ _ _ _ _ h => h) (fun _ _ _ _ _ _ h => h) fun _ _ _ _ _ _ h => h
  | isi j j' x ih => exact tested _ (fun K t ρ X ok hc Q H h sn A env E at_ => isi_at ih.1 ok hc at_ h) (fun _ _ _ _ _ h => h) (fun _ _ _ _ => rfl) (fun _ _ _ _ _ h => h) (fun _ _ _ _ _ _ h => h) fun _ _ _ _ _ _ h => h
  | list es ih =>
    refine plain _ (fun K t ρ X ok hc Q H h sn A env E at_ => ?_) (fun _ _ _ _ _ h => h) (fun _ _ _ _ _ h => h) (fun _ _ _ _ _ _ h => h) fun _ _ _ _ _ _ h => h
    show TM _ _ _ _ _ (eval (.List (toA es K.sc K.gx t.a) t.p) env) _ _ _
    rw [arm_eval_List]
    exact seq_at (mk := .list) (fun vs hz => ⟨by simpa using hz, _, _, rfl, by simp⟩) ih.2.2.1 ok hc at_ h
  | tup es ih =>
    refine plain _ (fun K t ρ X ok hc Q H h sn A env E at_ => ?_) (fun _ _ _ _ _ h => h) (fun _ _ _ _ _ h => h) (fun _ _ _ _ _ _ h => h) fun _ _ _ _ _ _ h => h
    show TM _ _ _ _ _ (eval (.Tuple (toA es K.sc K.gx t.a) t.i t.p) env) _ _ _
    rw [arm_eval_Tuple]
    exact seq_at (mk := .tuple) (fun vs hz => ⟨by simpa using hz, rfl, rfl, _, _, rfl, by simp⟩) ih.2.2.1 ok hc at_ h
  | dict0 =>
    refine plain _ (fun K t ρ X ok hc Q H h sn A env E at_ => ?_) (fun _ _ _ _ _ h => h) (fun _ _ _ _ _ h => h) (fun _ _ _ _ _ _ h => h) fun _ _ _ _ _ _ h => h
    intro s I
    have hD := get_size s.heap
    rcases h with h | h
    · refine wpAny_Dict_empty ⟨_, I.come (n := .sdict []) (tk := s.toks) (fun b o e => Heap.get?_push_of_some _ e) hD ⟨_, Heap.get?_push_size _ rfl, by simp, [], ?_, rfl⟩, h.out _ (I.none_of_new hD) (by rw [← at_.good.fz]; exact I.notFz (I.none_of_new hD))⟩
      exact ⟨#[], 0, ⟨rfl, rfl, rfl⟩, rfl, fun _ h => by simp at h, .nil, List.nodup_nil⟩
    · refine wpAny_Dict_empty ⟨_, I.come (n := .idict []) (tk := s.toks) (fun b o e => Heap.get?_push_of_some _ e) hD ⟨_, Heap.get?_push_size _ rfl, by simp, [], ?_, rfl⟩, h.out _ (I.none_of_new hD) (by rw [← at_.good.fz]; exact I.notFz (I.none_of_new hD))⟩
      exact ⟨#[], 0, ⟨rfl, rfl, rfl⟩, rfl, fun _ h => by simp at h, .nil, List.nodup_nil⟩
  | dict1 k v ihk ihv =>
    refine plain _ (fun K t ρ X ok hc Q H h sn A env E at_ => ?_) (fun _ _ _ _ _ h => h) (fun _ _ _ _ _ h => h) (fun _ _ _ _ _ _ h => h) fun _ _ _ _ _ _ h => h
    obtain ⟨c1, c2⟩ := and2 hc
    refine tm_dict1 fun D s' hn hnf I' => ?_
    have h := h D hn (by rw [← at_.good.fz]; exact hnf)
    have at' := at_.more (D := D) I'
    have J := I'.snap (fz' := [D] ++ sn.fz) fun b hb => by
      rcases List.mem_cons.mp hb with rfl | hb
      · exact ⟨_, AH.set_self ..⟩
      · exact (I'.frz b hb).2
    refine wpAny_mono (ihk.1 (K.more (.ref D)) t.a ρ X (ok.more _) c1 _ _ h _ A env E at' s' J) (fun kv s₁ h₁ => ?_) fun _ _ e => e
    obtain ⟨H₁, J₁, h₁⟩ := h₁
    refine ⟨H₁, J₁, wpAny_mono (ihv.1 (K.more (.ref D)) t.b ρ X (ok.more _) c2 _ _ h₁ _ A env E at' s₁ J₁) (fun vv s₂ h₂ => ?_) fun _ _ e => e⟩
    obtain ⟨H₂, J₂, h₂⟩ := h₂
    obtain ⟨x, e, h₂⟩ := onStr_out h₂
    exact ⟨H₂, x, e, J₂, h₂⟩
  | sub o i iho ihi =>
    refine tested _ (fun K t ρ X ok hc Q H h sn A env E at_ => ?_) (fun _ _ _ _ _ h => h) (fun _ _ _ _ => rfl) (fun _ _ _ _ _ h => h) (fun _ _ _ _ _ _ h => h) fun _ _ _ _ _ _ h => h
    obtain ⟨c1, c2⟩ := and2 hc
    show TM _ _ _ _ _ (eval (.Subscript (toE o K.sc K.gx t.a) (toE i K.sc K.gx t.b) t.p) env) _ _ _
    rw [eval_Subscript]
    refine .bind ((iho.1 K t.a ρ X ok c1 _ H h sn A env E at_).mono fun ov H₁ h₁ => .bind (.holding ((ihi.1 K t.b ρ X ok c2 _ H₁ h₁ sn A env E at_).mono fun iv H₂ h₂ => .bind (.standAt ?_))))
    exact (oIdx_ok (value := toE o K.sc K.gx t.a) (slice := toE i K.sc K.gx t.b) h₂).mono fun r H₃ ⟨hr, e⟩ => by subst e; exact hr
  | slice o iho =>
    refine plain _ (fun K t ρ X ok hc Q H h sn A env E at_ => ?_) (fun _ _ _ _ _ h => h) (fun _ _ _ _ _ h => h) (fun _ _ _ _ _ _ h => h) fun _ _ _ _ _ _ h => h
    exact slice_at (lo := none) (hi := none) (wl := fun Q H => Q .none H) (wu := fun Q H => Q .none H) iho.1 ok hc at_ (fun Q H h => by rw [evalPart_none]; exact .pure h) (fun Q H h => by rw [evalPart_none]; exact .pure h) h
  | sliceT o b iho ihb =>
    refine plain _ (fun K t ρ X ok hc Q H h sn A env E at_ => ?_) (fun _ _ _ _ _ h => h) (fun _ _ _ _ _ h => h) (fun _ _ _ _ _ _ h => h) fun _ _ _ _ _ _ h => h
    obtain ⟨c1, c2⟩ := and2 hc
    exact slice_at (lo := none) (hi := some (toE b K.sc K.gx t.b)) (wl := fun Q H => Q .none H) (wu := fun Q H => wE b K ρ X Q H) iho.1 ok c1 at_ (fun Q H h => by rw [evalPart_none]; exact .pure h) (fun Q H h => by rw [evalPart_some]; exact ihb.1 K t.b ρ X ok c2 Q H h sn A env E at_) h
  | sliceF o b iho ihb =>
    refine plain _ (fun K t ρ X ok hc Q H h sn A env E at_ => ?_) (fun _ _ _ _ _ h => h) (fun _ _ _ _ _ h => h) (fun _ _ _ _ _ _ h => h) fun _ _ _ _ _ _ h => h
    obtain ⟨c1, c2⟩ := and2 hc
    exact slice_at (lo := some (toE b K.sc K.gx t.b)) (hi := none) (wl := fun Q H => wE b K ρ X Q H) (wu := fun Q H => Q .none H) iho.1 ok c1 at_ (fun Q H h => by rw [evalPart_some]; exact ihb.1 K t.b ρ X ok c2 Q H h sn A env E at_) (fun Q H h => by rw [evalPart_none]; exact .pure h) h
  | slice2 o a b iho iha ihb =>
    refine plain _ (fun K t ρ X ok hc Q H h sn A env E at_ => ?_) (fun _ _ _ _ _ h => h) (fun _ _ _ _ _ h => h) (fun _ _ _ _ _ _ h => h) fun _ _ _ _ _ _ h => h
    obtain ⟨c1, c2⟩ := and2 hc
    obtain ⟨c2, c3⟩ := and2 c2
    exact slice_at (lo := some (toE a K.sc K.gx t.b)) (hi := some (toE b K.sc K.gx t.c)) (wl := fun Q H => wE a K ρ X Q H) (wu := fun Q H => wE b K ρ X Q H) iho.1 ok c1 at_ (fun Q H h => by rw [evalPart_some]; exact iha.1 K t.b ρ X ok c2 Q H h sn A env E at_) (fun Q H h => by rw [evalPart_some]; exact ihb.1 K t.c ρ X ok c3 Q H h sn A env E at_) h
  | comp elt it caps x ihe ihi =>
    refine plain _ (fun K t ρ X ok hc Q H h sn A env E at_ => ?_) (fun _ _ _ _ _ h => h) (fun _ _ _ _ _ h => h) (fun _ _ _ _ _ _ h => h) fun _ _ _ _ _ _ h => h
    obtain ⟨c1, c2⟩ := and2 hc
    obtain ⟨hf, c1⟩ := and2 c1
    obtain ⟨c2, c3⟩ := and2 c2
    have I := compIs_of c1
    have G' : Good K.C K.fz K.d true sn A env := ⟨at_.good.fz, fun _ => at_.good.hd hf, at_.good.depth, at_.good.units, at_.good.frs⟩
    refine tm_comp G' at_.kd (I.compOk ok.nd) (Nat.zero_le _) (notSet _ _ _ _) ((ihi.1 K t.b ρ X ok c2 _ H h sn A env E at_).mono fun v H₁ h₁ => ?_)
    exact comp_at (turn := fun v y J ys H' => wE elt (K.comp caps v) (capE ρ caps x y) nX (fun u H₂ => J (ys ++ [u]) H₂) H') ok at_ I hf (fun y J ys H' hw sn' cenv E' a' => ihe.1 (K.comp caps (toV v)) t.a _ nX (ok.comp I hf _) c3 _ H' hw sn' A cenv E' a') h₁
  | compIf elt it c caps x ihe ihi ihc =>
    refine plain _ (fun K t ρ X ok hc Q H h sn A env E at_ => ?_) (fun _ _ _ _ _ h => h) (fun _ _ _ _ _ h => h) (fun _ _ _ _ _ _ h => h) fun _ _ _ _ _ _ h => h
    obtain ⟨c1, c2⟩ := and2 hc
    obtain ⟨hf, c1⟩ := and2 c1
    obtain ⟨c2, c3⟩ := and2 c2
    obtain ⟨c3, c4⟩ := and2 c3
    have I := compIs_of c1
    have G' : Good K.C K.fz K.d true sn A env := ⟨at_.good.fz, fun _ => at_.good.hd hf, at_.good.depth, at_.good.units, at_.good.frs⟩
    refine tm_comp G' at_.kd (I.compOk ok.nd) (Nat.le_refl _) (notSet _ _ _ _) ((ihi.1 K t.b ρ X ok c2 _ H h sn A env E at_).mono fun v H₁ h₁ => ?_)
    refine comp_at (turn := fun v y J ys H' => wT c (K.comp caps v) (capE ρ caps x y) nX (fun b H₂ => br b (wE elt (K.comp caps v) (capE ρ caps x y) nX (fun u H₃ => J (ys ++ [u]) H₃) H₂) (J ys H₂)) H') ok at_ I hf (fun y J ys H' hw sn' cenv E' a' => ?_) h₁
    refine (ihc.2.1 (K.comp caps (toV v)) t.c _ nX (ok.comp I hf _) c4 _ H' hw sn' A cenv E' a').mono fun b H₂ h₂ => ?_
    cases b
    · exact h₂
    · exact ihe.1 (K.comp caps (toV v)) t.a _ nX (ok.comp I hf _) c3 _ H₂ h₂ sn' A cenv E' a'
  | nil => exact ⟨fun K t ρ X ok hc Q H h => h.elim, noT _ fun _ _ _ _ _ h => h, fun K t ρ X ok hc Q H h sn A env E a => h, fun op pos K t ρ X ok hc Q H h => h.elim, fun op K t ρ X ok hc k H h sn A env E a => by
      show TM _ _ _ _ _ (allTrue op [] env) _ _ _; rw [arm_allTrue_nil]; cases op <;> exact .pure h⟩
  | cons a r iha ihr =>
    refine ⟨fun K t ρ X ok hc Q H h => h.elim, noT _ fun _ _ _ _ _ h => h, fun K t ρ X ok hc Q H h sn A env E at_ => ?_, fun op pos K t ρ X ok hc Q H h sn A env E at_ => ?_, fun op K t ρ X ok hc k H h sn A env E at_ => ?_⟩
    · obtain ⟨c1, c2⟩ := and2 hc
      exact (iha.1 K t.a ρ X ok c1 _ H h sn A env E at_).mono fun v H₁ h₁ => ihr.2.2.1 K t.b ρ X ok c2 _ H₁ h₁ sn A env E at_
    · obtain ⟨c1, c2⟩ := and2 hc
      cases r <;> try exact h.elim
      case nil => exact iha.1 K t.a ρ X ok c1 Q H h sn A env E at_
      case cons a' r' =>
        show TM K.C sn A env _ (do
          let v ← eval (toE a K.sc K.gx t.a) env
          standAt pos
          let b ← holding [v] (truthy v)
          match op, b with
          | .And, false | .Or, true => pure v
          | _, _ => boolOp pos op (evalEach (toA (.cons a' r') K.sc K.gx t.b) env)) _ E H
        refine .bind ((iha.1 K t.a ρ X ok c1 _ H h sn A env E at_).mono fun v H₁ h₁ => .bind (.standAt (.bind (.holding ((oTruth_ok h₁).mono fun b H₂ hb => ?_)))))
        obtain ⟨hb, rfl⟩ := hb
        have hb := bAnd_out hb
        have rest : wB (.cons a' r') op K ρ X Q H₂ → _ := fun h => ihr.2.2.2.1 op pos K t.b ρ X ok c2 Q H₂ h sn A env E at_
        cases op <;> cases b
        · exact .pure (hb.2 rfl)
        · exact rest (hb.1 rfl)
        · exact rest (hb.1 rfl)
        · exact .pure (hb.2 rfl)
    · obtain ⟨c1, c2⟩ := and2 hc
      show TM _ _ _ _ _ (allTrue op (toE a K.sc K.gx t.a :: toA r K.sc K.gx t.b) env) _ _ _
      rw [arm_allTrue_cons]
      refine .bind ((iha.2.1 K t.a ρ X ok c1 _ H h sn A env E at_).mono fun b H₁ h₁ => ?_)
      have hb := bAnd_out h₁
      have rest : wTB r op K ρ X k H₁ → _ := fun h => ihr.2.2.2.2 op K t.b ρ X ok c2 k H₁ h sn A env E at_
      cases op <;> cases b
      · exact .pure (hb.2 rfl)
      · exact rest (hb.1 rfl)
      · exact rest (hb.1 rfl)
      · exact .pure (hb.2 rfl)
end Mine
namespace Mine
open PySem PySem.Calls PySem.SeqAt PySem.W PyProof.Rows
structure AtS (K : KK) (X : XS) (sn : Snap) (A : Around) (env : Env) (E : Value → Shared → Prop) : Prop where
  good : Good K.C K.fz K.d K.free sn A env
  stk : Stk K.C sn A env
  kd : ∀ y, env.kindOf y = K.sc.lookup y
  exits : Exits K.C sn env (fun cls ρf H' => ∃ ρl, ρf = envOf K.sc ρl ∧ Xv K.C (atX X ρl) cls H') E
theorem AtS.at {K : KK} {X : XS} {sn : Snap} {A : Around} {env : Env} {E : Value → Shared → Prop} (a : AtS K X sn A env E) (ρ : Ev) : At K ρ (atX X ρ) sn A env E :=
  ⟨a.good, a.kd, fun cls ρf H' e s h F => a.exits cls ρf H' e s ⟨ρ, h.1, h.2⟩ F⟩
inductive PE (K : KK) (R : PS) (f : Flow) (ρf : Str → Option V) (H' : AH) : Prop
  | mk (ρl : Ev) (e : ρf = envOf K.sc ρl) (h : R (toF f) ρl H') : PE K R f ρf H'
section
variable {α : Type} {C : Cx} {sn : Snap} {A : Around} {env : Env} {ρ ρ₀ : Str → Option V} {H : AH} {s : Shared} {E : Value → Shared → Prop}
theorem TR.less {m : Sem α} {Q : α → (Str → Option V) → AH → Prop} (h : ∀ x v, ρ₀ x = some v → ρ x = some v) (t : TR C sn A env m Q E ρ₀ H) : TR C sn A env m Q E ρ H := fun s I => t s (I.less h)
theorem set_less {sc : Sc} {l : Ev} {i : Nat} {p : Str × NameKind} {v : V} (nd : (sc.map (·.1)).Nodup) (hi : sc[i]? = some p) : ∀ y w, envOf sc (l.set i (some v)) y = some w → upd (envOf sc l) (nameAt sc i) v y = some w := fun y w h => by
  rw [nameAt_eq hi]
  unfold upd
  rcases envOf_set nd hi h with ⟨e1, e2⟩ | ⟨e1, e2⟩
  · rw [if_pos e1]; exact e2
  · rw [if_neg e1]; exact e2
theorem storeB_out {sc : Sc} {i : Nat} (h : storeB sc i = true) : ∃ p, sc[i]? = some p ∧ (p.2 = .local ∨ p.2 = .cell) := by
  unfold storeB at h
  cases q : sc[i]? with
  | none => rw [q] at h; cases h
  | some p => rw [q] at h; simp only [Bool.or_eq_true, beq_iff_eq] at h; exact ⟨p, rfl, h⟩
theorem store_at {K : KK} {ρ : Ev} {i : Nat} {cv : Value} {Q : Unit → (Str → Option V) → AH → Prop} (ok : KOk K) (hs : storeB K.sc i = true) (kd : ∀ y, env.kindOf y = K.sc.lookup y) (h : Q () (envOf K.sc (ρ.set i (some (toV cv)))) H) :
    TR K.C sn A env (storeName env (nameAt K.sc i) cv) Q E (envOf K.sc ρ) H := by
  obtain ⟨p, hp, hk⟩ := storeB_out hs
  have hl : env.kindOf (nameAt K.sc i) = some p.2 := by rw [nameAt_eq hp, kd]; exact look_at ok.nd hp
  intro s I
  refine wpAny_mono (TR.storeVar (by rw [hl]; rcases hk with e | e <;> rw [e] <;> simp) (Q := fun _ ρ' H' => ρ' = upd (envOf K.sc ρ) (nameAt K.sc i) (toV cv) ∧ H' = H) ⟨rfl, rfl⟩ s I) (fun _ s' h' => ?_) fun _ _ e => e
  obtain ⟨ρ', H', I', rfl, rfl⟩ := h'
  exact ⟨_, _, I'.less (set_less ok.nd hp), h⟩
theorem noComp_swap {ce : CE} {sc : Sc} {gx : Gx} {t : PT} {tg : Option Expr} {line : Nat} (h : notComp ce = true) : swapsWith (toE ce sc gx t) tg line env = pure false := by
  unfold swapsWith
  cases ce <;> first | rfl | cases h
theorem TMs.length {ts : List (Sem Value)} {Q : List Value → AH → Prop} (h : TMs C sn A env ρ E ts Q H) : TMs C sn A env ρ E ts (fun vs H' => vs.length = ts.length ∧ Q vs H') H := by
  induction ts generalizing Q H with
  | nil => exact ⟨rfl, h⟩
  | cons t r ih => exact TM.mono h fun v H₁ h₁ => (ih h₁).mono fun vs H₂ ⟨h1, h2⟩ => ⟨by simp [h1], h2⟩
theorem raise_at {K : KK} {X : XS} {ρ : Ev} {R : PS} {as : CE} {j : Nat} {t : PT} (ok : KOk K) (hf : K.free = true) (hn : lenA as < 30) (hc : chkA as K.sc K.gx K.free t.a = true) (a : AtS K X sn A env E)
    (h : gAt K j fun g => isExc g fun i => wA as K ρ (atX X ρ) (fun _ H₁ => X i ρ H₁) H) :
    TR K.C sn A env (exec (.Raise (some (.Call (.Name (nameAt K.sc j) t.q) (toA as K.sc K.gx t.a) [] t.b.p)) none t.p) env) (PE K R) E (envOf K.sc ρ) H := by
  intro s I
  obtain ⟨g, hg, h⟩ := gAt_out h
  have hx : ∃ i, g = .exc i ∧ wA as K ρ (atX X ρ) (fun _ H₁ => X i ρ H₁) H := by cases g <;> first | exact h.elim | exact ⟨_, rfl, h⟩
  obtain ⟨i, rfl, h⟩ := hx
  obtain ⟨x, ⟨b, hb, hv⟩, load⟩ := glob_at (H := H) (pos := t.q) ok hg (a.at ρ)
  obtain ⟨xc, hC, hN, hini, hT, _⟩ := (ok.exs i b hb).obj
  obtain ⟨hpa, hts⟩ := args_at (pos := t.b.p) (sound as).2.2.1 ok hc h (a.at ρ)
  refine wpAny_Raise_call_subU (newId := "ValueError.__new__") (C := b) (N := xc.N) (bm := xc.bm) (nm := xc.nm) (q := xc.q) (bs := xc.bs) (hdct := xc.hdct) (sn := xc.sn) (sub := xc.sub) (ab := xc.ab) (col := xc.col) (dd := xc.dd) (k0 := xc.k0) (k1 := xc.k1) (k2 := xc.k2) (k3 := xc.k3) (k5 := xc.k5) (mN := xc.mN)
    F.excBase_ValueError (by decide) F.excBase_ValueError (hT.hasType (by decide)) (a.good.hd hf) (by rw [List.any_eq_false]; intro z hz; rw [hpa z hz]; simp) hini ?_
  refine wpAny_mono (load (Q := fun f H' => f = .ref b ∧ H' = H) hv ⟨rfl, rfl⟩ s I) (fun f s₁ h₁ => ?_) fun _ _ e => e
  obtain ⟨_, I₁, rfl, rfl⟩ := h₁
  refine ⟨rfl, wpAny_mono (tm_evalArgs (f := .ref b) (Q := fun args H₁ => args.kw = [] ∧ args.pos.length ≤ sizeLine ∧ X i ρ H₁) hpa (hts.length.mono fun vs H₁ h₁ => ⟨rfl, ?_, h₁.2⟩) s₁ I₁) (fun args s₂ h₂ => ?_) fun _ _ e => e⟩
  · rw [h₁.1, (plain_args K.sc K.gx as t.a).2, List.length_map, toA_length]; exact Nat.le_trans (Nat.le_of_lt hn) (by unfold sizeLine; decide)
  · obtain ⟨H₂, I₂, e1, e2, hX⟩ := h₂
    refine ⟨e1, e2, I₂.base _ _ hC, hN.keeps I₂.base, hT.keeps I₂.base, fun h' e hm => ?_⟩
    obtain ⟨tt, h1, _, _⟩ := hm.there
    refine a.exits (.ref b) _ H₂ _ _ ⟨ρ, rfl, i, b, hb, rfl, hX⟩ ⟨none, .inl rfl, I₂.keeps (tk := s₂.toks) hm.keeps, e, _, _, rfl, h1, rfl, rfl, by simp, I₂.junk_of_new hm.new, rfl⟩
end
end Mine
set_option maxRecDepth 100000
namespace Mine
open PySem PySem.Calls PySem.SeqAt PySem.W PyProof.Rows
section
variable {C : Cx} {sn : Snap} {A : Around} {env : Env} {H : AH} {s : Shared} {E : Value → Shared → Prop}
theorem matches_own {M : Model} {h : Heap} {g : Array GenState} {d : Drawn} {t : Nat} {os : OsState} {nm q : Str} {a N : Addr} {bs bm : List Value} {hdct : Bool} {sn : List Str} {sub : List Value} {ab : Bool} {col : Option Bool} {dd : Option Addr} {k0 k1 k2 k3 k5 : Option Value} {newId : String}
    {nm' q' : Str} {c N' : Addr} {bs' bm' : List Value} {hdct' : Bool} {sn' : List Str} {sub' : List Value} {ab' : Bool} {col' : Option Bool} {dd' : Option Addr} {k0' k1' k2' k3' k5' : Option Value} {newId' : String} {e : Addr} {oe : Obj} {r : Bool} {Q : Bool → Shared → Prop}
    (ha : h.get? a = some (excClassObj nm q a N bs bm hdct sn sub ab col dd k0 k1 k2 k3 k5 newId)) (hc : h.get? c = some (excClassObj nm' q' c N' bs' bm' hdct' sn' sub' ab' col' dd' k0' k1' k2' k3' k5' newId')) (he : h.get? e = some oe) (hcls : oe.cls = .ref a)
    (hbase : bm'.contains (.type "BaseException") = true) (hr : (Value.ref a :: bm).contains (.ref c) = r) (hq : Q r ⟨h, g, d, t, os⟩) : wpAny M A (excMatches (.ref e) (.ref c)) Q E ⟨h, g, d, t, os⟩ := by
  have hcB : (Value.ref c :: bm').contains (.type "BaseException") = true := by rw [List.contains_cons, hbase, Bool.or_true]
  have f := tc_notTuple
  unfold excMatches
  repeat (first | (with_reducible refine wpAny_loadPart_at he ?_; rw [hcls]) | with_reducible refine wpAny_loadPart_at hc ?_ | (with_reducible refine wpAny_isSubtype_exc hc ?_; rw [hcB]) | (with_reducible refine wpAny_isSubtype_exc ha ?_; rw [hr]) | wp_step)
  cases r <;> (wp_walk; exact hq)
theorem goes_at {K : KK} {ρ : Ev} {i : Nat} {pos : Pos} {Q : Unit → (Str → Option V) → AH → Prop} (ok : KOk K) {p : Str × NameKind} (hp : K.sc[i]? = some p) (hk : p.2 = .local) (kd : ∀ y, env.kindOf y = K.sc.lookup y) (h : Q () (envOf K.sc (ρ.set i none)) H) :
    TR K.C sn A env (do bindName env (nameAt K.sc i) .none; unbindBehindTheSuite env (nameAt K.sc i) pos) Q E (envOf K.sc ρ) H := by
  have hl : env.kindOf (nameAt K.sc i) = some .local := by rw [nameAt_eq hp, kd, look_at ok.nd hp, hk]
  intro s I
  obtain ⟨m, hm, hv⟩ := I.vars
  have nd := List.nodup_cons.mp I.ok.apart
  refine wpAny_nameGoes_keeps hl hm (by rw [I.ok.kind]; rfl) fun h' v hn hs => ⟨_, H, I.own (List.mem_cons_self ..) hs.extBut ⟨_, hn, fun x w e => ?_⟩ fun q hq => ?_, h⟩
  · rcases envOf_set ok.nd hp e with ⟨_, e2⟩ | ⟨e1, e2⟩
    · cases e2
    · obtain ⟨cv, a, b⟩ := hv x w e2
      refine ⟨cv, ?_, b⟩
      rcases a with ⟨q1, q2⟩ | ⟨q1, c, hc, hcell⟩
      · exact .inl ⟨q1, by show (if x = nameAt K.sc i then v else m x) = some cv; rw [nameAt_eq hp, if_neg e1]; exact q2⟩
      · refine .inr ⟨q1, c, hc, hcell.sameBut hs ?_⟩
        rintro rfl
        exact nd.1 (List.mem_map.mpr ⟨_, mem_of_lookup hc, rfl⟩)
  · obtain ⟨v, hq'⟩ := I.cells q hq
    refine ⟨v, hq'.sameBut hs ?_⟩
    intro e
    exact nd.1 (e ▸ List.mem_map.mpr ⟨q, hq, rfl⟩)
theorem name_still {K : KK} {ρ : Str → Option V} {j : Nat} {pos : Pos} {g : G} (ok : KOk K) (hg : K.gs[j]? = some (some g)) (kd : ∀ y, env.kindOf y = K.sc.lookup y) (I : Inv K.C sn env ρ H s) :
    ∃ x, GOk K.C K.d K.free x g ∧ ∀ {cv : Value} {Q : Value → Shared → Prop} {E : Value → Shared → Prop} {A : Around}, GV K.C x = some cv → Q cv s → wpAny K.C.M A (eval (.Name (nameAt K.sc j) pos) env) Q E s := by
  obtain ⟨x, hx, hg⟩ := ok.gs j g hg
  refine ⟨x, hg, fun hv h => ?_⟩
  have hn := ok.nm _ (List.mem_of_getElem? hx)
  simp only [nameOk, Bool.and_eq_true, bne_iff_ne] at hn
  have hk : env.kindOf x = some .globalImplicit := (kd x).trans (look_at ok.nd hx)
  rw [nameAt_eq hx, eval_Name env x pos (by simpa using hn.1)]
  refine wpAny_bind (wpAny_standAt ?_)
  unfold loadName
  simp only [Env.blockKind, I.ok.kind, hk, ScopeKind.isAnnotationScope, Bool.false_and, Bool.false_eq_true, if_false]
  have hgl : s.heap.Ns env.globals K.C.mg := by rw [I.ok.globals]; exact K.C.gns.keeps I.base
  unfold GV at hv
  cases hm : K.C.mg x with
  | some v => rw [hm] at hv; simp at hv; subst hv; exact loadGlobal_global hgl hm h
  | none =>
    rw [hm] at hv
    simp at hv
    have hb : s.heap.Ns env.builtins K.C.mb := by rw [I.ok.builtins]; exact K.C.bns.keeps I.base
    exact loadGlobal_builtin hgl hm hb hv h
noncomputable def SS (c : CS) : Prop := ∀ (K : KK) (t : PT) (X : XS) (R : PS) (ρ : Ev) (H : AH), KOk K → chkB c K.sc K.gx K.free t = true → wS c K X R ρ H → ∀ sn A env E, AtS K X sn A env E → TR K.C sn A env (execs (toB c K.sc K.gx t) env) (PE K R) E (envOf K.sc ρ) H
noncomputable def SH (c : CS) : Prop := ∀ (K : KK) (t : PT) (R : PS) (i : Nat) (b : Addr) (ρ : Ev) (H : AH), KOk K → chkH c K.sc K.gx K.free t = true → K.C.ex[i]? = some b → wH c K R i ρ H → ∀ sn A env E e s, Good K.C K.fz K.d K.free sn A env → Stk K.C sn A env → (∀ y, env.kindOf y = K.sc.lookup y) →
  FlyS K.C sn env (envOf K.sc ρ) H (.ref b) e (some .none) s → wpAny K.C.M A (handleBy e env (toH c K.sc K.gx t)) (fun f s' => AftR K.C sn env (fun ρ' H' => PE K R f ρ' H') s') E s
theorem try_at {K : KK} {X : XS} {R : PS} {ρ : Ev} {b hs : CS} {t : PT} (ihb : SS b) (ihh : SH hs) (ok : KOk K) (hf : K.free = true) (cb : chkB b K.sc K.gx K.free t.a = true) (ch : chkH hs K.sc K.gx K.free t.b = true) (hne : ∃ h0 hr, toH hs K.sc K.gx t.b = h0 :: hr) (a : AtS K X sn A env E)
    (h : wS b K (fun i ρ' H' => wH hs K R i ρ' H') R ρ H) : TR K.C sn A env (exec (.Try (toB b K.sc K.gx t.a) (toH hs K.sc K.gx t.b) [] [] t.p) env) (PE K R) E (envOf K.sc ρ) H := by
  intro s I
  obtain ⟨h0, hr, hh⟩ := hne
  rw [hh]
  refine wpAny_Try_except (wpAny_mono (ihb K t.a _ R ρ H ok cb h sn A env _ ⟨a.good, a.stk, a.kd, ?_⟩ s I) (fun f s₁ h₁ => ?_) fun _ _ e => e)
  · rintro cls ρf H' e s' ⟨ρl, rfl, i, b', hb', rfl, hw⟩ F
    refine F.noted a.stk fun s₂ F₂ => F₂.setFlight fun s₃ F₃ => ?_
    have := ihh K t.b R i b' ρl H' ok ch hb' hw sn A env E e s₃ a.good a.stk a.kd F₃
    rw [hh] at this
    exact this
  · cases f with
    | next => exact wpAny_execs_nil h₁
    | _ => exact h₁
theorem hnd_at {K : KK} {R : PS} {i : Nat} {bb : Addr} {ρ : Ev} {j : Nat} {nm : Option Nat} {b r : CS} {t : PT} {e : Value} (ihb : SS b) (ihr : SH r) (ok : KOk K) (hc : chkH (.hnd j nm b r) K.sc K.gx K.free t = true) (hi : K.C.ex[i]? = some bb) (h : wH (.hnd j nm b r) K R i ρ H)
    (G : Good K.C K.fz K.d K.free sn A env) (S : Stk K.C sn A env) (kd : ∀ y, env.kindOf y = K.sc.lookup y) (F : FlyS K.C sn env (envOf K.sc ρ) H (.ref bb) e (some .none) s) :
    wpAny K.C.M A (handleBy e env (toH (.hnd j nm b r) K.sc K.gx t)) (fun f s' => AftR K.C sn env (fun ρ' H' => PE K R f ρ' H') s') E s := by
  obtain ⟨c1, c3⟩ := and2 hc
  obtain ⟨c1, c2⟩ := and2 c1
  obtain ⟨cl, cs⟩ := and2 c1
  obtain ⟨g, hg, h⟩ := gAt_out h
  have hx : ∃ i', g = .exc i' ∧ br (catches K i i') (∀ a, H.get a = none → a ∉ K.fz → wS b K.hnd (fun _ _ _ => False) (fun f ρ' H' => R f (setN ρ' nm none) H') (setN ρ nm (some (.ref a))) (H.set a (.exc i))) (wH r K R i ρ H) := by cases g <;> first | exact h.elim | exact ⟨_, rfl, h⟩
  obtain ⟨i', rfl, hbr⟩ := hx
  clear h
  have F0 := F
  obtain ⟨I, a, oe, vs, rfl, he, hcls, hd, hsz, hja, T, oT, ts, h1, hTa, hjT, hTo, hTd, h3⟩ := F
  obtain ⟨x, ⟨cc, hcc, hv⟩, load⟩ := name_still (pos := t.q) ok hg kd I
  obtain ⟨xc, hC, hN, hini, hT, hsup⟩ := (ok.exs i bb hi).obj
  obtain ⟨xc', hC'', _, _, hT'', _⟩ := (ok.exs i' cc hcc).obj
  have hb : ∃ b0 br, toB b K.sc K.gx t.a = b0 :: br := by cases b <;> first | exact ⟨_, _, rfl⟩ | cases cs
  obtain ⟨b0, brest, hbb⟩ := hb
  refine wpAny_handleBy_cons (codeAny_handlers_test (load hv ?_)) (by intro q; cases q)
  have hm : (Value.ref bb :: xc.bm).contains (.ref cc) = catches K i i' := hsup i' cc hcc
  have He : s.heap.get? bb = _ := I.base _ _ hC
  have Hc : s.heap.get? cc = _ := I.base _ _ hC''
  cases hcat : catches K i i' with
  | false =>
    rw [hcat] at hbr hm
    obtain ⟨hp, gg, d, tk, os⟩ := s
    refine matches_own He Hc he hcls (hT''.hasType (by decide)) hm ?_
    exact ihr K t.c R i bb ρ H ok c3 hi hbr sn A env E _ _ G S kd F0
  | true =>
    rw [hcat] at hbr hm
    have hq : ∀ Q : Bool → Shared → Prop, ∀ E : Value → Shared → Prop, Q true s → wpAny K.C.M (A.mark (some (.ref a))) (excMatches (.ref a) (.ref cc)) Q E s := by
      obtain ⟨hp, gg, d, tk, os⟩ := s
      exact fun Q E hq => matches_own He Hc he hcls (hT''.hasType (by decide)) hm hq
    refine hq _ _ ?_
    show codeAny _ _ _ _ _
    have h : wS b K.hnd (fun _ _ _ => False) (fun f ρ' H' => R f (setN ρ' nm none) H') (setN ρ nm (some (.ref a))) (H.set a (.exc i)) := hbr a hja.1 (by rw [← G.fz]; exact I.notFz hja.1)
    have ats : ∀ E', AtS K.hnd (fun _ _ _ => False) sn (A.mark (some (.ref a))) env E' := fun E' =>
      ⟨⟨G.fz, fun e => (by cases e), G.depth, G.units, G.frs⟩, ⟨S.frame, S.stack⟩, kd, fun _ _ _ _ _ h => by obtain ⟨_, _, _, _, _, _, h⟩ := h; exact h.elim⟩
    have rev : ∀ s', FlyS K.C sn env (envOf K.sc ρ) H (.ref bb) (.ref a) (some .none) s' → Inv K.C sn env (envOf K.sc ρ) (H.set a (.exc i)) s' := by
      rintro s' ⟨I', a', oe', vs', e', he', hc', _, _, hj', _⟩
      cases e'
      exact I'.reveal (n := .exc i) hj' ⟨oe', he', bb, hi, hc'⟩
    cases nm with
    | none =>
      show codeAny _ _ (.handlers (.ref a) [.ExceptHandler none none (toB b K.sc K.gx t.a) t.p] env) _ _
      have body := ihb K.hnd t.a (fun _ _ _ => False) _ ρ _ ok.hnd c2 h sn (A.mark (some (.ref a))) env (notedBy K.C.M (A.mark (some (.ref a))) env (cameBackBy K.C.M A env E)) (ats _)
      rw [show toB b K.hnd.sc K.hnd.gx t.a = b0 :: brest from hbb] at body
      rw [hbb]
      refine codeAny_handlers_suite (F0.setFlight (f := none) fun s₁ F₁ => ?_)
      refine wpAny_mono (body s₁ (rev s₁ F₁)) (fun f s₂ h₂ => ?_) fun _ _ e => e
      obtain ⟨ρ', H', I', ρl, e1, e2⟩ := h₂
      exact ⟨ρ', H', I', ρl, e1, e2⟩
    | some n =>
      have hloc : ∃ p, K.sc[n]? = some p ∧ p.2 = .local := by
        replace cl : (match K.sc[n]? with | some p => p.2 == .local | none => false) = true := cl
        cases q : K.sc[n]? with
        | none => rw [q] at cl; cases cl
        | some p => rw [q] at cl; exact ⟨p, rfl, by simpa using cl⟩
      obtain ⟨p, hp, hk⟩ := hloc
      have hst : storeB K.sc n = true := by unfold storeB; rw [hp]; simp [hk]
      show codeAny _ _ (.handlers (.ref a) [.ExceptHandler none (some (nameAt K.sc n)) (toB b K.sc K.gx t.a) t.p] env) _ _
      have body := fun E' => ihb K.hnd t.a (fun _ _ _ => False) _ _ _ ok.hnd c2 h sn (A.mark (some (.ref a))) env E' (ats _)
      rw [show toB b K.hnd.sc K.hnd.gx t.a = b0 :: brest from hbb] at body
      rw [hbb]
      refine codeAny_handlers_suite_as (F0.setFlight (f := none) fun s₁ F₁ => ?_)
      refine wpAny_mono (store_at (cv := .ref a) (Q := fun _ ρf H' => ρf = envOf K.sc (ρ.set n (some (.ref a))) ∧ H' = H.set a (.exc i)) ok hst kd ⟨rfl, rfl⟩ s₁ (rev s₁ F₁)) (fun _ s₂ h₂ => ?_) fun _ _ e => e
      obtain ⟨_, _, I₂, rfl, rfl⟩ := h₂
      refine wpAny_mono (body _ s₂ I₂) (fun f s₃ h₃ => ?_) fun _ _ e => e
      obtain ⟨ρ', H', I', ρl, rfl, e2⟩ := h₃
      refine wpAny_mono (goes_at (pos := t.p) (Q := fun _ ρf H'' => PE K R f ρf H'') ok hp hk kd ⟨_, rfl, e2⟩ s₃ I') (fun _ s₄ h₄ => ?_) fun _ _ e => e
      exact h₄
end
end Mine
set_option maxRecDepth 100000
namespace Mine
open PySem PySem.Calls PySem.SeqAt PySem.W PyProof.Rows
noncomputable def isListE : Expr → Bool | .List _ _ => true | _ => false
theorem swapped3 {env : Env} {x y z : Str} {p q r : Pos} {a b c : Expr} {k1 k2} {tp vp : Pos} (ha : isListE a = true) (nb : isStar b = false) (nc : isStar c = false)
    (hk : env.blockKind = .function) (hx : env.kindOf x = some .local) (hy : env.kindOf y = some .local) (hz : env.kindOf z = some .local) (l1 : q.line = p.line) (l2 : r.line = p.line) (xy : x ≠ y) (xz : x ≠ z) (yz : y ≠ z) :
    swappedStores [.Tuple [.Name x p, .Name y q, .Name z r] k1 tp] (.Tuple [a, b, c] k2 vp) env = pure (some [x, y, z]) := by
  have e : ([x, y, z] : List Str).eraseDups = [x, y, z] := by
    have h1 : (y == x) = false := beq_eq_false_iff_ne.mpr (Ne.symm xy)
    have h2 : (z == x) = false := beq_eq_false_iff_ne.mpr (Ne.symm xz)
    have h3 : (z == y) = false := beq_eq_false_iff_ne.mpr (Ne.symm yz)
    simp [List.eraseDups_cons, List.filter, h1, h2, h3]
  have f1 : foldedForSure 8 a = false := by cases a <;> first | rfl | cases ha
  have f2 : constantsAlone 8 a = false := by cases a <;> first | rfl | cases ha
  unfold swappedStores
  simp only [List.length_cons, List.length_nil, hk]
  rw [if_neg (by decide)]
  rw [if_neg (by
    intro h
    simp only [List.any_cons, List.any_nil, Bool.or_false, Bool.or_eq_true] at h
    rcases h with h | h | h
    · cases a <;> first | exact Bool.noConfusion h | exact Bool.noConfusion ha
    · cases b <;> first | exact Bool.noConfusion h | exact Bool.noConfusion nb
    · cases c <;> first | exact Bool.noConfusion h | exact Bool.noConfusion nc)]
  simp only [List.head?_cons, Option.map_some, Option.getD_some, Expr.pos, l1, l2, List.filterMap_cons, List.filterMap_nil, hx, hy, hz, beq_self_eq_true, Bool.and_self, if_true, e, List.length_cons, List.length_nil, bne_self_eq_false, Bool.or_self, Bool.false_eq_true, if_false, List.all_cons, f1, f2, Bool.false_and]
section
variable {K : KK} {X : XS} {R : PS} {ρ : Ev} {sn : Snap} {A : Around} {env : Env} {H : AH} {s : Shared} {E : Value → Shared → Prop}
theorem each_N (sc : Sc) : ∀ (is : List Nat) (t : PT), assignEach (toN is sc t) env = (toN is sc t).map fun e => (false, assign e env)
  | [], _ => rfl
  | i :: is, t => by
    show assignEach (.Name (nameAt sc i) t.p :: toN is sc t.a) env = _
    rw [show toN (i :: is) sc t = .Name (nameAt sc i) t.p :: toN is sc t.a from rfl, List.map_cons, ← each_N sc is t.a]
    rfl
theorem toN_len (sc : Sc) : ∀ (is : List Nat) (t : PT), (toN is sc t).length = is.length
  | [], _ => rfl
  | i :: is, t => by show (toN is sc t.a).length + 1 = _; rw [toN_len sc is t.a]; rfl
theorem inOrder_at (ok : KOk K) (kd : ∀ y, env.kindOf y = K.sc.lookup y) (is : List Nat) : ∀ (t : PT) (vs : List Value) (ρ : Ev), is.all (storeB K.sc) = true → ∀ s, Inv K.C sn env (envOf K.sc ρ) H s →
    wpAny K.C.M A (assignInOrder ((toN is K.sc t).map fun e => assign e env) vs) (fun _ s' => Inv K.C sn env (envOf K.sc (setAll ρ is (vs.map toV))) H s') E s := by
  induction is with
  | nil => intro t vs ρ _ s I; exact wpAny_pure (by cases vs <;> exact I)
  | cons i is ih =>
    intro t vs ρ h s I
    cases vs with
    | nil => exact wpAny_pure I
    | cons v vs =>
      obtain ⟨h1, h2⟩ := and2 (show (storeB K.sc i && is.all (storeB K.sc)) = true from h)
      show wpAny _ _ (holding vs (assign (.Name (nameAt K.sc i) t.p) env v) >>= fun _ => assignInOrder ((toN is K.sc t.a).map fun e => assign e env) vs) _ _ _
      refine wpAny_bind (wpAny_holding (wpAny_assign_Name (wpAny_mono (store_at (cv := v) (Q := fun _ ρf H' => ρf = envOf K.sc (ρ.set i (some (toV v))) ∧ H' = H) ok h1 kd ⟨rfl, rfl⟩ s I) (fun _ s' h' => ?_) fun _ _ e => e)))
      obtain ⟨_, _, I', rfl, rfl⟩ := h'
      exact ih t.a vs _ h2 s' I'
theorem inOrderB (ok : KOk K) (kd : ∀ y, env.kindOf y = K.sc.lookup y) (is : List Nat) : ∀ (vs : List Value) (ρ : Ev), is.all (storeB K.sc) = true → ∀ s, Inv K.C sn env (envOf K.sc ρ) H s →
    wpAny K.C.M A (assignInOrder ((is.map (nameAt K.sc)).map fun n => bindName env n) vs) (fun _ s' => Inv K.C sn env (envOf K.sc (setAll ρ is (vs.map toV))) H s') E s := by
  induction is with
  | nil => intro vs ρ _ s I; exact wpAny_pure (by cases vs <;> exact I)
  | cons i is ih =>
    intro vs ρ h s I
    cases vs with
    | nil => exact wpAny_pure I
    | cons v vs =>
      obtain ⟨h1, h2⟩ := and2 (show (storeB K.sc i && is.all (storeB K.sc)) = true from h)
      show wpAny _ _ (holding vs (bindName env (nameAt K.sc i) v) >>= fun _ => assignInOrder ((is.map (nameAt K.sc)).map fun n => bindName env n) vs) _ _ _
      refine wpAny_bind (wpAny_holding (bindName_ (wpAny_mono (store_at (cv := v) (Q := fun _ ρf H' => ρf = envOf K.sc (ρ.set i (some (toV v))) ∧ H' = H) ok h1 kd ⟨rfl, rfl⟩ s I) (fun _ s' h' => ?_) fun _ _ e => e)))
      obtain ⟨_, _, I', rfl, rfl⟩ := h'
      exact ih vs _ h2 s' I'
theorem local_name (ok : KOk K) {i : Nat} (h : localB K.sc (some i) = true) : ∃ p, K.sc[i]? = some p ∧ p.2 = .local ∧ nameAt K.sc i = p.1 ∧ K.sc.lookup (nameAt K.sc i) = some .local := by
  replace h : (match K.sc[i]? with | some p => p.2 == .local | none => false) = true := h
  cases q : K.sc[i]? with
  | none => rw [q] at h; cases h
  | some p =>
    rw [q] at h
    have hp : p.2 = .local := eq_of_beq h
    have hn : nameAt K.sc i = p.1 := by unfold nameAt; rw [q]
    refine ⟨p, rfl, hp, hn, ?_⟩
    rw [hn, ← hp]
    exact look_at ok.nd q
theorem swapOk_out {is : List Nat} {e : CE} {sc : Sc} {t : PT} (h : swapOk is e sc t = true) : ∃ i j k es b c, is = [i, j, k] ∧ e = .tup (.cons (.list es) (.cons b (.cons c .nil))) := by
  have no : ∀ {P : Prop}, false = true → P := fun h => absurd h Bool.false_ne_true
  rcases is with _ | ⟨i, _ | ⟨j, _ | ⟨k, _ | ⟨_, _⟩⟩⟩⟩ <;> try exact no h
  cases e with
  | tup es => cases es with
    | cons a r => cases a with
      | list es => cases r with
        | cons b r => cases r with
          | cons c r => cases r with
            | nil => exact ⟨i, j, k, es, b, c, rfl, rfl⟩
            | _ => exact no h
          | _ => exact no h
        | _ => exact no h
      | _ => exact no h
    | _ => exact no h
  | _ => exact no h
theorem unpack3_at {i j k : Nat} {es b c : CE} {t : PT} (ok : KOk K) (hf : K.free = true) (hsw : swapOk [i, j, k] (.tup (.cons (.list es) (.cons b (.cons c .nil)))) K.sc t.b = true) (hc : chkE (.tup (.cons (.list es) (.cons b (.cons c .nil)))) K.sc K.gx K.free t.a = true) (a : AtS K X sn A env E) {Q : Ev → AH → Prop}
    (h : wE (.tup (.cons (.list es) (.cons b (.cons c .nil)))) K ρ (atX X ρ) (fun v H₁ => oUnp v 3 (fun xs => Q (setAll ρ [i, j, k] xs) H₁) H₁) H) :
    TR K.C sn A env (exec (.Assign [.Tuple (toN [i, j, k] K.sc t.b) t.i t.q] (toE (.tup (.cons (.list es) (.cons b (.cons c .nil)))) K.sc K.gx t.a) t.p) env) (fun f ρf H' => toF f = .next ∧ ∃ ρl, ρf = envOf K.sc ρl ∧ Q ρl H') E (envOf K.sc ρ) H := by
  intro s I
  simp only [swapOk, Bool.and_eq_true, Bool.not_eq_true'] at hsw
  obtain ⟨⟨⟨li, lj⟩, lk⟩, ⟨⟨nij, nik⟩, njk⟩, e1, e2⟩ := hsw
  obtain ⟨pi, qi, ki, hi, ui⟩ := local_name ok li
  obtain ⟨pj, qj, kj, hj, uj⟩ := local_name ok lj
  obtain ⟨pk, qk, kk, hk, uk⟩ := local_name ok lk
  have ne : ∀ {i j : Nat} {p q : Str × NameKind}, Nat.beq i j = false → K.sc[i]? = some p → K.sc[j]? = some q → p.1 ≠ q.1 := fun {i j p q} hb h1 h2 e => by
    have hl := (List.getElem?_eq_some_iff.mp h1).1
    have : (K.sc.map (·.1))[i]? = (K.sc.map (·.1))[j]? := by rw [List.getElem?_map, List.getElem?_map, h1, h2]; exact congrArg some e
    exact Nat.ne_of_beq_eq_false hb ((List.getElem?_inj (by rw [List.length_map]; exact hl) ok.nd).mp this)
  have st : [k, j, i].all (storeB K.sc) = true := by
    have : ∀ {i : Nat} {p : Str × NameKind}, K.sc[i]? = some p → p.2 = .local → storeB K.sc i = true := fun {i p} h1 h2 => by unfold storeB; rw [h1]; show (p.2 == .local || p.2 == .cell) = true; rw [h2]; rfl
    simp [this qi ki, this qj kj, this qk kk]
  refine Assign_Tuple_swapped (names := [nameAt K.sc i, nameAt K.sc j, nameAt K.sc k]) (wpAny_mono ((sound (.tup (.cons (.list es) (.cons b (.cons c .nil))))).1 K t.a ρ _ ok hc _ H h sn A env E (a.at ρ) s I) (fun v s₁ h₁ => ?_) fun _ _ e => e) rfl ?_
  · obtain ⟨H₁, I₁, h₁⟩ := h₁
    obtain ⟨p, rfl, h₁⟩ := refV h₁
    obtain ⟨n, hp, h₁⟩ := look_out h₁
    cases n <;> try exact h₁.elim
    rename_i xs
    obtain ⟨hl, h₁⟩ := req_out h₁
    have hl : xs.length = 3 := Nat.eq_of_beq_eq_true hl
    obtain ⟨vs, hvs, e1, z1⟩ := (I₁.nodes p _ hp).isTuple
    have hm := map_size e1
    have h3 : ([nameAt K.sc i, nameAt K.sc j, nameAt K.sc k] : List Str).length = vs.size := by rw [hm, hl]; rfl
    rw [h3]
    refine unpackItems_tuple (a.good.hd hf) (show IsTup s₁.heap p vs from hvs) fun h' he => ?_
    have I₂ : Inv K.C sn env (envOf K.sc ρ) H₁ { s₁ with heap := h' } := I₁.keeps (tk := s₁.toks) fun b o eb => he b o (Nat.ne_of_lt (Heap.lt_size eb)) eb
    refine wpAny_mono (inOrderB ok a.kd [k, j, i] vs.toList.reverse ρ st _ I₂) (fun _ s₃ I₃ => ?_) fun _ _ e => e
    rw [List.map_reverse, e1] at I₃
    refine ⟨_, H₁, I₃, rfl, _, rfl, ?_⟩
    obtain ⟨x, y, z, rfl⟩ : ∃ x y z, xs = [x, y, z] := by
      match xs, hl with
      | [x, y, z], _ => exact ⟨x, y, z, rfl⟩
    have e3 : setAll ρ [k, j, i] [x, y, z].reverse = setAll ρ [i, j, k] [x, y, z] := by
      have n1 := Nat.ne_of_beq_eq_false nij
      have n2 := Nat.ne_of_beq_eq_false nik
      have n3 := Nat.ne_of_beq_eq_false njk
      show ((ρ.set k (some z)).set j (some y)).set i (some x) = ((ρ.set i (some x)).set j (some y)).set k (some z)
      rw [List.set_comm _ _ (Ne.symm n1), List.set_comm (some z) (some x) (Ne.symm n2), List.set_comm _ _ (Ne.symm n3)]
    rw [e3]; exact h₁
  · exact swapped3 (x := nameAt K.sc i) (y := nameAt K.sc j) (z := nameAt K.sc k) rfl (noStar b _ _ _).1 (noStar c _ _ _).1 (by unfold Env.blockKind; rw [I.ok.kind]; rfl) ((a.kd _).trans ui) ((a.kd _).trans uj) ((a.kd _).trans uk) (Nat.eq_of_beq_eq_true e1) (Nat.eq_of_beq_eq_true e2) (by rw [hi, hj]; exact ne nij qi qj) (by rw [hi, hk]; exact ne nik qi qk) (by rw [hj, hk]; exact ne njk qj qk)
theorem unpack_at {is : List Nat} {e : CE} {t : PT} {r : CS} (ok : KOk K) (hf : K.free = true) (hst : is.all (storeB K.sc) = true) (hn : (notTC e || swapOk is e K.sc t.b) = true) (hc : chkE e K.sc K.gx K.free t.a = true) (a : AtS K X sn A env E) {Q : Ev → AH → Prop}
    (h : wE e K ρ (atX X ρ) (fun v H₁ => oUnp v is.length (fun xs => Q (setAll ρ is xs) H₁) H₁) H) :
    TR K.C sn A env (exec (.Assign [.Tuple (toN is K.sc t.b) t.i t.q] (toE e K.sc K.gx t.a) t.p) env) (fun f ρf H' => toF f = .next ∧ ∃ ρl, ρf = envOf K.sc ρl ∧ Q ρl H') E (envOf K.sc ρ) H := by
  by_cases hsw : swapOk is e K.sc t.b = true
  · obtain ⟨i, j, k, es, b, c, rfl, rfl⟩ := swapOk_out hsw
    exact unpack3_at ok hf hsw hc a h
  have hn : notTC e = true := by rcases Bool.or_eq_true_iff.mp hn with h | h; exact h; exact absurd h hsw
  intro s I
  refine Assign_Tuple (wpAny_mono ((sound e).1 K t.a ρ _ ok hc _ H h sn A env E (a.at ρ) s I) (fun v s₁ h₁ => ?_) fun _ _ e => e) (by unfold swapsWithSole swapsWith; cases e <;> first | rfl | cases hn) (by cases e <;> first | rfl | cases hn)
  obtain ⟨H₁, I₁, h₁⟩ := h₁
  obtain ⟨p, rfl, h₁⟩ := refV h₁
  obtain ⟨n, hp, h₁⟩ := look_out h₁
  cases n <;> try exact h₁.elim
  rename_i xs
  obtain ⟨hl, h₁⟩ := req_out h₁
  have hl : xs.length = is.length := Nat.eq_of_beq_eq_true hl
  obtain ⟨vs, hvs, e1, z1⟩ := (I₁.nodes p _ hp).isTuple
  have hm := map_size e1
  refine assign_Tuple_tuple (a.good.hd hf) (show IsTup s₁.heap p vs from hvs) (by rw [each_N, List.length_map, toN_len, hm, hl]) ?_ fun h' he => ?_
  · rw [each_N, List.findIdx?_eq_none_iff]
    intro x hx
    obtain ⟨e, _, rfl⟩ := List.mem_map.mp hx
    rfl
  · have I₂ : Inv K.C sn env (envOf K.sc ρ) H₁ { s₁ with heap := h' } := I₁.keeps (tk := s₁.toks) fun b o eb => he b o (Nat.ne_of_lt (Heap.lt_size eb)) eb
    rw [each_N, List.map_map]
    refine wpAny_mono (inOrder_at ok a.kd is t.b vs.toList ρ hst _ I₂) (fun _ s₃ I₃ => ?_) fun _ _ e => e
    rw [e1] at I₃
    exact ⟨_, H₁, I₃, rfl, _, rfl, h₁⟩
set_option tactic.hygienic true in
theorem set_at {i : Nat} {e : CE} {t : PT} (ok : KOk K) (hst : storeB K.sc i = true) (hc : chkE e K.sc K.gx K.free t.a = true) (a : AtS K X sn A env E) {Q : Ev → AH → Prop}
    (h : wE e K ρ (atX X ρ) (fun v H₁ => Q (ρ.set i (some v)) H₁) H) :
    TR K.C sn A env (exec (.Assign [.Name (nameAt K.sc i) t.q] (toE e K.sc K.gx t.a) t.p) env) (fun f ρf H' => toF f = .next ∧ ∃ ρl, ρf = envOf K.sc ρl ∧ Q ρl H') E (envOf K.sc ρ) H := by
  have plain : swapsWith (toE e K.sc K.gx t.a) (some (.Name (nameAt K.sc i) t.q)) t.p.line env = pure false → TR K.C sn A env (exec (.Assign [.Name (nameAt K.sc i) t.q] (toE e K.sc K.gx t.a) t.p) env) (fun f ρf H' => toF f = .next ∧ ∃ ρl, ρf = envOf K.sc ρl ∧ Q ρl H') E (envOf K.sc ρ) H := by
    intro hsw
    rw [exec_Assign_Name (hs := hsw)]
    refine .bind (.of (.standAt (.bind (.of (((sound e).1 K t.a ρ _ ok hc _ H h sn A env E (a.at ρ)).mono fun u H₁ h₁ => .bind (.of (.standAt (.bind ?_))))))))
    exact fun s I => wpAny_bindName (store_at (cv := u) (Q := fun _ ρf H' => TR K.C sn A env (pure Flow.next) (fun f ρf H' => toF f = .next ∧ ∃ ρl, ρf = envOf K.sc ρl ∧ Q ρl H') E ρf H') ok hst a.kd (.pure ⟨rfl, _, rfl, h₁⟩) s I)
  obtain ⟨p, hp, _⟩ := storeB_out hst
  intro s I
  have hswB := swapsWith_eq (env := env) (kd := fun y => K.sc.lookup y) I.ok.kind a.kd (toE e K.sc K.gx t.a) (nameAt K.sc i) t.q t.p.line
  cases hsw : swB (fun y => K.sc.lookup y) (toE e K.sc K.gx t.a) (nameAt K.sc i) t.q with
  | false => rw [hsw] at hswB; exact plain hswB s I
  | true =>
    have fin : ∀ {m : Sem Flow}, TR K.C sn A env m (fun f ρ' H' => toF f = .next ∧ ∃ v, ρ' = upd (envOf K.sc ρ) (nameAt K.sc i) v ∧ Q (ρ.set i (some v)) H') E (envOf K.sc ρ) H → wpAny K.C.M A m (fun f s' => AftR K.C sn env (fun ρ' H' => (toF f = .next ∧ ∃ ρl, ρ' = envOf K.sc ρl ∧ Q ρl H')) s') E s := fun t =>
      wpAny_mono (t s I) (fun f s' ⟨ρ', H', I', e1, v, e2, q⟩ => ⟨_, H', (e2 ▸ I').less (set_less ok.nd hp), e1, _, rfl, q⟩) fun _ _ e => e
    cases e <;> try exact (Bool.false_ne_true hsw).elim
    case comp elt it caps x =>
      obtain ⟨c1, c2⟩ := and2 hc
      obtain ⟨hf, c1⟩ := and2 c1
      obtain ⟨c2, c3⟩ := and2 c2
      have Ic := compIs_of c1
      have G' : Good K.C K.fz K.d true sn A env := ⟨a.good.fz, fun _ => a.good.hd hf, a.good.depth, a.good.units, a.good.frs⟩
      refine fin ((tr_comp_assign (Q := fun ρ' H' => ∃ v, ρ' = upd (envOf K.sc ρ) (nameAt K.sc i) v ∧ Q (ρ.set i (some v)) H') G' a.kd (Ic.compOk ok.nd) (Nat.zero_le _) (notSet _ _ _ _) I.ok.kind hsw (((sound it).1 K t.a.b ρ _ ok c2 _ H h sn A env E (a.at ρ)).mono fun v H₁ h₁ => ?_)))
      obtain ⟨xs, hx, hz, J, j0, tn, fi⟩ := comp_at (ifs := []) (elt := toE elt (caps.map (capR K.sc K.gx)) K.gx t.a.a) (Q := fun v H' => Q (ρ.set i (some v)) H') (turn := fun v y J ys H' => wE elt (K.comp caps v) (capE ρ caps x y) nX (fun u H₂ => J (ys ++ [u]) H₂) H') ok (a.at ρ) Ic hf (fun y J ys H' hw sn' cenv E' a' => (sound elt).1 (K.comp caps (toV v)) t.a.a _ nX (ok.comp Ic hf _) c3 _ H' hw sn' A cenv E' a') h₁
      exact ⟨xs, hx, hz, J, j0, tn, fun ys H' h1 h2 b hb hb' => ⟨_, rfl, fi ys H' h1 h2 b hb hb'⟩⟩
    case compIf elt it c caps x =>
      obtain ⟨c1, c2⟩ := and2 hc
      obtain ⟨hf, c1⟩ := and2 c1
      obtain ⟨c2, c3⟩ := and2 c2
      obtain ⟨c3, c4⟩ := and2 c3
      have Ic := compIs_of c1
      have G' : Good K.C K.fz K.d true sn A env := ⟨a.good.fz, fun _ => a.good.hd hf, a.good.depth, a.good.units, a.good.frs⟩
      refine fin ((tr_comp_assign (Q := fun ρ' H' => ∃ v, ρ' = upd (envOf K.sc ρ) (nameAt K.sc i) v ∧ Q (ρ.set i (some v)) H') G' a.kd (Ic.compOk ok.nd) (Nat.le_refl _) (notSet _ _ _ _) I.ok.kind hsw (((sound it).1 K t.a.b ρ _ ok c2 _ H h sn A env E (a.at ρ)).mono fun v H₁ h₁ => ?_)))
      obtain ⟨xs, hx, hz, J, j0, tn, fi⟩ := comp_at (ifs := [toE c (caps.map (capR K.sc K.gx)) K.gx t.a.c]) (elt := toE elt (caps.map (capR K.sc K.gx)) K.gx t.a.a) (Q := fun v H' => Q (ρ.set i (some v)) H') (turn := fun v y J ys H' => wT c (K.comp caps v) (capE ρ caps x y) nX (fun b H₂ => br b (wE elt (K.comp caps v) (capE ρ caps x y) nX (fun u H₃ => J (ys ++ [u]) H₃) H₂) (J ys H₂)) H') ok (a.at ρ) Ic hf (fun y J ys H' hw sn' cenv E' a' => by
        refine ((sound c).2.1 (K.comp caps (toV v)) t.a.c _ nX (ok.comp Ic hf _) c4 _ H' hw sn' A cenv E' a').mono fun b H₂ h₂ => ?_
        cases b
        · exact h₂
        · exact (sound elt).1 (K.comp caps (toV v)) t.a.a _ nX (ok.comp Ic hf _) c3 _ H₂ h₂ sn' A cenv E' a') h₁
      exact ⟨xs, hx, hz, J, j0, tn, fun ys H' h1 h2 b hb hb' => ⟨_, rfl, fi ys H' h1 h2 b hb hb'⟩⟩
end
end Mine
set_option maxRecDepth 100000
namespace Mine
open PySem PySem.Calls PySem.SeqAt PySem.W PyProof.Rows
section
variable {K : KK} {X : XS} {R : PS} {ρ : Ev} {sn : Snap} {A : Around} {env : Env} {H : AH} {s : Shared} {E : Value → Shared → Prop}
theorem then_at {st : Stmt} {r : CS} {t : PT} {P : Flow → (Str → Option V) → AH → Prop} (ih : SS r) (ok : KOk K) (hc : chkB r K.sc K.gx K.free t = true) (a : AtS K X sn A env E)
    (h : TR K.C sn A env (exec st env) P E (envOf K.sc ρ) H) (hp : ∀ f ρf H', P f ρf H' → PE K (thenR (fun ρ H => Nx (wS r K X R ρ H)) R) f ρf H') :
    TR K.C sn A env (execs (st :: toB r K.sc K.gx t) env) (PE K R) E (envOf K.sc ρ) H := by
  rw [execs_cons]
  refine .bind (h.mono fun f ρf H' h' => ?_)
  have hq := hp f ρf H' h'
  clear h'
  obtain ⟨ρl, rfl, h'⟩ := hq
  cases f with
  | next => exact ih K t X R ρl H' ok hc h'.out sn A env E a
  | brk => exact .pure ⟨ρl, rfl, h'⟩
  | cont => exact .pure ⟨ρl, rfl, h'⟩
  | ret v => exact .pure ⟨ρl, rfl, h'⟩
end
theorem soundB : ∀ c : CS, SS c ∧ SH c := by
  intro c
  have noH : ∀ c : CS, (∀ K R i ρ H, wH c K R i ρ H → False) → SH c := fun c h K t R i b ρ H ok hc hi hw => (h K R i ρ H hw).elim
  have ev : ∀ (e : CE) (K : KK) (t : PT) (X : XS) (ρ : Ev), KOk K → chkE e K.sc K.gx K.free t = true → ∀ (Q : QV) (H : AH), wE e K ρ (atX X ρ) Q H → ∀ sn A env E, AtS K X sn A env E → TM K.C sn A env (envOf K.sc ρ) (eval (toE e K.sc K.gx t) env) (fun v H' => Q (toV v) H') E H := fun e K t X ρ ok hc Q H h sn A env E a => (sound e).1 K t ρ _ ok hc Q H h sn A env E (a.at ρ)
  induction c with
  | skip => exact ⟨fun K t X R ρ H ok hc h sn A env E a => by show TR _ _ _ _ (execs [] env) _ _ _ _; rw [execs_nil]; exact .pure ⟨ρ, rfl, h⟩, noH _ fun _ _ _ _ _ h => h⟩
  | ret e r ih =>
    refine ⟨fun K t X R ρ H ok hc h sn A env E a => ?_, noH _ fun _ _ _ _ _ h => h⟩
    obtain ⟨c1, c2⟩ := and2 hc
    refine then_at (P := fun f ρf H' => ∃ v, f = .ret v ∧ ρf = envOf K.sc ρ ∧ R (.ret (toV v)) ρ H') ih.1 ok c2 a ?_ fun f ρf H' ⟨v, e1, e2, h'⟩ => by subst e1; exact ⟨ρ, e2, h'⟩
    rw [exec_Return_some]
    exact .bind (.of (.standAt (.bind (.of ((ev e K t.a X ρ ok c1 _ H h sn A env E a).mono fun v H₁ h₁ => .pure ⟨v, rfl, rfl, h₁⟩)))))
  | set i e r ih =>
    refine ⟨fun K t X R ρ H ok hc h sn A env E a => ?_, noH _ fun _ _ _ _ _ h => h⟩
    obtain ⟨c1, c2⟩ := and2 hc
    obtain ⟨c2, c3⟩ := and2 c2
    exact then_at ih.1 ok c3 a (set_at (Q := fun ρ' H' => Nx (wS r K X R ρ' H')) ok c1 c2 a h) fun f ρf H' ⟨e1, ρl, e2, h'⟩ => ⟨ρl, e2, by rw [e1]; exact h'⟩
  | setSub o i v r ih =>
    refine ⟨fun K t X R ρ H ok hc h sn A env E a => ?_, noH _ fun _ _ _ _ _ h => h⟩
    obtain ⟨c1, c2⟩ := and2 hc
    obtain ⟨c2, c3⟩ := and2 c2
    obtain ⟨co, ci⟩ := and2 c2
    obtain ⟨cv, cr⟩ := and2 c3
    refine then_at (P := fun f ρf H' => f = .next ∧ ρf = envOf K.sc ρ ∧ Nx (wS r K X R ρ H')) ih.1 ok cr a ?_ fun f ρf H' ⟨e1, e2, h'⟩ => by subst e1; exact ⟨ρ, e2, h'⟩
    intro s I
    refine wpAny_Assign_Subscript (wpAny_mono (ev v K t.a X ρ ok cv _ H h sn A env E a s I) (fun u s₁ h₁ => ?_) fun _ _ e => e) (noComp_swap c1)
    obtain ⟨H₁, I₁, h₁⟩ := h₁
    refine wpAny_mono (ev o K t.b.a X ρ ok co _ H₁ h₁ sn A env E a s₁ I₁) (fun ov s₂ h₂ => ?_) fun _ _ e => e
    obtain ⟨H₂, I₂, h₂⟩ := h₂
    refine wpAny_mono (ev i K t.b.b X ρ ok ci _ H₂ h₂ sn A env E a s₂ I₂) (fun iv s₃ h₃ => ?_) fun _ _ e => e
    obtain ⟨H₃, I₃, h₃⟩ := h₃
    refine wpAny_mono (oSet_ok (Q := fun H₄ => Nx (wS r K X R ρ H₄)) (by rw [a.good.fz]; exact h₃) s₃ I₃) (fun _ s₄ h₄ => ?_) fun _ _ e => e
    obtain ⟨H₄, I₄, h₄⟩ := h₄
    exact ⟨_, H₄, I₄, rfl, rfl, h₄⟩
  | setAttr j o v r ih =>
    refine ⟨fun K t X R ρ H ok hc h sn A env E a => ?_, noH _ fun _ _ _ _ _ h => h⟩
    obtain ⟨c1, c2⟩ := and2 hc
    obtain ⟨hf, c1⟩ := and2 c1
    obtain ⟨co, c3⟩ := and2 c2
    obtain ⟨cv, cr⟩ := and2 c3
    refine then_at (P := fun f ρf H' => f = .next ∧ ρf = envOf K.sc ρ ∧ Nx (wS r K X R ρ H')) ih.1 ok cr a ?_ fun f ρf H' ⟨e1, e2, h'⟩ => by subst e1; exact ⟨ρ, e2, h'⟩
    intro s I
    refine plainObj_wpAny_Assign_Attribute (wpAny_mono (ev v K t.a X ρ ok cv _ H h sn A env E a s I) (fun u s₁ h₁ => ?_) fun _ _ e => e) (noComp_swap c1)
    obtain ⟨H₁, I₁, h₁⟩ := h₁
    refine wpAny_mono (ev o K t.b X ρ ok co _ H₁ h₁ sn A env E a s₁ I₁) (fun ov s₂ h₂ => ?_) fun _ _ e => e
    obtain ⟨H₂, I₂, h₂⟩ := h₂
    obtain ⟨p, hp, h₂⟩ := gxAt_out h₂
    obtain ⟨i, hi, h₂⟩ := onAttrG_out h₂
    have hg := ok.gx hf p (List.mem_of_getElem? hp)
    rw [hi] at hg
    rw [gnameAt_eq hp]
    refine wpAny_mono (oSetAttr_ok (Q := fun H₃ => Nx (wS r K X R ρ H₃)) hg (by rw [a.good.fz]; exact h₂) s₂ I₂) (fun _ s₃ h₃ => ?_) fun _ _ e => e
    obtain ⟨H₃, I₃, h₃⟩ := h₃
    exact ⟨_, H₃, I₃, rfl, rfl, h₃⟩
  | expr e r ih =>
    refine ⟨fun K t X R ρ H ok hc h sn A env E a => ?_, noH _ fun _ _ _ _ _ h => h⟩
    obtain ⟨c1, c2⟩ := and2 hc
    obtain ⟨c2, c3⟩ := and2 c2
    refine then_at (P := fun f ρf H' => f = .next ∧ ρf = envOf K.sc ρ ∧ Nx (wS r K X R ρ H')) ih.1 ok c3 a ?_ fun f ρf H' ⟨e1, e2, h'⟩ => by subst e1; exact ⟨ρ, e2, h'⟩
    intro s I
    refine wpAny_Expr_any (wpAny_mono (ev e K t.a X ρ ok c2 _ H h sn A env E a s I) (fun v s₁ h₁ => ?_) fun _ _ e => e) (by unfold interactive; rw [I.ok.kind]; rfl) (noComp_swap c1)
    obtain ⟨H₁, I₁, h₁⟩ := h₁
    exact ⟨_, H₁, I₁, rfl, rfl, h₁⟩
  | ife c b1 b2 r ih1 ih2 ih =>
    refine ⟨fun K t X R ρ H ok hc h sn A env E a => ?_, noH _ fun _ _ _ _ _ h => h⟩
    obtain ⟨cc, c2⟩ := and2 hc
    obtain ⟨c2, cr⟩ := and2 c2
    obtain ⟨ca, cb⟩ := and2 c2
    refine then_at (P := PE K (thenR (fun ρ H => Nx (wS r K X R ρ H)) R)) ih.1 ok cr a ?_ fun f ρf H' h' => h'
    rw [exec_If]
    refine .bind (.of (.standAt (.bind (.of (((sound c).2.1 K t.a ρ _ ok cc _ H h sn A env E (a.at ρ)).mono fun b H₁ h₁ => ?_)))))
    cases b
    · exact ih2.1 K t.b.b X _ ρ H₁ ok cb h₁ sn A env E a
    · exact ih1.1 K t.b.a X _ ρ H₁ ok ca h₁ sn A env E a
  | for_ x it b r ihb ih =>
    refine ⟨fun K t X R ρ H ok hc h sn A env E a => ?_, noH _ fun _ _ _ _ _ h => h⟩
    obtain ⟨c1, c2⟩ := and2 hc
    obtain ⟨hf, hst⟩ := and2 c1
    obtain ⟨ci, c2⟩ := and2 c2
    obtain ⟨cb, cr⟩ := and2 c2
    obtain ⟨p, hp, hk⟩ := storeB_out hst
    have hl : env.kindOf (nameAt K.sc x) = some p.2 := by rw [nameAt_eq hp, a.kd]; exact look_at ok.nd hp
    have G' : Good K.C K.fz K.d true sn A env := ⟨a.good.fz, fun _ => a.good.hd hf, a.good.depth, a.good.units, a.good.frs⟩
    refine then_at (P := PE K (thenR (fun ρ H => Nx (wS r K X R ρ H)) R)) ih.1 ok cr a ?_ fun f ρf H' h' => h'
    refine (tr_for (R := fun f ρf H' => ∃ ρl, ρf = envOf K.sc ρl ∧ thenR (fun ρ H => Nx (wS r K X R ρ H)) R f ρl H') G' a.stk a.exits (by rw [hl]; rcases hk with e | e <;> rw [e] <;> simp) (notSet _ _ _ _) ((ev it K t.a X ρ ok ci _ H h sn A env E a).mono fun v H₁ h₁ => ?_)).mono fun f ρf H' ⟨ρl, e, h'⟩ => ⟨ρl, e, h'⟩
    obtain ⟨xs, hx, J, j0, turn, fin⟩ := h₁
    refine ⟨xs, hx, fun k ρf H' => ∃ ρl, ρf = envOf K.sc ρl ∧ J k ρl H', ⟨ρ, rfl, j0⟩, ?_, fun ρf H' ⟨ρl, e, hJ⟩ => ⟨ρl, e, fin ρl H' hJ⟩⟩
    rintro k y ρf H' hy ⟨ρl, rfl, hJ⟩ sn' E' Gc Sc hEc
    refine (TR.less (set_less ok.nd hp) (ihb.1 (K.more (toV v)) t.b X _ (ρl.set x (some y)) H' (ok.more _) cb (turn k y ρl H' hy hJ) sn' A env E' ⟨⟨Gc.fz, fun _ => Gc.hd rfl, Gc.depth, Gc.units, Gc.frs⟩, Sc, a.kd, hEc⟩)).mono fun f ρf H'' h' => ?_
    obtain ⟨ρ2, e, h'⟩ := h'
    cases f <;> exact ⟨ρ2, e, h'⟩
  | unpack is e r ih =>
    refine ⟨fun K t X R ρ H ok hc h sn A env E a => ?_, noH _ fun _ _ _ _ _ h => h⟩
    obtain ⟨c1, c2⟩ := and2 hc
    obtain ⟨c1, hn⟩ := and2 c1
    obtain ⟨hf, hst⟩ := and2 c1
    obtain ⟨c2, c3⟩ := and2 c2
    exact then_at ih.1 ok c3 a (unpack_at (r := r) (Q := fun ρ' H' => Nx (wS r K X R ρ' H')) ok hf hst hn c2 a h) fun f ρf H' ⟨e1, ρl, e2, h'⟩ => ⟨ρl, e2, by rw [e1]; exact h'⟩
  | raise j as r ih =>
    refine ⟨fun K t X R ρ H ok hc h sn A env E a => ?_, noH _ fun _ _ _ _ _ h => h⟩
    obtain ⟨c1, c2⟩ := and2 hc
    obtain ⟨hf, hn⟩ := and2 c1
    obtain ⟨c2, c3⟩ := and2 c2
    exact then_at ih.1 ok c3 a (raise_at (R := thenR (fun ρ H => Nx (wS r K X R ρ H)) R) ok hf (Nat.le_of_ble_eq_true hn) c2 a h) fun f ρf H' h' => h'
  | try_ b hs r ihb ihh ih =>
    refine ⟨fun K t X R ρ H ok hc h sn A env E a => ?_, noH _ fun _ _ _ _ _ h => h⟩
    obtain ⟨c1, c2⟩ := and2 hc
    obtain ⟨hf, hn⟩ := and2 c1
    obtain ⟨cb, c2⟩ := and2 c2
    obtain ⟨ch, cr⟩ := and2 c2
    exact then_at ih.1 ok cr a (try_at ihb.1 ihh.2 ok hf cb ch (by cases hs <;> first | exact ⟨_, _, rfl⟩ | cases hn) a h) fun f ρf H' h' => h'
  | hnd j nm b r ihb ih =>
    exact ⟨fun K t X R ρ H ok hc h => h.elim, fun K t R i b ρ H ok hc hi h sn A env E e s G S kd F => hnd_at ihb.1 ih.2 ok hc hi h G S kd F⟩
theorem calls_at {C : Cx} {a : Addr} {ps : List Str} {body : List Stmt} {scope : Scope} {fz : List Nat} {d : Nat} {free : Bool} {gs : List (Option G)} {gx : Gx} {sup : List (List Nat)} {vs : List V} {Q : QV} {X : QX} {H : AH} (c : CS)
    (F : FnAt C a ps body scope) (hs : scopeOk scope ps = true) (hl : vs.length = ps.length) (ok : KOk ⟨C, scope.names, gs, gx, fz, d, free, sup⟩) (hb : toB c scope.names gx (posB c body) = body) (hc : chkB c scope.names gx free (posB c body) = true)
    (ρ : Ev) (hρ : ∀ x v, envOf scope.names ρ x = some v → argsOf ps vs x = some v)
    (h : wS c ⟨C, scope.names, gs, gx, fz, d, free, sup⟩ (xq X) (fun f _ H' => Q (match f with | .ret v => v | _ => .none) H') ρ H) : CallsTo C fz (d + 1) free (.ref a) vs Q (Xv C X) H := by
  refine callsTo_of F hs hl fun sn A env E G S hkd hE => ?_
  rw [← hb]
  refine ((soundB c).1 _ _ _ _ ρ H ok hc h sn A env E ⟨G, S, hkd, fun cls ρf H' e s hx Fl => ?_⟩).mono (fun f ρ' H' hf => ?_) |>.less hρ
  · obtain ⟨ρl, _, hx⟩ := hx
    exact hE cls ρf H' e s hx Fl
  · obtain ⟨_, _, hf⟩ := hf
    cases f <;> exact hf
end Mine
namespace Mine
open PySem PySem.Calls PySem.SeqAt PySem.W PyProof.Rows
noncomputable def fbody (p : Program) (i : Nat) : List Stmt := match p.main.body[i]? with | some (.FunctionDef _ _ b _ _ _ _ _ _ _) => b | _ => []
noncomputable def fscope (p : Program) (i : Nat) : Scope := match p.main.body[i]? with | some (.FunctionDef _ _ _ _ _ _ s _ _ _) => s | _ => default
noncomputable def fparams (p : Program) (i : Nat) : Arguments := match p.main.body[i]? with | some (.FunctionDef _ a _ _ _ _ _ _ _ _) => a | _ => default
noncomputable def fname (p : Program) (i : Nat) : Str := match p.main.body[i]? with | some (.FunctionDef n _ _ _ _ _ _ _ _ _) => n | _ => default
theorem map_inj_of {α β : Type} {f : α → β} (hf : ∀ x y, f x = f y → x = y) : ∀ {l l' : List α}, l.map f = l'.map f → l = l'
  | [], [], _ => rfl
  | [], _ :: _, h => by cases h
  | _ :: _, [], h => by cases h
  | x :: l, y :: l', h => by
    rw [List.map_cons, List.map_cons] at h
    injection h with h1 h2
    rw [hf x y h1, map_inj_of hf h2]
noncomputable def TopTo (C : Cx) (d : Nat) (f : Value) (vs : List V) (Q : V → Prop) (H : AH) : Prop :=
  ∀ (A : Around) (s : Shared) (cvs : List Value) (E : Value → Shared → Prop), cvs.map toV = vs → s.heap = C.h₀ → s.gens = C.gens → s.os = C.os → (∀ a n, H.get a = some n → NodeAt C C.h₀ a n ∧ n.isRO = true) →
    A.frames = some [] → A.handled = none → A.depth + d < recursionLimit → A.units + 3 * d + 300 < cLine →
    wpAny C.M A (call f cvs) (fun v s' => Q (toV v) ∧ (∀ b o, C.h₀.get? b = some o → s'.heap.get? b = some o) ∧ s'.gens = C.gens ∧ s'.os = C.os) E s
theorem topTo_of {C : Cx} {a : Addr} {ps : List Str} {body : List Stmt} {scope : Scope} {d : Nat} {vs : List V} {Q : V → Prop} {H : AH}
    (F : FnAt C a ps body scope) (hs : scopeOk scope ps = true) (hl : vs.length = ps.length)
    (h : ∀ sn A env E, Good C [] d true sn A env → Stk C sn A env → (∀ x, env.kindOf x = kdOf scope x) → Exits C sn env (fun _ _ _ => False) E →
      TR C sn A env (execs body env) (fun f _ H' => Q (match f with | .ret v => toV v | _ => .none)) E (argsOf ps vs) H) :
    TopTo C (d + 1) (.ref a) vs Q H := by
  intro A s cvs E hcv hh hgens hos hnodes hfr hhd hdep hun
  obtain ⟨o, fd, ho, hd, hb, rfl, hg, hbi, hcl, hcd, hba⟩ := F
  simp only [scopeOk, Bool.and_eq_true, beq_iff_eq, Bool.not_eq_true', List.all_eq_true, bne_iff_ne, Bool.or_eq_true] at hs
  obtain ⟨⟨⟨⟨⟨⟨hk, hgen⟩, hco⟩, nd1⟩, nd2⟩, hfree⟩, hps⟩ := hs
  have nd1 := nodupS_iff nd1
  have nd2 := nodupS_iff nd2
  have hlen : cvs.length = ps.length := by rw [← hl, ← hcv]; simp
  have base : ∀ b o, C.h₀.get? b = some o → s.heap.get? b = some o := fun b o e => by rw [hh]; exact e
  have fresh : ∀ b, s.heap.objs.size ≤ b → s.heap.get? b = none := fun b hb => by
    cases q : s.heap.get? b with
    | none => rfl
    | some o => exact absurd (Heap.lt_size q) (Nat.not_lt.mpr hb)
  have hkeys : ∀ x ∈ ps.zip cvs, x.1 ∈ ps := fun x hx => (List.of_mem_zip hx).1
  have hmap : (ps.zip cvs).map (·.1) = ps := by rw [← List.unzip_fst]; simp [List.unzip_zip, hlen]
  refine wpAny_call (codeAny_call_cells (by omega) (base a o ho) hd (C.nolim.keeps base) (hcd.keeps base) hb (hba cvs hlen) hcl (fun x hx => ?_) (fun s₁ X₁ => ?_) hco hgen hk)
  · rcases hps x.1 (hkeys x hx) with q | q
    · exact .inl q
    · exact .inr ⟨q, cellsFrom_some _ _ _ _ (.inl q)⟩
  have EL : (callEnvC fd s.heap.objs.size a).locals = s.heap.objs.size := rfl
  have EC : (callEnvC fd s.heap.objs.size a).cells = cellsFrom (s.heap.objs.size + 1) fd.scope.names [] := rfl
  generalize hev : callEnvC fd s.heap.objs.size a = env' at X₁ ⊢
  have EK : ∀ x, env'.kindOf x = kdOf fd.scope x := fun x => by subst hev; rfl
  rw [hev] at EL EC
  obtain ⟨h₁, tk, rfl, hkeep⟩ := X₁.done
  have own : ∀ b ∈ ownOf env', s.heap.get? b = none := fun b hb => by
    rcases List.mem_cons.mp hb with rfl | hb
    · exact fresh _ (by rw [EL]; exact Nat.le_refl _)
    · obtain ⟨p, hp, rfl⟩ := List.mem_map.mp hb
      have := X₁.above p.1 p.2 hp
      rw [EL] at this
      exact fresh _ (Nat.le_of_lt this)
  have ckeys : (env'.cells.map (·.1)).Nodup := by rw [EC]; exact cellsFrom_keys _ _ _ nd1 List.nodup_nil (by simp)
  have ok : EnvOk env' := by
    refine ⟨by subst hev; exact hk, by subst hev; exact hg, by subst hev; exact hbi, ?_, fun x hx => ?_⟩
    · unfold ownOf
      refine List.nodup_cons.mpr ⟨fun hm => ?_, ?_⟩
      · obtain ⟨p, hp, e⟩ := List.mem_map.mp hm
        have := X₁.above p.1 p.2 hp
        rw [e] at this; exact Nat.lt_irrefl _ this
      · exact List.pairwise_map.mpr X₁.apart
    · rw [EK] at hx
      rcases hx with hx | hx
      · rw [EC]; exact Option.isSome_iff_exists.mp (cellsFrom_some _ _ _ _ (.inl hx))
      · exact absurd rfl (hfree _ (mem_of_lookup hx))
  have hnone : ∀ b, s.heap.get? b = none → H.get b = none := fun b hb => by
    cases q : H.get b with
    | none => rfl
    | some n =>
      obtain ⟨o, ho, _⟩ := (hnodes b n q).1
      rw [hh, ho] at hb; cases hb
  have J : Inv C ⟨s.heap, H, [], []⟩ env' (argsOf ps vs) H { s with heap := h₁, toks := tk } := by
    refine ⟨ok, fun b o e => hkeep b o (base b o e), fun b n e => (hnodes b n e).1.at (fun o ho => hkeep b o (base b o ho)), fun b n e r => (by rw [(hnodes b n e).2] at r; cases r), fun b o e e1 _ => ⟨e1, by rw [show ({ s with heap := h₁, toks := tk } : Shared).heap.get? b = some o from hkeep b o e]; exact Kept.refl o⟩,
      fun b hb => ⟨hnone b (own b hb), ?_⟩, ⟨_, X₁.toInCall.ns, fun x v e => ?_⟩, fun p hp => ⟨_, X₁.cell p.1 p.2 (lookup_of_mem ckeys hp)⟩, hgens, hos, fun b hb o e => ?_, fun b hb => ?_, fun b o e => ⟨o, hkeep b o e⟩⟩
    · cases q : C.h₀.get? b with
      | none => rfl
      | some o => have := base b o q; rw [own b hb] at this; cases this
    · unfold argsOf at e
      rw [← hcv, lookup_zip_map] at e
      obtain ⟨cv, hcv1, rfl⟩ := Option.map_eq_some_iff.mp e
      refine ⟨cv, ?_, rfl⟩
      have hxp : x ∈ ps := hkeys _ (mem_of_lookup hcv1)
      obtain ⟨g1, g2⟩ := bind_get env'.kindOf (ps.zip cvs) (fun _ => none) (fun _ => none) x cv (by rw [hmap]; exact nd2) hcv1
      rcases hps x hxp with q | q
      · have : env'.kindOf x = some .local := (EK x).trans q
        exact .inl ⟨this, g1 this⟩
      · have hq : env'.kindOf x = some .cell := (EK x).trans q
        obtain ⟨c, hc⟩ := ok.cell x (.inl hq)
        refine .inr ⟨.inl hq, c, hc, ?_⟩
        have := X₁.cell x c hc
        rwa [g2 (by rw [hq]; decide)] at this
    · rw [own b hb] at e; cases e
    · cases hb
  have S : Stk C ⟨s.heap, H, [], []⟩ (A.deeper env') env' := ⟨by subst hev; rfl, [], by simp [Around.deeper, hfr], by simp⟩
  have G' : Good C [] d true ⟨s.heap, H, [], []⟩ (A.deeper env') env' := ⟨rfl, fun _ => hhd, by simp only [Around.deeper]; omega, by simp only [Around.deeper]; omega, S.frs ok.kind⟩
  refine wpAny_mono (h _ _ env' _ G' S EK (fun cls ρ' H' e s' hx _ => hx.elim) _ J) (fun f s' hf => ?_) fun _ _ e => e
  obtain ⟨ρ', H', J', q⟩ := hf
  have fin : (∀ b o, C.h₀.get? b = some o → s'.heap.get? b = some o) ∧ s'.gens = C.gens ∧ s'.os = C.os := ⟨J'.base, J'.gens, J'.os⟩
  cases f <;> exact ⟨q, fin⟩
theorem zip_lookup_some : ∀ (ps : List Str) (vals : List Value), vals.length = ps.length → ∀ n ∈ ps, ((ps.zip vals).lookup n).isNone = false
  | [], _, _, n, hn => by cases hn
  | p :: ps, [], h, _, _ => by simp at h
  | p :: ps, v :: vals, h, n, hn => by
    rw [List.zip_cons_cons, List.lookup_cons]
    split
    · rfl
    · rename_i hne
      rcases List.mem_cons.mp hn with rfl | hn
      · simp at hne
      · exact zip_lookup_some ps vals (by simpa using h) n hn
theorem fm_congr {α β : Type} {f g : α → Option β} : ∀ {l : List α}, (∀ x ∈ l, f x = g x) → l.filterMap f = l.filterMap g
  | [], _ => rfl
  | a :: r, h => by
    rw [List.filterMap_cons, List.filterMap_cons, h a (List.mem_cons_self ..), fm_congr fun x hx => h x (List.mem_cons_of_mem _ hx)]
theorem zip_filterMap : ∀ (ps : List Str) (vals : List Value), vals.length = ps.length → ps.Nodup → ps.filterMap (fun n => ((ps.zip vals).lookup n).map (fun x => (n, x))) = ps.zip vals
  | [], _, _, _ => rfl
  | p :: ps, [], h, _ => by simp at h
  | p :: ps, v :: vals, h, nd => by
    rw [List.nodup_cons] at nd
    rw [List.filterMap_cons, List.zip_cons_cons]
    simp only [List.lookup_cons, beq_self_eq_true, Option.map_some]
    congr 1
    refine (fm_congr fun n hn => ?_).trans (zip_filterMap ps vals (by simpa using h) nd.2)
    have : (n == p) = false := by simp only [beq_eq_false_iff_ne]; rintro rfl; exact nd.1 hn
    rw [this]
noncomputable def plainP (p : Arguments) (ps : List Str) : Prop := p.posonlyargs = [] ∧ p.args.map (·.arg) = ps ∧ p.vararg = none ∧ p.kwonlyargs = [] ∧ p.kwarg = none
theorem ite_f {α : Type} {c : Bool} {a b d : α} (h : c = false) (e : b = d) : (if c = true then a else b) = d := by subst h; exact e
theorem bind_plain {fd : FuncData} {ps : List Str} (hp : plainP fd.params ps) (hd : fd.defaults = .none) (nd : ps.Nodup) (vals : List Value) (hl : vals.length = ps.length) : bindArgs fd ⟨vals, []⟩ = pure (ps.zip vals) := by
  have hm : ps.filter (fun n => ((ps.zip vals).lookup n).isNone) = [] := by
    rw [List.filter_eq_nil_iff]
    intro n hn
    rw [zip_lookup_some ps vals hl n hn]; decide
  obtain ⟨h1, h2, h3, h4, h5⟩ := hp
  unfold bindArgs
  rw [hd]
  generalize fd.params = p at h1 h2 h3 h4 h5 ⊢
  obtain ⟨po, as, va, ko, kd, kw, df⟩ := p
  cases h1; cases h3; cases h4; cases h5
  have h2 : as.map (·.arg) = ps := h2
  refine ite_f (c := decide (vals.length > (as.map (·.arg)).length) && true) (by rw [h2, hl]; simp) ?_
  refine ite_f (c := !(((as.map (·.arg)).take ((as.map (·.arg)).length - (([] : List Value).drop (0 - (as.map (·.arg)).length)).length)).filter fun n => (((as.map (·.arg)).zip vals).lookup n).isNone).isEmpty) (by rw [h2, List.drop_nil, List.length_nil, Nat.sub_zero, List.take_length, hm]; rfl) ?_
  show (forIn (List.zip _ (List.drop _ ([] : List Value))) _ _ >>= _ : Sem (List (Str × Value))) = _
  rw [List.drop_nil, List.zip_nil_right]
  show (pure ((as.map Arg.arg ++ []).filterMap fun n => (((as.map Arg.arg).zip vals).lookup n).map fun x => (n, x)) : Sem (List (Str × Value))) = _
  rw [List.append_nil, h2, zip_filterMap ps vals hl nd]
inductive RowFn (C : Cx) (x : Str) (ps : List Str) (body : List Stmt) (scope : Scope) : Prop
  | mk (a : Addr) (h0 : C.mg x = some (.ref a)) (h1 : GV C x = some (.ref a)) (h2 : Callee C (.ref a)) (h3 : FnAt C a ps body scope) : RowFn C x ps body scope
theorem fnAt_top {C : Cx} {p : Program} {loose : List Str} {mean : ExcName → Option Value} (T : Top p loose mean C.mg C.mb C.h₀) {x : Str} {ps : List Str} {body : List Stmt} {scope : Scope}
    (hr : ∃ d ∈ recsOf p, d.name = x ∧ plainP d.params ps ∧ d.body = body ∧ d.scope = scope) (nd : ps.Nodup) : RowFn C x ps body scope := by
  obtain ⟨d, hd, rfl, hp, rfl, rfl⟩ := hr
  obtain ⟨a, o, pm, code, doc, h1, h2, h3, h4⟩ := T.fn d hd
  refine ⟨a, h1, by unfold GV; rw [h1]; rfl, Callee.func h2 h3, o, _, h2, h3, rfl, rfl, rfl, rfl, rfl, h4, fun vals hl => bind_plain hp rfl nd vals hl⟩
noncomputable def cxOf (prog : Program) (w : World) (s : Shared) (ex : List Addr) (ats : List Str) (bc bN : Addr) (bm : Str → Option Value) (hbk : ats ≠ [] → ClsOk s.heap bc bN bm ats) {p : Program} {loose : List Str} {mean : ExcName → Option Value} {mg mb : Str → Option Value} (T : Top p loose mean mg mb s.heap) (hi : importsNone p = true) : Cx :=
  ⟨prog, w, s.heap, mg, mb, s.gens, s.os, ex, ats, bc, bN, bm, T.g, T.b, T.nolimit, by obtain ⟨mm, ⟨o, _, _, ho, _⟩, _⟩ := (T.seer hi).mods; exact ⟨o, ho⟩, hbk⟩
theorem intsAre_map : ∀ {vs : List Value} {xs : List Int}, IntsAre vs xs → vs.map toV = xs.map V.int := by
  intro vs xs h
  induction h with
  | nil => rfl
  | cons i t _ ih => rw [List.map_cons, List.map_cons, ih]; rfl
noncomputable def recs (p : Program) : List (Str × Arguments × List Stmt × Scope) := (recsOf p).map fun d => (d.name, d.params, d.body, d.scope)
noncomputable def rowRecs (p : Program) (is : List Nat) : List (Str × Arguments × List Stmt × Scope) := is.map fun i => (fname p i, fparams p i, fbody p i, fscope p i)
theorem rec_mem {p q : Program} {is : List Nat} (h : recs p = rowRecs q is) {i : Nat} (hi : i ∈ is) : ∃ d ∈ recsOf p, d.name = fname q i ∧ d.params = fparams q i ∧ d.body = fbody q i ∧ d.scope = fscope q i := by
  have hm : (fname q i, fparams q i, fbody q i, fscope q i) ∈ recs p := by rw [h]; exact List.mem_map.mpr ⟨i, hi, rfl⟩
  obtain ⟨d, hd, e⟩ := List.mem_map.mp hm
  simp only [Prod.mk.injEq] at e
  exact ⟨d, hd, e.1, e.2.1, e.2.2.1, e.2.2.2⟩
noncomputable def freeOk (p : Program) (loose xs : List Str) : Bool := xs.all fun x => !startupNames.contains x && !loose.contains x && !((recsOf p).map (·.name)).contains x && !((litsOf p).map (·.1)).contains x && !((clssOf p loose).map (·.name)).contains x && x != ("__name__" : Str)
theorem fnAt_row {C : Cx} {p q : Program} {loose : List Str} {mean : ExcName → Option Value} (T : Top p loose mean C.mg C.mb C.h₀) {is : List Nat} (h : recs p = rowRecs q is) (i : Nat) (x : Str) (ps : List Str) (hi : i ∈ is)
    (hx : fname q i = x) (hp : plainP (fparams q i) ps) (nd : nodupS ps = true) : RowFn C x ps (fbody q i) (fscope q i) := by
  obtain ⟨d, hd, e1, e2, e3, e4⟩ := rec_mem h hi
  exact fnAt_top T ⟨d, hd, e1.trans hx, by rw [e2]; exact hp, e3, e4⟩ (nodupS_iff nd)
theorem well_dict {P : Params} {h : Heap} {a : Addr} {l : List PyData} (x : Well P h (.ref a) (ofPy (.list l))) : ∀ o, h.get? a = some o → o.dict = none := by
  unfold ofPy at x
  cases x with
  | list h1 _ => intro o ho; rw [h1] at ho; cases ho; rfl
theorem law_entry {prog p : Program} {w : World} {s : Shared} {loose : List Str} {mean mean' : ExcName → Option Value} {mg mb : Str → Option Value} (T : Top p loose mean mg mb s.heap) (hi : importsNone p = true) {fa lst : Addr} {vals : List Value} {scr : List Int} {d : Nat}
    {c : ClaimW} {cl : Str → Option Addr} {args : List WData} (hg : s.gens = #[]) (hm : mg "law" = some (.ref fa)) (hL : s.heap.IsList lst vals.toArray) (hI : IntsAre vals scr) (hz : ¬ (63 : Int) < (scr.length : Int)) (hd : d ≤ 40)
    (hro : ∀ o, s.heap.get? lst = some o → o.dict = none)
    {ex : List Addr} {ats : List Str} {bc bN : Addr} {bm : Str → Option Value} {hbk : ats ≠ [] → ClsOk s.heap bc bN bm ats} (hlaw : scr.length ≤ 63 → ∃ a, mg "law" = some (.ref a) ∧ ∀ l H, AH.get H l = some (.rlist (scr.map V.int)) → TopTo (cxOf prog w s ex ats bc bN bm hbk T hi) d (.ref a) [.ref l] (fun v => v = .bool true) H)
    (hpost : (∀ cls, c.raises args cls = false) ∧ c.post args (.bool true) args = true ∧ ∀ h', ReadsW c.records cl h' (.bool true) (.bool true) []) :
    wpAny (model prog w) callerA (call (.ref fa) [.ref lst]) (fun v s' => GoodWG c cl mean' args s (.ok (.ret v)) s') (fun e s' => GoodWG c cl mean' args s (.error e) s') s := by
  obtain ⟨a, ha, hT⟩ := hlaw (by omega)
  rw [hm] at ha
  cases ha
  have hnode : NodeAt (cxOf prog w s ex ats bc bN bm hbk T hi) s.heap lst (.rlist (scr.map V.int)) := by
    obtain ⟨o, ho, hc, n, hs⟩ := hL
    have hmap := intsAre_map hI
    refine ⟨o, ho, ?_, hc, hro o ho, vals.toArray, n, hs, by simpa using hmap⟩
    rw [List.length_map]; omega
  have h := hT lst ⟨fun b => if b = lst then some (.rlist (scr.map V.int)) else none⟩ (by simp) callerA s [.ref lst] (fun e s' => GoodWG c cl mean' args s (.error e) s') rfl rfl rfl rfl (fun b n e => by
    simp only at e
    split at e
    · rename_i hb
      subst hb
      injection e with e
      subst e
      exact ⟨hnode, rfl⟩
    · cases e) rfl rfl (by have : recursionLimit = 1000 := rfl; simp only [callerA, claimMargin]; omega) (by simp only [callerA, cLine]; omega)
  refine wpAny_mono h (fun v s' hv => ?_) fun _ _ e => e
  obtain ⟨hv, h1, h2, h3⟩ := hv
  have := toV_bool hv
  subst this
  exact GoodW.toG ⟨.inl ⟨.bool true, .bool true, [], rfl, hpost.1, hpost.2.2 _, hpost.2.1, fun _ => ⟨List.nodup_nil, by simp⟩⟩, h1, h3, h2.trans hg⟩
noncomputable def ev0 (n : Nat) (vs : List V) : Ev := vs.map some ++ List.replicate n none
theorem ev0_less : ∀ {sc : Sc} {ps : List Str} {vs : List V} {n : Nat}, (sc.map (·.1)).take ps.length = ps → vs.length = ps.length → ∀ x v, envOf sc (ev0 n vs) x = some v → argsOf ps vs x = some v
  | [], _, _, _, _, _, x, v, h => by cases h
  | q :: sc, [], vs, n, _, hl, x, v, h => by
    have : vs = [] := List.length_eq_zero_iff.mp hl
    subst this
    have key : ∀ (sc : Sc) (n : Nat), envOf sc (List.replicate n none) x = none := by
      intro sc
      induction sc with
      | nil => intro n; rfl
      | cons q sc ih =>
        intro n
        cases n with
        | zero => rfl
        | succ n => rw [List.replicate_succ]; simp only [envOf]; split; rfl; exact ih n
    have h : envOf (q :: sc) (List.replicate n none) x = some v := h
    rw [key] at h; cases h
  | q :: sc, p :: ps, [], _, _, hl, _, _, _ => by simp at hl
  | q :: sc, p :: ps, u :: vs, n, hp, hl, x, v, h => by
    simp only [List.map_cons, List.length_cons, List.take_succ_cons, List.cons.injEq] at hp
    have h : (if x = q.1 then some u else envOf sc (ev0 n vs) x) = some v := h
    unfold argsOf
    rw [List.zip_cons_cons, List.lookup_cons]
    by_cases hx : x = q.1
    · rw [if_pos hx] at h
      have : (x == p) = true := by rw [hx, hp.1]; simp
      rw [this]; exact h
    · rw [if_neg hx] at h
      have : (x == p) = false := by rw [← hp.1]; simpa using hx
      rw [this]
      exact ev0_less hp.2 (by simpa using hl) x v h
noncomputable def defChk (scope : Scope) (body : List Stmt) (c : CS) (gx : Gx) (free : Bool) (ps : List Str) : Bool :=
  (scopeOk scope ps && (scope.names.all fun q => nameOk q.1)) && ((scope.names.map (·.1)).take ps.length == ps && chkB c scope.names gx free (posB c body))
noncomputable def gsAll (C : Cx) (d : Nat) (free : Bool) : Sc → List (Option G) → Prop
  | q :: sc, some g :: gs => (q.2 = .globalImplicit ∧ GOk C d free q.1 g) ∧ gsAll C d free sc gs
  | _ :: sc, none :: gs => gsAll C d free sc gs
  | _, [] => True
  | [], _ => False
theorem gsAll_out {C : Cx} {d : Nat} {free : Bool} : ∀ {sc : Sc} {gs : List (Option G)}, gsAll C d free sc gs → ∀ (j : Nat) (g : G), gs[j]? = some (some g) → ∃ x, sc[j]? = some (x, NameKind.globalImplicit) ∧ GOk C d free x g
  | [], [], _, _, _, h => by cases h
  | _ :: _, [], _, _, _, h => by cases h
  | [], some _ :: _, h, _, _, _ => h.elim
  | [], none :: _, h, _, _, _ => h.elim
  | q :: sc, some g0 :: gs, h, 0, g, e => by simp at e; subst e; exact ⟨q.1, by simp [← h.1.1], h.1.2⟩
  | q :: sc, some g0 :: gs, h, j + 1, g, e => gsAll_out h.2 j g e
  | q :: sc, none :: gs, h, 0, g, e => by simp at e
  | q :: sc, none :: gs, h, j + 1, g, e => gsAll_out (sc := sc) h j g e
noncomputable def gxAll (C : Cx) (d : Nat) : Gx → Prop
  | [] => True
  | p :: r => GOk C d true p.1 p.2 ∧ gxAll C d r
theorem gxAll_out {C : Cx} {d : Nat} : ∀ {gx : Gx}, gxAll C d gx → ∀ p ∈ gx, GOk C d true p.1 p.2
  | [], _, _, h => by cases h
  | q :: r, h, p, hp => by
    rcases List.mem_cons.mp hp with rfl | hp
    · exact h.1
    · exact gxAll_out h.2 p hp
noncomputable def ExsOk (C : Cx) (sup : List (List Nat)) : Prop := (∀ i a, C.ex[i]? = some a → ExcIs C sup i a) ∧ ∃ F : Frag, F.In C.h₀ ∧ bkNeg F C.bc = true
theorem kOk_of {C : Cx} {d : Nat} {free : Bool} {sc : Sc} {gs : List (Option G)} {gx : Gx} {sup : List (List Nat)} {fz : List Nat} (nd : (sc.map (·.1)).Nodup) (nm : (sc.all fun q => nameOk q.1) = true) (hg : gsAll C d free sc gs) (hx : gxAll C d gx) (he : ExsOk C sup) : KOk ⟨C, sc, gs, gx, fz, d, free, sup⟩ :=
  ⟨nd, List.all_eq_true.mp nm, gsAll_out hg, fun _ => gxAll_out hx, he.1, he.2⟩
noncomputable def retR (Q : QV) : PS := fun f _ H' => Q (match f with | .ret v => v | _ => .none) H'
section
variable {C : Cx} {a : Addr} {ps : List Str} {body : List Stmt} {scope : Scope} {d : Nat} {free : Bool} {gs : List (Option G)} {gx : Gx} {sup : List (List Nat)}
theorem scope_nd (h : scopeOk scope ps = true) : (scope.names.map (·.1)).Nodup := by
  simp only [scopeOk, Bool.and_eq_true] at h
  exact nodupS_iff h.1.1.1.2
theorem def_at {T : Tr} (kk : List Nat → KK) (hkk : ∀ fz, kk fz = ⟨C, scope.names, gs, gx, fz, d, free, sup⟩) (c : CS) (n : Nat) (F : FnAt C a ps body scope) (hk : defChk scope body c gx free ps = true) (hb : toB c scope.names gx (posB c body) = body) (he : ExsOk C sup) (hg : gsAll C d free scope.names gs) (hx : gxAll C d gx)
    (h : ∀ fz vs Q X H, T fz vs Q X H → vs.length = ps.length ∧ Nx (wS c (kk fz) (xq X) (retR Q) (ev0 n vs) H)) : Meets C (d + 1) free (.ref a) T := by
  intro fz vs Q X H hT
  obtain ⟨h1, h2⟩ := and2 hk
  obtain ⟨h1, h3⟩ := and2 h1
  obtain ⟨h4, h5⟩ := and2 h2
  obtain ⟨hl, hw⟩ := h fz vs Q X H hT
  rw [hkk] at hw
  exact calls_at c F h1 hl (kOk_of (scope_nd h1) h3 hg hx he) hb h5 (ev0 n vs) (ev0_less (beq_iff_eq.mp h4) hl) hw.out
theorem top_at {Q : V → Prop} {vs : List V} {H : AH} (kk : KK) (hkk : kk = ⟨C, scope.names, gs, gx, [], d, true, sup⟩) (c : CS) (n : Nat) (F : FnAt C a ps body scope) (hk : defChk scope body c gx true ps = true) (hb : toB c scope.names gx (posB c body) = body) (he : ExsOk C sup) (hg : gsAll C d true scope.names gs) (hx : gxAll C d gx)
    (hl : vs.length = ps.length) (h : Nx (wS c kk (xq nX) (retR fun v _ => Q v) (ev0 n vs) H)) : TopTo C (d + 1) (.ref a) vs Q H := by
  obtain ⟨h1, h2⟩ := and2 hk
  obtain ⟨h1, h3⟩ := and2 h1
  obtain ⟨h4, h5⟩ := and2 h2
  rw [hkk] at h
  refine topTo_of F h1 hl fun sn A env E G S hkd hE => ?_
  have ok : KOk ⟨C, scope.names, gs, gx, [], d, true, sup⟩ := kOk_of (scope_nd h1) h3 hg hx he
  have := (soundB c).1 ⟨C, scope.names, gs, gx, [], d, true, sup⟩ (posB c body) (xq nX) _ (ev0 n vs) H ok h5 h.out sn A env E ⟨G, S, hkd, fun cls ρf H' e s hx _ => by obtain ⟨_, _, _, _, _, _, h⟩ := hx; exact h.elim⟩
  rw [show toB c (KK.mk C scope.names gs gx [] d true sup).sc (KK.mk C scope.names gs gx [] d true sup).gx (posB c body) = body from hb] at this
  refine (this.less (ev0_less (beq_iff_eq.mp h4) hl)).mono fun f ρ' H' hf => ?_
  obtain ⟨_, _, hf⟩ := hf
  cases f <;> exact hf
end
end Mine
namespace Mine
open PySem PySem.Calls PySem.SeqAt PySem.W PyProof.Rows
noncomputable def Ext (H H' : AH) : Prop := ∀ a n, H.get a = some n → H'.get a = some n
theorem Ext.refl (H : AH) : Ext H H := fun _ _ h => h
theorem Ext.trans {H H' H'' : AH} (h : Ext H H') (h' : Ext H' H'') : Ext H H'' := fun a n e => h' a n (h a n e)
theorem ne_of_get {H : AH} {p a : Nat} {n : Node} (hp : H.get p = some n) (ha : H.get a = none) : p ≠ a := by rintro rfl; rw [hp] at ha; cases ha
theorem Ext.set {H H' : AH} {a : Nat} {n : Node} (h : Ext H H') (ha : H.get a = none) : Ext H (H'.set a n) := fun b m e => by rw [AH.set_ne _ _ (ne_of_get e ha)]; exact h b m e
theorem Ext.new {H : AH} {a : Nat} {n : Node} (ha : H.get a = none) : Ext H (H.set a n) := (Ext.refl H).set ha
theorem Ext.none {H H' : AH} {a : Nat} (h : Ext H H') (ha : H'.get a = none) : H.get a = none := by
  cases q : H.get a with
  | none => rfl
  | some n => rw [h a n q] at ha; cases ha
noncomputable def gives (fz : List Nat) (n : Node) (Q : V → AH → Prop) (H : AH) : Prop := ∀ H' a, Ext H H' → H.get a = none → a ∉ fz → H'.get a = some n → Q (.ref a) H'
theorem take_flatMap {α β : Type} (g : α → List β) {xs : List α} {k : Nat} {y : α} (h : xs[k]? = some y) : (xs.take (k + 1)).flatMap g = (xs.take k).flatMap g ++ g y := by
  rw [List.take_add_one, h]; simp
noncomputable def onI (g : Int → V) : V → V
  | .int j => g j
  | _ => .none
theorem onI_range (g : Int → V) (n : Nat) : ((List.range n).map fun i => V.int (i : Nat)).map (onI g) = (List.range n).map fun i => g (i : Nat) := by
  rw [List.map_map]; rfl
theorem rs1 (a b : Int) : (Builtin.Range.rangeSize a b 1).toNat = (b - a).toNat := by
  unfold Builtin.Range.rangeSize
  rw [if_pos (by decide), Int.ediv_one]
  split
  · rw [Int.sub_add_cancel]
  · rename_i h
    exact (Int.toNat_of_nonpos (Int.sub_nonpos_of_le (Int.not_lt.mp h))).symm
theorem rngB {a : Int} {n : Nat} (h0 : 0 ≤ a) (h1 : a ≤ 1) (hn : n ≤ 2 ^ 60) : -(2 ^ 60) ≤ a ∧ a ≤ 2 ^ 60 ∧ -(2 ^ 60) ≤ (n : Int) ∧ (n : Int) ≤ 2 ^ 60 ∧ (1 : Int) ≤ 1 ∧ (1 : Int) ≤ 2 ^ 20 := ⟨Int.le_trans (by decide) h0, Int.le_trans h1 (by decide), Int.le_trans (by decide) (Int.natCast_nonneg n), Int.ofNat_le.mpr hn, Int.le_refl _, by decide⟩
theorem items_rng {H : AH} {p : Nat} {n : Nat} (h : H.get p = some (.rng 0 n 1)) (hn : n ≤ 2 ^ 60) : ItemsV H (.ref p) ((List.range n).map fun i => V.int (i : Nat)) := by
  unfold ItemsV
  simp only [h]
  refine ⟨rngB (by decide) (by decide) hn, ?_⟩
  unfold rngItems
  rw [rs1, Int.sub_zero, Int.toNat_natCast]
  apply List.map_congr_left
  intro i _
  rw [Int.mul_one, Int.zero_add]
theorem items_list {H : AH} {p : Nat} {xs : List V} (h : H.get p = some (.list xs)) : ItemsV H (.ref p) xs := by unfold ItemsV; simp only [h]
theorem range_get {n k : Nat} {y : V} (h : ((List.range n).map fun i => V.int (i : Nat))[k]? = some y) : k < n ∧ y = .int k := by
  rw [List.getElem?_map] at h
  cases q : (List.range n)[k]? with
  | none => rw [q] at h; cases h
  | some i =>
    rw [q] at h
    obtain ⟨hk, e⟩ := List.getElem?_eq_some_iff.mp q
    simp at hk e h
    subst e
    exact ⟨hk, h.symm⟩
theorem getD_int (xs : List Int) (k : Nat) : (xs.map V.int).getD k (.int 0) = .int (xs.getD k 0) := by
  simp only [List.getD, List.getElem?_map]
  cases xs[k]? <;> rfl
theorem pick_nat (xs : List V) (k : Nat) : pick xs (k : Int) = xs[k]? := by
  unfold pick; rw [if_pos (Int.natCast_nonneg _), Int.toNat_natCast]
theorem pick_strs {xs : List Str} {k : Nat} {x : Str} (h : xs[k]? = some x) : pick (xs.map V.str) (k : Int) = some (.str x) := by
  rw [pick_nat, List.getElem?_map, h]; rfl
theorem made_of {fz : List Nat} {n : Node} {Q : V → AH → Prop} {H : AH} (h : ∀ H' a, Ext H H' → H.get a = none → a ∉ fz → H'.get a = some n → Q (.ref a) H') : Made fz n Q H :=
  ⟨fun a ha hf => h _ a (Ext.new ha) ha hf (AH.set_self ..)⟩
theorem tx_append (a b : List Nat) : tx a ++ tx b = tx (a ++ b) := by
  show Str.append (tx a) (tx b) = _
  simp [tx, Str.append]
theorem tx_length (a : List Nat) : (tx a).length = a.length := by simp [tx, Str.length]
theorem tx_inj {a b : List Nat} (h : tx a = tx b) : a = b := by
  have := congrArg (fun s : Str => s.cps.toList) h
  simpa [tx] using this
theorem foldl_rep (c : Nat) : ∀ (n : Nat) (acc : Array Nat), (List.replicate n #[c]).foldl (· ++ ·) acc = acc ++ (List.replicate n c).toArray
  | 0, acc => by simp
  | n + 1, acc => by
    rw [List.replicate_succ, List.foldl_cons, foldl_rep c n]
    apply Array.ext'
    simp [List.replicate_succ]
theorem rep_one (c : Nat) (n : Int) : strRep ⟨#[c]⟩ n = tx (List.replicate n.toNat c) := by
  unfold strRep Txt.mul
  split
  · rename_i h
    have : n.toNat = 0 := by omega
    rw [this]; rfl
  · split
    · rename_i h1 h2
      have : n = 1 := by
        simp [Str.length] at h2; exact h2
      subst this; rfl
    · rw [foldl_rep]; simp [tx]
theorem mulOk_one (c : Nat) {n : Int} (h : n < 1000) (h0 : -1000 < n) : MulOk ⟨#[c]⟩ n := by
  unfold MulOk
  refine ⟨by simp; omega, fun h1 h2 => ?_, fun h1 h2 => ?_⟩
  · simp only [Str.length]
    have h3 : (1000 : Int) ≤ (2 ^ 63 - 1) / n := by
      rw [Int.le_ediv_iff_mul_le (by omega)]
      omega
    show ¬ ((1 : Int) > (2 ^ 63 - 1) / n)
    omega
  · simp [Str.length, Builtin.Str.tooLong, sizeLine]
    omega
theorem join_tx : ∀ (l : List Nat), Txt.join ((tx [])) (l.map fun c => (⟨#[c]⟩ : Str)) = tx l := by
  intro l
  unfold Txt.join
  rw [StrLaws.glued_eq_join]
  induction l with
  | nil => rfl
  | cons c r ih =>
    cases r with
    | nil => rfl
    | cons d r =>
      have : Str.join ((tx [])) (((c :: d :: r) : List Nat).map fun c => (⟨#[c]⟩ : Str)) = (⟨#[c]⟩ : Str) ++ (tx []) ++ Str.join ((tx [])) ((d :: r).map fun c => (⟨#[c]⟩ : Str)) := rfl
      rw [this, ih]
      show tx [c] ++ tx [] ++ tx (d :: r) = _
      rw [tx_append, tx_append]; rfl
theorem joinOk_tx (l : List Nat) (h : l.length ≤ 1000) : JoinOk ((tx [])) (l.map fun c => (⟨#[c]⟩ : Str)) = true := by
  have : ∀ (l : List Nat) (a : Nat), (l.map fun c => (⟨#[c]⟩ : Str)).foldl (fun x (y : Str) => x + y.length + ((tx [])).length) a = a + l.length := by
    intro l
    induction l with
    | nil => intro a; rfl
    | cons c r ih => intro a; rw [List.map_cons, List.foldl_cons, ih]; simp [Str.length]; have : ((tx [])).cps.size = 0 := rfl; omega
  unfold JoinOk
  rw [← Array.foldl_toList, List.toList_toArray, this]
  simp [Builtin.Str.tooLong, sizeLine]
  omega
noncomputable def abc : Str := tx [97,98,99,100,101,102,103,104,105,106,107,108,109,110,111,112,113,114,115,116,117,118,119,120,121,122]
noncomputable def ltr (i : Int) : Nat := 97 + (i.fmod 26).toNat
theorem fmod26 (i : Int) : 0 ≤ i.fmod 26 ∧ i.fmod 26 < 26 := ⟨Int.fmod_nonneg_of_pos _ (by decide), Int.fmod_lt_of_pos _ (by decide)⟩
theorem abc_get (i : Int) : abc.cps[(i.fmod 26).toNat]? = some (ltr i) := by
  obtain ⟨h1, h2⟩ := fmod26 i
  unfold ltr
  generalize hj : (i.fmod 26).toNat = j
  have hj' : j < 26 := by omega
  have : ∀ j : Fin 26, abc.cps[j.val]? = some (97 + j.val) := by decide +kernel
  exact this ⟨j, hj'⟩
noncomputable def wordL (c : Int) (k : Int) : List Nat :=
  if c.fmod 2 = 1 then (List.range (1 + k.fmod 8).toNat).map fun j => ltr (c.fdiv 2 + k.fdiv 8 * 3 + (j : Nat))
  else List.replicate ((c.fdiv 52).fmod 8).toNat (ltr (c.fdiv 2)) ++ [ltr (c.fdiv 416 + 7 * k)] ++ List.replicate ((c.fdiv 416).fmod (8 - (c.fdiv 52).fmod 8)).toNat (ltr (c.fdiv 2))
noncomputable def poolOf (c : Int) : List Str := (List.range 26).map fun k => tx (wordL c (k : Nat))
theorem ltr_inj {a b : Int} (h : ltr a = ltr b) : a % 26 = b % 26 := by
  have h1 := (fmod26 a).1
  have h3 := (fmod26 b).1
  have e : (a.fmod 26).toNat = (b.fmod 26).toNat := Nat.add_left_cancel h
  rw [← Int.fmod_eq_emod_of_nonneg a (by decide), ← Int.fmod_eq_emod_of_nonneg b (by decide), ← Int.toNat_of_nonneg h1, ← Int.toNat_of_nonneg h3, e]
theorem seven : ∀ i j : Fin 26, i.val < j.val → (7 * (j.val : Int) - 7 * (i.val : Int)) % 26 ≠ 0 := by decide +kernel
theorem three : ∀ i j : Fin 26, i.val < j.val → (1 + (i.val : Int) % 8).toNat = (1 + (j.val : Int) % 8).toNat → ((j.val : Int) / 8 * 3 - (i.val : Int) / 8 * 3) % 26 ≠ 0 := by decide +kernel
theorem word_ne {c : Int} {i j : Nat} (hij : i < j) (hj : j < 26) : tx (wordL c (i : Nat)) ≠ tx (wordL c (j : Nat)) := by
  intro h
  have h := tx_inj h
  unfold wordL at h
  by_cases hc : c.fmod 2 = 1
  · rw [if_pos hc, if_pos hc] at h
    have hl := congrArg List.length h
    simp only [List.length_map, List.length_range] at hl
    have e1 : (i : Int).fmod 8 = (i : Int) % 8 := Int.fmod_eq_emod_of_nonneg _ (by decide)
    have e2 : (j : Int).fmod 8 = (j : Int) % 8 := Int.fmod_eq_emod_of_nonneg _ (by decide)
    have e3 : (i : Int).fdiv 8 = (i : Int) / 8 := Int.fdiv_eq_ediv_of_nonneg _ (by decide)
    have e4 : (j : Int).fdiv 8 = (j : Int) / 8 := Int.fdiv_eq_ediv_of_nonneg _ (by decide)
    rw [e1, e2] at hl h
    rw [e3, e4] at h
    have h8 : ∀ k : Nat, 0 < (1 + (k : Int) % 8).toNat := fun k => by rw [show (1 : Int) + (k : Int) % 8 = ((1 + k % 8 : Nat) : Int) from rfl, Int.toNat_natCast, Nat.add_comm]; exact Nat.succ_pos _
    have h0 := congrArg (fun l => l[0]?) h
    simp only [List.getElem?_map] at h0
    rw [List.getElem?_range (h8 i), List.getElem?_range (h8 j)] at h0
    simp only [Option.map_some, Option.some.injEq] at h0
    have h4 := Int.emod_eq_emod_iff_emod_sub_eq_zero.mp (ltr_inj h0).symm
    rw [Int.add_sub_add_right, Int.add_sub_add_left] at h4
    exact three ⟨i, Nat.lt_trans hij hj⟩ ⟨j, hj⟩ hij hl h4
  · rw [if_neg hc, if_neg hc] at h
    have h1 := List.append_cancel_right h
    have h2 := List.append_cancel_left h1
    injection h2 with h3
    have h4 := Int.emod_eq_emod_iff_emod_sub_eq_zero.mp (ltr_inj h3).symm
    rw [Int.add_sub_add_left] at h4
    exact seven ⟨i, Nat.lt_trans hij hj⟩ ⟨j, hj⟩ hij h4
theorem pool_nodup (c : Int) : (poolOf c).Nodup := by
  unfold poolOf
  show List.Pairwise _ _
  rw [List.pairwise_map]
  refine List.Pairwise.imp_of_mem (fun {a b} ha hb h => ?_) (List.pairwise_lt_range (n := 26))
  exact word_ne h (List.mem_range.mp hb)
theorem pool_length (c : Int) : (poolOf c).length = 26 := by simp [poolOf]
theorem get_apart {P : List Str} {i j : Nat} {x y : Str} (nd : P.Nodup) (hx : P[i]? = some x) (hy : P[j]? = some y) (h : i ≠ j) : x ≠ y := by
  rintro rfl
  obtain ⟨hi, _⟩ := List.getElem?_eq_some_iff.mp hx
  exact h ((List.getElem?_inj hi nd).mp (hx.trans hy.symm))
theorem not_in_take {ns : List Str} {k : Nat} {x : Str} (nd : ns.Nodup) (h : ns[k]? = some x) : x ∉ ns.take k := fun hm => by
  obtain ⟨i, hi, e⟩ := List.mem_iff_getElem.mp hm
  rw [List.length_take] at hi
  rw [List.getElem_take] at e
  have hi' : i < ns.length := by omega
  have h2 : ns[i]? = ns[k]? := by rw [List.getElem?_eq_getElem hi', h, e]
  have := (List.getElem?_inj hi' nd).mp h2
  omega
theorem eqV_strs {H : AH} {p q : Nat} {xs ys : List Str} (hp : H.get p = some (.list (xs.map V.str))) (hq : H.get q = some (.list (ys.map V.str))) : ∃ d, EqV H (.ref p) (.ref q) (decide (xs = ys)) d ∧ d ≤ deepest := by
  by_cases hl : xs.length = ys.length
  · have he : (List.range (xs.map V.str).length).all (fun j => decide (xs[j]? = ys[j]?)) = decide (xs = ys) := by
      rw [Bool.eq_iff_iff]
      simp only [List.length_map, List.all_eq_true, List.mem_range, decide_eq_true_eq]
      constructor
      · intro h
        apply List.ext_getElem?
        intro i
        by_cases hi : i < xs.length
        · exact h i hi
        · rw [List.getElem?_eq_none (by omega), List.getElem?_eq_none (by omega)]
      · rintro rfl _ _; rfl
    refine ⟨0 + 1, ?_, by decide⟩
    rw [← he]
    refine .list hp hq rfl rfl (by simp [hl]) (fun e => ?_) fun j x y hx hy => .sc ?_
    · subst e
      rw [hp] at hq
      injection hq with hq
      injection hq with hq
      have := map_inj_of (fun a b e => by injection e) hq
      subst this
      simp
    · rw [List.getElem?_map] at hx hy
      obtain ⟨a, ha, rfl⟩ := Option.map_eq_some_iff.mp hx
      obtain ⟨b, hb, rfl⟩ := Option.map_eq_some_iff.mp hy
      simp only [scEq_ss, ha, hb, Option.some.injEq]
      exact Bool.beq_eq_decide_eq a b
  · refine ⟨0, ?_, by decide⟩
    have : decide (xs = ys) = false := by simp; rintro rfl; exact hl rfl
    rw [this]
    exact .len hp hq rfl rfl (by simpa using hl)
theorem forS_of {ρ : Ev} {body : V → V → PS → Ev → AH → Prop} {N : Ev → AH → Prop} {R : PS} {v : V} {H : AH} (xs : List V) (J : Nat → Ev → AH → Prop) (hx : ItemsV H v xs) (j0 : J 0 ρ H)
    (turn : ∀ (k : Nat) y ρ' H', xs[k]? = some y → J k ρ' H' → body v y (turnR (thenR N R) (J (k + 1))) ρ' H') (fin : ∀ ρ' H', J xs.length ρ' H' → N ρ' H') : forG ρ body (thenR N R) v H := ⟨xs, hx, J, j0, turn, fin⟩
theorem ife_cut {c : CE} {a b r : CS} {K : KK} {X : XS} {R : PS} {ρ : Ev} {H : AH} (P : Ev → AH → Prop)
    (h : ∀ N : Ev → AH → Prop, (∀ ρ' H', P ρ' H' → N ρ' H') → wT c K ρ (atX X ρ) (fun t H₁ => br t (wS a K X (thenR N R) ρ H₁) (wS b K X (thenR N R) ρ H₁)) H) (hr : ∀ ρ' H', P ρ' H' → Nx (wS r K X R ρ' H')) : Nx (wS (.ife c a b r) K X R ρ H) := ⟨h _ hr⟩
theorem comp_flat {K : KK} {turn : V → (List V → AH → Prop) → List V → AH → Prop} {Q : QV} {v : V} {H : AH} (xs : List V) (g : V → List V) (hx : ItemsV H v xs) (hz : xs.length ≤ sizeLine)
    (ht : ∀ (k : Nat) y ys H', xs[k]? = some y → Ext H H' → turn y (fun zs H'' => zs = ys ++ g y ∧ Ext H H'') ys H') (fin : ∀ H', Ext H H' → Made K.fz (.list (xs.flatMap g)) Q H') : compG K turn Q v H := by
  refine ⟨xs, hx, hz, fun k ys H' => ys = (xs.take k).flatMap g ∧ Ext H H', ⟨by simp, Ext.refl H⟩, fun k y ys H' hy hJ => ?_, fun ys H' _ hJ => ?_⟩
  · obtain ⟨rfl, he⟩ := hJ
    have := ht k y ((xs.take k).flatMap g) H' hy he
    show turn y (fun zs H' => zs = (xs.take (k + 1)).flatMap g ∧ Ext H H') _ H'
    rw [take_flatMap g hy]
    exact this
  · obtain ⟨rfl, he⟩ := hJ
    rw [List.take_length]
    exact fin H' he
theorem flat_map {f : V → V} (l : List V) : l.flatMap (fun y => [f y]) = l.map f := by
  induction l with
  | nil => rfl
  | cons x r ih => rw [List.flatMap_cons, ih]; rfl
theorem flat_filter {p : V → Bool} (l : List V) : l.flatMap (fun y => if p y then [y] else []) = l.filter p := by
  induction l with
  | nil => rfl
  | cons x r ih => rw [List.flatMap_cons, ih]; by_cases h : p x <;> simp [h]
theorem comp_map {K : KK} {turn : V → (List V → AH → Prop) → List V → AH → Prop} {Q : QV} {v : V} {H : AH} (xs : List V) (f : V → V) (hx : ItemsV H v xs) (hz : xs.length ≤ sizeLine)
    (ht : ∀ (k : Nat) y ys H', xs[k]? = some y → Ext H H' → turn y (fun zs H'' => zs = ys ++ [f y] ∧ Ext H H'') ys H') (fin : ∀ H', Ext H H' → Made K.fz (.list (xs.map f)) Q H') : compG K turn Q v H :=
  comp_flat xs (fun y => [f y]) hx hz ht fun H' he => by rw [flat_map]; exact fin H' he
theorem comp_filter {K : KK} {turn : V → (List V → AH → Prop) → List V → AH → Prop} {Q : QV} {v : V} {H : AH} (xs : List V) (p : V → Bool) (hx : ItemsV H v xs) (hz : xs.length ≤ sizeLine)
    (ht : ∀ (k : Nat) y ys H', xs[k]? = some y → Ext H H' → turn y (fun zs H'' => zs = ys ++ (if p y then [y] else []) ∧ Ext H H'') ys H') (fin : ∀ H', Ext H H' → Made K.fz (.list (xs.filter p)) Q H') : compG K turn Q v H :=
  comp_flat xs (fun y => if p y then [y] else []) hx hz ht fun H' he => by rw [flat_filter]; exact fin H' he
theorem in_strs {H : AH} {xs : List V} {ss : List Str} {k : Str} {Q : Bool → Prop} (e : xs = ss.map V.str) (h : Q (decide (k ∈ ss))) : Mem H xs (.str k) Q := by
  subst e
  refine ⟨fun v => decide (v = .str k), fun y hy => ?_, ?_⟩
  · obtain ⟨s, hs, rfl⟩ := List.mem_map.mp hy
    refine ⟨0, .sc ?_, Nat.zero_le _⟩
    simp only [scEq_ss, V.str.injEq, Option.some.injEq]
    exact Bool.beq_eq_decide_eq s k
  · have : (ss.map V.str).any (fun v => decide (v = .str k)) = decide (k ∈ ss) := by
      rw [Bool.eq_iff_iff]
      simp only [List.any_map, List.any_eq_true, Function.comp, decide_eq_true_eq, V.str.injEq]
      constructor
      · rintro ⟨x, hx, rfl⟩; exact hx
      · intro hx; exact ⟨k, hx, rfl⟩
    rw [this]; exact h
theorem strs_get {ss : List Str} {k : Nat} {y : V} (h : (ss.map V.str)[k]? = some y) : ∃ s, ss[k]? = some s ∧ y = .str s := by
  rw [List.getElem?_map] at h
  obtain ⟨s, h1, h2⟩ := Option.map_eq_some_iff.mp h
  exact ⟨s, h1, h2.symm⟩
theorem same_strs {H : AH} {p q : Nat} {xs ys : List Str} {k : Bool → Prop} (hp : H.get p = some (.list (xs.map V.str))) (hq : H.get q = some (.list (ys.map V.str))) (h : k (decide (xs = ys))) : Same H (.ref p) (.ref q) k := by
  obtain ⟨d, h1, h2⟩ := eqV_strs hp hq
  exact .mk _ d h1 h2 h
theorem ix_strs {H : AH} {xs : List V} {ss : List Str} {x : Str} {k : Int → Prop} (e : xs = ss.map V.str) (hm : x ∈ ss) (h : k (ss.idxOf x : Nat)) : Ix H xs (.str x) k := by
  subst e
  have hj : ss.idxOf x < ss.length := List.idxOf_lt_length_iff.mpr hm
  refine ⟨fun v => decide (v = .str x), ss.idxOf x, .str x, fun y hy => ?_, ?_, by simp, fun m z hm' hz => ?_, h⟩
  · obtain ⟨s, hs, rfl⟩ := List.mem_map.mp hy
    refine ⟨0, .sc ?_, Nat.zero_le _⟩
    simp only [scEq_ss, V.str.injEq, Option.some.injEq]
    exact Bool.beq_eq_decide_eq s x
  · rw [List.getElem?_map, List.getElem?_eq_getElem hj, List.getElem_idxOf hj]; rfl
  · obtain ⟨s, hs, rfl⟩ := strs_get hz
    simp only [decide_eq_false_iff_not, V.str.injEq]
    rintro rfl
    obtain ⟨hml, e⟩ := List.getElem?_eq_some_iff.mp hs
    have := List.not_of_lt_findIdx (p := (· == s)) (xs := ss) hm'
    simp only [e] at this
    simp at this
theorem brn {c : Prop} [Decidable c] {A B : Prop} (h1 : ¬ c → A) (h2 : c → B) : br (!decide c) A B := brs (fun h => h1 (by simpa using h)) fun h => h2 (by simpa using h)
noncomputable def onS (f : Str → Bool) : V → Bool
  | .str s => f s
  | _ => false
theorem filter_strs (f : Str → Bool) (ss : List Str) : (ss.map V.str).filter (onS f) = (ss.filter f).map V.str := by
  rw [List.filter_map]; rfl
theorem take_mem {α : Type} {l : List α} {k : Nat} {x y : α} (hx : l[k]? = some x) (h : y ∈ l.take (k + 1)) : y ∈ l.take k ∨ y = x := by
  rw [List.take_add_one, hx] at h
  simpa using h
theorem sizeS {n : Nat} (h : n ≤ 100000) : n ≤ sizeLine := Nat.le_trans h (by unfold sizeLine; decide)
theorem mulR {a b : Int} {P : Prop} (h1 : -18446744073709551616 < b) (h2 : b < 18446744073709551616) (h : P) : IntMulOk a b ∧ P := ⟨mulOk_right (by omega) (by omega), h⟩
theorem mulL {a b : Int} {P : Prop} (h1 : -18446744073709551616 < a) (h2 : a < 18446744073709551616) (h : P) : IntMulOk a b ∧ P := ⟨mulOk_left (by omega) (by omega), h⟩
theorem fm0 (a : Int) {b : Int} (h : 0 < b) : 0 ≤ a.fmod b := Int.fmod_nonneg_of_pos _ h
theorem fmlt (a : Int) {b : Int} (h : 0 < b) : a.fmod b < b := Int.fmod_lt_of_pos _ h
theorem at_abc {i : Int} {k : Nat → Prop} (h : k (ltr i)) : ChAt abc (i.fmod 26) k := by
  obtain ⟨h1, h2⟩ := fmod26 i
  exact ⟨_, h1, by omega, abc_get i, h⟩
theorem rep_ch {c : Nat} {n : Int} {k : Str → Prop} (h1 : n < 1000) (h0 : -1000 < n) (h : k (tx (List.replicate n.toNat c))) : Rep ⟨#[c]⟩ n k := ⟨mulOk_one c h1 h0, by rw [rep_one]; exact h⟩
theorem cat_tx {a b : List Nat} {k : Str → Prop} (hz : a.length + b.length ≤ 1000) (h : k (tx (a ++ b))) : Cat (tx a) (tx b) k :=
  ⟨by rw [tx_length, tx_length]; exact Nat.le_trans hz (by unfold sizeLine; decide), by rw [tx_append]; exact h⟩
theorem jn_tx {l : List Nat} {k : Str → Prop} {xs : List V} (hx : xs = l.map fun c => V.str ⟨#[c]⟩) (hl : l.length ≤ 1000) (h : k (tx l)) : Jn (tx []) xs k :=
  ⟨l.map fun c => ⟨#[c]⟩, by subst hx; simp, joinOk_tx l hl, by rw [join_tx]; exact h⟩
theorem arg1V {vs : List V} {k : V → Prop} (h : arg1 vs k) : ∃ a, vs = [a] ∧ k a := by
  match vs, h with
  | [a], h => exact ⟨a, rfl, h⟩
theorem arg2V {vs : List V} {k : V → V → Prop} (h : arg2 vs k) : ∃ a b, vs = [a, b] ∧ k a b := by
  match vs, h with
  | [a, b], h => exact ⟨a, b, rfl, h⟩
inductive CellAt (H : AH) (l : Nat) (k : Int) (Q : V → Prop) : Prop
  | mk (ys : List V) : H.get l = some (.rlist ys) → 0 ≤ k → Q (ys.getD k.toNat (.int 0)) → CellAt H l k Q
noncomputable def T_cell : Tr := fun _ vs Q _ H => arg2 vs fun a b => onRef a fun l => onInt b fun k => CellAt H l k fun v => Q v H
theorem cell_any {H : AH} {l : Nat} {scr : List Int} {k : Int} {Q : V → Prop} (hl : H.get l = some (.rlist (scr.map V.int))) (hk : 0 ≤ k) (h : ∀ i : Int, Q (.int i)) : CellAt H l k Q := ⟨_, hl, hk, by rw [getD_int]; exact h _⟩
theorem cell_at {H : AH} {l : Nat} {scr : List Int} {k : Int} {Q : V → Prop} (hl : H.get l = some (.rlist (scr.map V.int))) (hk : 0 ≤ k) (h : Q (.int (scr.getD k.toNat 0))) : CellAt H l k Q := ⟨_, hl, hk, by rw [getD_int]; exact h⟩
noncomputable def T_pool : Tr := fun fz vs Q _ H => arg1 vs fun a => onInt a fun c => gives fz (.list ((poolOf c).map V.str)) Q H
theorem T_pool_out {fz : List Nat} {vs : List V} {Q : QV} {X : QX} {H : AH} (h : T_pool fz vs Q X H) : ∃ c, vs = [.int c] ∧ gives fz (.list ((poolOf c).map V.str)) Q H := by
  replace h := arg1V h
  obtain ⟨a, rfl, h⟩ := h
  replace h := onInt_out h
  obtain ⟨c, rfl, h⟩ := h
  exact ⟨c, rfl, h⟩
theorem T_cell_out {fz : List Nat} {vs : List V} {Q : QV} {X : QX} {H : AH} (h : T_cell fz vs Q X H) : ∃ l k ys, vs = [.ref l, .int k] ∧ H.get l = some (.rlist ys) ∧ 0 ≤ k ∧ Q (ys.getD k.toNat (.int 0)) H := by
  replace h := arg2V h
  obtain ⟨a, b, rfl, h⟩ := h
  replace h := onRef_out h
  obtain ⟨l, rfl, h⟩ := h
  replace h := onInt_out h
  obtain ⟨k, rfl, h⟩ := h
  obtain ⟨ys, hl, hk, h⟩ := h
  exact ⟨l, k, ys, rfl, hl, hk, h⟩
end Mine
namespace Mine
open PySem PySem.Calls PySem.SeqAt PySem.W PyProof.Rows
set_option genCtorIdx false in
inductive Stp where
  | add (x : Str) (n : Int) | drop (a : Str) | name (a x : Str) | shift (a : Str) (n : Int) | turn (a : Str) | part (a x y : Str) (s : Int) | join (a b x : Str) (s : Int)
noncomputable def Stp.vs : Stp → List V
  | .add x n => [.str (tx [97,100,100]), .str x, .int n]
  | .drop a => [.str (tx [100,114,111,112]), .str a]
  | .name a x => [.str (tx [110,97,109,101]), .str a, .str x]
  | .shift a n => [.str (tx [115,104,105,102,116]), .str a, .int n]
  | .turn a => [.str (tx [116,117,114,110]), .str a]
  | .part a x y s => [.str (tx [112,97,114,116]), .str a, .str x, .str y, .int s]
  | .join a b x s => [.str (tx [106,111,105,110]), .str a, .str b, .str x, .int s]
noncomputable def Stp.goes : Stp → List Str
  | .add _ _ => [] | .drop a => [a] | .name a _ => [a] | .shift a _ => [a] | .turn a => [a] | .part a _ _ _ => [a] | .join a b _ _ => [a, b]
noncomputable def Stp.comes : Stp → List Str
  | .add x _ => [x] | .drop _ => [] | .name _ x => [x] | .shift a _ => [a] | .turn a => [a] | .part _ x y _ => [x, y] | .join _ _ x _ => [x]
noncomputable def Stp.fst : Stp → Str
  | .add x _ => x | .drop a => a | .name a _ => a | .shift a _ => a | .turn a => a | .part a _ _ _ => a | .join a _ _ _ => a
noncomputable def Stp.isAdd : Stp → Bool
  | .add _ _ => true | _ => false
noncomputable def staysOf (st : Stp) (ns : List Str) : List Str := ns.filter fun n => !decide (n ∈ st.goes)
noncomputable def foundOf (st : Stp) (ns : List Str) : List Str := ns.flatMap fun n => if n ∈ staysOf st ns then [n] else if n = st.fst then st.comes else []
noncomputable def behindF (st : Stp) (ns : List Str) : Nat ⊕ List Str :=
  if ∀ a ∈ st.goes, a ∈ ns then (if ∀ x ∈ st.comes, x ∉ staysOf st ns then
    (if 1 ≤ (foundOf st ns ++ (if st.isAdd then [st.fst] else [])).length ∧ (foundOf st ns ++ (if st.isAdd then [st.fst] else [])).length ≤ 12 then .inr (foundOf st ns ++ (if st.isAdd then [st.fst] else [])) else .inl 3) else .inl 2) else .inl 1
inductive T_begun (fz : List Nat) (vs : List V) (Q : QV) (z3 : QX) (H : AH) : Prop
  | mk (p : Nat) (st : Stp) (h0 : vs = [.ref p]) (h1 : H.get p = some (.tuple st.vs)) (h2 : Made fz (.list (st.goes.map V.str)) Q H) : T_begun fz vs Q z3 H
inductive T_brought (fz : List Nat) (vs : List V) (Q : QV) (z3 : QX) (H : AH) : Prop
  | mk (p : Nat) (st : Stp) (h0 : vs = [.ref p]) (h1 : H.get p = some (.tuple st.vs)) (h2 : Made fz (.list (st.comes.map V.str)) Q H) : T_brought fz vs Q z3 H
inductive T_behind (fz : List Nat) (vs : List V) (Q : QV) (X : QX) (H : AH) : Prop
  | mk (p q : Nat) (st : Stp) (ns : List Str) (h0 : vs = [.ref p, .ref q]) (h1 : H.get p = some (.tuple st.vs)) (h2 : H.get q = some (.list (ns.map V.str))) (h3 : ns.length ≤ 100) (h4 : (match behindF st ns with | .inl i => ∀ H', Ext H H' → X i H' | .inr fs => gives fz (.list (fs.map V.str)) Q H)) : T_behind fz vs Q X H
theorem mem_stays {st : Stp} {ns : List Str} {n : Str} : n ∈ staysOf st ns ↔ n ∈ ns ∧ n ∉ st.goes := by simp [staysOf]
theorem goes_fst {st : Stp} : st.goes = [] ∨ ∃ r, st.goes = st.fst :: r := by cases st <;> simp [Stp.goes, Stp.fst]
theorem goes_add {st : Stp} : st.goes = [] ↔ st.isAdd = true := by cases st <;> simp [Stp.goes, Stp.isAdd]
theorem add_comes {st : Stp} (h : st.isAdd = true) : st.comes = [st.fst] := by cases st <;> first | rfl | cases h
theorem found_split {st : Stp} : ∀ {ns : List Str} {S : List Str}, ns.Nodup → st.fst ∈ ns → st.fst ∉ S → (ns.flatMap fun n => if n ∈ S then [n] else if n = st.fst then st.comes else []) =
    ((ns.take (ns.idxOf st.fst)).filter fun n => decide (n ∈ S)) ++ st.comes ++ ((ns.drop (ns.idxOf st.fst)).filter fun n => decide (n ∈ S))
  | [], S, _, h, _ => by cases h
  | n :: r, S, nd, hm, hS => by
    rw [List.nodup_cons] at nd
    have key : ∀ l : List Str, st.fst ∉ l → (l.flatMap fun n => if n ∈ S then [n] else if n = st.fst then st.comes else []) = l.filter fun n => decide (n ∈ S) := by
      intro l
      induction l with
      | nil => intro _; rfl
      | cons a l ih =>
        intro h
        rw [List.mem_cons, not_or] at h
        rw [List.flatMap_cons, ih h.2, List.filter_cons]
        by_cases ha : a ∈ S
        · simp [ha]
        · simp [ha, Ne.symm h.1]
    by_cases h : n = st.fst
    · subst h
      rw [List.flatMap_cons, if_neg hS, if_pos rfl, key r nd.1, List.idxOf_cons_self]
      simp [hS]
    · have hr : st.fst ∈ r := by rcases List.mem_cons.mp hm with e | e; exact absurd e.symm h; exact e
      have hi : (n :: r).idxOf st.fst = r.idxOf st.fst + 1 := by rw [List.idxOf_cons, show (n == st.fst) = false from by simpa using h]; rfl
      rw [List.flatMap_cons, found_split nd.2 hr hS, hi]
      simp only [List.take_succ_cons, List.drop_succ_cons, List.filter_cons, if_neg h]
      by_cases hn : n ∈ S
      · simp [hn]
      · simp [hn]
noncomputable def Stp.word : Stp → List Nat
  | .add _ _ => [97,100,100] | .drop _ => [100,114,111,112] | .name _ _ => [110,97,109,101] | .shift _ _ => [115,104,105,102,116] | .turn _ => [116,117,114,110] | .part _ _ _ _ => [112,97,114,116] | .join _ _ _ _ => [106,111,105,110]
theorem pick0 (st : Stp) : pick st.vs 0 = some (.str (tx st.word)) := by cases st <;> rfl
theorem pick1 (st : Stp) : pick st.vs 1 = some (.str st.fst) := by cases st <;> rfl
theorem word_add (st : Stp) : sEq (tx st.word) (tx [97,100,100]) = st.isAdd := by cases st <;> rfl
theorem comes_len (st : Stp) : st.comes.length ≤ 2 := by cases st <;> simp [Stp.comes]
theorem flat_len {α β : Type} {g : α → List β} {m : Nat} (h : ∀ a, (g a).length ≤ m) (l : List α) : (l.flatMap g).length ≤ m * l.length := by
  induction l with
  | nil => simp
  | cons a r ih => rw [List.flatMap_cons, List.length_append, List.length_cons, Nat.mul_add]; have := h a; omega
theorem behind_inl {st : Stp} {ns : List Str} {i : Nat} (h : behindF st ns = .inl i) : i = 1 ∨ i = 2 ∨ i = 3 := by
  unfold behindF at h
  generalize foundOf st ns ++ (if st.isAdd then [st.fst] else []) = fs at h
  split at h
  · split at h
    · split at h
      · cases h
      · injection h with h; exact .inr (.inr h.symm)
    · injection h with h; exact .inr (.inl h.symm)
  · injection h with h; exact .inl h.symm
end Mine
namespace Mine
open PySem PySem.Calls PySem.SeqAt PySem.W PyProof.Rows
theorem gv_str {C : Cx} {p : Program} {loose : List Str} {mean : ExcName → Option Value} (T : Top p loose mean C.mg C.mb C.h₀) {x s : Str} (h : valOf p x = some (.str s)) : ∃ cv, GV C x = some cv ∧ toV cv = .str s := by
  obtain ⟨v, hv, hr⟩ := T.const x _ h
  obtain ⟨t, e, _⟩ := reads_str_inv (hr {})
  subst e
  exact ⟨_, by unfold GV; rw [hv]; rfl, rfl⟩
theorem gv_int {C : Cx} {p : Program} {loose : List Str} {mean : ExcName → Option Value} (T : Top p loose mean C.mg C.mb C.h₀) {x : Str} {i : Int} (h : valOf p x = some (.int i)) : ∃ cv, GV C x = some cv ∧ toV cv = .int i := by
  obtain ⟨v, hv, hr⟩ := T.const x _ h
  obtain ⟨t, e, _⟩ := reads_int_inv (hr {})
  subst e
  exact ⟨_, by unfold GV; rw [hv]; rfl, rfl⟩
theorem mem_lookN {α : Type} : ∀ {l : List (Addr × α)} {a : Addr} {o : α}, l.lookup a = some o → (a, o) ∈ l
  | [], _, _, h => by cases h
  | (k, v) :: r, a, o, h => by
    rw [List.lookup_cons] at h
    split at h
    · rename_i hk; cases h; rw [beq_iff_eq.mp hk]; exact List.mem_cons_self ..
    · exact List.mem_cons_of_mem _ (mem_lookN h)
theorem fragAt_in {h : Heap} {b a : Addr} {o : Obj} (hm : (a, o) ∈ fragAt h b) : h.get? a = some o := by
  unfold fragAt at hm
  cases hb : h.get? b with
  | none => rw [hb] at hm; cases hm
  | some ob =>
    rw [hb] at hm
    rcases List.mem_cons.mp hm with hm | hm
    · cases hm; exact hb
    · split at hm
      · rename_i cd _
        cases hn : h.get? cd.ns with
        | none => rw [hn] at hm; cases hm
        | some on => rw [hn] at hm; simp at hm; obtain ⟨rfl, rfl⟩ := hm; exact hn
      · cases hm
theorem fragOf_in (l : ExL) (h : Heap) : (fragOf l h).In h := by
  intro a o e
  have hm := mem_lookN e
  unfold fragOf at hm
  obtain ⟨p, _, hm⟩ := List.mem_flatMap.mp hm
  exact fragAt_in hm
structure ExFact (l : ExL) (sup : List (List Nat)) (mg : Str → Option Value) (h : Heap) : Prop where
  bound : ∀ p ∈ l, mg p.1 = some (.ref (addrOf (mg p.1)))
  obj : ∀ i a, (exOf l mg)[i]? = some a → ∃ x : XC, h.get? a = some (x.obj a) ∧ h.Ns x.N x.mN ∧ x.mN "__init__" = none ∧
    OwnTail h exBm x.bm ∧ ∀ j b, (exOf l mg)[j]? = some b → (Value.ref a :: x.bm).contains (.ref b) = supAt sup i j
  neg : ∃ K : Frag, K.In h ∧ ∀ i a, (exOf l mg)[i]? = some a → NegOk K a ∧ ∀ j b, (exOf l mg)[j]? = some b → supAt sup i j = false → kin_not K a b = true
  bk : ∃ K : Frag, K.In h ∧ bkNeg K (addrOf (mg "Book")) = true
theorem ExFact.keeps {l : ExL} {sup : List (List Nat)} {mg : Str → Option Value} {h h' : Heap} (F : ExFact l sup mg h) (hk : ∀ b o, h.get? b = some o → h'.get? b = some o) : ExFact l sup mg h' :=
  ⟨F.bound, fun i a e => by
    obtain ⟨x, h1, h2, h3, h4, h5⟩ := F.obj i a e
    exact ⟨x, hk _ _ h1, h2.keeps hk, h3, h4.keeps hk, h5⟩, let ⟨K, h1, h2⟩ := F.neg; ⟨K, fun a o e => hk _ _ (h1 a o e), h2⟩, let ⟨K, h1, h2⟩ := F.bk; ⟨K, fun a o e => hk _ _ (h1 a o e), h2⟩⟩
theorem exFact_of {l : ExL} {sup : List (List Nat)} {h : Heap} (e : exTest l sup h = true) : ExFact l sup (h.nsMap mainGlobals) h := by
  obtain ⟨e, eB⟩ := Bool.and_eq_true_iff.mp e
  have one : ∀ (i : Nat) (p : Str × List Str), l[i]? = some p → exOne l sup h i p = true := fun i p hp => by
    have hi : i < l.length := (List.getElem?_eq_some_iff.mp hp).1
    have := List.all_eq_true.mp (Bool.and_eq_true_iff.mp e).1 i (List.mem_range.mpr hi)
    rw [hp] at this; exact this
  have ok : ∀ p ∈ l, h.ownExcOk p.1 p.2 exBm "ValueError.__new__" = true ∧ (∀ n ∈ p.2, ∃ q ∈ l, q.1 = n) := fun p hp => by
    obtain ⟨i, hi⟩ := List.getElem?_of_mem hp
    have := one i p hi
    simp only [exOne, Bool.and_eq_true] at this
    refine ⟨this.1.1.1, fun n hn => ?_⟩
    obtain ⟨q, hq, e⟩ := List.any_eq_true.mp (List.all_eq_true.mp this.1.2 n hn)
    exact ⟨q, hq, beq_iff_eq.mp e⟩
  have bd : ∀ p ∈ l, h.nsMap mainGlobals p.1 = some (.ref (addrOf (h.nsMap mainGlobals p.1))) := fun p hp => by
    obtain ⟨C, _, _, _, _, _, _, _, _, _, _, _, _, _, _, _, hb, _⟩ := Heap.ownExc_of_ok (ok p hp).1
    rw [hb]; rfl
  have e2 := (Bool.and_eq_true_iff.mp e).2
  refine ⟨bd, fun i a ea => ?_, ⟨fragOf l h, fragOf_in l h, fun i a ea => ?_⟩, fragAt h _, fun a o ea => fragAt_in (mem_lookN ea), eB⟩
  case refine_2 =>
    unfold exOf at ea
    rw [List.getElem?_map] at ea
    obtain ⟨p, hp, rfl⟩ := Option.map_eq_some_iff.mp ea
    have h1 := List.all_eq_true.mp e2 i (List.mem_range.mpr (List.getElem?_eq_some_iff.mp hp).1)
    rw [hp] at h1
    obtain ⟨h1, h2⟩ := Bool.and_eq_true_iff.mp h1
    refine ⟨h1, fun j b eb hs => ?_⟩
    unfold exOf at eb
    rw [List.getElem?_map] at eb
    obtain ⟨q, hq, rfl⟩ := Option.map_eq_some_iff.mp eb
    have h3 := List.all_eq_true.mp h2 j (List.mem_range.mpr (List.getElem?_eq_some_iff.mp hq).1)
    rw [hq] at h3
    simpa [hs] using h3
  unfold exOf at ea
  rw [List.getElem?_map] at ea
  obtain ⟨p, hp, rfl⟩ := Option.map_eq_some_iff.mp ea
  have hm := List.mem_of_getElem? hp
  obtain ⟨C, N, nm, q, bs, hdct, sn, sub, ab, col, dd, k0, k1, k2, k3, k5, hb, hC, hN, hi⟩ := Heap.ownExc_of_ok (ok p hm).1
  have ha : addrOf (h.nsMap mainGlobals p.1) = C := by rw [hb]; rfl
  rw [ha]
  refine ⟨⟨nm, q, N, bs, _, hdct, sn, sub, ab, col, dd, k0, k1, k2, k3, k5, _⟩, hC, hN, hi, OwnTail.of_chain p.2 fun n hn => ?_, fun j b eb => ?_⟩
  · obtain ⟨q, hq, rfl⟩ := (ok p hm).2 n hn
    exact ⟨_, _, _, (ok q hq).1⟩
  · unfold exOf at eb; rw [List.getElem?_map] at eb
    obtain ⟨q, hq, rfl⟩ := Option.map_eq_some_iff.mp eb
    have hj : j < l.length := (List.getElem?_eq_some_iff.mp hq).1
    have := one i p hp
    simp only [exOne, Bool.and_eq_true] at this
    have h2 := List.all_eq_true.mp this.2 j (List.mem_range.mpr hj)
    rw [hq] at h2
    have h3 : exVal h q.1 = .ref (addrOf (h.nsMap mainGlobals q.1)) := by unfold exVal; rw [bd q (List.mem_of_getElem? hq)]; rfl
    have h4 : exVal h p.1 = .ref C := by unfold exVal; rw [hb]; rfl
    have h5 := beq_iff_eq.mp h2
    rw [h3, h4] at h5
    exact h5
theorem exs_ok {C : Cx} {l : ExL} {sup : List (List Nat)} (F : ExFact l sup C.mg C.h₀) (e : C.ex = exOf l C.mg) (eb : C.mg "Book" = some (.ref C.bc)) : ExsOk C sup := by
  refine ⟨fun i a ha => ?_, by have := F.bk; rw [eb] at this; exact this⟩
  rw [e] at ha
  obtain ⟨x, h1, h2, h3, h4, h5⟩ := F.obj i a ha
  refine ⟨⟨x, h1, h2, h3, h4, fun j b eb => h5 j b (e ▸ eb)⟩, ?_⟩
  obtain ⟨K, n1, n2⟩ := F.neg
  exact ⟨K, n1, (n2 i a ha).1, fun j b eb hs => (n2 i a ha).2 j b (e ▸ eb) hs⟩
theorem exs_g {C : Cx} {l : ExL} {sup : List (List Nat)} (F : ExFact l sup C.mg C.h₀) (e : C.ex = exOf l C.mg) {d : Nat} {free : Bool} {i : Nat} {p : Str × List Str} (hp : l[i]? = some p) : GOk C d free p.1 (.exc i) := by
  refine ⟨addrOf (C.mg p.1), by rw [e]; unfold exOf; rw [List.getElem?_map, hp]; rfl, ?_⟩
  unfold GV; rw [F.bound p (List.mem_of_getElem? hp)]; rfl
end Mine
set_option maxRecDepth 100000
namespace Mine
open PySem PySem.Calls PySem.SeqAt PySem.W PyProof.Rows
noncomputable def T_new (n : Nat) (T : Tr) : Tr := fun fz vs Q X H => ∀ x dx, x ≠ dx → H.get x = none → H.get dx = none → x ∉ fz → dx ∉ fz →
  T fz (.ref x :: vs) (fun r H' => r = .none ∧ Q (.ref x) H') X ((H.set x (.inst dx)).set dx (.attrs (List.replicate n none)))
theorem cls_callee {C : Cx} (h : C.ats ≠ []) : Callee C (.ref C.bc) := by
  intro A E s Q hb h1 h2
  obtain ⟨nm, q, bs, sn, sub, col, dd, k0, k1, k2, k3, k5, hC⟩ := ((C.bk h).cls.keeps hb).obj
  obtain ⟨hh, g, d, t, os⟩ := s
  have f1 := tc_lookup
  have hT : (⟨hh, g, d, t, os⟩ : Shared).TypeIs (.ref C.bc) "type" := ⟨_, hC, rfl⟩
  unfold keeperOf specialOf
  repeat (any_goals (first | assumption | with_reducible refine wpAny_loadPart_at hC ?_ | with_reducible refine wpAny_load' hC ?_ | wp_step))
theorem cls_meets {C : Cx} {d : Nat} {free : Bool} {f : Addr} {T : Tr} (h : C.ats ≠ []) (Mt : MethIs C "__init__" f) (hm : Meets C d free (.ref f) T) : Meets C (d + 2) free (.ref C.bc) (T_new C.ats.length T) := by
  intro fz vs Q X H hT sn A env ρ E cvs hcv G hE s I
  obtain ⟨nm, q, bs, sn', sub, col, dd, k0, k1, k2, k3, k5, hC⟩ := ((C.bk h).cls.keeps I.base).obj
  have hns := ((C.bk h).cls.keeps I.base).ns
  obtain ⟨oI, hoI, hfc⟩ := Mt.fn
  have hb := I.base _ _ hoI
  obtain ⟨hp, g, dr, t, os⟩ := s
  refine wpAny_call_obj_init PySem.F.objNew hC hns Mt.is hb hfc fun h' x dx Mk => ?_
  have J : Inv C sn env ρ H ⟨h', g, dr, t, os⟩ := I.keeps (tk := t) Mk.keeps
  obtain ⟨ox, hx, hcx, hncx, hdx⟩ := Mk.inst
  have hdd := Mk.dict ox hx
  have hns1 : ∃ od es ep, h'.get? dx = some od ∧ od.data = .dict es ep ∧ StrKeys es ∧ UniqKeys es ∧ (∀ y, nsFind es y = (none : Option Value)) ∧ dx ≠ x := by
    rcases hdx with ⟨hn0, _⟩ | ⟨d', hd', hne, od, es, ep, h1, h2, h3, h4, h5⟩
    · rw [hn0] at hdd; cases hdd
    · obtain rfl := Option.some.inj (hd'.symm.trans hdd); exact ⟨od, es, ep, h1, h2, h3, h4, h5, hne⟩
  obtain ⟨od, es, ep, h1, h2, h3, h4, h5, hne⟩ := hns1
  have j1 := I.junk_of_new Mk.newX
  have j2 := I.junk_of_new Mk.newD
  have J1 := J.reveal (n := .inst dx) j1 ⟨ox, hx, hcx, hdd, hncx⟩
  have J2 := J1.reveal (a := dx) (n := .attrs (List.replicate C.ats.length none)) ⟨by rw [AH.set_ne _ _ hne]; exact j2.1, j2.2⟩ ⟨od, h1, es, ep, fun _ => none, h2, h3, h4, h5, fun y hy => absurd rfl hy, fun i y _ => by
    rw [List.getElem?_replicate]; split <;> rfl⟩
  have G' : Good C fz d free sn (A.under (.builtin "type.__call__" ⟨.ref C.bc :: cvs, []⟩)) env := by
    refine ⟨G.fz, G.hd, ?_, ?_, G.frs⟩
    · have := G.depth; rw [show (A.under (.builtin "type.__call__" ⟨.ref C.bc :: cvs, []⟩)).depth = A.depth + 1 from rfl]; omega
    · have h0 : (A.under (.builtin "type.__call__" ⟨.ref C.bc :: cvs, []⟩)).units = A.units + 1 := rfl
      have := G.units; omega
  refine wpAny_mono (hm fz (.ref x :: vs) _ X _ (hT x dx (Ne.symm hne) j1.1 j2.1 (by rw [← G.fz]; exact I.notFz j1.1) (by rw [← G.fz]; exact I.notFz j2.1)) sn _ env ρ E (.ref x :: cvs) (by rw [List.map_cons, hcv]; rfl) G' hE _ J2) (fun r s' hr => ?_) fun _ _ e => e
  obtain ⟨H', J', hr, hQ⟩ := hr
  exact ⟨toV_none hr, H', J', hQ⟩
noncomputable def mstmt (p : Program) (i j : Nat) : Option Stmt := match p.main.body[i]? with | some (.ClassDef _ _ _ b _ _ _ _ _ _ _) => b[j]? | _ => none
noncomputable def mbody (p : Program) (i j : Nat) : List Stmt := match mstmt p i j with | some (.FunctionDef _ _ b _ _ _ _ _ _ _) => b | _ => []
noncomputable def mscope (p : Program) (i j : Nat) : Scope := match mstmt p i j with | some (.FunctionDef _ _ _ _ _ _ s _ _ _) => s | _ => default
noncomputable def mparams (p : Program) (i j : Nat) : Arguments := match mstmt p i j with | some (.FunctionDef _ a _ _ _ _ _ _ _ _) => a | _ => default
noncomputable def mname (p : Program) (i j : Nat) : Str := match mstmt p i j with | some (.FunctionDef n _ _ _ _ _ _ _ _ _) => n | _ => default
noncomputable def clsRow (p : Program) (loose : List Str) : List (Str × List Str × List (Str × Arguments × List Stmt × Scope)) := (plainsOf p loose).map fun c => (c.name, c.statics, c.meths.map fun m => (m.name, m.params, m.body, m.scope))
noncomputable def rowMeths (p : Program) (i : Nat) (js : List Nat) : List (Str × Arguments × List Stmt × Scope) := js.map fun j => (mname p i j, mparams p i j, mbody p i j, mscope p i j)
structure BkIs (h : Heap) (mg : Str → Option Value) (x : Str) (ats : List Str) (q : Program) (i : Nat) (js : List Nat) (bc bN : Addr) (bm : Str → Option Value) : Prop where
  is : mg x = some (.ref bc)
  ok : ClsOk h bc bN bm ats
  meths : ∀ j ∈ js, ∃ f o pm cd doc, bm (mname q i j) = some (.ref f) ∧ h.get? f = some o ∧ o.cls = .type "function" ∧
    o.data = .func (methDef (mname q i j) (x ++ "." ++ mname q i j) (mparams q i j) (mbody q i j) (mscope q i j) pm cd doc) ∧ h.CodeRec cd (x ++ "." ++ mname q i j)
theorem bkIs_of {p q : Program} {loose : List Str} {mg : Str → Option Value} {h : Heap} (TE : TopE p loose mg h) {x : Str} {ats : List Str} {i : Nat} {js : List Nat} (e : clsRow p loose = [(x, ats, rowMeths q i js)])
    (hnd : ats.Nodup) (hz : ats.length ≤ sizeLine) (hno : ∀ y ∈ ats, typeLookup (.type "object") y = pure none) : ∃ bc bN bm, BkIs h mg x ats q i js bc bN bm := by
  have hm : (x, ats, rowMeths q i js) ∈ clsRow p loose := by rw [e]; exact List.mem_cons_self ..
  obtain ⟨c, hc, he⟩ := List.mem_map.mp hm
  simp only [Prod.mk.injEq] at he
  obtain ⟨rfl, rfl, he⟩ := he
  obtain ⟨C, N, mN, h1, P⟩ := TE c hc
  refine ⟨C, N, mN, h1, ⟨P.cls, P.quiet _ (by simp [ClsRec.quiet]), P.quiet _ (by simp [ClsRec.quiet]), P.quiet _ (by simp [ClsRec.quiet]), hnd, hz, fun y hy => ⟨P.quiet _ ?_, hno y hy⟩⟩, fun j hj => ?_⟩
  · unfold ClsRec.quiet ClsRec.withCmp
    exact List.mem_append_right _ (List.mem_append_left _ hy)
  · have : (mname q i j, mparams q i j, mbody q i j, mscope q i j) ∈ c.meths.map fun m => (m.name, m.params, m.body, m.scope) := by rw [he]; exact List.mem_map.mpr ⟨j, hj, rfl⟩
    obtain ⟨m, hmm, e⟩ := List.mem_map.mp this
    simp only [Prod.mk.injEq] at e
    obtain ⟨e1, e2, e3, e4⟩ := e
    obtain ⟨f, o, pm, cd, doc, g1, g2, g3, g4, g5⟩ := P.meths m hmm
    rw [e1] at g1 g4 g5
    rw [e2, e3, e4] at g4
    exact ⟨f, o, pm, cd, doc, g1, g2, g3, g4, g5⟩
inductive RowMe (C : Cx) (nm : Str) (ps : List Str) (body : List Stmt) (scope : Scope) : Prop
  | mk (a : Addr) (h0 : MethIs C nm a) (h1 : Callee C (.ref a)) (h2 : FnAt C a ps body scope) : RowMe C nm ps body scope
theorem meth_row {C : Cx} {x : Str} {q : Program} {i : Nat} {js : List Nat} (B : BkIs C.h₀ C.mg x C.ats q i js C.bc C.bN C.bm) (hs : C.ats ≠ []) (j : Nat) (nm : Str) (ps : List Str) (hj : j ∈ js) (hn : mname q i j = nm) (hp : plainP (mparams q i j) ps) (nd : nodupS ps = true)
    (hB : ∃ y, typeLookup (.type "object") nm = pure y) (hno : nm ∉ C.ats) : RowMe C nm ps (mbody q i j) (mscope q i j) := by
  obtain ⟨f, o, pm, cd, doc, h1, h2, h3, h4, h5⟩ := B.meths j hj
  rw [hn] at h1
  refine ⟨f, ⟨h1, ⟨o, h2, h3⟩, hB, hno, hs⟩, Callee.func h2 h4, o, _, h2, h4, rfl, rfl, rfl, rfl, rfl, h5, fun vals hl => bind_plain hp rfl (nodupS_iff nd) vals hl⟩
end Mine
namespace Mine
open PySem PySem.Calls PySem.SeqAt PySem.W PyProof.Rows
noncomputable abbrev DI := List (Str × Int)
noncomputable def dI (es : DI) : List (Str × V) := es.map fun p => (p.1, V.int p.2)
noncomputable def gI (es : DI) (k : Str) : Option Int := (es.find? fun p => p.1 = k).map (·.2)
noncomputable def keys (es : DI) : List Str := es.map (·.1)
noncomputable def Stp.sizeOk : Stp → Prop
  | .part _ _ _ s => 2 ≤ s ∧ s ≤ 1000000
  | .join _ _ _ s => 2 ≤ s ∧ s ≤ 1000000
  | _ => True
noncomputable def val (es : DI) (a : Str) : Int := (gI es a).getD 0
end Mine
namespace Mine
open PySem PySem.Calls PySem.SeqAt PySem.W PyProof.Rows
noncomputable abbrev tAdd : Str := tx [97,100,100]
noncomputable abbrev tDrop : Str := tx [100,114,111,112]
noncomputable abbrev tName : Str := tx [110,97,109,101]
noncomputable abbrev tShift : Str := tx [115,104,105,102,116]
noncomputable abbrev tTurn : Str := tx [116,117,114,110]
noncomputable abbrev tPart : Str := tx [112,97,114,116]
noncomputable abbrev tJoin : Str := tx [106,111,105,110]
noncomputable def isN : V → Bool
  | .str s => (decide (1 ≤ s.length) && decide (s.length ≤ 8)) && s.cps.toList.all fun c => decide (c ∈ abc.cps.toList)
  | _ => false
noncomputable def isI : V → Bool
  | .int _ => true
  | _ => false
noncomputable def isZ : V → Bool
  | .int i => decide (2 ≤ i) && decide (i ≤ 1000000)
  | _ => false
noncomputable def m1 (f : V → Bool) : List V → Bool
  | [n] => f n
  | _ => false
noncomputable def m3 (f : V → V → V → Bool) : List V → Bool
  | [a, b, c] => f a b c
  | _ => false
noncomputable def stepF (w : Str) (parts : List V) : Bool :=
  match parts with
  | [] => false
  | p :: r => isN p && (if w = tDrop ∨ w = tTurn then r.isEmpty else if w = tAdd ∨ w = tShift then m1 isI r else if w = tName then m1 isN r else
      if w = tPart ∨ w = tJoin then m3 (fun a b c => (isN a && isN b && isZ c) && (if w = tPart then decide (a ≠ b) else decide (p ≠ a))) r else false)
inductive Served (H : AH) : V → Prop
  | none : Served H .none
  | bool (b : Bool) : Served H (.bool b)
  | int (i : Int) : Served H (.int i)
  | str (s : Str) (h : s.length ≤ 1000) : Served H (.str s)
  | list (p : Nat) (xs : List V) (h : H.get p = some (.list xs)) : Served H (.ref p)
  | tuple (p : Nat) (xs : List V) (h : H.get p = some (.tuple xs)) : Served H (.ref p)
  | dict (p : Nat) (xs : List (Str × V)) (h : H.get p = some (.sdict xs)) : Served H (.ref p)
theorem Served.ext {H H' : AH} {v : V} (h : Served H v) (e : Ext H H') : Served H' v := by
  cases h with
  | none => exact .none
  | bool b => exact .bool b
  | int i => exact .int i
  | str s h => exact .str s h
  | list p xs h => exact .list p xs (e _ _ h)
  | tuple p xs h => exact .tuple p xs (e _ _ h)
  | dict p xs h => exact .dict p xs (e _ _ h)
inductive StepSays (H : AH) : V → Bool → Prop
  | step (p : Nat) (w : Str) (parts : List V) : H.get p = some (.tuple (.str w :: parts)) → (∀ x ∈ parts, Served H x) → parts.length ≤ 5 → StepSays H (.ref p) (stepF w parts)
  | none : StepSays H .none false
  | bool (b : Bool) : StepSays H (.bool b) false
  | str (s : Str) : StepSays H (.str s) false
  | list (p : Nat) (xs : List V) (h : H.get p = some (.list xs)) : StepSays H (.ref p) false
  | dict (p : Nat) (xs : List (Str × V)) (h : H.get p = some (.sdict xs)) : StepSays H (.ref p) false
  | short (p : Nat) (xs : List V) : H.get p = some (.tuple xs) → xs.length < 2 → StepSays H (.ref p) false
  | odd (p : Nat) (x y : V) (xs : List V) : H.get p = some (.tuple (x :: y :: xs)) → Served H x → (∀ s, x ≠ .str s) → StepSays H (.ref p) false
inductive T_isname (z0 : List Nat) (vs : List V) (Q : QV) (z3 : QX) (H : AH) : Prop
  | mk (v : V) (h0 : vs = [v]) (h1 : Served H v) (h2 : ∀ H', Ext H H' → Q (.bool (isN v)) H') : T_isname z0 vs Q z3 H
inductive T_isnumber (z0 : List Nat) (vs : List V) (Q : QV) (z3 : QX) (H : AH) : Prop
  | mk (v : V) (h0 : vs = [v]) (h1 : Served H v) (h2 : Q (.bool (isI v)) H) : T_isnumber z0 vs Q z3 H
inductive T_issize (z0 : List Nat) (vs : List V) (Q : QV) (z3 : QX) (H : AH) : Prop
  | mk (v : V) (h0 : vs = [v]) (h1 : Served H v) (h2 : Q (.bool (isZ v)) H) : T_issize z0 vs Q z3 H
inductive T_isstep (z0 : List Nat) (vs : List V) (Q : QV) (z3 : QX) (H : AH) : Prop
  | mk (v : V) (b : Bool) (h0 : vs = [v]) (h1 : StepSays H v b) (h2 : ∀ H', Ext H H' → Q (.bool b) H') : T_isstep z0 vs Q z3 H
noncomputable def Stp.parts : Stp → List V
  | .add x n => [.str x, .int n]
  | .drop a => [.str a]
  | .name a x => [.str a, .str x]
  | .shift a n => [.str a, .int n]
  | .turn a => [.str a]
  | .part a x y s => [.str a, .str x, .str y, .int s]
  | .join a b x s => [.str a, .str b, .str x, .int s]
noncomputable def Stp.okB (st : Stp) : Bool := stepF (tx st.word) st.parts
noncomputable def Stp.strs : Stp → List Str
  | .add x n => [x]
  | .drop a => [a]
  | .name a x => [a, x]
  | .shift a n => [a]
  | .turn a => [a]
  | .part a x y s => [a, x, y]
  | .join a b x s => [a, b, x]
theorem Stp.vs_eq (st : Stp) : st.vs = .str (tx st.word) :: st.parts := by cases st <;> rfl
theorem says_stp {H : AH} {p : Nat} {st : Stp} (hp : H.get p = some (.tuple st.vs)) (hs : ∀ s ∈ st.strs, s.length ≤ 1000) : StepSays H (.ref p) st.okB := by
  refine .step p (tx st.word) st.parts (by rw [← Stp.vs_eq]; exact hp) (fun x hx => ?_) (by cases st <;> simp [Stp.parts])
  cases st <;> simp only [Stp.parts, Stp.strs, List.mem_cons, List.not_mem_nil, or_false] at hx hs <;> rcases hx with rfl | hx <;> first | exact .str _ (hs _ (by simp)) | skip
  all_goals (first | (subst hx; first | exact .int _ | exact .str _ (hs _ (by simp))) | skip)
  all_goals (rcases hx with rfl | hx <;> first | exact .str _ (hs _ (by simp)) | skip)
  all_goals (rcases hx with rfl | rfl <;> first | exact .int _ | exact .str _ (hs _ (by simp)))
set_option tactic.hygienic true in
theorem okB_facts {st : Stp} (h : st.okB = true) : st.comes.Nodup ∧ st.goes.Nodup ∧ st.sizeOk := by
  cases st <;> simp only [Stp.okB, Stp.word, Stp.parts, Stp.comes, Stp.goes, Stp.sizeOk] at h ⊢ <;> try simp
  · rename_i a x y s
    have h2 : (isN (.str a) && ((isN (.str x) && isN (.str y) && isZ (.int s)) && decide (V.str x ≠ V.str y))) = true := h
    simp only [Bool.and_eq_true, isZ, decide_eq_true_eq] at h2
    exact ⟨fun e => h2.2.2 (by rw [e]), h2.2.1.2⟩
  · rename_i a b x s
    have h2 : (isN (.str a) && ((isN (.str b) && isN (.str x) && isZ (.int s)) && decide (V.str a ≠ V.str b))) = true := h
    simp only [Bool.and_eq_true, isZ, decide_eq_true_eq] at h2
    exact ⟨fun e => h2.2.2 (by rw [e]), h2.2.1.2⟩
theorem behind_inr {st : Stp} {ns fs : List Str} (h : behindF st ns = .inr fs) : (∀ a ∈ st.goes, a ∈ ns) ∧ (∀ x ∈ st.comes, x ∈ ns → x ∈ st.goes) ∧ (∀ n, n ∈ fs ↔ (n ∈ ns ∧ n ∉ st.goes) ∨ n ∈ st.comes) ∧ 1 ≤ fs.length ∧ fs.length ≤ 12 := by
  unfold behindF at h
  generalize hfs : foundOf st ns ++ (if st.isAdd then [st.fst] else []) = F at h
  split at h
  · rename_i h1
    split at h
    · rename_i h2
      split at h
      · rename_i h3
        injection h with h
        subst h
        subst hfs
        have hc : ∀ x ∈ st.comes, x ∈ ns → x ∈ st.goes := fun x hx hn => Classical.byContradiction fun hg => h2 x hx (mem_stays.mpr ⟨hn, hg⟩)
        refine ⟨h1, hc, fun n => ?_, h3.1, h3.2⟩
        unfold foundOf
        simp only [List.mem_append, List.mem_flatMap]
        rcases goes_fst (st := st) with hg | ⟨r, hg⟩
        · have ha := goes_add.mp hg
          rw [if_pos ha, add_comes ha]
          constructor
          · rintro (⟨m, hm, h⟩ | h)
            · rw [if_pos (mem_stays.mpr ⟨hm, by rw [hg]; simp⟩)] at h
              simp at h; subst h; exact .inl ⟨hm, by rw [hg]; simp⟩
            · exact .inr h
          · rintro (⟨hn, _⟩ | h)
            · exact .inl ⟨n, hn, by rw [if_pos (mem_stays.mpr ⟨hn, by rw [hg]; simp⟩)]; simp⟩
            · exact .inr h
        · have hna : st.isAdd = false := by
            cases q : st.isAdd with
            | false => rfl
            | true => rw [goes_add.mpr q] at hg; cases hg
          have hf : st.fst ∈ st.goes := by rw [hg]; simp
          rw [hna]
          constructor
          · rintro (⟨m, hm, h⟩ | h)
            · split at h
              · rename_i hs; simp at h; subst h; exact .inl (mem_stays.mp hs)
              · split at h
                · exact .inr h
                · cases h
            · simp at h
          · rintro (⟨hn, hg'⟩ | h)
            · exact .inl ⟨n, hn, by rw [if_pos (mem_stays.mpr ⟨hn, hg'⟩)]; simp⟩
            · refine .inl ⟨st.fst, h1 _ hf, ?_⟩
              rw [if_neg (fun hs => (mem_stays.mp hs).2 hf), if_pos rfl]; exact h
      · cases h
    · cases h
  · cases h
structure RowR where
  p : Nat
  n : Nat
  names : List Str
  src : Option (Nat × Nat × Stp)
noncomputable def RowR.vs (w : RowR) : List V := match w.src with | none => [.none, .none, .ref w.n] | some (e, sp, _) => [.int e, .ref sp, .ref w.n]
structure RowAt (H : AH) (w : RowR) : Prop where
  row : H.get w.p = some (.tuple w.vs)
  names : H.get w.n = some (.list (w.names.map V.str))
  step : ∀ e sp st, w.src = some (e, sp, st) → H.get sp = some (.tuple st.vs)
noncomputable abbrev OI := List (Int × Int)
noncomputable def oI (es : OI) : List (Int × V) := es.map fun p => (p.1, V.int p.2)
noncomputable abbrev onode (es : OI) : Node := .idict (oI es)
structure Bk where
  dx : Nat
  r : Nat
  k : Nat
  o : Nat
  rows : List RowR
  kept : List (Nat × DI)
  owns : List (Nat × OI)
noncomputable def Bk.mut (B : Bk) : List Nat := B.r :: B.k :: B.o :: B.owns.map (·.1)
structure BkAt (H : AH) (x : Nat) (B : Bk) : Prop where
  inst : H.get x = some (.inst B.dx)
  attrs : H.get B.dx = some (.attrs [some (.ref B.k), some (.ref B.o), some (.ref B.r)])
  rowsL : H.get B.r = some (.list (B.rows.map fun w => V.ref w.p))
  rows : ∀ w ∈ B.rows, RowAt H w
  keptL : H.get B.k = some (.list (B.kept.map fun w => V.ref w.1))
  kept : ∀ w ∈ B.kept, H.get w.1 = some (.sdict (dI w.2))
  ownsL : H.get B.o = some (.list (B.owns.map fun w => V.ref w.1))
  owns : ∀ w ∈ B.owns, H.get w.1 = some (onode w.2)
  nd : B.mut.Nodup
  nm : ∀ w ∈ B.rows, w.n ∉ B.mut
  kp : ∀ w ∈ B.kept, w.1 ∉ B.mut
noncomputable def ExtB (M : List Nat) (H H' : AH) : Prop := ∀ a n, a ∉ M → H.get a = some n → H'.get a = some n
theorem ExtB.of {M : List Nat} {H H' : AH} (h : Ext H H') : ExtB M H H' := fun a n _ e => h a n e
theorem ExtB.refl (M : List Nat) (H : AH) : ExtB M H H := fun _ _ _ e => e
theorem ExtB.trans {M : List Nat} {H H' H'' : AH} (h : ExtB M H H') (h' : ExtB M H' H'') : ExtB M H H'' := fun a n m e => h' a n m (h a n m e)
theorem ExtB.set {M : List Nat} {H H' : AH} {a : Nat} {n : Node} (h : ExtB M H H') (ha : a ∈ M ∨ H.get a = none) : ExtB M H (H'.set a n) := fun b m hb e => by
  rw [AH.set_ne]
  · exact h b m hb e
  · rintro rfl
    rcases ha with ha | ha
    · exact hb ha
    · rw [ha] at e; cases e
theorem onode_kind (es : OI) : (∀ xs, onode es ≠ .tuple xs) ∧ (∀ xs, onode es ≠ .list xs) ∧ (∀ d, onode es ≠ .inst d) ∧ ∀ l, onode es ≠ .attrs l := by
  simp [onode]
section
variable {H H' : AH} {x : Nat} {B : Bk}
theorem BkAt.mutN (b : BkAt H x B) {a : Nat} (h : a ∈ B.mut) : (∃ xs, H.get a = some (.list xs)) ∨ ∃ es, H.get a = some (onode es) := by
  unfold Bk.mut at h
  rcases List.mem_cons.mp h with rfl | h
  · exact .inl ⟨_, b.rowsL⟩
  rcases List.mem_cons.mp h with rfl | h
  · exact .inl ⟨_, b.keptL⟩
  rcases List.mem_cons.mp h with rfl | h
  · exact .inl ⟨_, b.ownsL⟩
  obtain ⟨w, hw, rfl⟩ := List.mem_map.mp h
  exact .inr ⟨_, b.owns w hw⟩
theorem BkAt.xOut (b : BkAt H x B) : x ∉ B.mut := fun h => by
  rcases b.mutN h with ⟨xs, e⟩ | ⟨es, e⟩ <;> rw [b.inst] at e
  · cases e
  · injection e with e; exact (onode_kind es).2.2.1 _ e.symm
theorem BkAt.dOut (b : BkAt H x B) : B.dx ∉ B.mut := fun h => by
  rcases b.mutN h with ⟨xs, e⟩ | ⟨es, e⟩ <;> rw [b.attrs] at e
  · cases e
  · injection e with e; exact (onode_kind es).2.2.2 _ e.symm
theorem BkAt.tOut (b : BkAt H x B) {p : Nat} {xs : List V} (hp : H.get p = some (.tuple xs)) : p ∉ B.mut := fun h => by
  rcases b.mutN h with ⟨xs, e⟩ | ⟨es, e⟩ <;> rw [hp] at e
  · cases e
  · injection e with e; exact (onode_kind es).1 _ e.symm
theorem RowAt.extB (b : BkAt H x B) (e : ExtB B.mut H H') {w : RowR} (hw : w ∈ B.rows) : RowAt H' w :=
  have r := b.rows w hw
  ⟨e _ _ (b.tOut r.row) r.row, e _ _ (b.nm w hw) r.names, fun f sp st hs => e _ _ (b.tOut (r.step f sp st hs)) (r.step f sp st hs)⟩
theorem RowAt.ext {w : RowR} (r : RowAt H w) (e : Ext H H') : RowAt H' w := ⟨e _ _ r.row, e _ _ r.names, fun f sp st hs => e _ _ (r.step f sp st hs)⟩
theorem BkAt.ext (b : BkAt H x B) (e : Ext H H') : BkAt H' x B :=
  ⟨e _ _ b.inst, e _ _ b.attrs, e _ _ b.rowsL, fun w hw => (b.rows w hw).ext e, e _ _ b.keptL, fun w hw => e _ _ (b.kept w hw), e _ _ b.ownsL, fun w hw => e _ _ (b.owns w hw), b.nd, b.nm, b.kp⟩
end
noncomputable def numOk (n : Nat) : V → Bool
  | .int i => decide (0 ≤ i) && decide (i < n)
  | _ => false
structure RowOk (rows : List RowR) (i : Nat) (w : RowR) : Prop where
  few : w.names.length ≤ 12
  src : match w.src with | none => i = 0 | some (e, _, st) => e < i ∧ st.okB = true ∧ ∃ we, rows[e]? = some we ∧ behindF st we.names = .inr w.names
structure Bk.Ok (B : Bk) : Prop where
  rows : ∀ (i : Nat) w, B.rows[i]? = some w → RowOk B.rows i w
  few : B.rows.length ≤ 30
  first : ∃ w, B.rows[0]? = some w ∧ ∀ q ∈ B.kept, (keys q.2).Nodup ∧ ∀ n, n ∈ keys q.2 ↔ n ∈ w.names
  same : B.kept.length = B.owns.length
  many : B.kept.length ≤ 1000
  own : ∀ q ∈ B.owns, q.2.length ≤ 1000
inductive T_needform (z0 : List Nat) (vs : List V) (Q : QV) (X : QX) (H : AH) : Prop
  | mk (x : Nat) (B : Bk) (v : V) (h0 : vs = [.ref x, v]) (h1 : BkAt H x B) (h2 : Served H v) (h3 : (if numOk B.rows.length v = true then Q .none H else X 6 H)) : T_needform z0 vs Q X H
inductive T_forms (z0 : List Nat) (vs : List V) (Q : QV) (X : QX) (H : AH) : Prop
  | mk (x : Nat) (B : Bk) (h0 : vs = [.ref x]) (h1 : BkAt H x B) (h2 : Q (.int B.rows.length) H) : T_forms z0 vs Q X H
end Mine
namespace Mine
open PySem PySem.Calls PySem.SeqAt PySem.W PyProof.Rows
noncomputable def pO (es : OI) (k : Int) (n : Int) : OI := if es.any (fun p => p.1 = k) then es.map (fun p => if p.1 = k then (p.1, n) else p) else es ++ [(k, n)]
theorem dput_oI (es : OI) (k : Int) (n : Int) : dput (oI es) k (.int n) = oI (pO es k n) := by
  unfold dput oI pO
  have e : (es.map fun p => (p.1, V.int p.2)).any (fun p => decide (p.1 = k)) = es.any (fun p => decide (p.1 = k)) := by rw [List.any_map]; rfl
  rw [e]
  split
  · rw [List.map_map, List.map_map]
    apply List.map_congr_left
    intro p _
    by_cases h : p.1 = k <;> simp [h]
  · simp
theorem pO_length (es : OI) (k n : Int) : (pO es k n).length ≤ es.length + 1 := by unfold pO; split <;> simp
theorem oI_length (es : OI) : (oI es).length = es.length := by simp [oI]
noncomputable def Stp.num : Stp → Option Int
  | .add _ c => some c
  | _ => none
noncomputable def Bk.grown (B : Bk) (e sp : Nat) (st : Stp) (names : List Str) (p n : Nat) : Bk :=
  { B with rows := B.rows ++ [⟨p, n, names, some (e, sp, st)⟩], owns := match st.num with | some c => B.owns.map (fun w => (w.1, pO w.2 (B.rows.length : Nat) c)) | none => B.owns }
theorem grown_mut (B : Bk) (e sp : Nat) (st : Stp) (names : List Str) (p n : Nat) : (B.grown e sp st names p n).mut = B.mut := by
  unfold Bk.grown Bk.mut
  cases st.num <;> simp
theorem grown_rows (B : Bk) (e sp : Nat) (st : Stp) (names : List Str) (p n : Nat) : (B.grown e sp st names p n).rows.length = B.rows.length + 1 := by simp [Bk.grown]
theorem RowOk.more {rows more : List RowR} {i : Nat} {w : RowR} (h : RowOk rows i w) : RowOk (rows ++ more) i w := by
  refine ⟨h.few, ?_⟩
  have := h.src
  cases q : w.src with
  | none => rw [q] at this; exact this
  | some t =>
    obtain ⟨e, sp, st⟩ := t
    rw [q] at this
    obtain ⟨h1, h2, we, h3, h4⟩ := this
    exact ⟨h1, h2, we, by rw [List.getElem?_append_left (List.getElem?_eq_some_iff.mp h3).1]; exact h3, h4⟩
theorem Bk.Ok.grown {B : Bk} (ok : B.Ok) {e sp : Nat} {st : Stp} {fs : List Str} {p n : Nat} {w : RowR} (hw : B.rows[e]? = some w) (hs : st.okB = true) (hb : behindF st w.names = .inr fs) (hf : B.rows.length < 30) (ho : ∀ q ∈ B.owns, q.2.length < 900) : (B.grown e sp st fs p n).Ok := by
  have he := (List.getElem?_eq_some_iff.mp hw).1
  refine ⟨fun i v hv => ?_, by rw [grown_rows]; exact hf, ?_, ?_, ok.many, fun q hq => ?_⟩
  · have hv : (B.rows ++ [⟨p, n, fs, some (e, sp, st)⟩])[i]? = some v := hv
    by_cases hi : i < B.rows.length
    · rw [List.getElem?_append_left hi] at hv
      exact (ok.rows i v hv).more
    · rw [List.getElem?_append_right (Nat.le_of_not_lt hi)] at hv
      have h0 : i - B.rows.length = 0 := by
        cases q : i - B.rows.length with
        | zero => rfl
        | succ m => rw [q] at hv; simp at hv
      rw [h0] at hv
      simp at hv
      subst hv
      refine ⟨(behind_inr hb).2.2.2.2, ?_⟩
      exact ⟨Nat.lt_of_lt_of_le he (Nat.le_of_not_lt hi), hs, w, by show (B.rows ++ _)[e]? = _; rw [List.getElem?_append_left he]; exact hw, hb⟩
  · obtain ⟨w0, h0, h1⟩ := ok.first
    exact ⟨w0, by show (B.rows ++ _)[0]? = _; rw [List.getElem?_append_left (List.getElem?_eq_some_iff.mp h0).1]; exact h0, h1⟩
  · show B.kept.length = (match st.num with | some c => B.owns.map (fun (w : Nat × OI) => (w.1, pO w.2 (B.rows.length : Nat) c)) | none => B.owns).length
    rw [ok.same]
    cases st.num <;> simp
  · have hq : q ∈ (match st.num with | some c => B.owns.map (fun (w : Nat × OI) => (w.1, pO w.2 (B.rows.length : Nat) c)) | none => B.owns) := hq
    cases hn : st.num with
    | none => rw [hn] at hq; exact ok.own q hq
    | some c =>
      rw [hn] at hq
      obtain ⟨u, hu, rfl⟩ := List.mem_map.mp hq
      show (pO u.2 (B.rows.length : Nat) c).length ≤ 1000
      exact Nat.le_trans (pO_length ..) (Nat.le_trans (ho u hu) (by decide))
inductive GrowHow (fz : List Nat) (x : Nat) (B : Bk) (Q : QV) (X : QX) (H : AH) : V → V → Prop
  | noform (v u : V) : numOk B.rows.length v = false → X 6 H → GrowHow fz x B Q X H v u
  | nostep (v u : V) : numOk B.rows.length v = true → StepSays H u false → (∀ H', Ext H H' → X 5 H') → GrowHow fz x B Q X H v u
  | step (e sp : Nat) (w : RowR) (st : Stp) : B.rows[e]? = some w → H.get sp = some (.tuple st.vs) → (∀ s ∈ st.strs, s.length ≤ 1000) → st.okB = true →
      (match behindF st w.names with
        | .inl i => ∀ H', Ext H H' → X i H'
        | .inr fs => if 30 ≤ B.rows.length then ∀ H', Ext H H' → X 8 H' else ∀ H' p n, H.get p = none → H.get n = none → ExtB B.mut H H' → BkAt H' x (B.grown e sp st fs p n) → Q (.int B.rows.length) H') → GrowHow fz x B Q X H (.int e) (.ref sp)
inductive T_grow (fz : List Nat) (vs : List V) (Q : QV) (X : QX) (H : AH) : Prop
  | mk (x : Nat) (B : Bk) (v : V) (u : V) (h0 : vs = [.ref x, v, u]) (h1 : BkAt H x B) (h2 : B.Ok) (h3 : Served H v) (h4 : (∀ a ∈ B.mut, a ∉ fz)) (h5 : GrowHow fz x B Q X H v u) : T_grow fz vs Q X H
noncomputable def initF (xs : List V) : Nat ⊕ List Str :=
  if 1 ≤ xs.length ∧ xs.length ≤ 12 then (if xs.all isN = true then (if (xs.filterMap strOf).Nodup then .inr (xs.filterMap strOf) else .inl 2) else .inl 4) else .inl 3
where strOf : V → Option Str
  | .str s => some s
  | _ => none
noncomputable def Bk.new (dx r k o p n : Nat) (ns : List Str) : Bk := ⟨dx, r, k, o, [⟨p, n, ns, none⟩], [], []⟩
theorem new_ok {dx r k o p n : Nat} {ns : List Str} (h : ns.length ≤ 12) : (Bk.new dx r k o p n ns).Ok := by
  refine ⟨fun i w hw => ?_, by simp [Bk.new], ⟨_, rfl, fun q hq => (by cases hq)⟩, rfl, by simp [Bk.new], fun q hq => (by cases hq)⟩
  cases i with
  | zero => simp [Bk.new] at hw; subst hw; exact ⟨h, rfl⟩
  | succ i => simp [Bk.new] at hw
inductive T_init (fz : List Nat) (vs : List V) (Q : QV) (X : QX) (H : AH) : Prop
  | mk (x : Nat) (dx : Nat) (l : Nat) (xs : List V) (h0 : vs = [.ref x, .ref l]) (h1 : H.get x = some (.inst dx)) (h2 : H.get dx = some (.attrs [none, none, none])) (h3 : dx ∉ fz) (h4 : H.get l = some (.list xs)) (h5 : (∀ v ∈ xs, Served H v)) (h6 : (match initF xs with | .inl i => ∀ H', Ext H H' → X i H' | .inr ns => ∀ H' r k o p n, H.get r = none → H.get k = none → H.get o = none → H.get p = none → H.get n = none → r ∉ fz → k ∉ fz → o ∉ fz → ExtB [dx] H H' → BkAt H' x (Bk.new dx r k o p n ns) → Q .none H')) : T_init fz vs Q X H
inductive T_book (fz : List Nat) (vs : List V) (Q : QV) (X : QX) (H : AH) : Prop
  | mk (l : Nat) (xs : List V) (h0 : vs = [.ref l]) (h1 : H.get l = some (.list xs)) (h2 : (∀ v ∈ xs, Served H v)) (h3 : (match initF xs with | .inl i => ∀ H', Ext H H' → X i H' | .inr ns => ∀ H' x B, Ext H H' → H.get x = none → (∀ a ∈ B.mut, H.get a = none ∧ a ∉ fz) → BkAt H' x B → B.Ok → (∃ dx r k o p n, B = Bk.new dx r k o p n ns) → Q (.ref x) H')) : T_book fz vs Q X H
theorem new_book {C : Cx} {d : Nat} {f : Value} (h3 : C.ats.length = 3) (h : Meets C d true f (T_new C.ats.length T_init)) : Meets C d true f T_book := by
  intro fz vs Q X H hT
  refine h fz vs Q X H ?_
  rw [h3]
  obtain ⟨l, xs, rfl, hl, hs, hT⟩ := hT
  intro x dx hne hx hdx hxf hdf
  have e0 : Ext H ((H.set x (.inst dx)).set dx (.attrs [none, none, none])) := (Ext.new hx).set hdx
  refine ⟨x, dx, l, xs, rfl, by rw [AH.set_ne _ _ hne, AH.set_self], AH.set_self .., hdf, e0 _ _ hl, fun v hv => (hs v hv).ext e0, ?_⟩
  cases q : initF xs with
  | inl i => rw [q] at hT; exact fun H' e => hT H' (e0.trans e)
  | inr ns =>
    rw [q] at hT
    intro H' r k o p n hr hk ho hp hn rf kf of e b
    have hlen : ns.length ≤ 12 := by
      unfold initF at q
      split at q
      · rename_i hl
        split at q
        · split at q
          · injection q with q; subst q
            exact Nat.le_trans (List.length_filterMap_le ..) hl.2
          · cases q
        · cases q
      · cases q
    refine ⟨rfl, hT H' x _ (fun a nd ha => ?_) hx (fun a ha => ?_) b (new_ok hlen) ⟨dx, r, k, o, p, n, rfl⟩⟩
    · refine e a nd ?_ (e0 a nd ha)
      simp only [List.mem_singleton]
      rintro rfl
      rw [hdx] at ha; cases ha
    · simp only [Bk.new, Bk.mut, List.map_nil, List.mem_cons, List.not_mem_nil, or_false] at ha
      rcases ha with rfl | rfl | rfl
      · exact ⟨e0.none hr, rf⟩
      · exact ⟨e0.none hk, kf⟩
      · exact ⟨e0.none ho, of⟩
end Mine
namespace Mine
open PySem PySem.Calls PySem.SeqAt PySem.W PyProof.Rows
theorem forO {ρ : Ev} {body : V → V → PS → Ev → AH → Prop} {N : Ev → AH → Prop} {R : PS} {v : V} {H : AH} (xs : List V) (J : Nat → Ev → AH → Prop) (hx : ItemsV H v xs) (j0 : J 0 ρ H)
    (turn : ∀ (R' : PS) (k : Nat) y ρ' H', xs[k]? = some y → J k ρ' H' → (∀ ρ H, J (k + 1) ρ H → R' .next ρ H) → body v y R' ρ' H') (fin : ∀ ρ' H', J xs.length ρ' H' → N ρ' H') : forG ρ body (thenR N R) v H :=
  ⟨xs, hx, J, j0, fun k y ρ' H' hy hJ => turn _ k y ρ' H' hy hJ fun _ _ h => h, fin⟩
theorem try_of {b hs r : CS} {K : KK} {X : XS} {R : PS} {ρ : Ev} {H : AH} (P : Nat → Ev → AH → Prop)
    (h : ∀ (X' : XS) (N : PS), (∀ i ρ' H', P i ρ' H' → X' i ρ' H') → (∀ ρ H, Nx (wS r K X R ρ H) → N .next ρ H) → wS b K X' N ρ H)
    (hh : ∀ i ρ' H' (N : PS), P i ρ' H' → (∀ ρ H, Nx (wS r K X R ρ H) → N .next ρ H) → wH hs K N i ρ' H') : wS (.try_ b hs r) K X R ρ H :=
  h _ _ (fun i ρ' H' p => hh i ρ' H' _ p fun _ _ q => q) fun _ _ q => q
theorem found_perm {st : Stp} {ns : List Str} (nd : ns.Nodup) (hg : ∀ a ∈ st.goes, a ∈ ns) : (foundOf st ns ++ (if st.isAdd then [st.fst] else [])).Perm (staysOf st ns ++ st.comes) := by
  rcases goes_fst (st := st) with h | ⟨r, h⟩
  · have ha := goes_add.mp h
    have hs : staysOf st ns = ns := by unfold staysOf; rw [h]; simp
    have hf : foundOf st ns = ns := by
      unfold foundOf
      rw [hs]
      have : ∀ l : List Str, (∀ n ∈ l, n ∈ ns) → l.flatMap (fun n => if n ∈ ns then [n] else if n = st.fst then st.comes else []) = l := by
        intro l
        induction l with
        | nil => intro _; rfl
        | cons a l ih => intro hl; rw [List.flatMap_cons, ih fun m hm => hl m (List.mem_cons_of_mem _ hm), if_pos (hl a (by simp))]; rfl
      exact this ns fun n h => h
    rw [hs, hf, ha, add_comes ha]; exact .refl _
  · have hna : st.isAdd = false := by
      cases q : st.isAdd with
      | false => rfl
      | true => rw [goes_add.mpr q] at h; cases h
    have hm : st.fst ∈ ns := hg _ (by rw [h]; simp)
    have hS : st.fst ∉ staysOf st ns := fun q => (mem_stays.mp q).2 (by rw [h]; simp)
    have e : (ns.filter fun n => decide (n ∈ staysOf st ns)) = staysOf st ns := List.filter_congr fun x hx => by simp [mem_stays, hx]
    rw [hna]
    show (foundOf st ns ++ []).Perm _
    rw [List.append_nil]
    unfold foundOf
    rw [found_split nd hm hS]
    conv => rhs; rw [← e, ← List.take_append_drop (ns.idxOf st.fst) ns]
    rw [List.filter_append, List.take_append_drop, List.append_assoc, List.append_assoc]
    exact List.Perm.append_left _ List.perm_append_comm
theorem isN_len {s : Str} (h : isN (.str s) = true) : s.length ≤ 1000 := by
  unfold isN at h
  simp only [Bool.and_eq_true, decide_eq_true_eq] at h
  omega
set_option tactic.hygienic true in
theorem okB_isN {st : Stp} (h : st.okB = true) : ∀ s ∈ st.strs, isN (.str s) = true := by
  cases st <;> simp only [Stp.okB, Stp.word, Stp.parts, Stp.strs, List.mem_cons, List.not_mem_nil, or_false] at h ⊢
  · have h2 : (isN _ && _) = true := h
    rintro s rfl; exact (Bool.and_eq_true_iff.mp h2).1
  · have h2 : (isN _ && _) = true := h
    rintro s rfl; exact (Bool.and_eq_true_iff.mp h2).1
  · rename_i a x
    have h2 : (isN (.str a) && isN (.str x)) = true := h
    have h2 := Bool.and_eq_true_iff.mp h2
    rintro s (rfl | rfl)
    · exact h2.1
    · exact h2.2
  · have h2 : (isN _ && _) = true := h
    rintro s rfl; exact (Bool.and_eq_true_iff.mp h2).1
  · have h2 : (isN _ && _) = true := h
    rintro s rfl; exact (Bool.and_eq_true_iff.mp h2).1
  · rename_i a x y z
    have h2 : (isN (.str a) && ((isN (.str x) && isN (.str y) && _) && _)) = true := h
    simp only [Bool.and_eq_true] at h2
    rintro s (rfl | rfl | rfl)
    · exact h2.1
    · exact h2.2.1.1.1
    · exact h2.2.1.1.2
  · rename_i a x y z
    have h2 : (isN (.str a) && ((isN (.str x) && isN (.str y) && _) && _)) = true := h
    simp only [Bool.and_eq_true] at h2
    rintro s (rfl | rfl | rfl)
    · exact h2.1
    · exact h2.2.1.1.1
    · exact h2.2.1.1.2
set_option tactic.hygienic true in
theorem okB_strs {st : Stp} (h : st.okB = true) : ∀ s ∈ st.strs, s.length ≤ 1000 := fun s hs => isN_len (okB_isN h s hs)
theorem ltr_abc (i : Int) : ltr i ∈ abc.cps.toList := by
  obtain ⟨h1, h2⟩ := fmod26 i
  unfold ltr
  have hj : (i.fmod 26).toNat < 26 := by omega
  generalize (i.fmod 26).toNat = j at hj
  have : ∀ j : Fin 26, 97 + j.val ∈ abc.cps.toList := by decide +kernel
  exact this ⟨j, hj⟩
theorem fmodN (c : Int) {n : Nat} (h : 0 < n) : ∃ N : Nat, c.fmod (n : Int) = (N : Nat) ∧ N < n := by
  obtain ⟨N, hN⟩ := Int.eq_ofNat_of_zero_le (fm0 c (b := (n : Int)) (Int.ofNat_lt.mpr h))
  exact ⟨N, hN, Int.ofNat_lt.mp (hN ▸ fmlt c (b := (n : Int)) (Int.ofNat_lt.mpr h))⟩
theorem pool_ab (c : Int) : ∃ a b : Nat, (c.fdiv 52).fmod 8 = (a : Nat) ∧ (c.fdiv 416).fmod (8 - (c.fdiv 52).fmod 8) = (b : Nat) ∧ a + b < 8 := by
  obtain ⟨a, ha, a8⟩ := fmodN (c.fdiv 52) (n := 8) (by decide)
  obtain ⟨b, hb, b8⟩ := fmodN (c.fdiv 416) (n := 8 - a) (Nat.sub_pos_of_lt a8)
  refine ⟨a, b, ha, ?_, Nat.add_lt_of_lt_sub' b8⟩
  rw [show (c.fdiv 52).fmod 8 = (a : Nat) from ha, show (8 : Int) - (a : Nat) = ((8 - a : Nat) : Int) from (Int.ofNat_sub (Nat.le_of_lt a8)).symm]
  exact hb
theorem pool_isN {c : Int} {s : Str} (h : s ∈ poolOf c) : isN (.str s) = true := by
  unfold poolOf at h
  obtain ⟨k, hk, rfl⟩ := List.mem_map.mp h
  have hl : 1 ≤ (wordL c (k : Nat)).length ∧ (wordL c (k : Nat)).length ≤ 8 ∧ ∀ x ∈ wordL c (k : Nat), x ∈ abc.cps.toList := by
    unfold wordL
    split
    · obtain ⟨N, hN, N8⟩ := fmodN (k : Int) (n := 8) (by decide)
      rw [List.length_map, List.length_range, show (k : Int).fmod 8 = (N : Nat) from hN, show (1 : Int) + (N : Nat) = ((1 + N : Nat) : Int) from rfl, Int.toNat_natCast]
      refine ⟨Nat.le_add_right .., by rw [Nat.add_comm]; exact N8, fun x hx => ?_⟩
      obtain ⟨_, _, rfl⟩ := List.mem_map.mp hx
      exact ltr_abc _
    · obtain ⟨a, b, ha, hb, ab⟩ := pool_ab c
      rw [hb, ha, Int.toNat_natCast, Int.toNat_natCast]
      simp only [List.length_append, List.length_replicate, List.length_cons, List.length_nil]
      refine ⟨Nat.le_trans (Nat.le_add_left 1 a) (Nat.le_add_right ..), by rw [Nat.add_right_comm]; exact ab, fun x hx => ?_⟩
      simp only [List.mem_append, List.mem_replicate, List.mem_singleton] at hx
      rcases hx with (⟨_, rfl⟩ | rfl) | ⟨_, rfl⟩ <;> exact ltr_abc _
  show (decide (1 ≤ (tx _).length) && decide ((tx _).length ≤ 8) && _) = true
  rw [tx_length]
  simp only [Bool.and_eq_true, decide_eq_true_eq, List.all_eq_true]
  exact ⟨⟨hl.1, hl.2.1⟩, hl.2.2⟩
inductive Bk.In (x : Nat) (B : Bk) : Nat → Prop
  | x : Bk.In x B x
  | dx : Bk.In x B B.dx
  | r : Bk.In x B B.r
  | k : Bk.In x B B.k
  | o : Bk.In x B B.o
  | kept (w : Nat × DI) (h : w ∈ B.kept) : Bk.In x B w.1
  | owns (w : Nat × OI) (h : w ∈ B.owns) : Bk.In x B w.1
  | p (w : RowR) (h : w ∈ B.rows) : Bk.In x B w.p
  | n (w : RowR) (h : w ∈ B.rows) : Bk.In x B w.n
  | sp (w : RowR) (h : w ∈ B.rows) (e sp : Nat) (st : Stp) (hs : w.src = some (e, sp, st)) : Bk.In x B sp
theorem BkAt.over {H H' : AH} {x : Nat} {B : Bk} (b : BkAt H x B) (h : ∀ a n, B.In x a → H.get a = some n → H'.get a = some n) : BkAt H' x B :=
  ⟨h _ _ .x b.inst, h _ _ .dx b.attrs, h _ _ .r b.rowsL, fun w hw => ⟨h _ _ (.p w hw) (b.rows w hw).row, h _ _ (.n w hw) (b.rows w hw).names, fun e sp st hs => h _ _ (.sp w hw e sp st hs) ((b.rows w hw).step e sp st hs)⟩,
    h _ _ .k b.keptL, fun w hw => h _ _ (.kept w hw) (b.kept w hw), h _ _ .o b.ownsL, fun w hw => h _ _ (.owns w hw) (b.owns w hw), b.nd, b.nm, b.kp⟩
theorem BkAt.dom {H : AH} {x : Nat} {B : Bk} (b : BkAt H x B) {a : Nat} (h : B.In x a) : H.get a ≠ none := by
  cases h with
  | x => rw [b.inst]; simp
  | dx => rw [b.attrs]; simp
  | r => rw [b.rowsL]; simp
  | k => rw [b.keptL]; simp
  | o => rw [b.ownsL]; simp
  | kept w h => rw [b.kept w h]; simp
  | owns w h => rw [b.owns w h]; simp
  | p w h => rw [(b.rows w h).row]; simp
  | n w h => rw [(b.rows w h).names]; simp
  | sp w h e sp st hs => rw [(b.rows w h).step e _ st hs]; simp
theorem In_mut {x : Nat} {B : Bk} {a : Nat} (h : a ∈ B.mut) : B.In x a := by
  unfold Bk.mut at h
  rcases List.mem_cons.mp h with rfl | h
  · exact .r
  rcases List.mem_cons.mp h with rfl | h
  · exact .k
  rcases List.mem_cons.mp h with rfl | h
  · exact .o
  obtain ⟨w, hw, rfl⟩ := List.mem_map.mp h
  exact .owns w hw
theorem grown_in {x : Nat} {B : Bk} {e sp p n : Nat} {st : Stp} {fs : List Str} {a : Nat} (h : (B.grown e sp st fs p n).In x a) : B.In x a ∨ a = p ∨ a = n ∨ a = sp := by
  cases h with
  | x => exact .inl .x
  | dx => exact .inl .dx
  | r => exact .inl .r
  | k => exact .inl .k
  | o => exact .inl .o
  | kept w h => exact .inl (.kept w h)
  | owns w h =>
    have h : w ∈ (match st.num with | some c => B.owns.map (fun (w : Nat × OI) => (w.1, pO w.2 (B.rows.length : Nat) c)) | none => B.owns) := h
    cases q : st.num with
    | none => rw [q] at h; exact .inl (.owns w h)
    | some c => rw [q] at h; obtain ⟨v, hv, rfl⟩ := List.mem_map.mp h; exact .inl (.owns v hv)
  | p w h =>
    rcases List.mem_append.mp h with h | h
    · exact .inl (.p w h)
    · rw [List.mem_singleton.mp h]; exact .inr (.inl rfl)
  | n w h =>
    rcases List.mem_append.mp h with h | h
    · exact .inl (.n w h)
    · rw [List.mem_singleton.mp h]; exact .inr (.inr (.inl rfl))
  | sp w h e sp st hs =>
    rcases List.mem_append.mp h with h | h
    · exact .inl (.sp w h e _ st hs)
    · rw [List.mem_singleton.mp h] at hs; cases hs; exact .inr (.inr (.inr rfl))
inductive T_book7 (fz : List Nat) (vs : List V) (Q : QV) (X : QX) (H : AH) : Prop
  | mk (l : Nat) (xs : List V) (ns : List Str) (h0 : vs = [.ref l]) (h1 : H.get l = some (.list xs)) (h2 : (∀ v ∈ xs, Served H v)) (h3 : initF xs = .inr ns) (h4 : ∀ H' x B, Ext H H' → (∀ a, B.In x a → H.get a = none) → (∀ a ∈ B.mut, a ∉ fz) → BkAt H' x B → B.Ok → (∃ dx r k o p n, B = Bk.new dx r k o p n ns) → Q (.ref x) H') : T_book7 fz vs Q X H
theorem new_book7 {C : Cx} {d : Nat} {f : Value} (h3 : C.ats.length = 3) (h : Meets C d true f (T_new C.ats.length T_init)) : Meets C d true f T_book7 := by
  intro fz vs Q X H hT
  refine h fz vs Q X H ?_
  rw [h3]
  obtain ⟨l, xs, ns, rfl, hl, hs, q, hT⟩ := hT
  intro x dx hne hx hdx hxf hdf
  have e0 : Ext H ((H.set x (.inst dx)).set dx (.attrs [none, none, none])) := (Ext.new hx).set hdx
  refine ⟨x, dx, l, xs, rfl, by rw [AH.set_ne _ _ hne, AH.set_self], AH.set_self .., hdf, e0 _ _ hl, fun v hv => (hs v hv).ext e0, ?_⟩
  rw [q]
  intro H' r k o p n hr hk ho hp hn rf kf of e b
  have hlen : ns.length ≤ 12 := by
    unfold initF at q
    split at q
    · rename_i hl
      split at q
      · split at q
        · injection q with q; subst q
          exact Nat.le_trans (List.length_filterMap_le ..) hl.2
        · cases q
      · cases q
    · cases q
  refine ⟨rfl, hT H' x _ (fun a nd ha => ?_) (fun a ha => ?_) (fun a ha => ?_) b (new_ok hlen) ⟨dx, r, k, o, p, n, rfl⟩⟩
  · refine e a nd ?_ (e0 a nd ha)
    simp only [List.mem_singleton]
    rintro rfl
    rw [hdx] at ha; cases ha
  · cases ha with
    | x => exact hx
    | dx => exact hdx
    | r => exact e0.none hr
    | k => exact e0.none hk
    | o => exact e0.none ho
    | kept w h => cases h
    | owns w h => cases h
    | p w h => rw [List.mem_singleton.mp h]; exact e0.none hp
    | n w h => rw [List.mem_singleton.mp h]; exact e0.none hn
    | sp w h e sp st hs => rw [List.mem_singleton.mp h] at hs; cases hs
  · simp only [Bk.new, Bk.mut, List.map_nil, List.mem_cons, List.not_mem_nil, or_false] at ha
    rcases ha with rfl | rfl | rfl
    · exact rf
    · exact kf
    · exact of
noncomputable abbrev wForm : Str := tx [102,111,114,109]
end Mine
namespace Mine
open PySem PySem.Calls PySem.SeqAt PySem.W PyProof.Rows
noncomputable abbrev wField : Str := tx [102,105,101,108,100]
noncomputable abbrev wTaken : Str := tx [116,97,107,101,110]
noncomputable abbrev wNone : Str := tx [110,111,110,101]
noncomputable abbrev wMany : Str := tx [109,97,110,121]
noncomputable abbrev wStep : Str := tx [115,116,101,112]
noncomputable abbrev wNo : Str := tx [110,111]
noncomputable def wordOf : Nat → Str
  | 1 => wField
  | 2 => wTaken
  | 3 => wForm
  | 4 => tName
  | 5 => wStep
  | 6 => wNone
  | 8 => wMany
  | _ => wNo
inductive T_word (fz : List Nat) (vs : List V) (Q : QV) (X : QX) (H : AH) : Prop
  | mk (p i : Nat) (h0 : vs = [.ref p]) (h1 : H.get p = some (.exc i)) (h2 : i < 9) (h3 : ∀ H', Ext H H' → Q (.str (wordOf i)) H') : T_word fz vs Q X H
inductive T_sides (fz : List Nat) (vs : List V) (Q : QV) (X : QX) (H : AH) : Prop
  | mk (p : Nat) (st : Stp) (h0 : vs = [.ref p]) (h1 : H.get p = some (.tuple st.vs))
    (h2 : ∀ H' t g c, Ext H H' → H'.get t = some (.tuple [.ref g, .ref c]) → H'.get g = some (.list (st.goes.map V.str)) → H'.get c = some (.list (st.comes.map V.str)) → Q (.ref t) H') : T_sides fz vs Q X H
inductive T_lbehind (fz : List Nat) (vs : List V) (Q : QV) (X : QX) (H : AH) : Prop
  | mk (p q : Nat) (st : Stp) (ns : List Str) (h0 : vs = [.ref p, .ref q]) (h1 : H.get p = some (.tuple st.vs)) (h2 : H.get q = some (.list (ns.map V.str))) (h3 : ns.length ≤ 100) (h4 : ns.Nodup)
    (h5 : (match behindF st ns with | .inl i => ∀ H', Ext H H' → Q (.str (wordOf i)) H' | .inr fs => gives fz (.list (fs.map V.str)) Q H)) : T_lbehind fz vs Q X H
inductive T_step6 (fz : List Nat) (vs : List V) (Q : QV) (X : QX) (H : AH) : Prop
  | mk (c m : Int) (p q : Nat) (b : Int) (ns : List Str) (h0 : vs = [.int c, .int m, .ref p, .ref q]) (h1 : H.get p = some (.list ((poolOf b).map V.str))) (h2 : H.get q = some (.list (ns.map V.str))) (h3 : 1 ≤ ns.length ∧ ns.length ≤ 12) (h4 : ∀ s ∈ ns, isN (.str s) = true)
    (h5 : ∀ H' a (st : Stp), Ext H H' → H.get a = none → H'.get a = some (.tuple st.vs) → st.okB = true → Q (.ref a) H') : T_step6 fz vs Q X H
inductive T_odd (fz : List Nat) (vs : List V) (Q : QV) (X : QX) (H : AH) : Prop
  | mk (c : Int) (p : Nat) (st : Stp) (h0 : vs = [.int c, .ref p]) (h1 : H.get p = some (.tuple st.vs)) (h2 : st.okB = true) (h3 : ∀ H' v, Ext H H' → StepSays H' v false → Q v H') : T_odd fz vs Q X H
noncomputable def xWord (Q : QV) : QX := fun i H => i < 9 ∧ ∀ H', Ext H H' → Q (.str (wordOf i)) H'
inductive T_book6 (fz : List Nat) (vs : List V) (Q : QV) (X : QX) (H : AH) : Prop
  | mk (l : Nat) (xs : List V) (h0 : vs = [.ref l]) (h1 : H.get l = some (.list xs)) (h2 : (∀ v ∈ xs, Served H v)) (h3 : (match initF xs with | .inl i => ∀ H', Ext H H' → X i H' | .inr ns => ∀ H' x B, Ext H H' → (∀ a, B.In x a → H.get a = none) → (∀ a ∈ B.mut, a ∉ fz) → BkAt H' x B → B.Ok → (∃ dx r k o p n, B = Bk.new dx r k o p n ns) → Q (.ref x) H')) : T_book6 fz vs Q X H
theorem new_book6 {C : Cx} {d : Nat} {f : Value} (h3 : C.ats.length = 3) (h : Meets C d true f (T_new C.ats.length T_init)) : Meets C d true f T_book6 := by
  intro fz vs Q X H hT
  obtain ⟨l, xs, rfl, hl, hs, hT⟩ := hT
  cases q : initF xs with
  | inl i => rw [q] at hT; exact new_book h3 h fz _ Q X H ⟨l, xs, rfl, hl, hs, by rw [q]; exact hT⟩
  | inr ns => rw [q] at hT; exact new_book7 h3 h fz _ Q X H ⟨l, xs, ns, rfl, hl, hs, q, hT⟩
noncomputable def T_made6 : Tr := fun fz vs Q X H => T_book6 fz vs Q (xWord Q) H
noncomputable def T_grown6 : Tr := fun fz vs Q X H => T_grow fz vs Q (xWord Q) H
structure LsN (H : AH) (l : Nat) (Ls : List (Nat × List Str)) : Prop where
  at_ : H.get l = some (.list (Ls.map fun w => V.ref w.1))
  each : ∀ w ∈ Ls, H.get w.1 = some (.list (w.2.map V.str)) ∧ w.2.length ≤ 12 ∧ w.2.Nodup
  few : Ls.length ≤ 30
theorem LsN.ext {H H' : AH} {l : Nat} {Ls : List (Nat × List Str)} (h : LsN H l Ls) (e : Ext H H') : LsN H' l Ls := ⟨e _ _ h.at_, fun w hw => ⟨e _ _ (h.each w hw).1, (h.each w hw).2⟩, h.few⟩
inductive DueHow (fz : List Nat) (Ls : List (Nat × List Str)) (Q : QV) (H : AH) : V → V → Bool → Prop
  | noform (v u : V) (b : Bool) : numOk Ls.length v = false → Q (.str wNone) H → DueHow fz Ls Q H v u b
  | nostep (v u : V) : numOk Ls.length v = true → Q (.str wStep) H → DueHow fz Ls Q H v u true
  | step (e sp : Nat) (w : Nat × List Str) (st : Stp) : Ls[e]? = some w → H.get sp = some (.tuple st.vs) →
      (match behindF st w.2 with
        | .inl i => ∀ H', Ext H H' → Q (.str (wordOf i)) H'
        | .inr fs => if Ls.length = 30 then ∀ H', Ext H H' → Q (.str wMany) H' else gives fz (.list (fs.map V.str)) Q H) → DueHow fz Ls Q H (.int e) (.ref sp) false
inductive T_due (fz : List Nat) (vs : List V) (Q : QV) (X : QX) (H : AH) : Prop
  | mk (l : Nat) (Ls : List (Nat × List Str)) (v u : V) (b : Bool) (h0 : vs = [.ref l, v, u, .bool b]) (h1 : LsN H l Ls) (h2 : Served H v) (h3 : DueHow fz Ls Q H v u b) : T_due fz vs Q X H
noncomputable abbrev odd4 : List Str := [tx [], tx [65,98], tx [97,98,99,100,101,102,103,104,105], tx [97,32,98]]
inductive El (H : AH) : V → Prop
  | name (s : Str) (h : isN (.str s) = true) (h4 : s ∉ odd4) : El H (.str s)
  | odd (s : Str) (h : s ∈ odd4) : El H (.str s)
  | thing (v : V) (h : Served H v) (h4 : ∀ s, v ≠ .str s) : El H v
theorem odd_no {s : Str} (h : s ∈ odd4) : isN (.str s) = false ∧ s.length ≤ 1000 := by
  simp only [odd4, List.mem_cons, List.not_mem_nil, or_false] at h
  rcases h with rfl | rfl | rfl | rfl <;> exact ⟨by decide +kernel, by decide +kernel⟩
theorem El.served {H : AH} {v : V} (h : El H v) : Served H v := by
  cases h with
  | name s h h4 => exact .str s (isN_len h)
  | odd s h => exact .str s (odd_no h).2
  | thing v h h4 => exact h
theorem El.ext {H H' : AH} {v : V} (h : El H v) (e : Ext H H') : El H' v := by
  cases h with
  | name s h h4 => exact .name s h h4
  | odd s h => exact .odd s h
  | thing v h h4 => exact .thing v (h.ext e) h4
inductive T_oddname (fz : List Nat) (vs : List V) (Q : QV) (X : QX) (H : AH) : Prop
  | mk (c : Int) (h0 : vs = [.int c]) (h1 : ∀ H' v, Ext H H' → El H' v → Q v H') : T_oddname fz vs Q X H
inductive T_first6 (fz : List Nat) (vs : List V) (Q : QV) (X : QX) (H : AH) : Prop
  | mk (s p : Nat) (scr : List Int) (b : Int) (h0 : vs = [.ref s, .ref p]) (h1 : H.get s = some (.rlist (scr.map V.int))) (h2 : H.get p = some (.list ((poolOf b).map V.str)))
    (h3 : ∀ H' l xs, Ext H H' → H.get l = none → l ∉ fz → H'.get l = some (.list xs) → xs.length ≤ 14 → (∀ v ∈ xs, El H' v) → Q (.ref l) H') : T_first6 fz vs Q X H
noncomputable def dueF (xs : List V) : Str := match initF xs with | .inl i => wordOf i | .inr _ => tx []
inductive T_firstdue (fz : List Nat) (vs : List V) (Q : QV) (X : QX) (H : AH) : Prop
  | mk (l : Nat) (xs : List V) (h0 : vs = [.ref l]) (h1 : H.get l = some (.list xs)) (h2 : xs.length ≤ 14) (h3 : ∀ v ∈ xs, El H v) (h4 : ∀ H', Ext H H' → Q (.str (dueF xs)) H') : T_firstdue fz vs Q X H
inductive Deed (H : AH) (ns : List Str) (p : Nat) : Prop
  | drawn (a b c : Int) (h : H.get p = some (.tuple [.int a, .int b, .int c, .none])) : Deed H ns p
  | turn (sp : Nat) (n : Str) (h : H.get p = some (.tuple [.int 0, .int 0, .int 0, .ref sp])) (hs : H.get sp = some (.tuple (Stp.turn n).vs)) (hn : n ∈ ns) : Deed H ns p
theorem Deed.ext {H H' : AH} {ns : List Str} {p : Nat} (h : Deed H ns p) (e : Ext H H') : Deed H' ns p := by
  cases h with
  | drawn a b c h => exact .drawn a b c (e _ _ h)
  | turn sp n h hs hn => exact .turn sp n (e _ _ h) (e _ _ hs) hn
inductive T_deeds (fz : List Nat) (vs : List V) (Q : QV) (X : QX) (H : AH) : Prop
  | mk (s q : Nat) (scr : List Int) (ns : List Str) (h0 : vs = [.ref s, .ref q]) (h1 : H.get s = some (.rlist (scr.map V.int))) (h63 : scr.length ≤ 63) (h2 : H.get q = some (.list (ns.map V.str))) (h3 : 1 ≤ ns.length ∧ ns.length ≤ 12)
    (h4 : ∀ H' l (ps : List Nat), Ext H H' → H.get l = none → H'.get l = some (.list (ps.map V.ref)) → (∀ p ∈ ps, Deed H' ns p) → Q (.ref l) H') : T_deeds fz vs Q X H
structure Tells (H : AH) (x : Nat) (B : Bk) (l e s : Nat) (Ls : List (Nat × List Str)) : Prop where
  bk : BkAt H x B
  ok : B.Ok
  ls : LsN H l Ls
  names : Ls.map (·.2) = B.rows.map (·.names)
  elders : H.get e = some (.list (B.rows.map fun w => (w.vs[0]?).getD .none))
  steps : H.get s = some (.list (B.rows.map fun w => (w.vs[1]?).getD .none))
  no : B.kept = [] ∧ B.owns = []
theorem Tells.ext {H H' : AH} {x : Nat} {B : Bk} {l e s : Nat} {Ls : List (Nat × List Str)} (t : Tells H x B l e s Ls) (h : Ext H H') : Tells H' x B l e s Ls :=
  ⟨t.bk.ext h, t.ok, t.ls.ext h, t.names, h _ _ t.elders, h _ _ t.steps, t.no⟩
inductive T_told6 (fz : List Nat) (vs : List V) (Q : QV) (X : QX) (H : AH) : Prop
  | mk (x l e s : Nat) (B : Bk) (Ls : List (Nat × List Str)) (h0 : vs = [.ref x, .ref l, .ref e, .ref s]) (h1 : Tells H x B l e s Ls) (h2 : ∀ H', Ext H H' → Q (.bool true) H') : T_told6 fz vs Q X H
inductive T_noform (fz : List Nat) (vs : List V) (Q : QV) (X : QX) (H : AH) : Prop
  | mk (x : Nat) (B : Bk) (v : V) (h0 : vs = [.ref x, v]) (h1 : BkAt H x B) (h2 : B.Ok) (h3 : Served H v) (h4 : numOk B.rows.length v = false) (h5 : ∀ a ∈ B.mut, a ∉ fz) (h6 : ∀ H', Ext H H' → Q (.bool true) H') : T_noform fz vs Q X H
inductive T_growson (fz : List Nat) (vs : List V) (Q : QV) (X : QX) (H : AH) : Prop
  | mk (x l e s : Nat) (B : Bk) (Ls : List (Nat × List Str)) (h0 : vs = [.ref x, .ref l]) (h1 : Tells H x B l e s Ls) (hn : ∀ w ∈ Ls, ∀ t ∈ w.2, isN (.str t) = true) (h5 : ∀ a ∈ B.mut, a ∉ fz) (hl : ∀ w ∈ Ls, w.1 ∉ B.mut) (h6 : l ∉ B.mut) (h2 : ∀ H', Q (.bool true) H') : T_growson fz vs Q X H
inductive T_fields (fz : List Nat) (vs : List V) (Q : QV) (X : QX) (H : AH) : Prop
  | mk (x : Nat) (B : Bk) (v : V) (h0 : vs = [.ref x, v]) (h1 : BkAt H x B) (h2 : B.Ok) (h3 : Served H v) (h4 : numOk B.rows.length v = false → X 6 H) (h5 : ∀ (f : Nat) w, v = .int f → B.rows[f]? = some w → gives fz (.list (w.names.map V.str)) Q H) : T_fields fz vs Q X H
inductive T_part (i : Nat) (fz : List Nat) (vs : List V) (Q : QV) (X : QX) (H : AH) : Prop
  | mk (x : Nat) (B : Bk) (v : V) (h0 : vs = [.ref x, v]) (h1 : BkAt H x B) (h3 : Served H v) (h4 : numOk B.rows.length v = false → X 6 H) (h5 : ∀ (f : Nat) w, v = .int f → B.rows[f]? = some w → Q ((w.vs[i]?).getD .none) H) : T_part i fz vs Q X H
noncomputable abbrev T_elder : Tr := T_part 0
noncomputable abbrev T_stepof : Tr := T_part 1
end Mine
namespace Mine
open PySem PySem.Calls PySem.SeqAt PySem.W PyProof.Rows PySem.Challenge
/- is_name: place 16; 0 thing 1 isinstance 2 str 3 len 4 LONGEST 5 all -/
noncomputable def c_isname : CS := (.ife (.bop .Or (.cons (.not (.isi 1 2 (.var 0))) (.cons (.not (.cmp2 .LtE .LtE (.int 1) (.call 3 (.cons (.var 0) .nil)) (.glob 4))) .nil))) (.ret (.bool false) .skip) .skip (.ret (.call 5 (.cons (.comp (.cmp .In (.var 1) (.glob 2)) (.var 0) [.own ".0", .own "sign", .gl 0] 1) .nil)) .skip))
noncomputable def g_isname : List (Option G) := [none, some (.isi), some (.ty .str), some (.bi .len), some (.val (.int 8)), some (.bi .all)]
noncomputable def x_isname : Gx := [("LETTERS", .val (.str abc))]
/- is_number: place 17; 0 thing 1 isinstance 2 int 3 bool -/
noncomputable def c_isnumber : CS := (.ret (.bop .And (.cons (.isi 1 2 (.var 0)) (.cons (.not (.isi 1 3 (.var 0))) .nil))) .skip)
noncomputable def g_isnumber : List (Option G) := [none, some (.isi), some (.ty .int), some (.ty .bool)]
noncomputable def x_isnumber : Gx := []
/- is_size: place 18; 0 thing 1 is_number 2 MOST_SIZE -/
noncomputable def c_issize : CS := (.ret (.bop .And (.cons (.call 1 (.cons (.var 0) .nil)) (.cons (.cmp2 .LtE .LtE (.int 2) (.var 0) (.glob 2)) .nil))) .skip)
noncomputable def g_issize : List (Option G) := [none, some (.con T_isnumber false), some (.val (.int 1000000))]
noncomputable def x_issize : Gx := []
/- is_step: place 19; 0 thing 1 isinstance 2 tuple 3 len 4 str 5 is_name 6 is_number 7 is_size -/
noncomputable def c_isstep : CS := (.ife (.bop .Or (.cons (.not (.isi 1 2 (.var 0))) (.cons (.cmp .Lt (.call 3 (.cons (.var 0) .nil)) (.int 2)) (.cons (.not (.isi 1 4 (.sub (.var 0) (.int 0)))) (.cons (.not (.call 5 (.cons (.sub (.var 0) (.int 1)) .nil))) .nil))))) (.ret (.bool false) .skip) .skip (.ife (.bop .Or (.cons (.cmp .Eq (.sub (.var 0) (.int 0)) (.str [100,114,111,112])) (.cons (.cmp .Eq (.sub (.var 0) (.int 0)) (.str [116,117,114,110])) .nil))) (.ret (.cmp .Eq (.call 3 (.cons (.var 0) .nil)) (.int 2)) .skip) .skip (.ife (.bop .Or (.cons (.cmp .Eq (.sub (.var 0) (.int 0)) (.str [97,100,100])) (.cons (.cmp .Eq (.sub (.var 0) (.int 0)) (.str [115,104,105,102,116])) .nil))) (.ret (.bop .And (.cons (.cmp .Eq (.call 3 (.cons (.var 0) .nil)) (.int 3)) (.cons (.call 6 (.cons (.sub (.var 0) (.int 2)) .nil)) .nil))) .skip) .skip (.ife (.cmp .Eq (.sub (.var 0) (.int 0)) (.str [110,97,109,101])) (.ret (.bop .And (.cons (.cmp .Eq (.call 3 (.cons (.var 0) .nil)) (.int 3)) (.cons (.call 5 (.cons (.sub (.var 0) (.int 2)) .nil)) .nil))) .skip) .skip (.ife (.bop .Or (.cons (.bop .And (.cons (.cmp .NotEq (.sub (.var 0) (.int 0)) (.str [112,97,114,116])) (.cons (.cmp .NotEq (.sub (.var 0) (.int 0)) (.str [106,111,105,110])) .nil))) (.cons (.cmp .NotEq (.call 3 (.cons (.var 0) .nil)) (.int 5)) .nil))) (.ret (.bool false) .skip) .skip (.ife (.bop .Or (.cons (.not (.call 5 (.cons (.sub (.var 0) (.int 2)) .nil))) (.cons (.not (.call 5 (.cons (.sub (.var 0) (.int 3)) .nil))) (.cons (.not (.call 7 (.cons (.sub (.var 0) (.int 4)) .nil))) .nil)))) (.ret (.bool false) .skip) .skip (.ife (.cmp .Eq (.sub (.var 0) (.int 0)) (.str [112,97,114,116])) (.ret (.cmp .NotEq (.sub (.var 0) (.int 2)) (.sub (.var 0) (.int 3))) .skip) .skip (.ret (.cmp .NotEq (.sub (.var 0) (.int 1)) (.sub (.var 0) (.int 2))) .skip))))))))
noncomputable def g_isstep : List (Option G) := [none, some (.isi), some (.ty .tuple), some (.bi .len), some (.ty .str), some (.con T_isname false), some (.con T_isnumber false), some (.con T_issize false)]
noncomputable def x_isstep : Gx := []
/- begun_from: place 20; 0 step -/
noncomputable def c_begun : CS := (.ife (.cmp .Eq (.sub (.var 0) (.int 0)) (.str [97,100,100])) (.ret (.list .nil) .skip) .skip (.ife (.cmp .Eq (.sub (.var 0) (.int 0)) (.str [106,111,105,110])) (.ret (.list (.cons (.sub (.var 0) (.int 1)) (.cons (.sub (.var 0) (.int 2)) .nil))) .skip) .skip (.ret (.list (.cons (.sub (.var 0) (.int 1)) .nil)) .skip)))
noncomputable def g_begun : List (Option G) := [none]
noncomputable def x_begun : Gx := []
/- brought: place 21; 0 step -/
noncomputable def c_brought : CS := (.ife (.cmp .Eq (.sub (.var 0) (.int 0)) (.str [100,114,111,112])) (.ret (.list .nil) .skip) .skip (.ife (.cmp .Eq (.sub (.var 0) (.int 0)) (.str [110,97,109,101])) (.ret (.list (.cons (.sub (.var 0) (.int 2)) .nil)) .skip) .skip (.ife (.cmp .Eq (.sub (.var 0) (.int 0)) (.str [112,97,114,116])) (.ret (.list (.cons (.sub (.var 0) (.int 2)) (.cons (.sub (.var 0) (.int 3)) .nil))) .skip) .skip (.ife (.cmp .Eq (.sub (.var 0) (.int 0)) (.str [106,111,105,110])) (.ret (.list (.cons (.sub (.var 0) (.int 3)) .nil)) .skip) .skip (.ret (.list (.cons (.sub (.var 0) (.int 1)) .nil)) .skip)))))
noncomputable def g_brought : List (Option G) := [none]
noncomputable def x_brought : Gx := []
/- names_behind: place 22; 0 step 1 names 2 begun 3 name 4 staying 5 found 6 begun_from 7 NoField 8 brought 9 Taken 10 len 11 MOST_NAMES 12 BadForm -/
noncomputable def c_behind : CS := (.set 2 (.call 6 (.cons (.var 0) .nil)) (.for_ 3 (.var 2) (.ife (.cmp .NotIn (.var 3) (.var 1)) (.raise 7 (.cons (.str [97,32,110,97,109,101,32,105,115,32,110,111,116,32,116,104,101,114,101]) .nil) .skip) .skip .skip) (.set 4 (.compIf (.var 1) (.var 1) (.cmp .NotIn (.var 1) (.var 2)) [.own ".0", .own "name", .free 2] 1) (.for_ 3 (.call 8 (.cons (.var 0) .nil)) (.ife (.cmp .In (.var 3) (.var 4)) (.raise 9 (.cons (.str [97,32,110,97,109,101,32,105,115,32,116,104,101,114,101,32,97,108,114,101,97,100,121]) .nil) .skip) .skip .skip) (.set 5 (.list .nil) (.for_ 3 (.var 1) (.ife (.cmp .In (.var 3) (.var 4)) (.expr (.meth .append (.var 5) (.cons (.var 3) .nil)) .skip) (.ife (.cmp .Eq (.var 3) (.sub (.var 0) (.int 1))) (.expr (.meth .extend (.var 5) (.cons (.call 8 (.cons (.var 0) .nil)) .nil)) .skip) .skip .skip) .skip) (.ife (.cmp .Eq (.sub (.var 0) (.int 0)) (.str [97,100,100])) (.expr (.meth .append (.var 5) (.cons (.sub (.var 0) (.int 1)) .nil)) .skip) .skip (.ife (.not (.cmp2 .LtE .LtE (.int 1) (.call 10 (.cons (.var 5) .nil)) (.glob 11))) (.raise 12 (.cons (.str [97,32,102,111,114,109,32,104,97,115,32,49,32,116,111,32,49,50,32,110,97,109,101,115]) .nil) .skip) .skip (.ret (.var 5) .skip)))))))))
noncomputable def g_behind : List (Option G) := [none, none, none, none, none, none, some (.con T_begun false), some (.exc 1), some (.con T_brought false), some (.exc 2), some (.bi .len), some (.val (.int 12)), some (.exc 3)]
noncomputable def x_behind : Gx := []
/- Book.__init__: place 27.0; 0 self 1 names 2 name 3 len 4 MOST_NAMES 5 BadForm 6 is_name 7 BadName 8 set 9 Taken 10 list -/
noncomputable def c_init : CS := (.ife (.not (.cmp2 .LtE .LtE (.int 1) (.call 3 (.cons (.var 1) .nil)) (.glob 4))) (.raise 5 (.cons (.str [97,32,102,111,114,109,32,104,97,115,32,49,32,116,111,32,49,50,32,110,97,109,101,115]) .nil) .skip) .skip (.for_ 2 (.var 1) (.ife (.not (.call 6 (.cons (.var 2) .nil))) (.raise 7 (.cons (.str [110,111,32,110,97,109,101]) .nil) .skip) .skip .skip) (.ife (.cmp .Lt (.call 3 (.cons (.call 8 (.cons (.var 1) .nil)) .nil)) (.call 3 (.cons (.var 1) .nil))) (.raise 9 (.cons (.str [97,32,110,97,109,101,32,116,119,105,99,101]) .nil) .skip) .skip (.setAttr 2 (.var 0) (.list (.cons (.tup (.cons .none (.cons .none (.cons (.call 10 (.cons (.var 1) .nil)) .nil)))) .nil)) (.setAttr 1 (.var 0) (.list .nil) (.setAttr 0 (.var 0) (.list .nil) .skip))))))
noncomputable def g_init : List (Option G) := [none, none, none, some (.bi .len), some (.val (.int 12)), some (.exc 3), some (.con T_isname false), some (.exc 4), some (.bi .set), some (.exc 2), some (.bi .list)]
noncomputable def x_init : Gx := [("owns", .attr 1), ("kept", .attr 0), ("rows", .attr 2)]
/- Book.need_form: place 27.1; 0 self 1 form 2 is_number 3 len 4 NoForm -/
noncomputable def c_needform : CS := (.ife (.bop .Or (.cons (.not (.call 2 (.cons (.var 1) .nil))) (.cons (.not (.cmp2 .LtE .Lt (.int 0) (.var 1) (.call 3 (.cons (.attr 0 (.var 0)) .nil)))) .nil))) (.raise 4 (.cons (.str [110,111,32,115,117,99,104,32,102,111,114,109]) .nil) .skip) .skip .skip)
noncomputable def g_needform : List (Option G) := [none, none, some (.con T_isnumber false), some (.bi .len), some (.exc 6)]
noncomputable def x_needform : Gx := [("rows", .attr 2)]
/- Book.grow: place 27.3; 0 self 1 form 2 step 3 names 4 made 5 own 6 is_step 7 BadStep 8 names_behind 9 len 10 MOST_FORMS 11 TooMany -/
noncomputable def c_grow : CS := (.expr (.om 2 (.var 0) (.cons (.var 1) .nil)) (.ife (.not (.call 6 (.cons (.var 2) .nil))) (.raise 7 (.cons (.str [110,111,32,115,116,101,112]) .nil) .skip) .skip (.set 3 (.call 8 (.cons (.var 2) (.cons (.sub (.sub (.attr 1 (.var 0)) (.var 1)) (.int 2)) .nil))) (.ife (.cmp .GtE (.call 9 (.cons (.attr 1 (.var 0)) .nil)) (.glob 10)) (.raise 11 (.cons (.str [116,104,105,114,116,121,32,102,111,114,109,115,32,97,114,101,32,116,104,101,114,101]) .nil) .skip) .skip (.set 4 (.call 9 (.cons (.attr 1 (.var 0)) .nil)) (.expr (.meth .append (.attr 1 (.var 0)) (.cons (.tup (.cons (.var 1) (.cons (.var 2) (.cons (.var 3) .nil)))) .nil)) (.ife (.cmp .Eq (.sub (.var 2) (.int 0)) (.str [97,100,100])) (.for_ 5 (.attr 0 (.var 0)) (.setSub (.var 5) (.var 4) (.sub (.var 2) (.int 2)) .skip) .skip) .skip (.ret (.var 4) .skip))))))))
noncomputable def g_grow : List (Option G) := [none, none, none, none, none, none, some (.con T_isstep false), some (.exc 5), some (.con T_behind false), some (.bi .len), some (.val (.int 30)), some (.exc 8)]
noncomputable def x_grow : Gx := [("owns", .attr 1), ("rows", .attr 2), ("need_form", .meth T_needform)]
/- Book.forms: place 27.4; 0 self 1 len -/
noncomputable def c_forms : CS := (.ret (.call 1 (.cons (.attr 0 (.var 0)) .nil)) .skip)
noncomputable def g_forms : List (Option G) := [none, some (.bi .len)]
noncomputable def x_forms : Gx := [("rows", .attr 2)]
/- Book.fields: place 27.5; 0 self 1 form 2 list -/
noncomputable def c_fields : CS := (.expr (.om 1 (.var 0) (.cons (.var 1) .nil)) (.ret (.call 2 (.cons (.sub (.sub (.attr 0 (.var 0)) (.var 1)) (.int 2)) .nil)) .skip))
noncomputable def g_fields : List (Option G) := [none, none, some (.bi .list)]
noncomputable def x_fields : Gx := [("rows", .attr 2), ("need_form", .meth T_needform)]
/- Book.elder: place 27.6; 0 self 1 form -/
noncomputable def c_elder : CS := (.expr (.om 1 (.var 0) (.cons (.var 1) .nil)) (.ret (.sub (.sub (.attr 0 (.var 0)) (.var 1)) (.int 0)) .skip))
noncomputable def g_elder : List (Option G) := [none, none]
noncomputable def x_elder : Gx := [("rows", .attr 2), ("need_form", .meth T_needform)]
/- Book.step: place 27.7; 0 self 1 form -/
noncomputable def c_stepof : CS := (.expr (.om 1 (.var 0) (.cons (.var 1) .nil)) (.ret (.sub (.sub (.attr 0 (.var 0)) (.var 1)) (.int 1)) .skip))
noncomputable def g_stepof : List (Option G) := [none, none]
noncomputable def x_stepof : Gx := [("rows", .attr 2), ("need_form", .meth T_needform)]
/- _law_whole: place 29; 0 _law_found 1 isinstance 2 int 3 bool -/
noncomputable def c_whole : CS := (.ret (.bop .And (.cons (.isi 1 2 (.var 0)) (.cons (.not (.isi 1 3 (.var 0))) .nil))) .skip)
noncomputable def g_whole : List (Option G) := [none, some (.isi), some (.ty .int), some (.ty .bool)]
noncomputable def x_whole : Gx := []
/- _law_cell_at: place 30; 0 _law_script 1 _law_k 2 len -/
noncomputable def c_cell : CS := (.ife (.cmp .Lt (.var 1) (.call 2 (.cons (.var 0) .nil))) (.ret (.sub (.var 0) (.var 1)) .skip) .skip (.ret (.int 0) .skip))
noncomputable def g_cell : List (Option G) := [none, none, some (.bi .len)]
noncomputable def x_cell : Gx := []
/- _law_pool: place 31; 0 _law_cell 1 _law_signs 2 _law_found 3 _law_k 4 _law_same 5 _law_ahead 6 _law_word_here 7 _law_first_here 8 range -/
noncomputable def c_pool : CS := (.set 1 (.str [97,98,99,100,101,102,103,104,105,106,107,108,109,110,111,112,113,114,115,116,117,118,119,120,121,122]) (.set 2 (.list .nil) (.for_ 3 (.call 8 (.cons (.int 26) .nil)) (.set 4 (.sub (.var 1) (.bin .Mod (.bin .FloorDiv (.var 0) (.int 2)) (.int 26))) (.set 5 (.bin .Mod (.bin .FloorDiv (.var 0) (.int 52)) (.int 8)) (.set 6 (.bin .Add (.bin .Mult (.var 4) (.var 5)) (.sub (.var 1) (.bin .Mod (.bin .Add (.bin .FloorDiv (.var 0) (.int 416)) (.bin .Mult (.int 7) (.var 3))) (.int 26)))) (.set 6 (.bin .Add (.var 6) (.bin .Mult (.var 4) (.bin .Mod (.bin .FloorDiv (.var 0) (.int 416)) (.bin .Sub (.int 8) (.var 5))))) (.ife (.cmp .Eq (.bin .Mod (.var 0) (.int 2)) (.int 1)) (.set 7 (.bin .Add (.bin .FloorDiv (.var 0) (.int 2)) (.bin .Mult (.bin .FloorDiv (.var 3) (.int 8)) (.int 3))) (.set 6 (.meth .join (.str []) (.cons (.comp (.sub (.var 3) (.bin .Mod (.bin .Add (.var 2) (.var 1)) (.int 26))) (.call 8 (.cons (.bin .Add (.int 1) (.bin .Mod (.var 3) (.int 8))) .nil)) [.own ".0", .own "_law_j", .free 7, .free 1] 1) .nil)) .skip)) .skip (.expr (.meth .append (.var 2) (.cons (.var 6) .nil)) .skip)))))) (.ret (.var 2) .skip))))
noncomputable def g_pool : List (Option G) := [none, none, none, none, none, none, none, none, some (.bi .range)]
noncomputable def x_pool : Gx := []
/- _law_word: place 32; 0 _law_error 1 isinstance 2 ValueError 3 BadForm 4 BadName 5 Taken 6 NoForm 7 BadStep 8 NoField 9 int 10 TooMany -/
noncomputable def c_word : CS := (.ife (.not (.isi 1 2 (.var 0))) (.ret (.str [110,111]) .skip) .skip (.ife (.isi 1 3 (.var 0)) (.ret (.str [102,111,114,109]) .skip) .skip (.ife (.isi 1 4 (.var 0)) (.ret (.str [110,97,109,101]) .skip) .skip (.ife (.isi 1 5 (.var 0)) (.ret (.str [116,97,107,101,110]) .skip) .skip (.ife (.isi 1 6 (.var 0)) (.ret (.str [110,111,110,101]) .skip) .skip (.ife (.isi 1 7 (.var 0)) (.ret (.str [115,116,101,112]) .skip) .skip (.ife (.isi 1 8 (.var 0)) (.ret (.str [102,105,101,108,100]) .skip) .skip (.ret (.sub (.list (.cons (.str [110,111]) (.cons (.str [109,97,110,121]) .nil))) (.call 9 (.cons (.isi 1 10 (.var 0)) .nil))) .skip))))))))
noncomputable def g_word : List (Option G) := [none, some (.isi), some (.verr), some (.exc 3), some (.exc 4), some (.exc 2), some (.exc 6), some (.exc 5), some (.exc 1), some (.bi .int), some (.exc 8)]
noncomputable def x_word : Gx := []
/- _law_sides: place 33; 0 _law_step_here -/
noncomputable def c_sides : CS := (.ife (.cmp .Eq (.sub (.var 0) (.int 0)) (.str [97,100,100])) (.ret (.tup (.cons (.list .nil) (.cons (.list (.cons (.sub (.var 0) (.int 1)) .nil)) .nil))) .skip) .skip (.ife (.cmp .Eq (.sub (.var 0) (.int 0)) (.str [100,114,111,112])) (.ret (.tup (.cons (.list (.cons (.sub (.var 0) (.int 1)) .nil)) (.cons (.list .nil) .nil))) .skip) .skip (.ife (.cmp .Eq (.sub (.var 0) (.int 0)) (.str [110,97,109,101])) (.ret (.tup (.cons (.list (.cons (.sub (.var 0) (.int 1)) .nil)) (.cons (.list (.cons (.sub (.var 0) (.int 2)) .nil)) .nil))) .skip) .skip (.ife (.cmp .Eq (.sub (.var 0) (.int 0)) (.str [112,97,114,116])) (.ret (.tup (.cons (.list (.cons (.sub (.var 0) (.int 1)) .nil)) (.cons (.list (.cons (.sub (.var 0) (.int 2)) (.cons (.sub (.var 0) (.int 3)) .nil))) .nil))) .skip) .skip (.ife (.cmp .Eq (.sub (.var 0) (.int 0)) (.str [106,111,105,110])) (.ret (.tup (.cons (.list (.cons (.sub (.var 0) (.int 1)) (.cons (.sub (.var 0) (.int 2)) .nil))) (.cons (.list (.cons (.sub (.var 0) (.int 3)) .nil)) .nil))) .skip) .skip (.ret (.tup (.cons (.list (.cons (.sub (.var 0) (.int 1)) .nil)) (.cons (.list (.cons (.sub (.var 0) (.int 1)) .nil)) .nil))) .skip))))))
noncomputable def g_sides : List (Option G) := [none]
noncomputable def x_sides : Gx := []
/- _law_behind: place 34; 0 _law_step_here 1 _law_names 2 _law_goes 3 _law_comes 4 _law_stays 5 _law_at 6 _law_due_here 7 _law_sides 8 len -/
noncomputable def c_lbehind : CS := (.unpack [2, 3] (.call 7 (.cons (.var 0) .nil)) (.ife (.cmp .NotEq (.compIf (.var 1) (.var 2) (.cmp .NotIn (.var 1) (.var 2)) [.own ".0", .own "_law_name", .free 1] 1) (.list .nil)) (.ret (.str [102,105,101,108,100]) .skip) .skip (.set 4 (.compIf (.var 1) (.var 1) (.cmp .NotIn (.var 1) (.var 2)) [.own ".0", .own "_law_name", .free 2] 1) (.ife (.cmp .NotEq (.compIf (.var 1) (.var 3) (.cmp .In (.var 1) (.var 2)) [.own ".0", .own "_law_name", .free 4] 1) (.list .nil)) (.ret (.str [116,97,107,101,110]) .skip) .skip (.set 5 (.call 8 (.cons (.var 1) .nil)) (.ife (.cmp .NotEq (.var 2) (.list .nil)) (.set 5 (.call 8 (.cons (.compIf (.var 1) (.sliceT (.var 1) (.meth .index (.var 1) (.cons (.sub (.var 2) (.int 0)) .nil))) (.cmp .In (.var 1) (.var 2)) [.own ".0", .own "_law_name", .free 4] 1) .nil)) .skip) .skip (.set 6 (.bin .Add (.bin .Add (.sliceT (.var 4) (.var 5)) (.var 3)) (.sliceF (.var 4) (.var 5))) (.ife (.not (.cmp2 .LtE .LtE (.int 1) (.call 8 (.cons (.var 6) .nil)) (.int 12))) (.ret (.str [102,111,114,109]) .skip) .skip (.ret (.var 6) .skip)))))))))
noncomputable def g_lbehind : List (Option G) := [none, none, none, none, none, none, none, some (.con T_sides false), some (.bi .len)]
noncomputable def x_lbehind : Gx := []
/- _law_step: place 35; 0 _law_cell 1 _law_more 2 _law_pool_here 3 _law_names 4 _law_old 5 _law_low 6 _law_new 7 len -/
noncomputable def c_step6 : CS := (.set 4 (.sub (.var 3) (.bin .Mod (.bin .FloorDiv (.var 1) (.int 3)) (.call 7 (.cons (.var 3) .nil)))) (.set 5 (.sub (.var 3) (.bin .Mod (.bin .Add (.bin .Add (.bin .FloorDiv (.var 1) (.int 3)) (.int 1)) (.bin .Mod (.bin .FloorDiv (.var 1) (.int 36)) (.int 11))) (.call 7 (.cons (.var 3) .nil)))) (.set 6 (.list (.cons (.sub (.var 2) (.bin .Mod (.bin .FloorDiv (.var 1) (.int 5)) (.int 26))) (.cons (.sub (.var 2) (.bin .Mod (.bin .Add (.bin .Add (.bin .FloorDiv (.var 1) (.int 5)) (.int 1)) (.bin .Mod (.bin .FloorDiv (.var 1) (.int 130)) (.int 25))) (.int 26))) .nil))) (.ife (.cmp .Eq (.bin .Mod (.bin .FloorDiv (.var 1) (.int 7)) (.int 6)) (.int 1)) (.set 4 (.sub (.var 2) (.bin .Mod (.bin .FloorDiv (.var 1) (.int 11)) (.int 26))) .skip) .skip (.ife (.cmp .Eq (.bin .Mod (.bin .FloorDiv (.var 1) (.int 7)) (.int 6)) (.int 2)) (.set 5 (.sub (.var 2) (.bin .Mod (.bin .FloorDiv (.var 1) (.int 11)) (.int 26))) .skip) .skip (.ife (.cmp .Eq (.bin .Mod (.var 0) (.int 8)) (.int 0)) (.ret (.tup (.cons (.str [97,100,100]) (.cons (.sub (.var 6) (.int 0)) (.cons (.bin .Sub (.bin .Mod (.var 1) (.int 2001)) (.int 1000)) .nil)))) .skip) .skip (.ife (.cmp .Eq (.bin .Mod (.var 0) (.int 8)) (.int 1)) (.ret (.tup (.cons (.str [100,114,111,112]) (.cons (.var 4) .nil))) .skip) .skip (.ife (.cmp .Eq (.bin .Mod (.var 0) (.int 8)) (.int 2)) (.ret (.tup (.cons (.str [110,97,109,101]) (.cons (.var 4) (.cons (.sub (.var 6) (.int 0)) .nil)))) .skip) .skip (.ife (.cmp .Eq (.bin .Mod (.var 0) (.int 8)) (.int 3)) (.ret (.tup (.cons (.str [115,104,105,102,116]) (.cons (.var 4) (.cons (.bin .Sub (.bin .Mod (.var 1) (.int 2001)) (.int 1000)) .nil)))) .skip) .skip (.ife (.cmp .Lt (.bin .Mod (.var 0) (.int 8)) (.int 6)) (.ret (.tup (.cons (.str [112,97,114,116]) (.cons (.var 4) (.cons (.sub (.var 6) (.int 0)) (.cons (.sub (.var 6) (.int 1)) (.cons (.bin .Add (.int 2) (.bin .Mod (.var 1) (.int 999999))) .nil)))))) .skip) .skip (.ife (.bop .And (.cons (.cmp .Eq (.bin .Mod (.var 0) (.int 8)) (.int 6)) (.cons (.cmp .NotEq (.var 4) (.var 5)) .nil))) (.ret (.tup (.cons (.str [106,111,105,110]) (.cons (.var 4) (.cons (.var 5) (.cons (.sub (.var 6) (.int 0)) (.cons (.bin .Add (.int 2) (.bin .Mod (.var 1) (.int 999999))) .nil)))))) .skip) .skip (.ret (.tup (.cons (.str [116,117,114,110]) (.cons (.var 4) .nil))) .skip))))))))))))
noncomputable def g_step6 : List (Option G) := [none, none, none, none, none, none, none, some (.bi .len)]
noncomputable def x_step6 : Gx := []
/- _law_odd: place 36; 0 _law_cell 1 _law_step_here 2 _law_some 3 list -/
noncomputable def c_odd : CS := (.set 2 (.list (.cons (.bin .Add (.var 1) (.tup (.cons (.int 1) .nil))) (.cons (.call 3 (.cons (.var 1) .nil)) (.cons (.tup (.cons (.str [115,119,97,112]) (.cons (.str [97]) (.cons (.str [98]) .nil)))) (.cons .none (.cons (.tup (.cons (.str [100,114,111,112]) (.cons (.str [65]) .nil))) (.cons (.tup (.cons (.str [112,97,114,116]) (.cons (.str [97]) (.cons (.str [98]) (.cons (.str [98]) (.cons (.int 5) .nil)))))) .nil))))))) (.set 2 (.bin .Add (.var 2) (.list (.cons (.tup (.cons (.str [106,111,105,110]) (.cons (.str [97]) (.cons (.str [97]) (.cons (.str [98]) (.cons (.int 5) .nil)))))) (.cons (.tup (.cons (.str [112,97,114,116]) (.cons (.str [97]) (.cons (.str [98]) (.cons (.str [99]) (.cons (.int 1) .nil)))))) (.cons (.tup (.cons (.str [97,100,100]) (.cons (.str [97]) (.cons (.bool true) .nil)))) (.cons (.sliceT (.var 1) (.int 1)) .nil)))))) (.set 2 (.bin .Add (.var 2) (.list (.cons (.tup (.cons (.list (.cons (.str [100,114,111,112]) .nil)) (.cons (.str [97]) .nil))) (.cons (.tup (.cons .dict0 (.cons (.str [97]) .nil))) (.cons (.tup (.cons (.tup (.cons (.str [100,114,111,112]) .nil)) (.cons (.str [97]) .nil))) .nil))))) (.ret (.sub (.var 2) (.bin .Mod (.var 0) (.int 13))) .skip))))
noncomputable def g_odd : List (Option G) := [none, none, none, some (.bi .list)]
noncomputable def x_odd : Gx := []
/- _law_made: place 37; 0 _law_names 1 _law_error 2 Book 3 FormError 4 _law_word -/
noncomputable def c_made6 : CS := (.try_ (.ret (.call 2 (.cons (.var 0) .nil)) .skip) (.hnd 3 (some 1) (.ret (.call 4 (.cons (.var 1) .nil)) .skip) .skip) .skip)
noncomputable def g_made6 : List (Option G) := [none, none, some (.con T_book6 false), some (.exc 0), some (.con T_word true)]
noncomputable def x_made6 : Gx := []
/- _law_grown: place 38; 0 _law_book 1 _law_form 2 _law_step_here 3 _law_error 4 FormError 5 _law_word -/
noncomputable def c_grown6 : CS := (.try_ (.ret (.om 0 (.var 0) (.cons (.var 1) (.cons (.var 2) .nil))) .skip) (.hnd 4 (some 3) (.ret (.call 5 (.cons (.var 3) .nil)) .skip) .skip) .skip)
noncomputable def g_grown6 : List (Option G) := [none, none, none, none, some (.exc 0), some (.con T_word true)]
noncomputable def x_grown6 : Gx := [("grow", .meth T_grow)]
/- _law_due: place 39; 0 _law_lists 1 _law_form 2 _law_step_here 3 _law_is_odd 4 _law_due_here 5 _law_whole 6 len 7 _law_behind 8 isinstance 9 str -/
noncomputable def c_due : CS := (.ife (.bop .Or (.cons (.not (.call 5 (.cons (.var 1) .nil))) (.cons (.not (.cmp2 .LtE .Lt (.int 0) (.var 1) (.call 6 (.cons (.var 0) .nil)))) .nil))) (.ret (.str [110,111,110,101]) .skip) .skip (.ife (.var 3) (.ret (.str [115,116,101,112]) .skip) .skip (.set 4 (.call 7 (.cons (.var 2) (.cons (.sub (.var 0) (.var 1)) .nil))) (.ife (.bop .And (.cons (.not (.isi 8 9 (.var 4))) (.cons (.cmp .Eq (.call 6 (.cons (.var 0) .nil)) (.int 30)) .nil))) (.ret (.str [109,97,110,121]) .skip) .skip (.ret (.var 4) .skip)))))
noncomputable def g_due : List (Option G) := [none, none, none, none, none, some (.con T_isnumber false), some (.bi .len), some (.con T_lbehind false), some (.isi), some (.ty .str)]
noncomputable def x_due : Gx := []
/- _law_odd_name: place 40; 0 _law_cell -/
noncomputable def c_oddname : CS := (.ret (.sub (.list (.cons (.str []) (.cons (.str [65,98]) (.cons (.str [97,98,99,100,101,102,103,104,105]) (.cons (.int 5) (.cons .none (.cons (.str [97,32,98]) (.cons (.list (.cons (.str [97]) .nil)) (.cons (.dict1 (.str [97]) (.int 1)) (.cons (.tup (.cons (.str [97]) .nil)) .nil)))))))))) (.bin .Mod (.var 0) (.int 9))) .skip)
noncomputable def g_oddname : List (Option G) := [none]
noncomputable def x_oddname : Gx := []
/- _law_first: place 41; 0 _law_script 1 _law_pool_here 2 _law_names 3 _law_at 4 _law_cell_at 5 len 6 _law_odd_name -/
noncomputable def c_first6 : CS := (.set 2 (.sliceT (.var 1) (.bin .Mod (.call 4 (.cons (.var 0) (.cons (.int 1) .nil))) (.int 14))) (.set 3 (.bin .Mod (.call 4 (.cons (.var 0) (.cons (.int 2) .nil))) (.bin .Add (.call 5 (.cons (.var 2) .nil)) (.int 1))) (.ife (.cmp .Eq (.bin .Mod (.call 4 (.cons (.var 0) (.cons (.int 3) .nil))) (.int 6)) (.int 1)) (.set 2 (.bin .Add (.bin .Add (.sliceT (.var 2) (.var 3)) (.list (.cons (.call 6 (.cons (.call 4 (.cons (.var 0) (.cons (.int 4) .nil))) .nil)) .nil))) (.sliceF (.var 2) (.var 3))) .skip) .skip (.ife (.bop .And (.cons (.cmp .Eq (.bin .Mod (.call 4 (.cons (.var 0) (.cons (.int 3) .nil))) (.int 6)) (.int 2)) (.cons (.cmp .NotEq (.var 2) (.list .nil)) .nil))) (.set 2 (.bin .Add (.bin .Add (.sliceT (.var 2) (.var 3)) (.list (.cons (.sub (.var 2) (.bin .Mod (.call 4 (.cons (.var 0) (.cons (.int 4) .nil))) (.call 5 (.cons (.var 2) .nil)))) .nil))) (.sliceF (.var 2) (.var 3))) .skip) .skip (.ret (.var 2) .skip)))))
noncomputable def g_first6 : List (Option G) := [none, none, none, none, some (.con T_cell false), some (.bi .len), some (.con T_oddname false)]
noncomputable def x_first6 : Gx := []
/- _law_first_due: place 42; 0 _law_names 1 _law_k 2 len 3 range -/
noncomputable def c_firstdue : CS := (.ife (.not (.cmp2 .LtE .LtE (.int 1) (.call 2 (.cons (.var 0) .nil)) (.int 12))) (.ret (.str [102,111,114,109]) .skip) .skip (.ife (.cmp .NotEq (.compIf (.var 1) (.var 0) (.bop .Or (.cons (.not (.isi 2 3 (.var 1))) (.cons (.cmp .In (.var 1) (.list (.cons (.str []) (.cons (.str [65,98]) (.cons (.str [97,98,99,100,101,102,103,104,105]) (.cons (.str [97,32,98]) .nil)))))) .nil))) [.own ".0", .own "_law_name", .gl 0, .gl 1] 1) (.list .nil)) (.ret (.str [110,97,109,101]) .skip) .skip (.for_ 1 (.call 3 (.cons (.call 2 (.cons (.var 0) .nil)) .nil)) (.ife (.cmp .In (.sub (.var 0) (.var 1)) (.sliceT (.var 0) (.var 1))) (.ret (.str [116,97,107,101,110]) .skip) .skip .skip) (.ret (.str []) .skip))))
noncomputable def g_firstdue : List (Option G) := [none, none, some (.bi .len), some (.bi .range)]
noncomputable def x_firstdue : Gx := [("isinstance", .isi), ("str", .ty .str)]
/- _law_deeds: place 43; 0 _law_script 1 _law_names 2 _law_deeds_here 3 _law_k 4 _law_cell_at 5 range 6 min 7 len -/
noncomputable def c_deeds : CS := (.set 2 (.list .nil) (.ife (.cmp .Eq (.bin .Mod (.call 4 (.cons (.var 0) (.cons (.int 6) .nil))) (.int 8)) (.int 1)) (.set 2 (.comp (.tup (.cons (.int 0) (.cons (.int 0) (.cons (.int 0) (.cons (.tup (.cons (.str [116,117,114,110]) (.cons (.sub (.var 3) (.bin .Mod (.var 1) (.call 2 (.cons (.var 3) .nil)))) .nil))) .nil))))) (.call 5 (.cons (.int 28) .nil)) [.own ".0", .own "_law_k", .gl 0, .free 1] 1) .skip) .skip (.for_ 3 (.call 5 (.cons (.int 7) (.cons (.call 6 (.cons (.bin .Sub (.call 7 (.cons (.var 0) .nil)) (.int 1)) (.cons (.int 69) .nil))) (.cons (.int 2) .nil)))) (.expr (.meth .append (.var 2) (.cons (.tup (.cons (.bin .Add (.bin .FloorDiv (.sub (.var 0) (.var 3)) (.int 8)) (.bin .Mult (.bin .Mod (.sub (.var 0) (.var 3)) (.int 3)) (.var 3))) (.cons (.sub (.var 0) (.var 3)) (.cons (.bin .Add (.sub (.var 0) (.bin .Add (.var 3) (.int 1))) (.bin .Mult (.int 31) (.var 3))) (.cons .none .nil))))) .nil)) .skip) (.ret (.var 2) .skip))))
noncomputable def g_deeds : List (Option G) := [none, none, none, none, some (.con T_cell false), some (.bi .range), some (.bi .min), some (.bi .len)]
noncomputable def x_deeds : Gx := [("len", .bi .len)]
/- _law_told: place 44; 0 _law_book 1 _law_lists 2 _law_elders 3 _law_steps 4 _law_form 5 _law_names 6 _law_whole 7 len 8 range 9 isinstance 10 list -/
noncomputable def c_told6 : CS := (.ife (.bop .Or (.cons (.not (.call 6 (.cons (.om 3 (.var 0) .nil) .nil))) (.cons (.cmp .NotEq (.om 3 (.var 0) .nil) (.call 7 (.cons (.var 1) .nil))) .nil))) (.ret (.bool false) .skip) .skip (.for_ 4 (.call 8 (.cons (.call 7 (.cons (.var 1) .nil)) .nil)) (.set 5 (.om 2 (.var 0) (.cons (.var 4) .nil)) (.ife (.bop .Or (.cons (.not (.isi 9 10 (.var 5))) (.cons (.cmp .NotEq (.var 5) (.sub (.var 1) (.var 4))) (.cons (.cmp .NotEq (.om 0 (.var 0) (.cons (.var 4) .nil)) (.sub (.var 3) (.var 4))) .nil)))) (.ret (.bool false) .skip) .skip (.expr (.meth .lclear (.var 5) .nil) (.ife (.bop .Or (.cons (.cmp .NotEq (.om 2 (.var 0) (.cons (.var 4) .nil)) (.sub (.var 1) (.var 4))) (.cons (.cmp .NotEq (.om 1 (.var 0) (.cons (.var 4) .nil)) (.sub (.var 2) (.var 4))) .nil))) (.ret (.bool false) .skip) .skip (.ife (.bop .And (.cons (.cmp .Gt (.var 4) (.int 0)) (.cons (.not (.call 6 (.cons (.om 1 (.var 0) (.cons (.var 4) .nil)) .nil))) .nil))) (.ret (.bool false) .skip) .skip .skip))))) (.ret (.bop .And (.cons (.cmp .Is (.om 1 (.var 0) (.cons (.int 0) .nil)) .none) (.cons (.cmp .Is (.om 0 (.var 0) (.cons (.int 0) .nil)) .none) .nil))) .skip)))
noncomputable def g_told6 : List (Option G) := [none, none, none, none, none, none, some (.con T_isnumber false), some (.bi .len), some (.bi .range), some (.isi), some (.ty .list)]
noncomputable def x_told6 : Gx := [("step", .meth T_stepof), ("elder", .meth T_elder), ("fields", .meth T_fields), ("forms", .meth T_forms)]
/- _law_no_form: place 45; 0 _law_book 1 _law_form 2 _law_refused 3 _law_way 4 range 5 NoForm 6 FormError -/
noncomputable def c_noform : CS := (.set 2 (.int 0) (.for_ 3 (.call 4 (.cons (.int 4) .nil)) (.try_ (.ife (.cmp .Eq (.var 3) (.int 0)) (.expr (.om 0 (.var 0) (.cons (.var 1) .nil)) .skip) (.ife (.cmp .Eq (.var 3) (.int 1)) (.expr (.om 1 (.var 0) (.cons (.var 1) .nil)) .skip) (.ife (.cmp .Eq (.var 3) (.int 2)) (.expr (.om 2 (.var 0) (.cons (.var 1) .nil)) .skip) (.expr (.om 3 (.var 0) (.cons (.var 1) (.cons (.tup (.cons (.str [116,117,114,110]) (.cons (.str [97]) .nil))) .nil))) .skip) .skip) .skip) .skip) (.hnd 5 none (.set 2 (.bin .Add (.var 2) (.int 1)) .skip) (.hnd 6 none (.ret (.bool false) .skip) .skip)) .skip) (.ret (.cmp .Eq (.var 2) (.int 4)) .skip)))
noncomputable def g_noform : List (Option G) := [none, none, none, none, some (.bi .range), some (.exc 6), some (.exc 0)]
noncomputable def x_noform : Gx := [("fields", .meth T_fields), ("elder", .meth T_elder), ("step", .meth T_stepof), ("grow", .meth T_grow)]
/- _law_grows_on: place 46; 0 _law_book 1 _law_lists 2 _law_last 3 len 4 _law_grown -/
noncomputable def c_growson : CS := (.set 2 (.bin .Sub (.call 3 (.cons (.var 1) .nil)) (.int 1)) (.ife (.bop .Or (.cons (.cmp .Gt (.var 2) (.int 27)) (.cons (.cmp .Eq (.sub (.var 1) (.var 2)) (.list .nil)) .nil))) (.ret (.bool true) .skip) .skip (.ife (.cmp .NotEq (.call 4 (.cons (.var 0) (.cons (.var 2) (.cons (.tup (.cons (.str [116,117,114,110]) (.cons (.sub (.sub (.var 1) (.var 2)) (.int 0)) .nil))) .nil)))) (.bin .Add (.var 2) (.int 1))) (.ret (.bool false) .skip) .skip (.ret (.cmp .Eq (.om 0 (.var 0) (.cons (.bin .Add (.var 2) (.int 1)) .nil)) (.sub (.var 1) (.var 2))) .skip))))
noncomputable def g_growson : List (Option G) := [none, none, none, some (.bi .len), some (.con T_grown6 false)]
noncomputable def x_growson : Gx := [("fields", .meth T_fields)]
/- law: place 47; 0 _law_script 1 _law_pool_here 2 _law_names 3 _law_handed 4 _law_book 5 _law_due_here 6 _law_lists 7 _law_elders 8 _law_steps 9 _law_held 10 _law_deed 11 _law_form 12 _law_step_here 13 _law_odd_here 14 _law_some 15 _law_found 16 _law_far 17 _law_pool 18 _law_cell_at 19 _law_first 20 list 21 _law_made 22 _law_first_due 23 isinstance 24 str 25 _law_deeds 26 len 27 _law_step 28 _law_odd 29 _law_due 30 _law_grown 31 _law_whole 32 _law_no_form 33 _law_told 34 _law_grows_on -/
noncomputable def c_law : CS := (.set 1 (.call 17 (.cons (.call 18 (.cons (.var 0) (.cons (.int 0) .nil))) .nil)) (.set 2 (.call 19 (.cons (.var 0) (.cons (.var 1) .nil))) (.set 3 (.call 20 (.cons (.var 2) .nil)) (.set 4 (.call 21 (.cons (.var 3) .nil)) (.set 5 (.call 22 (.cons (.var 2) .nil)) (.ife (.bop .Or (.cons (.cmp .NotEq (.var 5) (.str [])) (.cons (.isi 23 24 (.var 4)) .nil))) (.ret (.bop .And (.cons (.isi 23 24 (.var 4)) (.cons (.cmp .Eq (.var 4) (.var 5)) (.cons (.cmp .Eq (.var 3) (.var 2)) .nil)))) .skip) .skip (.expr (.meth .lclear (.var 3) .nil) (.unpack [6, 7, 8] (.tup (.cons (.list (.cons (.var 2) .nil)) (.cons (.list (.cons .none .nil)) (.cons (.list (.cons .none .nil)) .nil)))) (.set 9 (.om 1 (.var 4) (.cons (.int 0) .nil)) (.for_ 10 (.call 25 (.cons (.var 0) (.cons (.var 2) .nil))) (.set 11 (.bin .Mod (.sub (.var 10) (.int 0)) (.call 26 (.cons (.var 6) .nil))) (.set 12 (.sub (.var 10) (.int 3)) (.ife (.cmp .Is (.var 12) .none) (.set 12 (.call 27 (.cons (.sub (.var 10) (.int 1)) (.cons (.sub (.var 10) (.int 2)) (.cons (.var 1) (.cons (.sub (.var 6) (.var 11)) .nil))))) .skip) .skip (.set 13 (.bin .Mod (.sub (.var 10) (.int 2)) (.int 20)) (.ife (.cmp .Eq (.var 13) (.int 1)) (.set 14 (.list (.cons (.bin .Add (.call 26 (.cons (.var 6) .nil)) (.var 11)) (.cons (.bin .Sub (.neg (.int 1)) (.var 11)) (.cons (.bool true) (.cons .none (.cons (.bool false) (.cons (.str [48]) (.cons (.tup (.cons (.int 0) .nil)) .nil)))))))) (.set 11 (.sub (.var 14) (.bin .Mod (.bin .FloorDiv (.sub (.var 10) (.int 2)) (.int 20)) (.int 7))) .skip)) .skip (.ife (.cmp .Eq (.var 13) (.int 2)) (.set 12 (.call 28 (.cons (.bin .FloorDiv (.sub (.var 10) (.int 2)) (.int 20)) (.cons (.var 12) .nil))) .skip) .skip (.set 5 (.call 29 (.cons (.var 6) (.cons (.var 11) (.cons (.var 12) (.cons (.cmp .Eq (.var 13) (.int 2)) .nil))))) (.set 15 (.call 30 (.cons (.var 4) (.cons (.var 11) (.cons (.var 12) .nil)))) (.ife (.bop .And (.cons (.isi 23 24 (.var 5)) (.cons (.bop .Or (.cons (.not (.isi 23 24 (.var 15))) (.cons (.cmp .NotEq (.var 15) (.var 5)) .nil))) .nil))) (.ret (.bool false) .skip) .skip (.ife (.not (.isi 23 24 (.var 5))) (.ife (.bop .Or (.cons (.not (.call 31 (.cons (.var 15) .nil))) (.cons (.cmp .NotEq (.var 15) (.call 26 (.cons (.var 6) .nil))) .nil))) (.ret (.bool false) .skip) .skip (.expr (.meth .append (.var 6) (.cons (.var 5) .nil)) (.expr (.meth .append (.var 7) (.cons (.var 11) .nil)) (.expr (.meth .append (.var 8) (.cons (.var 12) .nil)) .skip)))) .skip (.ife (.bop .Or (.cons (.cmp .NotEq (.om 0 (.var 4) .nil) (.call 26 (.cons (.var 6) .nil))) (.cons (.not (.call 32 (.cons (.var 4) (.cons (.call 26 (.cons (.var 6) .nil)) .nil)))) .nil))) (.ret (.bool false) .skip) .skip .skip))))))))))) (.set 16 (.bin .Mod (.call 18 (.cons (.var 0) (.cons (.int 5) .nil))) (.bin .Pow (.int 10) (.int 20))) (.for_ 11 (.list (.cons (.bin .Add (.call 26 (.cons (.var 6) .nil)) (.var 16)) (.cons (.bin .Sub (.neg (.int 1)) (.var 16)) (.cons (.bool true) (.cons (.bool false) (.cons .none (.cons (.str [48]) (.cons (.tup (.cons (.int 0) .nil)) (.cons (.list (.cons (.int 0) .nil)) .nil))))))))) (.ife (.not (.call 32 (.cons (.var 4) (.cons (.var 11) .nil)))) (.ret (.bool false) .skip) .skip .skip) (.ret (.bop .And (.cons (.call 33 (.cons (.var 4) (.cons (.var 6) (.cons (.var 7) (.cons (.var 8) .nil))))) (.cons (.cmp .Eq (.var 9) (.var 2)) (.cons (.call 34 (.cons (.var 4) (.cons (.var 6) .nil))) .nil)))) .skip)))))))))))))
noncomputable def g_law : List (Option G) := [none, none, none, none, none, none, none, none, none, none, none, none, none, none, none, none, none, some (.con T_pool false), some (.con T_cell false), some (.con T_first6 false), some (.bi .list), some (.con T_made6 false), some (.con T_firstdue false), some (.isi), some (.ty .str), some (.con T_deeds false), some (.bi .len), some (.con T_step6 false), some (.con T_odd false), some (.con T_due false), some (.con T_grown6 false), some (.con T_isnumber false), some (.con T_noform false), some (.con T_told6 false), some (.con T_growson false)]
noncomputable def x_law : Gx := [("forms", .meth T_forms), ("fields", .meth T_fields)]
theorem b_isname : toB c_isname (fscope pw 16).names x_isname (posB c_isname (fbody pw 16)) = (fbody pw 16) := by kernel_rfl
theorem k_isname : defChk (fscope pw 16) (fbody pw 16) c_isname x_isname true ["thing"] = true := by decide +kernel
noncomputable abbrev Is_isname (C : Cx) (a : Addr) : Prop := FnAt C a ["thing"] (fbody pw 16) (fscope pw 16)
noncomputable abbrev Gs_isname (C : Cx) (d : Nat) : Prop := gsAll C d true (fscope pw 16).names g_isname ∧ gxAll C d x_isname
noncomputable def kk_isname (C : Cx) (d : Nat) (fz : List Nat) : KK := ⟨C, (fscope pw 16).names, g_isname, x_isname, fz, d, true, sup⟩
theorem b_isnumber : toB c_isnumber (fscope pw 17).names x_isnumber (posB c_isnumber (fbody pw 17)) = (fbody pw 17) := by kernel_rfl
theorem k_isnumber : defChk (fscope pw 17) (fbody pw 17) c_isnumber x_isnumber true ["thing"] = true := by decide +kernel
noncomputable abbrev Is_isnumber (C : Cx) (a : Addr) : Prop := FnAt C a ["thing"] (fbody pw 17) (fscope pw 17)
noncomputable abbrev Gs_isnumber (C : Cx) (d : Nat) : Prop := gsAll C d true (fscope pw 17).names g_isnumber ∧ gxAll C d x_isnumber
noncomputable def kk_isnumber (C : Cx) (d : Nat) (fz : List Nat) : KK := ⟨C, (fscope pw 17).names, g_isnumber, x_isnumber, fz, d, true, sup⟩
theorem b_issize : toB c_issize (fscope pw 18).names x_issize (posB c_issize (fbody pw 18)) = (fbody pw 18) := by kernel_rfl
theorem k_issize : defChk (fscope pw 18) (fbody pw 18) c_issize x_issize true ["thing"] = true := by decide +kernel
noncomputable abbrev Is_issize (C : Cx) (a : Addr) : Prop := FnAt C a ["thing"] (fbody pw 18) (fscope pw 18)
noncomputable abbrev Gs_issize (C : Cx) (d : Nat) : Prop := gsAll C d true (fscope pw 18).names g_issize ∧ gxAll C d x_issize
noncomputable def kk_issize (C : Cx) (d : Nat) (fz : List Nat) : KK := ⟨C, (fscope pw 18).names, g_issize, x_issize, fz, d, true, sup⟩
theorem b_isstep : toB c_isstep (fscope pw 19).names x_isstep (posB c_isstep (fbody pw 19)) = (fbody pw 19) := by kernel_rfl
theorem k_isstep : defChk (fscope pw 19) (fbody pw 19) c_isstep x_isstep true ["thing"] = true := by decide +kernel
noncomputable abbrev Is_isstep (C : Cx) (a : Addr) : Prop := FnAt C a ["thing"] (fbody pw 19) (fscope pw 19)
noncomputable abbrev Gs_isstep (C : Cx) (d : Nat) : Prop := gsAll C d true (fscope pw 19).names g_isstep ∧ gxAll C d x_isstep
noncomputable def kk_isstep (C : Cx) (d : Nat) (fz : List Nat) : KK := ⟨C, (fscope pw 19).names, g_isstep, x_isstep, fz, d, true, sup⟩
theorem b_begun : toB c_begun (fscope pw 20).names x_begun (posB c_begun (fbody pw 20)) = (fbody pw 20) := by kernel_rfl
theorem k_begun : defChk (fscope pw 20) (fbody pw 20) c_begun x_begun true ["step"] = true := by decide +kernel
noncomputable abbrev Is_begun (C : Cx) (a : Addr) : Prop := FnAt C a ["step"] (fbody pw 20) (fscope pw 20)
noncomputable abbrev Gs_begun (C : Cx) (d : Nat) : Prop := gsAll C d true (fscope pw 20).names g_begun ∧ gxAll C d x_begun
noncomputable def kk_begun (C : Cx) (d : Nat) (fz : List Nat) : KK := ⟨C, (fscope pw 20).names, g_begun, x_begun, fz, d, true, sup⟩
theorem b_brought : toB c_brought (fscope pw 21).names x_brought (posB c_brought (fbody pw 21)) = (fbody pw 21) := by kernel_rfl
theorem k_brought : defChk (fscope pw 21) (fbody pw 21) c_brought x_brought true ["step"] = true := by decide +kernel
noncomputable abbrev Is_brought (C : Cx) (a : Addr) : Prop := FnAt C a ["step"] (fbody pw 21) (fscope pw 21)
noncomputable abbrev Gs_brought (C : Cx) (d : Nat) : Prop := gsAll C d true (fscope pw 21).names g_brought ∧ gxAll C d x_brought
noncomputable def kk_brought (C : Cx) (d : Nat) (fz : List Nat) : KK := ⟨C, (fscope pw 21).names, g_brought, x_brought, fz, d, true, sup⟩
theorem b_behind : toB c_behind (fscope pw 22).names x_behind (posB c_behind (fbody pw 22)) = (fbody pw 22) := by kernel_rfl
theorem k_behind : defChk (fscope pw 22) (fbody pw 22) c_behind x_behind true ["step", "names"] = true := by decide +kernel
noncomputable abbrev Is_behind (C : Cx) (a : Addr) : Prop := FnAt C a ["step", "names"] (fbody pw 22) (fscope pw 22)
noncomputable abbrev Gs_behind (C : Cx) (d : Nat) : Prop := gsAll C d true (fscope pw 22).names g_behind ∧ gxAll C d x_behind
noncomputable def kk_behind (C : Cx) (d : Nat) (fz : List Nat) : KK := ⟨C, (fscope pw 22).names, g_behind, x_behind, fz, d, true, sup⟩
theorem b_init : toB c_init (mscope pw 27 0).names x_init (posB c_init (mbody pw 27 0)) = (mbody pw 27 0) := by kernel_rfl
theorem k_init : defChk (mscope pw 27 0) (mbody pw 27 0) c_init x_init true ["self", "names"] = true := by decide +kernel
noncomputable abbrev Is_init (C : Cx) (a : Addr) : Prop := FnAt C a ["self", "names"] (mbody pw 27 0) (mscope pw 27 0)
noncomputable abbrev Gs_init (C : Cx) (d : Nat) : Prop := gsAll C d true (mscope pw 27 0).names g_init ∧ gxAll C d x_init
noncomputable def kk_init (C : Cx) (d : Nat) (fz : List Nat) : KK := ⟨C, (mscope pw 27 0).names, g_init, x_init, fz, d, true, sup⟩
theorem b_needform : toB c_needform (mscope pw 27 1).names x_needform (posB c_needform (mbody pw 27 1)) = (mbody pw 27 1) := by kernel_rfl
theorem k_needform : defChk (mscope pw 27 1) (mbody pw 27 1) c_needform x_needform true ["self", "form"] = true := by decide +kernel
noncomputable abbrev Is_needform (C : Cx) (a : Addr) : Prop := FnAt C a ["self", "form"] (mbody pw 27 1) (mscope pw 27 1)
noncomputable abbrev Gs_needform (C : Cx) (d : Nat) : Prop := gsAll C d true (mscope pw 27 1).names g_needform ∧ gxAll C d x_needform
noncomputable def kk_needform (C : Cx) (d : Nat) (fz : List Nat) : KK := ⟨C, (mscope pw 27 1).names, g_needform, x_needform, fz, d, true, sup⟩
theorem b_grow : toB c_grow (mscope pw 27 3).names x_grow (posB c_grow (mbody pw 27 3)) = (mbody pw 27 3) := by kernel_rfl
theorem k_grow : defChk (mscope pw 27 3) (mbody pw 27 3) c_grow x_grow true ["self", "form", "step"] = true := by decide +kernel
noncomputable abbrev Is_grow (C : Cx) (a : Addr) : Prop := FnAt C a ["self", "form", "step"] (mbody pw 27 3) (mscope pw 27 3)
noncomputable abbrev Gs_grow (C : Cx) (d : Nat) : Prop := gsAll C d true (mscope pw 27 3).names g_grow ∧ gxAll C d x_grow
noncomputable def kk_grow (C : Cx) (d : Nat) (fz : List Nat) : KK := ⟨C, (mscope pw 27 3).names, g_grow, x_grow, fz, d, true, sup⟩
theorem b_forms : toB c_forms (mscope pw 27 4).names x_forms (posB c_forms (mbody pw 27 4)) = (mbody pw 27 4) := by kernel_rfl
theorem k_forms : defChk (mscope pw 27 4) (mbody pw 27 4) c_forms x_forms true ["self"] = true := by decide +kernel
noncomputable abbrev Is_forms (C : Cx) (a : Addr) : Prop := FnAt C a ["self"] (mbody pw 27 4) (mscope pw 27 4)
noncomputable abbrev Gs_forms (C : Cx) (d : Nat) : Prop := gsAll C d true (mscope pw 27 4).names g_forms ∧ gxAll C d x_forms
noncomputable def kk_forms (C : Cx) (d : Nat) (fz : List Nat) : KK := ⟨C, (mscope pw 27 4).names, g_forms, x_forms, fz, d, true, sup⟩
theorem b_fields : toB c_fields (mscope pw 27 5).names x_fields (posB c_fields (mbody pw 27 5)) = (mbody pw 27 5) := by kernel_rfl
theorem k_fields : defChk (mscope pw 27 5) (mbody pw 27 5) c_fields x_fields true ["self", "form"] = true := by decide +kernel
noncomputable abbrev Is_fields (C : Cx) (a : Addr) : Prop := FnAt C a ["self", "form"] (mbody pw 27 5) (mscope pw 27 5)
noncomputable abbrev Gs_fields (C : Cx) (d : Nat) : Prop := gsAll C d true (mscope pw 27 5).names g_fields ∧ gxAll C d x_fields
noncomputable def kk_fields (C : Cx) (d : Nat) (fz : List Nat) : KK := ⟨C, (mscope pw 27 5).names, g_fields, x_fields, fz, d, true, sup⟩
theorem b_elder : toB c_elder (mscope pw 27 6).names x_elder (posB c_elder (mbody pw 27 6)) = (mbody pw 27 6) := by kernel_rfl
theorem k_elder : defChk (mscope pw 27 6) (mbody pw 27 6) c_elder x_elder true ["self", "form"] = true := by decide +kernel
noncomputable abbrev Is_elder (C : Cx) (a : Addr) : Prop := FnAt C a ["self", "form"] (mbody pw 27 6) (mscope pw 27 6)
noncomputable abbrev Gs_elder (C : Cx) (d : Nat) : Prop := gsAll C d true (mscope pw 27 6).names g_elder ∧ gxAll C d x_elder
noncomputable def kk_elder (C : Cx) (d : Nat) (fz : List Nat) : KK := ⟨C, (mscope pw 27 6).names, g_elder, x_elder, fz, d, true, sup⟩
theorem b_stepof : toB c_stepof (mscope pw 27 7).names x_stepof (posB c_stepof (mbody pw 27 7)) = (mbody pw 27 7) := by kernel_rfl
theorem k_stepof : defChk (mscope pw 27 7) (mbody pw 27 7) c_stepof x_stepof true ["self", "form"] = true := by decide +kernel
noncomputable abbrev Is_stepof (C : Cx) (a : Addr) : Prop := FnAt C a ["self", "form"] (mbody pw 27 7) (mscope pw 27 7)
noncomputable abbrev Gs_stepof (C : Cx) (d : Nat) : Prop := gsAll C d true (mscope pw 27 7).names g_stepof ∧ gxAll C d x_stepof
noncomputable def kk_stepof (C : Cx) (d : Nat) (fz : List Nat) : KK := ⟨C, (mscope pw 27 7).names, g_stepof, x_stepof, fz, d, true, sup⟩
theorem b_whole : toB c_whole (fscope pw 29).names x_whole (posB c_whole (fbody pw 29)) = (fbody pw 29) := by kernel_rfl
theorem k_whole : defChk (fscope pw 29) (fbody pw 29) c_whole x_whole true ["_law_found"] = true := by decide +kernel
noncomputable abbrev Is_whole (C : Cx) (a : Addr) : Prop := FnAt C a ["_law_found"] (fbody pw 29) (fscope pw 29)
noncomputable abbrev Gs_whole (C : Cx) (d : Nat) : Prop := gsAll C d true (fscope pw 29).names g_whole ∧ gxAll C d x_whole
noncomputable def kk_whole (C : Cx) (d : Nat) (fz : List Nat) : KK := ⟨C, (fscope pw 29).names, g_whole, x_whole, fz, d, true, sup⟩
theorem b_cell : toB c_cell (fscope pw 30).names x_cell (posB c_cell (fbody pw 30)) = (fbody pw 30) := by kernel_rfl
theorem k_cell : defChk (fscope pw 30) (fbody pw 30) c_cell x_cell true ["_law_script", "_law_k"] = true := by decide +kernel
noncomputable abbrev Is_cell (C : Cx) (a : Addr) : Prop := FnAt C a ["_law_script", "_law_k"] (fbody pw 30) (fscope pw 30)
noncomputable abbrev Gs_cell (C : Cx) (d : Nat) : Prop := gsAll C d true (fscope pw 30).names g_cell ∧ gxAll C d x_cell
noncomputable def kk_cell (C : Cx) (d : Nat) (fz : List Nat) : KK := ⟨C, (fscope pw 30).names, g_cell, x_cell, fz, d, true, sup⟩
theorem b_pool : toB c_pool (fscope pw 31).names x_pool (posB c_pool (fbody pw 31)) = (fbody pw 31) := by kernel_rfl
theorem k_pool : defChk (fscope pw 31) (fbody pw 31) c_pool x_pool true ["_law_cell"] = true := by decide +kernel
noncomputable abbrev Is_pool (C : Cx) (a : Addr) : Prop := FnAt C a ["_law_cell"] (fbody pw 31) (fscope pw 31)
noncomputable abbrev Gs_pool (C : Cx) (d : Nat) : Prop := gsAll C d true (fscope pw 31).names g_pool ∧ gxAll C d x_pool
noncomputable def kk_pool (C : Cx) (d : Nat) (fz : List Nat) : KK := ⟨C, (fscope pw 31).names, g_pool, x_pool, fz, d, true, sup⟩
theorem b_word : toB c_word (fscope pw 32).names x_word (posB c_word (fbody pw 32)) = (fbody pw 32) := by kernel_rfl
theorem k_word (fr : Bool) : defChk (fscope pw 32) (fbody pw 32) c_word x_word fr ["_law_error"] = true := by cases fr <;> decide +kernel
noncomputable abbrev Is_word (C : Cx) (a : Addr) : Prop := FnAt C a ["_law_error"] (fbody pw 32) (fscope pw 32)
noncomputable abbrev Gs_word (C : Cx) (d : Nat) (fr : Bool) : Prop := gsAll C d fr (fscope pw 32).names g_word ∧ gxAll C d x_word
noncomputable def kk_word (C : Cx) (d : Nat) (fr : Bool) (fz : List Nat) : KK := ⟨C, (fscope pw 32).names, g_word, x_word, fz, d, fr, sup⟩
theorem b_sides : toB c_sides (fscope pw 33).names x_sides (posB c_sides (fbody pw 33)) = (fbody pw 33) := by kernel_rfl
theorem k_sides : defChk (fscope pw 33) (fbody pw 33) c_sides x_sides true ["_law_step_here"] = true := by decide +kernel
noncomputable abbrev Is_sides (C : Cx) (a : Addr) : Prop := FnAt C a ["_law_step_here"] (fbody pw 33) (fscope pw 33)
noncomputable abbrev Gs_sides (C : Cx) (d : Nat) : Prop := gsAll C d true (fscope pw 33).names g_sides ∧ gxAll C d x_sides
noncomputable def kk_sides (C : Cx) (d : Nat) (fz : List Nat) : KK := ⟨C, (fscope pw 33).names, g_sides, x_sides, fz, d, true, sup⟩
theorem b_lbehind : toB c_lbehind (fscope pw 34).names x_lbehind (posB c_lbehind (fbody pw 34)) = (fbody pw 34) := by kernel_rfl
theorem k_lbehind : defChk (fscope pw 34) (fbody pw 34) c_lbehind x_lbehind true ["_law_step_here", "_law_names"] = true := by decide +kernel
noncomputable abbrev Is_lbehind (C : Cx) (a : Addr) : Prop := FnAt C a ["_law_step_here", "_law_names"] (fbody pw 34) (fscope pw 34)
noncomputable abbrev Gs_lbehind (C : Cx) (d : Nat) : Prop := gsAll C d true (fscope pw 34).names g_lbehind ∧ gxAll C d x_lbehind
noncomputable def kk_lbehind (C : Cx) (d : Nat) (fz : List Nat) : KK := ⟨C, (fscope pw 34).names, g_lbehind, x_lbehind, fz, d, true, sup⟩
theorem b_step6 : toB c_step6 (fscope pw 35).names x_step6 (posB c_step6 (fbody pw 35)) = (fbody pw 35) := by kernel_rfl
theorem k_step6 : defChk (fscope pw 35) (fbody pw 35) c_step6 x_step6 true ["_law_cell", "_law_more", "_law_pool_here", "_law_names"] = true := by decide +kernel
noncomputable abbrev Is_step6 (C : Cx) (a : Addr) : Prop := FnAt C a ["_law_cell", "_law_more", "_law_pool_here", "_law_names"] (fbody pw 35) (fscope pw 35)
noncomputable abbrev Gs_step6 (C : Cx) (d : Nat) : Prop := gsAll C d true (fscope pw 35).names g_step6 ∧ gxAll C d x_step6
noncomputable def kk_step6 (C : Cx) (d : Nat) (fz : List Nat) : KK := ⟨C, (fscope pw 35).names, g_step6, x_step6, fz, d, true, sup⟩
theorem b_odd : toB c_odd (fscope pw 36).names x_odd (posB c_odd (fbody pw 36)) = (fbody pw 36) := by kernel_rfl
theorem k_odd : defChk (fscope pw 36) (fbody pw 36) c_odd x_odd true ["_law_cell", "_law_step_here"] = true := by decide +kernel
noncomputable abbrev Is_odd (C : Cx) (a : Addr) : Prop := FnAt C a ["_law_cell", "_law_step_here"] (fbody pw 36) (fscope pw 36)
noncomputable abbrev Gs_odd (C : Cx) (d : Nat) : Prop := gsAll C d true (fscope pw 36).names g_odd ∧ gxAll C d x_odd
noncomputable def kk_odd (C : Cx) (d : Nat) (fz : List Nat) : KK := ⟨C, (fscope pw 36).names, g_odd, x_odd, fz, d, true, sup⟩
theorem b_made6 : toB c_made6 (fscope pw 37).names x_made6 (posB c_made6 (fbody pw 37)) = (fbody pw 37) := by kernel_rfl
theorem k_made6 : defChk (fscope pw 37) (fbody pw 37) c_made6 x_made6 true ["_law_names"] = true := by decide +kernel
noncomputable abbrev Is_made6 (C : Cx) (a : Addr) : Prop := FnAt C a ["_law_names"] (fbody pw 37) (fscope pw 37)
noncomputable abbrev Gs_made6 (C : Cx) (d : Nat) : Prop := gsAll C d true (fscope pw 37).names g_made6 ∧ gxAll C d x_made6
noncomputable def kk_made6 (C : Cx) (d : Nat) (fz : List Nat) : KK := ⟨C, (fscope pw 37).names, g_made6, x_made6, fz, d, true, sup⟩
theorem b_grown6 : toB c_grown6 (fscope pw 38).names x_grown6 (posB c_grown6 (fbody pw 38)) = (fbody pw 38) := by kernel_rfl
theorem k_grown6 : defChk (fscope pw 38) (fbody pw 38) c_grown6 x_grown6 true ["_law_book", "_law_form", "_law_step_here"] = true := by decide +kernel
noncomputable abbrev Is_grown6 (C : Cx) (a : Addr) : Prop := FnAt C a ["_law_book", "_law_form", "_law_step_here"] (fbody pw 38) (fscope pw 38)
noncomputable abbrev Gs_grown6 (C : Cx) (d : Nat) : Prop := gsAll C d true (fscope pw 38).names g_grown6 ∧ gxAll C d x_grown6
noncomputable def kk_grown6 (C : Cx) (d : Nat) (fz : List Nat) : KK := ⟨C, (fscope pw 38).names, g_grown6, x_grown6, fz, d, true, sup⟩
theorem b_due : toB c_due (fscope pw 39).names x_due (posB c_due (fbody pw 39)) = (fbody pw 39) := by kernel_rfl
theorem k_due : defChk (fscope pw 39) (fbody pw 39) c_due x_due true ["_law_lists", "_law_form", "_law_step_here", "_law_is_odd"] = true := by decide +kernel
noncomputable abbrev Is_due (C : Cx) (a : Addr) : Prop := FnAt C a ["_law_lists", "_law_form", "_law_step_here", "_law_is_odd"] (fbody pw 39) (fscope pw 39)
noncomputable abbrev Gs_due (C : Cx) (d : Nat) : Prop := gsAll C d true (fscope pw 39).names g_due ∧ gxAll C d x_due
noncomputable def kk_due (C : Cx) (d : Nat) (fz : List Nat) : KK := ⟨C, (fscope pw 39).names, g_due, x_due, fz, d, true, sup⟩
theorem b_oddname : toB c_oddname (fscope pw 40).names x_oddname (posB c_oddname (fbody pw 40)) = (fbody pw 40) := by kernel_rfl
theorem k_oddname : defChk (fscope pw 40) (fbody pw 40) c_oddname x_oddname true ["_law_cell"] = true := by decide +kernel
noncomputable abbrev Is_oddname (C : Cx) (a : Addr) : Prop := FnAt C a ["_law_cell"] (fbody pw 40) (fscope pw 40)
noncomputable abbrev Gs_oddname (C : Cx) (d : Nat) : Prop := gsAll C d true (fscope pw 40).names g_oddname ∧ gxAll C d x_oddname
noncomputable def kk_oddname (C : Cx) (d : Nat) (fz : List Nat) : KK := ⟨C, (fscope pw 40).names, g_oddname, x_oddname, fz, d, true, sup⟩
theorem b_first6 : toB c_first6 (fscope pw 41).names x_first6 (posB c_first6 (fbody pw 41)) = (fbody pw 41) := by kernel_rfl
theorem k_first6 : defChk (fscope pw 41) (fbody pw 41) c_first6 x_first6 true ["_law_script", "_law_pool_here"] = true := by decide +kernel
noncomputable abbrev Is_first6 (C : Cx) (a : Addr) : Prop := FnAt C a ["_law_script", "_law_pool_here"] (fbody pw 41) (fscope pw 41)
noncomputable abbrev Gs_first6 (C : Cx) (d : Nat) : Prop := gsAll C d true (fscope pw 41).names g_first6 ∧ gxAll C d x_first6
noncomputable def kk_first6 (C : Cx) (d : Nat) (fz : List Nat) : KK := ⟨C, (fscope pw 41).names, g_first6, x_first6, fz, d, true, sup⟩
theorem b_firstdue : toB c_firstdue (fscope pw 42).names x_firstdue (posB c_firstdue (fbody pw 42)) = (fbody pw 42) := by kernel_rfl
theorem k_firstdue : defChk (fscope pw 42) (fbody pw 42) c_firstdue x_firstdue true ["_law_names"] = true := by decide +kernel
noncomputable abbrev Is_firstdue (C : Cx) (a : Addr) : Prop := FnAt C a ["_law_names"] (fbody pw 42) (fscope pw 42)
noncomputable abbrev Gs_firstdue (C : Cx) (d : Nat) : Prop := gsAll C d true (fscope pw 42).names g_firstdue ∧ gxAll C d x_firstdue
noncomputable def kk_firstdue (C : Cx) (d : Nat) (fz : List Nat) : KK := ⟨C, (fscope pw 42).names, g_firstdue, x_firstdue, fz, d, true, sup⟩
theorem b_deeds : toB c_deeds (fscope pw 43).names x_deeds (posB c_deeds (fbody pw 43)) = (fbody pw 43) := by kernel_rfl
theorem k_deeds : defChk (fscope pw 43) (fbody pw 43) c_deeds x_deeds true ["_law_script", "_law_names"] = true := by decide +kernel
noncomputable abbrev Is_deeds (C : Cx) (a : Addr) : Prop := FnAt C a ["_law_script", "_law_names"] (fbody pw 43) (fscope pw 43)
noncomputable abbrev Gs_deeds (C : Cx) (d : Nat) : Prop := gsAll C d true (fscope pw 43).names g_deeds ∧ gxAll C d x_deeds
noncomputable def kk_deeds (C : Cx) (d : Nat) (fz : List Nat) : KK := ⟨C, (fscope pw 43).names, g_deeds, x_deeds, fz, d, true, sup⟩
theorem b_told6 : toB c_told6 (fscope pw 44).names x_told6 (posB c_told6 (fbody pw 44)) = (fbody pw 44) := by kernel_rfl
theorem k_told6 : defChk (fscope pw 44) (fbody pw 44) c_told6 x_told6 true ["_law_book", "_law_lists", "_law_elders", "_law_steps"] = true := by decide +kernel
noncomputable abbrev Is_told6 (C : Cx) (a : Addr) : Prop := FnAt C a ["_law_book", "_law_lists", "_law_elders", "_law_steps"] (fbody pw 44) (fscope pw 44)
noncomputable abbrev Gs_told6 (C : Cx) (d : Nat) : Prop := gsAll C d true (fscope pw 44).names g_told6 ∧ gxAll C d x_told6
noncomputable def kk_told6 (C : Cx) (d : Nat) (fz : List Nat) : KK := ⟨C, (fscope pw 44).names, g_told6, x_told6, fz, d, true, sup⟩
theorem b_noform : toB c_noform (fscope pw 45).names x_noform (posB c_noform (fbody pw 45)) = (fbody pw 45) := by kernel_rfl
theorem k_noform : defChk (fscope pw 45) (fbody pw 45) c_noform x_noform true ["_law_book", "_law_form"] = true := by decide +kernel
noncomputable abbrev Is_noform (C : Cx) (a : Addr) : Prop := FnAt C a ["_law_book", "_law_form"] (fbody pw 45) (fscope pw 45)
noncomputable abbrev Gs_noform (C : Cx) (d : Nat) : Prop := gsAll C d true (fscope pw 45).names g_noform ∧ gxAll C d x_noform
noncomputable def kk_noform (C : Cx) (d : Nat) (fz : List Nat) : KK := ⟨C, (fscope pw 45).names, g_noform, x_noform, fz, d, true, sup⟩
theorem b_growson : toB c_growson (fscope pw 46).names x_growson (posB c_growson (fbody pw 46)) = (fbody pw 46) := by kernel_rfl
theorem k_growson : defChk (fscope pw 46) (fbody pw 46) c_growson x_growson true ["_law_book", "_law_lists"] = true := by decide +kernel
noncomputable abbrev Is_growson (C : Cx) (a : Addr) : Prop := FnAt C a ["_law_book", "_law_lists"] (fbody pw 46) (fscope pw 46)
noncomputable abbrev Gs_growson (C : Cx) (d : Nat) : Prop := gsAll C d true (fscope pw 46).names g_growson ∧ gxAll C d x_growson
noncomputable def kk_growson (C : Cx) (d : Nat) (fz : List Nat) : KK := ⟨C, (fscope pw 46).names, g_growson, x_growson, fz, d, true, sup⟩
theorem b_law : toB c_law (fscope pw 47).names x_law (posB c_law (fbody pw 47)) = (fbody pw 47) := by kernel_rfl
theorem k_law : defChk (fscope pw 47) (fbody pw 47) c_law x_law true ["_law_script"] = true := by decide +kernel
noncomputable abbrev Is_law (C : Cx) (a : Addr) : Prop := FnAt C a ["_law_script"] (fbody pw 47) (fscope pw 47)
noncomputable abbrev Gs_law (C : Cx) (d : Nat) : Prop := gsAll C d true (fscope pw 47).names g_law ∧ gxAll C d x_law
noncomputable def kk_law (C : Cx) (d : Nat) (fz : List Nat) : KK := ⟨C, (fscope pw 47).names, g_law, x_law, fz, d, true, sup⟩
end Mine
namespace Mine
open PySem PySem.Calls PySem.SeqAt PySem.W PyProof.Rows PySem.Challenge
theorem ok_cell {C : Cx} {a : Addr} {d : Nat} (F : Is_cell C a) (he : ExsOk C sup) (hg : Gs_cell C d) : Meets C (d + 1) true (.ref a) T_cell := by
  refine def_at (kk_cell C d) (fun _ => rfl) c_cell 1 F k_cell b_cell he hg.1 hg.2 fun fz vs Q X H h => ?_
  obtain ⟨l, k, ys, rfl, hl, hk, h⟩ := T_cell_out h
  refine ⟨rfl, ⟨look hl (brd (fun hc => ?_) fun hc => ⟨?_⟩)⟩⟩
  · have hc' : k.toNat < ys.length := by omega
    refine look hl (got (v := ys.getD k.toNat (.int 0)) ?_ h)
    unfold pick
    rw [if_pos hk]
    simp [List.getD, hc']
  · have hc' : ys.length ≤ k.toNat := by omega
    have e : ys.getD k.toNat (.int 0) = .int 0 := by simp [List.getD, hc']
    rw [e] at h
    exact h
theorem ok_isnumber {C : Cx} {a : Addr} {d : Nat} (F : Is_isnumber C a) (he : ExsOk C sup) (hg : Gs_isnumber C d) : Meets C (d + 1) true (.ref a) T_isnumber := by
  refine def_at (kk_isnumber C d) (fun _ => rfl) c_isnumber 3 F k_isnumber b_isnumber he hg.1 hg.2 fun fz vs Q X H h => ?_
  obtain ⟨v, rfl, sv, h⟩ := h
  refine ⟨rfl, ?_⟩
  cases sv with
  | none => exact ⟨h⟩
  | bool b => exact ⟨h⟩
  | int i => exact ⟨h⟩
  | str s _ => exact ⟨h⟩
  | list p xs hp => exact ⟨look hp h⟩
  | tuple p xs hp => exact ⟨look hp h⟩
  | dict p xs hp => exact ⟨look hp h⟩
theorem ok_issize {C : Cx} {a : Addr} {d : Nat} (F : Is_issize C a) (he : ExsOk C sup) (hg : Gs_issize C d) : Meets C (d + 1) true (.ref a) T_issize := by
  refine def_at (kk_issize C d) (fun _ => rfl) c_issize 2 F k_issize b_issize he hg.1 hg.2 fun fz vs Q X H h => ?_
  obtain ⟨v, rfl, sv, h⟩ := h
  refine ⟨rfl, ⟨⟨v, rfl, sv, ?_⟩⟩⟩
  cases sv with
  | int i => 
    refine brd (fun h1 => ?_) fun h1 => ?_
    · have e : isZ (.int i) = decide (i ≤ 1000000) := by simp [isZ, h1]
      rw [e] at h; exact h
    · have e : isZ (.int i) = false := by simp [isZ, h1]
      rw [e] at h; exact h
  | _ => exact h
theorem strIn_one (x : Str) (c : Nat) : strIn ⟨#[c]⟩ x = decide (c ∈ x.cps.toList) := StrLaws.found_one x c
theorem chars_get {l : List Nat} {k : Nat} {y : V} (h : (l.map fun c => V.str ⟨#[c]⟩)[k]? = some y) : ∃ c, l[k]? = some c ∧ y = .str ⟨#[c]⟩ := by
  rw [List.getElem?_map] at h
  obtain ⟨s, h1, h2⟩ := Option.map_eq_some_iff.mp h
  exact ⟨s, h1, h2.symm⟩
theorem isN_str {s : Str} (h1 : (1 : Int) ≤ s.length) (h2 : (s.length : Int) ≤ 8) : isN (.str s) = s.cps.toList.all fun c => decide (c ∈ abc.cps.toList) := by
  have h1' : 1 ≤ s.length := by omega
  have h2' : s.length ≤ 8 := by omega
  simp [isN, h1', h2']
theorem isN_no {s : Str} (h : ¬ ((1 : Int) ≤ s.length ∧ (s.length : Int) ≤ 8)) : isN (.str s) = false := by
  have e : (decide (1 ≤ s.length) && decide (s.length ≤ 8)) = false := by
    by_cases q : 1 ≤ s.length
    · by_cases q2 : s.length ≤ 8
      · exact absurd ⟨by omega, by omega⟩ h
      · simp [q2]
    · simp [q]
  simp only [isN, e, Bool.false_and]
theorem ok_isname {C : Cx} {a : Addr} {d : Nat} (F : Is_isname C a) (he : ExsOk C sup) (hg : Gs_isname C d) : Meets C (d + 1) true (.ref a) T_isname := by
  refine def_at (kk_isname C d) (fun _ => rfl) c_isname 5 F k_isname b_isname he hg.1 hg.2 fun fz vs Q X H h => ?_
  obtain ⟨v, rfl, sv, h⟩ := h
  refine ⟨rfl, ?_⟩
  cases sv with
  | none => exact ⟨h H (Ext.refl _)⟩
  | bool b => exact ⟨h H (Ext.refl _)⟩
  | int i => exact ⟨h H (Ext.refl _)⟩
  | list p xs hp => exact ⟨look hp (h H (Ext.refl _))⟩
  | tuple p xs hp => exact ⟨look hp (h H (Ext.refl _))⟩
  | dict p xs hp => exact ⟨look hp (h H (Ext.refl _))⟩
  | str s hs =>
    refine ⟨reqp (by omega) (brd (fun h1 => brn (fun h2 => brt (by simp [h2]) ?_) fun h2 => ⟨?_⟩) fun h1 => ?_)⟩
    · rw [isN_no (fun c => h2 c.2)] at h; exact h H (Ext.refl _)
    · rw [isN_str h1 h2] at h
      refine comp_map (s.cps.toList.map fun c => V.str ⟨#[c]⟩) (fun v => .bool (onS (fun x => strIn x abc) v)) rfl (by rw [List.length_map]; exact sizeS (by have : s.cps.toList.length = s.length := rfl; omega)) ?_ ?_
      · intro k y ys H' hy e
        obtain ⟨c, hc, rfl⟩ := chars_get hy
        exact ⟨rfl, e⟩
      · intro H₁ e1
        refine made_of fun H₂ l e2 _ _ hl => look hl ⟨s.cps.toList.map fun c => decide (c ∈ abc.cps.toList), ?_, ?_⟩
        · rw [List.map_map, List.map_map]
          refine List.map_congr_left fun c _ => ?_
          show V.bool (strIn ⟨#[c]⟩ abc) = _
          rw [strIn_one]; rfl
        · rw [List.all_map]; exact h H₂ (e1.trans e2)
    · rw [isN_no (fun c => h1 c.1)] at h; exact h H (Ext.refl _)
theorem sF_drop {w : Str} {v : V} {r : List V} (h : w = tDrop ∨ w = tTurn) (hv : isN v = true) : stepF w (v :: r) = decide ((((V.str w :: v :: r).length : Nat) : Int) = 2) := by
  simp only [stepF, if_pos h, hv, Bool.true_and]
  cases r with
  | nil => rfl
  | cons a r => simp; omega
theorem sF_add {w : Str} {v : V} {r : List V} (h1 : ¬ (w = tDrop ∨ w = tTurn)) (h : w = tAdd ∨ w = tShift) (hv : isN v = true) : stepF w (v :: r) = m1 isI r := by
  simp only [stepF, if_neg h1, if_pos h, hv, Bool.true_and]
theorem sF_name {w : Str} {v : V} {r : List V} (h1 : ¬ (w = tDrop ∨ w = tTurn)) (h2 : ¬ (w = tAdd ∨ w = tShift)) (h : w = tName) (hv : isN v = true) : stepF w (v :: r) = m1 isN r := by
  simp only [stepF, if_neg h1, if_neg h2, if_pos h, hv, Bool.true_and]
theorem sF_rest {w : Str} {v : V} {r : List V} (h1 : ¬ (w = tDrop ∨ w = tTurn)) (h2 : ¬ (w = tAdd ∨ w = tShift)) (h3 : ¬ w = tName) (hv : isN v = true) : stepF w (v :: r) = (if w = tPart ∨ w = tJoin then m3 (fun a b c => (isN a && isN b && isZ c) && (if w = tPart then decide (a ≠ b) else decide (v ≠ a))) r else false) := by
  simp only [stepF, if_neg h1, if_neg h2, if_neg h3, hv, Bool.true_and]
theorem sF_no {w : Str} {v : V} {r : List V} (hv : isN v = false) : stepF w (v :: r) = false := by simp [stepF, hv]
theorem len3 {w : Str} {v : V} {r : List V} (h : (((V.str w :: v :: r).length : Nat) : Int) = 3) : ∃ n, r = [n] := by
  rcases r with _ | ⟨a, _ | ⟨b, r⟩⟩
  · simp at h
  · exact ⟨a, rfl⟩
  · simp at h; omega
theorem len5 {w : Str} {v : V} {r : List V} (h : (((V.str w :: v :: r).length : Nat) : Int) = 5) : ∃ a b c, r = [a, b, c] := by
  rcases r with _ | ⟨a, _ | ⟨b, _ | ⟨c, _ | ⟨e, r⟩⟩⟩⟩ <;> simp at h
  · exact ⟨a, b, c, rfl⟩
  · omega
theorem isN_out {v : V} (h : isN v = true) : ∃ s, v = .str s := by
  cases v <;> first | exact ⟨_, rfl⟩ | cases h
theorem ne_sEq {s t : Str} : (!sEq s t) = decide (V.str s ≠ V.str t) := by
  rw [sEq_iff, Bool.eq_iff_iff]; simp
theorem no3 {w : Str} {v : V} {r : List V} {f : V → Bool} (h : ¬ (((V.str w :: v :: r).length : Nat) : Int) = 3) : m1 f r = false := by
  rcases r with _ | ⟨a, _ | ⟨b, r⟩⟩
  · rfl
  · exact absurd rfl h
  · rfl
theorem no5 {w : Str} {v : V} {r : List V} {f : V → V → V → Bool} (h : ¬ (((V.str w :: v :: r).length : Nat) : Int) = 5) : m3 f r = false := by
  rcases r with _ | ⟨a, _ | ⟨b, _ | ⟨c, _ | ⟨e, r⟩⟩⟩⟩ <;> first | rfl | exact absurd rfl h
theorem ok_isstep {C : Cx} {a : Addr} {d : Nat} (F : Is_isstep C a) (he : ExsOk C sup) (hg : Gs_isstep C d) : Meets C (d + 1) true (.ref a) T_isstep := by
  refine def_at (kk_isstep C d) (fun _ => rfl) c_isstep 7 F k_isstep b_isstep he hg.1 hg.2 fun fz vs Q X H h => ?_
  obtain ⟨v, b, rfl, sv, h⟩ := h
  refine ⟨rfl, ?_⟩
  cases sv with
  | none => exact ⟨h H (Ext.refl _)⟩
  | bool b => exact ⟨h H (Ext.refl _)⟩
  | str s => exact ⟨h H (Ext.refl _)⟩
  | list p xs hp => exact ⟨look hp (h H (Ext.refl _))⟩
  | dict p xs hp => exact ⟨look hp (h H (Ext.refl _))⟩
  | short p xs hp hl => exact ⟨look hp (look hp (brd (fun h1 => brt (decide_eq_true h1) (h H (Ext.refl _))) fun h1 => absurd hl (by omega)))⟩
  | odd p x y xs hp sx hx =>
    refine ⟨look hp (look hp (look hp ?_))⟩
    cases sx with
    | none => exact h H (Ext.refl _)
    | bool b => exact h H (Ext.refl _)
    | int i => exact h H (Ext.refl _)
    | str s _ => exact absurd rfl (hx s)
    | list q xs hq => exact look hq (h H (Ext.refl _))
    | tuple q xs hq => exact look hq (h H (Ext.refl _))
    | dict q xs hq => exact look hq (h H (Ext.refl _))
  | step p w parts hp hs hl5 =>
    cases parts with
    | nil => exact ⟨look hp (look hp (h H (Ext.refl _)))⟩
    | cons v r =>
      refine ⟨look hp (look hp (look hp (look hp ⟨v, rfl, hs v (by simp), fun H₁ e1 => ?_⟩)))⟩
      refine brs (fun hv => brt hv ?_) fun hv => ⟨?_⟩
      · rw [sF_no (by simpa using hv)] at h; exact h H₁ e1
      have hv : isN v = true := by simpa using hv
      have hp1 := e1 _ _ hp
      have dd : (w = tDrop ∨ w = tTurn) → Q (.bool (decide ((((V.str w :: v :: r).length : Nat) : Int) = 2))) H₁ := fun e => by rw [sF_drop e hv] at h; exact h H₁ e1
      refine look hp1 (brs (fun e => brt e (look hp1 (dd (.inl (sEq_t e))))) fun d1 => look hp1 (brs (fun e => brt e (look hp1 (dd (.inr (sEq_t e))))) fun d2 => ⟨?_⟩))
      have hD : ¬ (w = tDrop ∨ w = tTurn) := not_or.mpr ⟨sEq_f d1, sEq_f d2⟩
      by_cases hA : w = tAdd ∨ w = tShift
      · rw [sF_add hD hA hv] at h
        have aa : ∀ (h3 : ¬ (((V.str w :: v :: r).length : Nat) : Int) = 3), Q (.bool (decide ((((V.str w :: v :: r).length : Nat) : Int) = 3))) H₁ := fun h3 => by
          rw [no3 h3] at h; rw [decide_eq_false h3]; exact h H₁ e1
        have bb : ∀ n, r = [n] → Served H₁ n ∧ Q (.bool (isI n)) H₁ := fun n hr => by subst hr; exact ⟨(hs n (by simp)).ext e1, h H₁ e1⟩
        rcases hA with rfl | rfl
        · refine look hp1 (look hp1 (brd (fun h3 => ?_) fun h3 => aa h3))
          obtain ⟨n, hr⟩ := len3 h3
          obtain ⟨b1, b2⟩ := bb n hr
          subst hr
          exact look hp1 ⟨n, rfl, b1, b2⟩
        · refine look hp1 (look hp1 (look hp1 (brd (fun h3 => ?_) fun h3 => aa h3)))
          obtain ⟨n, hr⟩ := len3 h3
          obtain ⟨b1, b2⟩ := bb n hr
          subst hr
          exact look hp1 ⟨n, rfl, b1, b2⟩
      refine look hp1 (brs (fun e => absurd (.inl (sEq_t e)) hA) fun a1 => look hp1 (brs (fun e => absurd (.inr (sEq_t e)) hA) fun a2 => ⟨?_⟩))
      refine look hp1 (brs (fun e => ?_) fun n1 => ⟨?_⟩)
      · rw [sF_name hD hA (sEq_t e) hv] at h
        refine look hp1 (brd (fun h3 => ?_) fun h3 => ?_)
        · obtain ⟨n, rfl⟩ := len3 h3
          exact look hp1 ⟨n, rfl, (hs n (by simp)).ext e1, fun H₂ e2 => h H₂ (e1.trans e2)⟩
        · rw [no3 h3] at h
          show Q (.bool (decide ((((V.str w :: v :: r).length : Nat) : Int) = 3))) H₁
          rw [decide_eq_false h3]; exact h H₁ e1
      rw [sF_rest hD hA (sEq_f n1) hv] at h
      by_cases hP : w = tPart ∨ w = tJoin
      · rw [if_pos hP] at h
        rcases hP with rfl | rfl
        · refine look hp1 (look hp1 (brn (fun h5 => brt (by rw [decide_eq_false h5]; rfl) ?_) fun h5 => ⟨?_⟩))
          · rw [no5 h5] at h; exact h H₁ e1
          obtain ⟨x, y, z, hr⟩ := len5 h5
          subst hr
          have h : ∀ H', Ext H H' → Q (.bool ((isN x && isN y && isZ z) && decide (x ≠ y))) H' := h
          have no : (isN x && isN y && isZ z) = false → ∀ H', Ext H H' → Q (.bool false) H' := fun e H' e' => by have := h H' e'; rw [e, Bool.false_and] at this; exact this
          refine look hp1 ⟨x, rfl, (hs x (by simp)).ext e1, fun H₂ e2 => brs (fun q => brt q (no (by simp at q; simp [q]) H₂ (e1.trans e2))) fun qx => look (e2 _ _ hp1) ⟨y, rfl, (hs y (by simp)).ext (e1.trans e2), fun H₃ e3 => brs (fun q => brt q (no (by simp at q; simp [q]) H₃ ((e1.trans e2).trans e3))) fun qy => look (e3 _ _ (e2 _ _ hp1)) ⟨z, rfl, (hs z (by simp)).ext ((e1.trans e2).trans e3), brs (fun q => brt q (no (by simp at q; simp [q]) H₃ ((e1.trans e2).trans e3))) fun qz => ⟨?_⟩⟩⟩⟩
          have hp3 := e3 _ _ (e2 _ _ hp1)
          simp only [Bool.not_eq_eq_eq_not, Bool.not_false] at qx qy qz
          replace h := h H₃ ((e1.trans e2).trans e3)
          rw [qx, qy, qz] at h
          obtain ⟨sx, rfl⟩ := isN_out qx
          obtain ⟨sy, rfl⟩ := isN_out qy
          rw [← ne_sEq] at h
          exact look hp3 (look hp3 (look hp3 h))
        · refine look hp1 (look hp1 (look hp1 (brn (fun h5 => brt (by rw [decide_eq_false h5]; rfl) ?_) fun h5 => ⟨?_⟩)))
          · rw [no5 h5] at h; exact h H₁ e1
          obtain ⟨x, y, z, hr⟩ := len5 h5
          subst hr
          have h : ∀ H', Ext H H' → Q (.bool ((isN x && isN y && isZ z) && decide (v ≠ x))) H' := h
          have no : (isN x && isN y && isZ z) = false → ∀ H', Ext H H' → Q (.bool false) H' := fun e H' e' => by have := h H' e'; rw [e, Bool.false_and] at this; exact this
          refine look hp1 ⟨x, rfl, (hs x (by simp)).ext e1, fun H₂ e2 => brs (fun q => brt q (no (by simp at q; simp [q]) H₂ (e1.trans e2))) fun qx => look (e2 _ _ hp1) ⟨y, rfl, (hs y (by simp)).ext (e1.trans e2), fun H₃ e3 => brs (fun q => brt q (no (by simp at q; simp [q]) H₃ ((e1.trans e2).trans e3))) fun qy => look (e3 _ _ (e2 _ _ hp1)) ⟨z, rfl, (hs z (by simp)).ext ((e1.trans e2).trans e3), brs (fun q => brt q (no (by simp at q; simp [q]) H₃ ((e1.trans e2).trans e3))) fun qz => ⟨?_⟩⟩⟩⟩
          have hp3 := e3 _ _ (e2 _ _ hp1)
          simp only [Bool.not_eq_eq_eq_not, Bool.not_false] at qx qy qz
          replace h := h H₃ ((e1.trans e2).trans e3)
          rw [qx, qy, qz] at h
          obtain ⟨sx, rfl⟩ := isN_out qx
          obtain ⟨sy, rfl⟩ := isN_out hv
          rw [← ne_sEq] at h
          exact look hp3 ⟨look hp3 (look hp3 h)⟩
      · rw [if_neg hP] at h
        exact look hp1 (brs (fun _ => look hp1 (brs (fun _ => h H₁ e1) fun e => absurd (.inr (sEq_t (by simpa using e))) hP)) fun e => absurd (.inl (sEq_t (by simpa using e))) hP)
theorem ok_begun {C : Cx} {a : Addr} {d : Nat} (F : Is_begun C a) (he : ExsOk C sup) (hg : Gs_begun C d) : Meets C (d + 1) true (.ref a) T_begun := by
  refine def_at (kk_begun C d) (fun _ => rfl) c_begun 0 F k_begun b_begun he hg.1 hg.2 fun fz vs Q X H h => ?_
  obtain ⟨p, st, rfl, hp, h⟩ := h
  refine ⟨rfl, ?_⟩
  cases st <;> first | exact ⟨look hp h⟩ | exact ⟨look hp ⟨look hp ⟨look hp h⟩⟩⟩ | exact ⟨look hp ⟨look hp (look hp (look hp h))⟩⟩
theorem ok_brought {C : Cx} {a : Addr} {d : Nat} (F : Is_brought C a) (he : ExsOk C sup) (hg : Gs_brought C d) : Meets C (d + 1) true (.ref a) T_brought := by
  refine def_at (kk_brought C d) (fun _ => rfl) c_brought 0 F k_brought b_brought he hg.1 hg.2 fun fz vs Q X H h => ?_
  obtain ⟨p, st, rfl, hp, h⟩ := h
  refine ⟨rfl, ?_⟩
  cases st <;> first | exact ⟨look hp (look hp h)⟩ | exact ⟨look hp h⟩ | exact ⟨look hp ⟨look hp (look hp h)⟩⟩ | exact ⟨look hp ⟨look hp ⟨look hp (look hp (look hp h))⟩⟩⟩ | exact ⟨look hp ⟨look hp ⟨look hp ⟨look hp (look hp h)⟩⟩⟩⟩ | exact ⟨look hp ⟨look hp ⟨look hp ⟨look hp ⟨look hp h⟩⟩⟩⟩⟩
theorem oni {i : Int} {k : Int → Prop} (h : k i) : onInt (.int i) k := h
theorem ok_behind {C : Cx} {a : Addr} {d : Nat} (F : Is_behind C a) (he : ExsOk C sup) (hg : Gs_behind C d) : Meets C (d + 1) true (.ref a) T_behind := by
  refine def_at (kk_behind C d) (fun _ => rfl) c_behind 11 F k_behind b_behind he hg.1 hg.2 fun fz vs Q X H h => ?_
  obtain ⟨p, q, st, ns, rfl, hp, hq, hz, h⟩ := h
  refine ⟨rfl, ⟨?_⟩⟩
  refine ⟨p, st, rfl, hp, made_of fun H₁ b e1 nb fb hb => ⟨?_⟩⟩
  replace hp := e1 _ _ hp
  replace hq := e1 _ _ hq
  refine forS_of (st.goes.map V.str) (fun k ρ H' => Bx13 (fun a3 => ρ = [some (.ref p), some (.ref q), some (.ref b), a3, none, none, none, none, none, none, none, none, none]) (fun a3 => Ext H₁ H') (fun a3 => ∀ a ∈ st.goes.take k, a ∈ ns)) (items_list hb) ⟨none, rfl, Ext.refl _, by simp⟩ ?_ ?_
  · rintro k y ρ H' hy ⟨a3, rfl, e2, hin⟩
    obtain ⟨x, hx, rfl⟩ := strs_get hy
    refine look (e2 _ _ hq) (in_strs rfl (brn (fun hn => ?_) fun hm => ⟨?_⟩))
    · unfold behindF at h
      rw [if_neg (fun hall => hn (hall x (List.mem_of_getElem? hx)))] at h
      exact h H' (e1.trans e2)
    · refine ⟨_, rfl, e2, fun a ha => ?_⟩
      rcases take_mem hx ha with ha | rfl
      · exact hin a ha
      · exact hm
  rintro ρ H₂ ⟨a3, rfl, e2, hall⟩
  rw [List.length_map, List.take_length] at hall
  replace hp := e2 _ _ hp
  replace hq := e2 _ _ hq
  replace hb := e2 _ _ hb
  unfold behindF at h
  rw [if_pos hall] at h
  -- what stays
  refine ⟨?_⟩
  refine comp_filter (ns.map V.str) (onS fun n => !decide (n ∈ st.goes)) (items_list hq) (by rw [List.length_map]; exact sizeS (by omega)) ?_ ?_
  · intro k y ys H' hy e
    obtain ⟨x, hx, rfl⟩ := strs_get hy
    refine look (e _ _ hb) (in_strs rfl (brn (fun hn => ?_) fun hm => ?_))
    · exact ⟨by simp [onS, hn], e⟩
    · exact ⟨by simp [onS, hm], e⟩
  intro H₃ e3
  rw [filter_strs]
  refine made_of fun H₄ s e4 ns_ fs hs => ⟨?_⟩
  replace hs : H₄.get s = some (.list ((staysOf st ns).map V.str)) := hs
  have E4 := (e1.trans e2).trans (e3.trans e4)
  replace hp := e4 _ _ (e3 _ _ hp)
  replace hq := e4 _ _ (e3 _ _ hq)
  -- what comes
  refine ⟨p, st, rfl, hp, made_of fun H₅ c e5 nc fc hc => ?_⟩
  replace hp := e5 _ _ hp
  replace hq := e5 _ _ hq
  replace hs := e5 _ _ hs
  refine forS_of (st.comes.map V.str) (fun k ρ H' => Bx13 (fun a3 => ρ = [some (.ref p), some (.ref q), some (.ref b), a3, some (.ref s), none, none, none, none, none, none, none, none]) (fun a3 => Ext H₅ H') (fun a3 => ∀ a ∈ st.comes.take k, a ∉ staysOf st ns)) (items_list hc) ⟨_, rfl, Ext.refl _, by simp⟩ ?_ ?_
  · rintro k y ρ H' hy ⟨a3, rfl, e6, hin⟩
    obtain ⟨x, hx, rfl⟩ := strs_get hy
    refine look (e6 _ _ hs) (in_strs rfl (brd (fun hm => ?_) fun hn => ⟨?_⟩))
    · rw [if_neg (fun hno => hno x (List.mem_of_getElem? hx) hm)] at h
      exact h H' ((E4.trans e5).trans e6)
    · refine ⟨_, rfl, e6, fun a ha => ?_⟩
      rcases take_mem hx ha with ha | rfl
      · exact hin a ha
      · exact hn
  rintro ρ H₆ ⟨a3', rfl, e6, hno⟩
  rw [List.length_map, List.take_length] at hno
  replace hp := e6 _ _ hp
  replace hq := e6 _ _ hq
  replace hs := e6 _ _ hs
  rw [if_pos hno] at h
  have E6 := (E4.trans e5).trans e6
  -- the new list
  refine ⟨made_of fun H₇ f e7 nf ff hf => ⟨?_⟩⟩
  have nfH : H.get f = none := E6.none nf
  have hfq : f ≠ q := fun e => by rw [← e, nf] at hq; cases hq
  have hfs : f ≠ c := fun e => by subst e; rw [E6.none nf] at *; exact absurd (e6 _ _ hc) (by rw [nf]; simp)
  generalize hgd : (fun n => if n ∈ staysOf st ns then [n] else if n = st.fst then st.comes else []) = g at *
  have hglen : ∀ n, (g n).length ≤ 2 := fun n => by
    subst hgd
    simp only
    split
    · simp
    · split
      · exact comes_len st
      · simp
  have hfo : foundOf st ns = ns.flatMap g := by unfold foundOf; rw [hgd]
  rw [hfo] at h
  refine forS_of (ns.map V.str) (fun k ρ H' => Bx13 (fun a3 => ρ = [some (.ref p), some (.ref q), some (.ref b), a3, some (.ref s), some (.ref f), none, none, none, none, none, none, none]) (fun a3 => Ext H₆ H') (fun a3 => H'.get f = some (.list (((ns.take k).flatMap g).map V.str)))) (items_list (e7 _ _ hq)) ⟨_, rfl, e7, by simpa using hf⟩ ?_ ?_
  · rintro k y ρ H' hy ⟨a3, rfl, E, hf⟩
    obtain ⟨x, hx, rfl⟩ := strs_get hy
    have hk : k < ns.length := (List.getElem?_eq_some_iff.mp hx).1
    have hl : ((ns.take k).flatMap g).length ≤ 200 := by
      have := flat_len hglen (ns.take k)
      rw [List.length_take] at this; omega
    have hne : f ∉ q :: fz := by
      simp [hfq]; exact ff
    have nxt : ∀ l, g x = l → ((ns.take (k + 1)).flatMap g).map V.str = ((ns.take k).flatMap g).map V.str ++ l.map V.str := fun l e => by rw [take_flatMap g hx, e, List.map_append]
    refine look (E _ _ hs) (in_strs rfl (brd (fun hm => ?_) fun hn => ?_))
    · refine look hf (look hf (reqp hne (reqp (by rw [List.length_map]; exact sizeS (Nat.le_trans hl (by decide))) ⟨⟨⟨_, rfl, E.set nf, ?_⟩⟩⟩)))
      rw [AH.set_self, nxt [x] (by subst hgd; simp [hm])]; rfl
    · refine look (E _ _ hp) (got (pick1 st) (brs (fun he => ?_) fun hne' => ?_))
      · have he := sEq_t he
        refine look hf ⟨p, st, rfl, E _ _ hp, made_of fun H'' cc e8 nc' fc' hcc => ?_⟩
        have hl2 := comes_len st
        refine look (e8 _ _ hf) (look hcc (reqp hne (reqp (by simp only [List.length_map]; exact sizeS (Nat.le_trans (Nat.add_le_add hl hl2) (by decide))) ⟨⟨⟨⟨_, rfl, (E.trans e8).set nf, ?_⟩⟩⟩⟩)))
        rw [AH.set_self, nxt st.comes (by subst hgd; simp only [if_neg hn, if_pos he])]
      · have hne' := sEq_f hne'
        refine ⟨⟨⟨_, rfl, E, ?_⟩⟩⟩
        rw [nxt [] (by subst hgd; simp [hn, hne'])]; simpa using hf
  rintro ρ H₈ ⟨a3'', rfl, E, hf⟩
  rw [List.length_map, List.take_length] at hf
  have hl : (ns.flatMap g).length ≤ 200 := by have := flat_len hglen ns; omega
  refine ife_cut (fun ρ' H' => ρ' = [some (.ref p), some (.ref q), some (.ref b), a3'', some (.ref s), some (.ref f), none, none, none, none, none, none, none] ∧ Ext H₆ H' ∧ H'.get f = some (.list ((ns.flatMap g ++ (if st.isAdd then [st.fst] else [])).map V.str))) (fun N rest => ?_) ?_
  · refine look (E _ _ hp) (got (pick0 st) ?_)
    show br (sEq (tx st.word) (tx [97,100,100])) _ _
    rw [word_add]
    refine brs (fun ha => ?_) fun ha => ?_
    · refine look hf (look (E _ _ hp) (got (pick1 st) (look hf (reqp ff (reqp (by rw [List.length_map]; exact sizeS (Nat.le_trans hl (by decide))) ⟨rest _ _ ⟨rfl, E.set nf, ?_⟩⟩)))))
      rw [AH.set_self, ha]; simp
    · refine rest _ _ ⟨rfl, E, ?_⟩
      rw [hf, ha]; simp
  rintro ρ H₉ ⟨rfl, E9, hf⟩
  generalize hfs : ns.flatMap g ++ (if st.isAdd then [st.fst] else []) = fs at hf h
  have fin1 : ¬ (1 ≤ fs.length ∧ fs.length ≤ 12) → X 3 H₉ := fun hno => by rw [if_neg hno] at h; exact h H₉ (E6.trans E9)
  have hfl : (fs.map V.str).length = fs.length := List.length_map ..
  refine ⟨look hf (brd (fun h1 => ?_) fun h1 => fin1 fun q => h1 (by rw [hfl]; exact Int.ofNat_le.mpr q.1))⟩
  refine brn (fun h2 => fin1 fun q => h2 (by rw [hfl]; exact Int.ofNat_le.mpr q.2)) fun h2 => ⟨?_⟩
  rw [hfl] at h1 h2
  rw [if_pos ⟨Int.ofNat_le.mp h1, Int.ofNat_le.mp h2⟩] at h
  exact h H₉ f (E6.trans E9) nfH ff hf
end Mine
namespace Mine
open PySem PySem.Calls PySem.SeqAt PySem.W PyProof.Rows PySem.Challenge
end Mine
namespace Mine
open PySem PySem.Calls PySem.SeqAt PySem.W PyProof.Rows PySem.Challenge
inductive Bx18 {α : Type} (P Q R S T U W Z : α → Prop) : Prop
  | mk (a : α) (h0 : P a) (h1 : Q a) (h2 : R a) (h3 : S a) (h4 : T a) (h5 : U a) (h6 : W a) (h7 : Z a) : Bx18 P Q R S T U W Z
theorem nor1 {c : Prop} [Decidable c] {A B : Prop} (h1 : ¬ c → A) (h2 : c → B) : br (!decide c) (br (!decide c) A B) (br false A B) := by
  by_cases h : c
  · rw [decide_eq_true h]; exact h2 h
  · rw [decide_eq_false h]; exact h1 h
theorem numOk_int {n : Nat} {i : Int} : numOk n (.int i) = true ↔ 0 ≤ i ∧ i < n := by simp [numOk]
theorem lenB {α β : Type} (f : α → β) (l : List α) : (((l.map f).length : Nat) : Int) = (l.length : Nat) := by rw [List.length_map]
theorem ok_needform {C : Cx} {a : Addr} {d : Nat} (F : Is_needform C a) (he : ExsOk C sup) (hg : Gs_needform C d) : Meets C (d + 1) true (.ref a) T_needform := by
  refine def_at (kk_needform C d) (fun _ => rfl) c_needform 3 F k_needform b_needform he hg.1 hg.2 fun fz vs Q X H h => ?_
  obtain ⟨x, B, v, rfl, b, sv, h⟩ := h
  refine ⟨rfl, ⟨⟨v, rfl, sv, ?_⟩⟩⟩
  have no : numOk B.rows.length v = false → X 6 H := fun e => by rw [e] at h; exact h
  have yes : numOk B.rows.length v = true → Q .none H := fun e => by rw [e] at h; exact h
  cases sv with
  | int i =>
    refine brd (fun h0 => look b.inst (look b.attrs (look b.rowsL (nor1 (fun h1 => no ?_) fun h1 => ⟨yes ?_⟩)))) fun h0 => no ?_
    · rw [lenB] at h1
      exact Bool.eq_false_iff.mpr fun e => h1 (numOk_int.mp e).2
    · rw [lenB] at h1
      exact numOk_int.mpr ⟨h0, h1⟩
    · exact Bool.eq_false_iff.mpr fun e => h0 (numOk_int.mp e).1
  | _ => exact no rfl
theorem ok_forms {C : Cx} {a : Addr} {d : Nat} (F : Is_forms C a) (he : ExsOk C sup) (hg : Gs_forms C d) : Meets C (d + 1) true (.ref a) T_forms := by
  refine def_at (kk_forms C d) (fun _ => rfl) c_forms 1 F k_forms b_forms he hg.1 hg.2 fun fz vs Q X H h => ?_
  obtain ⟨x, B, rfl, b, h⟩ := h
  refine ⟨rfl, ⟨look b.inst (look b.attrs (look b.rowsL ?_))⟩⟩
  rw [← lenB (fun w => V.ref w.p)] at h
  exact h
theorem pick_ref {α : Type} {l : List α} {f : α → Nat} {e : Nat} {w : α} (h : l[e]? = some w) : pick (l.map fun w => V.ref (f w)) (e : Int) = some (.ref (f w)) := by
  rw [pick_nat, List.getElem?_map, h]; rfl
theorem vs2 (w : RowR) : pick w.vs 2 = some (.ref w.n) := by
  obtain ⟨p, n, ns, s⟩ := w
  cases s <;> rfl
theorem add_of {st : Stp} (h : st.isAdd = true) : ∃ x c, st = .add x c := by cases st <;> first | exact ⟨_, _, rfl⟩ | cases h
theorem num_none {st : Stp} (h : st.isAdd = false) : st.num = none := by cases st <;> first | rfl | cases h
theorem grown_at {H H' : AH} {x : Nat} {B : Bk} (b : BkAt H x B) {e sp p n : Nat} {st : Stp} {fs : List Str} (hsp : H.get sp = some (.tuple st.vs)) (np : H.get p = none) (nn : H.get n = none) (ext : ExtB B.mut H H')
    (hr : H'.get B.r = some (.list (B.rows.map (fun w => V.ref w.p) ++ [.ref p]))) (hk : H'.get B.k = H.get B.k) (ho : H'.get B.o = H.get B.o) (hp : H'.get p = some (.tuple [.int e, .ref sp, .ref n])) (hn : H'.get n = some (.list (fs.map V.str)))
    (hw : ∀ w ∈ B.owns, H'.get w.1 = some (onode (match st.num with | some c => pO w.2 (B.rows.length : Nat) c | none => w.2))) : BkAt H' x (B.grown e sp st fs p n) := by
  have hm := grown_mut B e sp st fs p n
  refine ⟨ext _ _ b.xOut b.inst, ext _ _ b.dOut b.attrs, ?_, fun w hw' => ?_, ?_, fun w hw' => ?_, ?_, fun w hw' => ?_, by rw [hm]; exact b.nd, fun w hw' => ?_, fun w hw' => ?_⟩
  · show H'.get B.r = some (.list ((B.rows ++ [RowR.mk p n fs (some (e, sp, st))]).map fun (w : RowR) => V.ref w.p))
    rw [List.map_append]; exact hr
  · rcases List.mem_append.mp hw' with hw' | hw'
    · exact RowAt.extB b ext hw'
    · rw [List.mem_singleton.mp hw']
      refine ⟨hp, hn, fun e' sp' st' q => ?_⟩
      cases q
      exact ext _ _ (b.tOut hsp) hsp
  · show H'.get B.k = _
    rw [hk]; exact b.keptL
  · exact ext _ _ (b.kp w hw') (b.kept w hw')
  · show H'.get B.o = _
    rw [ho, b.ownsL]
    unfold Bk.grown
    cases st.num <;> simp
  · have hw' : w ∈ (match st.num with | some c => B.owns.map (fun (w : Nat × OI) => (w.1, pO w.2 (B.rows.length : Nat) c)) | none => B.owns) := hw'
    cases q : st.num with
    | none => rw [q] at hw'; have := hw w hw'; rw [q] at this; exact this
    | some c =>
      rw [q] at hw'
      obtain ⟨u, hu, rfl⟩ := List.mem_map.mp hw'
      have := hw u hu; rw [q] at this; exact this
  · rw [hm]
    rcases List.mem_append.mp hw' with hw' | hw'
    · exact b.nm w hw'
    · rw [List.mem_singleton.mp hw']
      intro hm'
      rcases b.mutN hm' with ⟨xs, e⟩ | ⟨es, e⟩ <;> (rw [show (RowR.mk p n fs (some (_, sp, st))).n = n from rfl, nn] at e; cases e)
  · rw [hm]; exact b.kp w hw'
theorem ok_grow {C : Cx} {a : Addr} {d : Nat} (F : Is_grow C a) (he : ExsOk C sup) (hg : Gs_grow C d) : Meets C (d + 1) true (.ref a) T_grow := by
  refine def_at (kk_grow C d) (fun _ => rfl) c_grow 9 F k_grow b_grow he hg.1 hg.2 fun fz vs Q X H h => ?_
  obtain ⟨x, B, v, u, rfl, b, ok, sv, hfz, how⟩ := h
  refine ⟨rfl, ⟨look b.inst (look b.attrs ⟨x, B, v, rfl, b, sv, ?_⟩)⟩⟩
  cases how with
  | noform _ _ h0 hx => rw [h0]; exact hx
  | nostep _ _ h0 hs hx => rw [h0]; exact ⟨⟨u, false, rfl, hs, fun H₁ e1 => hx H₁ e1⟩⟩
  | step e sp w st hw hsp hss hok hq =>
    have h0 : numOk B.rows.length (.int e) = true := numOk_int.mpr ⟨by omega, by have := (List.getElem?_eq_some_iff.mp hw).1; omega⟩
    rw [h0]
    have says := says_stp hsp hss
    rw [hok] at says
    have wB := List.mem_of_getElem? hw
    refine ⟨⟨_, true, rfl, says, fun H₁ e1 => ⟨?_⟩⟩⟩
    have b1 := b.ext e1
    have r1 := b1.rows w wB
    refine look b1.inst (look b1.attrs (look b1.rowsL (got (pick_ref hw) (look r1.row (got (vs2 w) ⟨sp, w.n, st, w.names, rfl, e1 _ _ hsp, r1.names, by have := (ok.rows e w hw).few; omega, ?_⟩)))))
    cases hb : behindF st w.names with
    | inl i => rw [hb] at hq; exact fun H' e' => hq H' (e1.trans e')
    | inr fs =>
      rw [hb] at hq
      replace hq : if 30 ≤ B.rows.length then ∀ H', Ext H H' → X 8 H' else ∀ H' p n, H.get p = none → H.get n = none → ExtB B.mut H H' → BkAt H' x (B.grown e sp st fs p n) → Q (.int B.rows.length) H' := hq
      intro H₂ n e2 nn nf hn
      have b2 := b1.ext e2
      refine ⟨look b2.inst (look b2.attrs (look b2.rowsL (brd (fun h30 => ?_) fun h30 => ⟨look b2.inst (look b2.attrs (look b2.rowsL ⟨?_⟩))⟩)))⟩
      · rw [lenB] at h30
        rw [if_pos (by omega)] at hq
        exact hq H₂ (e1.trans e2)
      rw [lenB] at h30
      rw [if_neg (by omega)] at hq
      refine look b2.inst (look b2.attrs (look b2.rowsL (made_of fun H₃ p e3 np pf hp => ?_)))
      have b3 := b2.ext e3
      have E3 := (e1.trans e2).trans e3
      have few := ok.few
      have hrf : B.r ∉ fz := hfz _ (by simp [Bk.mut])
      refine look b3.rowsL (reqp hrf (reqp ?_ ⟨?_⟩))
      · rw [List.length_map]; exact sizeS (by omega)
      have nd := b.nd
      unfold Bk.mut at nd
      simp only [List.nodup_cons, List.mem_cons, not_or] at nd
      obtain ⟨⟨rk, ro, rw_⟩, ⟨ko, kw⟩, ow, wnd⟩ := nd
      have pr : p ≠ B.r := fun q => by rw [q, b2.rowsL] at np; cases np
      have nr : n ≠ B.r := fun q => by rw [q, b1.rowsL] at nn; cases nn
      have np0 := (e1.trans e2).none np
      have nn0 := e1.none nn
      have x4 : ∀ m, ExtB B.mut H (H₃.set B.r m) := fun m => (ExtB.of E3).set (.inl (by simp [Bk.mut]))
      have hN : ((B.rows.map fun w => V.ref w.p).length : Int) = (B.rows.length : Nat) := lenB _ _
      refine look (x4 _ _ _ (b.tOut hsp) hsp) (got (pick0 st) (brs (fun ha => ?_) fun hna => ⟨?_⟩))
      · rw [word_add] at ha
        obtain ⟨x', c, rfl⟩ := add_of ha
        refine look (x4 _ _ _ b.xOut b.inst) (look (x4 _ _ _ b.dOut b.attrs) (forS_of _ (fun k ρ H' => Bx18 (fun a5 => ρ = [some (.ref x), some (.int e), some (.ref sp), some (.ref n), some (.int ((B.rows.map fun w => V.ref w.p).length : Int)), a5, none, none, none, none, none, none]) (fun a5 => ExtB B.mut H H') (fun a5 => H'.get B.r = some (.list ((B.rows.map fun w => V.ref w.p) ++ [.ref p]))) (fun a5 => H'.get B.k = H.get B.k) (fun a5 => H'.get B.o = H.get B.o) (fun a5 => H'.get p = some (.tuple [.int e, .ref sp, .ref n])) (fun a5 => H'.get n = some (.list (fs.map V.str))) (fun a5 => ∀ (i : Nat) w, B.owns[i]? = some w → H'.get w.1 = some (onode (if i < k then pO w.2 (B.rows.length : Nat) c else w.2))))
          (items_list ((AH.set_ne _ _ (Ne.symm ro)).trans b3.ownsL)) ⟨none, rfl, x4 _, AH.set_self .., ?_, ?_, (AH.set_ne _ _ pr).trans hp, (AH.set_ne _ _ nr).trans (e3 _ _ hn), fun i w hw' => ?_⟩ ?_ ?_))
        · rw [AH.set_ne _ _ (Ne.symm rk), b3.keptL, b.keptL]
        · rw [AH.set_ne _ _ (Ne.symm ro), b3.ownsL, b.ownsL]
        · have hm := List.mem_of_getElem? hw'
          rw [AH.set_ne _ _ (fun q => rw_ (List.mem_map.mpr ⟨w, hm, q⟩)), b3.owns w hm]; rfl
        · rintro k y ρ H' hy ⟨a5, rfl, i1, i2, i3, i4, i5, i6, i7⟩
          rw [List.getElem?_map] at hy
          obtain ⟨v, hv, rfl⟩ := Option.map_eq_some_iff.mp hy
          have vm := List.mem_of_getElem? hv
          have vM : v.1 ∈ B.mut := by unfold Bk.mut; simp only [List.mem_cons]; exact .inr (.inr (.inr (List.mem_map.mpr ⟨v, vm, rfl⟩)))
          have h7 := i7 k v hv
          rw [if_neg (Nat.lt_irrefl k)] at h7
          have vr : v.1 ≠ B.r := fun q => rw_ (List.mem_map.mpr ⟨v, vm, q⟩)
          have vk : v.1 ≠ B.k := fun q => kw (List.mem_map.mpr ⟨v, vm, q⟩)
          have vo : v.1 ≠ B.o := fun q => ow (List.mem_map.mpr ⟨v, vm, q⟩)
          have vp : v.1 ≠ p := fun q => by have := b.owns v vm; rw [q, np0] at this; cases this
          have vn : v.1 ≠ n := fun q => by have := b.owns v vm; rw [q, nn0] at this; cases this
          refine look (i1 _ _ (b.tOut hsp) hsp) (look h7 (reqp ?_ (reqp ?_ ?_)))
          · simp only [KK.more, srcOf, List.mem_append, List.mem_singleton, not_or]
            exact ⟨vo, hfz _ vM⟩
          · rw [oI_length]; exact sizeS (by have := ok.own v vm; omega)
          · refine ⟨_, rfl, i1.set (.inl vM), by rw [AH.set_ne _ _ (Ne.symm vr)]; exact i2, by rw [AH.set_ne _ _ (Ne.symm vk)]; exact i3, by rw [AH.set_ne _ _ (Ne.symm vo)]; exact i4, by rw [AH.set_ne _ _ (Ne.symm vp)]; exact i5, by rw [AH.set_ne _ _ (Ne.symm vn)]; exact i6, fun i w hw' => ?_⟩
            by_cases hik : i = k
            · subst hik
              rw [hv] at hw'; cases hw'
              rw [AH.set_self, if_pos (Nat.lt_succ_self _), hN, dput_oI]
            · have hne : w.1 ≠ v.1 := fun q => by
                have hi := (List.getElem?_eq_some_iff.mp hw').1
                have h1 : (B.owns.map (·.1))[i]? = (B.owns.map (·.1))[k]? := by rw [List.getElem?_map, List.getElem?_map, hw', hv]; simp [q]
                exact hik ((List.getElem?_inj (by rw [List.length_map]; exact hi) wnd).mp h1)
              rw [AH.set_ne _ _ hne, i7 i w hw']
              by_cases hlt : i < k
              · rw [if_pos hlt, if_pos (by omega)]
              · rw [if_neg hlt, if_neg (by omega)]
        · rintro ρ H' ⟨a5, rfl, i1, i2, i3, i4, i5, i6, i7⟩
          refine ⟨⟨?_⟩⟩
          show Q (.int ((B.rows.map fun w => V.ref w.p).length : Int)) H'
          rw [hN]
          refine hq H' p n np0 nn0 i1 (grown_at b hsp np0 nn0 i1 i2 i3 i4 i5 i6 fun w hw' => ?_)
          obtain ⟨i, hi⟩ := List.getElem?_of_mem hw'
          rw [i7 i w hi, if_pos (by rw [List.length_map]; exact (List.getElem?_eq_some_iff.mp hi).1)]; rfl
      · show Q (.int ((B.rows.map fun w => V.ref w.p).length : Int)) _
        rw [hN]
        rw [word_add] at hna
        refine hq _ p n np0 nn0 (x4 _) (grown_at b hsp np0 nn0 (x4 _) (AH.set_self ..) ?_ ?_ ((AH.set_ne _ _ pr).trans hp) ((AH.set_ne _ _ nr).trans (e3 _ _ hn)) fun w hw' => ?_)
        · rw [AH.set_ne _ _ (Ne.symm rk), b3.keptL, b.keptL]
        · rw [AH.set_ne _ _ (Ne.symm ro), b3.ownsL, b.ownsL]
        · rw [AH.set_ne _ _ (fun q => rw_ (List.mem_map.mpr ⟨w, hw', q⟩)), b3.owns w hw', num_none hna]
end Mine
namespace Mine
open PySem PySem.Calls PySem.SeqAt PySem.W PyProof.Rows PySem.Challenge
theorem all_strs {xs : List V} (h : xs.all isN = true) : ∃ ss : List Str, xs = ss.map V.str ∧ xs.filterMap initF.strOf = ss := by
  induction xs with
  | nil => exact ⟨[], rfl, rfl⟩
  | cons v r ih =>
    rw [List.all_cons, Bool.and_eq_true] at h
    obtain ⟨ss, e1, e2⟩ := ih h.2
    obtain ⟨s, rfl⟩ := isN_out h.1
    refine ⟨s :: ss, by rw [e1]; rfl, ?_⟩
    rw [List.filterMap_cons]
    show s :: r.filterMap initF.strOf = s :: ss
    rw [e2]
theorem ok_init {C : Cx} {a : Addr} {d : Nat} (F : Is_init C a) (he : ExsOk C sup) (hg : Gs_init C d) : Meets C (d + 1) true (.ref a) T_init := by
  refine def_at (kk_init C d) (fun _ => rfl) c_init 9 F k_init b_init he hg.1 hg.2 fun fz vs Q X H h => ?_
  obtain ⟨x, dx, l, xs, rfl, hx, hdx, hdf, hl, hs, h⟩ := h
  have no3 : ¬ (1 ≤ xs.length ∧ xs.length ≤ 12) → X 3 H := fun hn => by unfold initF at h; rw [if_neg hn] at h; exact h H (Ext.refl _)
  refine ⟨rfl, ⟨look hl (brd (fun h1 => brn (fun hn => no3 fun q => hn (Int.ofNat_le.mpr q.2)) fun h2 => ⟨?_⟩) fun h1 => no3 fun q => h1 (Int.ofNat_le.mpr q.1))⟩⟩
  have hlen : 1 ≤ xs.length ∧ xs.length ≤ 12 := ⟨Int.ofNat_le.mp h1, Int.ofNat_le.mp h2⟩
  unfold initF at h
  rw [if_pos hlen] at h
  refine forS_of _ (fun k ρ H' => Bx13 (fun a2 => ρ = [some (.ref x), some (.ref l), a2, none, none, none, none, none, none, none, none]) (fun a2 => Ext H H') (fun a2 => (xs.take k).all isN = true)) (items_list hl) ⟨none, rfl, Ext.refl _, by simp⟩ ?_ ?_
  · rintro k y ρ H' hy ⟨a2, rfl, e1, hall⟩
    have ym := List.mem_of_getElem? hy
    refine ⟨y, rfl, (hs y ym).ext e1, fun H₁ e2 => brs (fun hn => ?_) fun hn => ⟨_, rfl, e1.trans e2, ?_⟩⟩
    · rw [if_neg (fun hq => by rw [List.all_eq_true.mp hq y ym] at hn; cases hn)] at h
      exact h H₁ (e1.trans e2)
    · have hn : isN y = true := by simpa using hn
      rw [List.take_add_one, hy, List.all_append, hall]; simp [hn]
  · rintro ρ H₁ ⟨a2, rfl, e1, hall⟩
    rw [List.take_length] at hall
    rw [if_pos hall] at h
    obtain ⟨ss, hxs, hfm⟩ := all_strs hall
    rw [hfm] at h
    subst hxs
    rw [List.length_map] at hlen
    refine ⟨look (e1 _ _ hl) ⟨ss, rfl, Nat.le_trans hlen.2 (by decide), fun n n1 n2 => made_of fun H₂ z e2 nz _ hz => ?_⟩⟩
    have E2 := e1.trans e2
    refine look hz (look (E2 _ _ hl) (brd (fun hlt => ?_) fun hge => ⟨?_⟩))
    · rw [List.length_map] at hlt
      rw [if_neg (fun hq => Int.lt_irrefl _ (n2.mpr hq ▸ hlt))] at h
      exact h H₂ E2
    rw [List.length_map] at hge
    rw [if_pos (n2.mp (Nat.le_antisymm n1 (Int.ofNat_le.mp (Int.not_lt.mp hge))))] at h
    refine look (E2 _ _ hl) (reqp (by rw [List.length_map]; exact sizeS (Nat.le_trans hlen.2 (by decide))) (made_of fun H₃ n e3 nn nf hn => made_of fun H₄ p e4 np pf hp => made_of fun H₅ r e5 nr rf hr => ?_))
    have E3 := E2.trans e3
    have E4 := E3.trans e4
    have E5 := E4.trans e5
    refine look (E5 _ _ hx) (look (E5 _ _ hdx) (reqp hdf ⟨made_of fun H₆ k e6 nk kf hk => ?_⟩))
    have xd : x ≠ dx := fun e => by rw [e, hdx] at hx; cases hx
    have x5 : ∀ m, ExtB [dx] H (H₅.set dx m) := fun m => (ExtB.of E5).set (.inl (by simp))
    have x6 : ExtB [dx] H H₆ := fun c n hc e => e6 _ _ (x5 _ c n hc e)
    refine look (x6 _ _ (by simpa using xd) hx) (look (e6 _ _ (AH.set_self ..)) (reqp hdf ⟨made_of fun H₇ o e7 no of ho => ?_⟩))
    have x7 : ExtB [dx] H H₇ := fun c n hc e => e7 _ _ ((x6.set (.inl (by simp))) c n hc e)
    refine look (x7 _ _ (by simpa using xd) hx) (look (e7 _ _ (AH.set_self ..)) (reqp hdf ?_))
    have x8 : ∀ m, ExtB [dx] H (H₇.set dx m) := fun m => x7.set (.inl (by simp))
    have nn0 := E2.none nn
    have np0 := E3.none np
    have nr0 := E4.none nr
    -- the later ones: fresh behind a turn of dx
    have fr : ∀ {H'' : AH} {c : Nat}, ExtB [dx] H H'' → H''.get dx ≠ none → H''.get c = none → H.get c = none := fun {H'' c} ex hd hc => by
      cases q : H.get c with
      | none => rfl
      | some nd =>
        by_cases hcd : c = dx
        · rw [hcd] at hc; exact absurd hc hd
        · rw [ex c nd (by simpa using hcd) q] at hc; cases hc
    have nk0 : H.get k = none := fr (x5 _) (by rw [AH.set_self]; simp) nk
    have no0 : H.get o = none := fr (x6.set (n := _) (.inl (by simp))) (by rw [AH.set_self]; simp) no
    have dne : ∀ {c : Nat}, H.get c = none → c ≠ dx := fun hc e => by rw [e, hdx] at hc; cases hc
    have g5 : ∀ {c : Nat} {nd : Node} (m : Node), c ≠ dx → H₅.get c = some nd → (H₅.set dx m).get c = some nd := fun m hc e => (AH.set_ne _ _ hc).trans e
    have kr : k ≠ r := fun e => by rw [e, g5 _ (dne nr0) hr] at nk; cases nk
    have r6 := e6 _ _ (g5 _ (dne nr0) hr)
    have p6 := e6 _ _ (g5 _ (dne np0) (e5 _ _ hp))
    have n6 := e6 _ _ (g5 _ (dne nn0) (e5 _ _ (e4 _ _ hn)))
    have g6 : ∀ {c : Nat} {nd : Node} (m : Node), c ≠ dx → H₆.get c = some nd → (H₆.set dx m).get c = some nd := fun m hc e => (AH.set_ne _ _ hc).trans e
    have or_ : o ≠ r := fun e => by rw [e, g6 _ (dne nr0) r6] at no; cases no
    have ok_ : o ≠ k := fun e => by rw [e, g6 _ (dne nk0) hk] at no; cases no
    have nr' : n ≠ r := fun e => by rw [← e, e4 _ _ hn] at nr; cases nr
    have nk' : n ≠ k := fun e => by rw [← e, g5 _ (dne nn0) (e5 _ _ (e4 _ _ hn))] at nk; cases nk
    have no' : n ≠ o := fun e => by rw [← e, g6 _ (dne nn0) n6] at no; cases no
    have g7 : ∀ {c : Nat} {nd : Node} (m : Node), c ≠ dx → H₆.get c = some nd → (H₇.set dx m).get c = some nd := fun m hc e => (AH.set_ne _ _ hc).trans (e7 _ _ (g6 _ hc e))
    refine Nx.mk (h _ r k o p n nr0 nk0 no0 np0 nn0 rf kf of (x8 _) ⟨x8 _ _ _ (by simpa using xd) hx, AH.set_self .., g7 _ (dne nr0) r6, fun w hw => ?_, g7 _ (dne nk0) hk, fun w hw => (by cases hw), (AH.set_ne _ _ (dne no0)).trans ho, fun w hw => (by cases hw), ?_, fun w hw => ?_, fun w hw => (by cases hw)⟩)
    · rw [List.mem_singleton.mp hw]
      exact ⟨g7 _ (dne np0) p6, g7 _ (dne nn0) n6, fun e sp st q => (by cases q)⟩
    · simp [Bk.mut, Bk.new, kr.symm, or_.symm, ok_.symm]
    · rw [List.mem_singleton.mp hw]
      simp [Bk.mut, Bk.new, nr', nk', no']
end Mine
namespace Mine
open PySem PySem.Calls PySem.SeqAt PySem.W PyProof.Rows PySem.Challenge
set_option tactic.hygienic true in
theorem num_row {B : Bk} {v : V} (h : numOk B.rows.length v = true) : ∃ (f : Nat) (w : RowR), v = .int f ∧ B.rows[f]? = some w := by
  cases v <;> try cases h
  rename_i i
  obtain ⟨h0, h1⟩ := numOk_int.mp h
  obtain ⟨f, rfl⟩ := Int.eq_ofNat_of_zero_le h0
  exact ⟨f, _, rfl, List.getElem?_eq_getElem (Int.ofNat_lt.mp h1)⟩
theorem ok_fields {C : Cx} {a : Addr} {d : Nat} (F : Is_fields C a) (he : ExsOk C sup) (hg : Gs_fields C d) : Meets C (d + 1) true (.ref a) T_fields := by
  refine def_at (kk_fields C d) (fun _ => rfl) c_fields 0 F k_fields b_fields he hg.1 hg.2 fun fz vs Q X H h => ?_
  obtain ⟨x, B, v, rfl, b, ok, sv, hx, hq⟩ := h
  refine ⟨rfl, ⟨look b.inst (look b.attrs ⟨x, B, v, rfl, b, sv, ?_⟩)⟩⟩
  cases hn : numOk B.rows.length v with
  | false => rw [if_neg (by decide)]; exact hx hn
  | true =>
    obtain ⟨f, w, rfl, hw⟩ := num_row hn
    have r := b.rows w (List.mem_of_getElem? hw)
    rw [if_pos rfl]
    exact ⟨look b.inst (look b.attrs (look b.rowsL (got (pick_ref hw) (look r.row (got (vs2 w) (look r.names (reqp (by rw [List.length_map]; exact sizeS (Nat.le_trans (ok.rows f w hw).few (by decide))) (made_of fun H' p e np pf hp => hq f w rfl hw H' p e np pf hp))))))))⟩
theorem vs_part (w : RowR) (i : Nat) (h : i < 3) : pick w.vs (i : Nat) = some ((w.vs[i]?).getD .none) := by
  obtain ⟨p, n, ns, s⟩ := w
  rw [pick_nat]
  have : i < (RowR.vs ⟨p, n, ns, s⟩).length := by cases s <;> exact h
  rw [List.getElem?_eq_getElem this]; rfl
theorem ok_elder {C : Cx} {a : Addr} {d : Nat} (F : Is_elder C a) (he : ExsOk C sup) (hg : Gs_elder C d) : Meets C (d + 1) true (.ref a) T_elder := by
  refine def_at (kk_elder C d) (fun _ => rfl) c_elder 0 F k_elder b_elder he hg.1 hg.2 fun fz vs Q X H h => ?_
  obtain ⟨x, B, v, rfl, b, sv, hx, hq⟩ := h
  refine ⟨rfl, ⟨look b.inst (look b.attrs ⟨x, B, v, rfl, b, sv, ?_⟩)⟩⟩
  cases hn : numOk B.rows.length v with
  | false => rw [if_neg (by decide)]; exact hx hn
  | true =>
    obtain ⟨f, w, rfl, hw⟩ := num_row hn
    have r := b.rows w (List.mem_of_getElem? hw)
    rw [if_pos rfl]
    exact ⟨look b.inst (look b.attrs (look b.rowsL (got (pick_ref hw) (look r.row (got (vs_part w 0 (by decide)) (hq f w rfl hw))))))⟩
theorem ok_stepof {C : Cx} {a : Addr} {d : Nat} (F : Is_stepof C a) (he : ExsOk C sup) (hg : Gs_stepof C d) : Meets C (d + 1) true (.ref a) T_stepof := by
  refine def_at (kk_stepof C d) (fun _ => rfl) c_stepof 0 F k_stepof b_stepof he hg.1 hg.2 fun fz vs Q X H h => ?_
  obtain ⟨x, B, v, rfl, b, sv, hx, hq⟩ := h
  refine ⟨rfl, ⟨look b.inst (look b.attrs ⟨x, B, v, rfl, b, sv, ?_⟩)⟩⟩
  cases hn : numOk B.rows.length v with
  | false => rw [if_neg (by decide)]; exact hx hn
  | true =>
    obtain ⟨f, w, rfl, hw⟩ := num_row hn
    have r := b.rows w (List.mem_of_getElem? hw)
    rw [if_pos rfl]
    exact ⟨look b.inst (look b.attrs (look b.rowsL (got (pick_ref hw) (look r.row (got (vs_part w 1 (by decide)) (hq f w rfl hw))))))⟩
end Mine
namespace Mine
open PySem PySem.Calls PySem.SeqAt PySem.W PyProof.Rows PySem.Challenge
theorem ok_word {C : Cx} {a : Addr} {d : Nat} (fr : Bool) (F : Is_word C a) (he : ExsOk C sup) (hg : Gs_word C d fr) : Meets C (d + 1) fr (.ref a) T_word := by
  refine def_at (kk_word C d fr) (fun _ => rfl) c_word 0 F (k_word fr) b_word he hg.1 hg.2 fun fz vs Q X H h => ?_
  obtain ⟨p, i, rfl, hp, h9, hq⟩ := h
  have q := hq H (fun _ _ e => e)
  refine ⟨rfl, ⟨look hp ?_⟩⟩
  rcases i with _ | _ | _ | _ | _ | _ | _ | _ | _ | i
  · exact ⟨look hp ⟨look hp ⟨look hp ⟨look hp ⟨look hp ⟨look hp ⟨made_of fun H' l e nl lf hl => by refine look (e _ _ hp) ?_; cases fr <;> exact look hl (got rfl (hq _ e))⟩⟩⟩⟩⟩⟩⟩
  · exact ⟨look hp ⟨look hp ⟨look hp ⟨look hp ⟨look hp ⟨look hp q⟩⟩⟩⟩⟩⟩
  · exact ⟨look hp ⟨look hp ⟨look hp q⟩⟩⟩
  · exact ⟨look hp q⟩
  · exact ⟨look hp ⟨look hp q⟩⟩
  · exact ⟨look hp ⟨look hp ⟨look hp ⟨look hp ⟨look hp q⟩⟩⟩⟩⟩
  · exact ⟨look hp ⟨look hp ⟨look hp ⟨look hp q⟩⟩⟩⟩
  · exact ⟨look hp ⟨look hp ⟨look hp ⟨look hp ⟨look hp ⟨look hp ⟨made_of fun H' l e nl lf hl => by refine look (e _ _ hp) ?_; cases fr <;> exact look hl (got rfl (hq _ e))⟩⟩⟩⟩⟩⟩⟩
  · exact ⟨look hp ⟨look hp ⟨look hp ⟨look hp ⟨look hp ⟨look hp ⟨made_of fun H' l e nl lf hl => by refine look (e _ _ hp) ?_; cases fr <;> exact look hl (got rfl (hq _ e))⟩⟩⟩⟩⟩⟩⟩
  · exact absurd h9 (Nat.not_lt.mpr (Nat.le_add_left 9 i))
end Mine
namespace Mine
open PySem PySem.Calls PySem.SeqAt PySem.W PyProof.Rows PySem.Challenge
theorem lt9 {i : Nat} (h : i < 9) {P : Nat → Prop} (h0 : P 0) (h1 : P 1) (h2 : P 2) (h3 : P 3) (h4 : P 4) (h5 : P 5) (h6 : P 6) (h7 : P 7) (h8 : P 8) : P i := by
  rcases i with _ | _ | _ | _ | _ | _ | _ | _ | _ | i <;> first | assumption | exact absurd h (Nat.not_lt.mpr (Nat.le_add_left 9 i))
theorem sup9 {i : Nat} (h : i < 9) : (match sup[i]? with | some l => l.any (Nat.beq 0) | none => false) = true := lt9 (P := fun i => (match sup[i]? with | some l => l.any (Nat.beq 0) | none => false) = true) h rfl rfl rfl rfl rfl rfl rfl rfl rfl
theorem GrowHow.monoX {fz : List Nat} {x : Nat} {B : Bk} {Q : QV} {X X' : QX} {H : AH} {v u : V} (h : GrowHow fz x B Q X H v u) (hX : ∀ i H, X i H → X' i H) : GrowHow fz x B Q X' H v u := by
  cases h with
  | noform _ _ h0 hx => exact .noform _ _ h0 (hX _ _ hx)
  | nostep _ _ h0 hs hx => exact .nostep _ _ h0 hs fun H' e => hX _ _ (hx H' e)
  | step e sp w st hw hsp hss hok hq =>
    refine .step e sp w st hw hsp hss hok ?_
    cases hb : behindF st w.names with
    | inl i => rw [hb] at hq; exact fun H' e' => hX _ _ (hq H' e')
    | inr fs =>
      rw [hb] at hq
      simp only at hq ⊢
      split
      · rename_i h30; rw [if_pos h30] at hq; exact fun H' e' => hX _ _ (hq H' e')
      · rename_i h30; rw [if_neg h30] at hq; exact hq
theorem br_t {b : Bool} {A B : Prop} (h : b = true) (a : A) : br b A B := by rw [h]; exact a
theorem ok_grown6 {C : Cx} {a : Addr} {d : Nat} (F : Is_grown6 C a) (he : ExsOk C sup) (hg : Gs_grown6 C d) : Meets C (d + 1) true (.ref a) T_grown6 := by
  refine def_at (kk_grown6 C d) (fun _ => rfl) c_grown6 1 F k_grown6 b_grown6 he hg.1 hg.2 fun fz vs Q X H h => ?_
  obtain ⟨x, B, v, u, rfl, b, ok, sv, hfz, how⟩ := h
  refine ⟨rfl, ⟨look b.inst (look b.attrs ⟨x, B, v, u, rfl, b, ok, sv, hfz, how.monoX fun i H' hx => ?_⟩)⟩⟩
  exact br_t (sup9 hx.1) fun p np pf => ⟨p, i, rfl, AH.set_self .., hx.1, fun H'' e => hx.2 H'' ((Ext.new np).trans e)⟩
end Mine
namespace Mine
open PySem PySem.Calls PySem.SeqAt PySem.W PyProof.Rows PySem.Challenge
theorem getE {α : Type} {l : List α} {i n : Nat} (hn : l.length = n) (h : i < n) : ∃ x, l[i]? = some x := ⟨_, List.getElem?_eq_getElem (hn ▸ h)⟩
theorem ok_pool {C : Cx} {a : Addr} {d : Nat} (F : Is_pool C a) (he : ExsOk C sup) (hg : Gs_pool C d) : Meets C (d + 1) true (.ref a) T_pool := by
  refine def_at (kk_pool C d) (fun _ => rfl) c_pool 8 F k_pool b_pool he hg.1 hg.2 fun fz vs Q X H h => ?_
  obtain ⟨c, rfl, h⟩ := T_pool_out h
  refine ⟨rfl, ?_⟩
  refine ⟨⟨⟨fun f hf hff => ⟨⟨fun r hr hrf => ?_⟩⟩⟩⟩⟩
  have hfr : r ≠ f := by rintro rfl; rw [AH.set_self] at hr; cases hr
  refine forS_of _ (fun k ρ H' => Bx53 (fun a3 a4 a5 a6 a7 => ρ = [some (.int c), some (.str abc), some (.ref f), a3, a4, a5, a6, a7, none]) (fun a3 a4 a5 a6 a7 => Ext H H') (fun a3 a4 a5 a6 a7 => H'.get f = some (.list ((List.range k).map fun k => V.str (tx (wordL c (k : Nat))))))) (items_rng (n := 26) (AH.set_self ..) (by decide))
    ⟨none, none, none, none, none, rfl, (Ext.new hf).trans (Ext.new hr), ?_⟩ ?_ ?_
  · rw [AH.set_ne _ _ hfr.symm, AH.set_self]; rfl
  · rintro k y ρ H' hy ⟨a3, a4, a5, a6, a7, rfl, e1, hg⟩
    obtain ⟨hk, rfl⟩ := range_get hy
    have ha0 := fm0 (c.fdiv 52) (b := 8) (by decide)
    have ha8 := fmlt (c.fdiv 52) (b := 8) (by decide)
    have hb0 := fm0 (c.fdiv 416) (b := 8 - (c.fdiv 52).fmod 8) (by omega)
    have hb8 := fmlt (c.fdiv 416) (b := 8 - (c.fdiv 52).fmod 8) (by omega)
    refine at_abc ⟨⟨?_⟩⟩
    refine rep_ch (by omega) (by omega) ?_
    refine mulL (by decide) (by decide) ?_
    refine at_abc ?_
    refine cat_tx (by simp; omega) ⟨?_⟩
    refine reqp (by omega) ?_
    refine rep_ch (by omega) (by omega) ?_
    refine cat_tx (by simp; omega) ?_
    refine ife_cut (fun ρ' H'' => Bx12 (fun a7 => ρ' = [some (.int c), some (.str abc), some (.ref f), some (.int k), some (.str ⟨#[ltr (c.fdiv 2)]⟩), some (.int ((c.fdiv 52).fmod 8)), some (.str (tx (wordL c (k : Nat)))), a7, none]) (fun a7 => Ext H' H'')) (fun N rest => brd (fun hodd => ?_) fun heven => ?_) ?_
    · refine mulR (by decide) (by decide) ⟨?_⟩
      refine ⟨fun q hq hqf => ?_⟩
      have hk0 := fm0 (k : Int) (b := 8) (by decide)
      have hk8 := fmlt (k : Int) (b := 8) (by decide)
      obtain ⟨n, hn⟩ := Int.eq_ofNat_of_zero_le (show 0 ≤ 1 + (k : Int).fmod 8 by omega)
      refine comp_map ((List.range n).map fun i => V.int (i : Nat)) (onI fun j => V.str ⟨#[ltr (c.fdiv 2 + (k : Int).fdiv 8 * 3 + j)]⟩) (items_rng (by rw [AH.set_self, hn]) (by omega)) (by simp [sizeLine]; omega) ?_ ?_
      · intro j y ys H₂ hy he
        obtain ⟨hj, rfl⟩ := range_get hy
        exact at_abc ⟨rfl, he⟩
      · intro H₂ he
        rw [onI_range]
        refine made_of fun H₃ z e3 _ _ hz => ?_
        refine look hz (jn_tx (l := (List.range n).map fun i => ltr (c.fdiv 2 + (k : Int).fdiv 8 * 3 + (i : Nat))) (by simp) (by simp; omega) ?_)
        have hw : wordL c (k : Nat) = (List.range n).map fun i => ltr (c.fdiv 2 + (k : Int).fdiv 8 * 3 + (i : Nat)) := by
          unfold wordL; rw [if_pos hodd, hn]; rfl
        exact ⟨rest _ _ ⟨_, by rw [hw]; rfl, ((Ext.new hq).trans he).trans e3⟩⟩
    · have hw : wordL c (k : Nat) = List.replicate ((c.fdiv 52).fmod 8).toNat (ltr (c.fdiv 2)) ++ [ltr (c.fdiv 416 + 7 * (k : Int))] ++ List.replicate ((c.fdiv 416).fmod (8 - (c.fdiv 52).fmod 8)).toNat (ltr (c.fdiv 2)) := by
        unfold wordL; rw [if_neg heven]
      exact rest _ _ ⟨_, by rw [hw]; rfl, Ext.refl _⟩
    · rintro ρ' H'' ⟨a7, rfl, e2⟩
      refine ⟨look (e2 _ _ hg) (look (e2 _ _ hg) (reqp (by simp [KK.more, hfr.symm, srcOf]; exact hff) (reqp (by simp [sizeLine]; omega) ⟨⟨_, _, _, _, _, rfl, (e1.trans e2).set hf, ?_⟩⟩)))⟩
      rw [AH.set_self, List.range_succ, List.map_append]; rfl
  · rintro ρ H' ⟨a3, a4, a5, a6, a7, rfl, e1, hg⟩
    rw [List.length_map, List.length_range] at hg
    exact ⟨h H' f e1 hf hff hg⟩
theorem in_mod {ss : List Str} {m : Int} (h : 0 < ss.length) : ∃ (k : Nat) (x : Str), ss[k]? = some x ∧ (k : Int) = m.fmod (ss.length : Nat) ∧ pick (ss.map V.str) (m.fmod (((ss.map V.str).length : Nat) : Int)) = some (.str x) := by
  have h0 := fm0 m (b := (ss.length : Nat)) (by omega)
  have h1 := fmlt m (b := (ss.length : Nat)) (by omega)
  obtain ⟨k, hk⟩ := Int.eq_ofNat_of_zero_le h0
  have hk' : k < ss.length := by omega
  refine ⟨k, ss[k], List.getElem?_eq_getElem hk', hk.symm, ?_⟩
  rw [List.length_map, hk]
  exact pick_strs (List.getElem?_eq_getElem hk')
theorem ok_whole {C : Cx} {a : Addr} {d : Nat} (F : Is_whole C a) (he : ExsOk C sup) (hg : Gs_whole C d) : Meets C (d + 1) true (.ref a) T_isnumber := by
  refine def_at (kk_whole C d) (fun _ => rfl) c_whole 3 F k_whole b_whole he hg.1 hg.2 fun fz vs Q X H h => ?_
  obtain ⟨v, rfl, sv, h⟩ := h
  refine ⟨rfl, ⟨?_⟩⟩
  cases sv with
  | none => exact h
  | bool b => exact h
  | int i => exact h
  | str s hs => exact h
  | list p xs hp => exact look hp h
  | tuple p xs hp => exact look hp h
  | dict p xs hp => exact look hp h
set_option tactic.hygienic true in
theorem ok_sides {C : Cx} {a : Addr} {d : Nat} (F : Is_sides C a) (he : ExsOk C sup) (hg : Gs_sides C d) : Meets C (d + 1) true (.ref a) T_sides := by
  refine def_at (kk_sides C d) (fun _ => rfl) c_sides 0 F k_sides b_sides he hg.1 hg.2 fun fz vs Q X H h => ?_
  obtain ⟨p, st, rfl, hp, h⟩ := h
  refine ⟨rfl, ?_⟩
  cases st
  case add x n =>
    refine ⟨look hp (made_of fun H₁ a e1 _ _ h1 => look (e1 _ _ hp) (made_of fun H₂ b e2 _ _ h2 => made_of fun H₃ r e3 _ _ h3 => ?_))⟩
    exact h H₃ r a b ((e1.trans e2).trans e3) h3 (e3 _ _ (e2 _ _ h1)) (e3 _ _ h2)
  case drop a =>
    refine ⟨look hp ⟨look hp (look hp (made_of fun H₁ a e1 _ _ h1 => made_of fun H₂ b e2 _ _ h2 => made_of fun H₃ r e3 _ _ h3 => ?_))⟩⟩
    exact h H₃ r a b ((e1.trans e2).trans e3) h3 (e3 _ _ (e2 _ _ h1)) (e3 _ _ h2)
  case name a x =>
    refine ⟨look hp ⟨look hp ⟨look hp (look hp (made_of fun H₁ a e1 _ _ h1 => look (e1 _ _ hp) (made_of fun H₂ b e2 _ _ h2 => made_of fun H₃ r e3 _ _ h3 => ?_)))⟩⟩⟩
    exact h H₃ r a b ((e1.trans e2).trans e3) h3 (e3 _ _ (e2 _ _ h1)) (e3 _ _ h2)
  case shift a n =>
    refine ⟨look hp ⟨look hp ⟨look hp ⟨look hp ⟨look hp ⟨look hp (made_of fun H₁ a e1 _ _ h1 => look (e1 _ _ hp) (made_of fun H₂ b e2 _ _ h2 => made_of fun H₃ r e3 _ _ h3 => ?_))⟩⟩⟩⟩⟩⟩
    exact h H₃ r a b ((e1.trans e2).trans e3) h3 (e3 _ _ (e2 _ _ h1)) (e3 _ _ h2)
  case turn a =>
    refine ⟨look hp ⟨look hp ⟨look hp ⟨look hp ⟨look hp ⟨look hp (made_of fun H₁ a e1 _ _ h1 => look (e1 _ _ hp) (made_of fun H₂ b e2 _ _ h2 => made_of fun H₃ r e3 _ _ h3 => ?_))⟩⟩⟩⟩⟩⟩
    exact h H₃ r a b ((e1.trans e2).trans e3) h3 (e3 _ _ (e2 _ _ h1)) (e3 _ _ h2)
  case part a x y s =>
    refine ⟨look hp ⟨look hp ⟨look hp ⟨look hp (look hp (made_of fun H₁ a e1 _ _ h1 => look (e1 _ _ hp) (look (e1 _ _ hp) (made_of fun H₂ b e2 _ _ h2 => made_of fun H₃ r e3 _ _ h3 => ?_))))⟩⟩⟩⟩
    exact h H₃ r a b ((e1.trans e2).trans e3) h3 (e3 _ _ (e2 _ _ h1)) (e3 _ _ h2)
  case join a b x s =>
    refine ⟨look hp ⟨look hp ⟨look hp ⟨look hp ⟨look hp (look hp (look hp (made_of fun H₁ a e1 _ _ h1 => look (e1 _ _ hp) (made_of fun H₂ b e2 _ _ h2 => made_of fun H₃ r e3 _ _ h3 => ?_))))⟩⟩⟩⟩⟩
    exact h H₃ r a b ((e1.trans e2).trans e3) h3 (e3 _ _ (e2 _ _ h1)) (e3 _ _ h2)
theorem fmod_nat (c : Int) {n : Nat} (h : 0 < n) : ∃ N : Nat, c.fmod (n : Int) = (N : Nat) ∧ N < n := by
  obtain ⟨N, hN⟩ := Int.eq_ofNat_of_zero_le (fm0 c (b := (n : Int)) (Int.ofNat_lt.mpr h))
  exact ⟨N, hN, Int.ofNat_lt.mp (hN ▸ fmlt c (b := (n : Int)) (Int.ofNat_lt.mpr h))⟩
theorem rng_items {H : AH} {p : Nat} {a b c : Int} (h : H.get p = some (.rng a b c)) (hb : -(2 ^ 60) ≤ a ∧ a ≤ 2 ^ 60 ∧ -(2 ^ 60) ≤ b ∧ b ≤ 2 ^ 60 ∧ 1 ≤ c ∧ c ≤ 2 ^ 20) : ItemsV H (.ref p) (rngItems a b c) := by
  unfold ItemsV; simp only [h]; exact ⟨hb, trivial⟩
theorem rng_get {a b c : Int} {k : Nat} {y : V} (hc : 1 ≤ c) (h : (rngItems a b c)[k]? = some y) : y = .int (a + k * c) ∧ a + k * c < b := by
  unfold rngItems at h
  rw [List.getElem?_map] at h
  obtain ⟨i, hi, rfl⟩ := Option.map_eq_some_iff.mp h
  obtain ⟨hk, e⟩ := List.getElem?_eq_some_iff.mp hi
  rw [List.length_range] at hk
  rw [List.getElem_range] at e
  subst e
  refine ⟨rfl, ?_⟩
  have c0 : c > 0 := Int.lt_of_lt_of_le Int.zero_lt_one hc
  unfold Builtin.Range.rangeSize at hk
  rw [if_pos c0] at hk
  split at hk
  · exact Int.add_lt_of_lt_sub_left (Int.lt_of_le_sub_one ((Int.le_ediv_iff_mul_le c0).mp (Int.le_of_lt_add_one (Int.lt_toNat.mp hk))))
  · exact absurd hk (Nat.not_lt_zero _)
theorem pick_cell {scr : List Int} {k : Nat} (h : k < scr.length) : ∃ s, pick (scr.map V.int) ((k : Nat) : Int) = some (.int s) := ⟨scr[k], by rw [pick_nat, List.getElem?_map, List.getElem?_eq_getElem h]; rfl⟩
theorem ok_lbehind {C : Cx} {a : Addr} {d : Nat} (F : Is_lbehind C a) (he : ExsOk C sup) (hg : Gs_lbehind C d) : Meets C (d + 1) true (.ref a) T_lbehind := by
  refine def_at (kk_lbehind C d) (fun _ => rfl) c_lbehind 7 F k_lbehind b_lbehind he hg.1 hg.2 fun fz vs Q X H h => ?_
  obtain ⟨p, q, st, ns, rfl, hp, hq, hz, nd, h⟩ := h
  refine ⟨rfl, ⟨⟨p, st, rfl, hp, fun H₁ r ga ca e1 hr hga hca => ?_⟩⟩⟩
  replace hp := e1 _ _ hp
  replace hq := e1 _ _ hq
  refine look hr ⟨?_⟩
  have hgl : st.goes.length ≤ 2 := by cases st <;> simp [Stp.goes]
  -- a name that is not there
  refine comp_filter (st.goes.map V.str) (onS fun n => !decide (n ∈ ns)) (items_list hga) (by rw [List.length_map]; exact sizeS (by omega)) ?_ ?_
  · intro k y ys H' hy e
    obtain ⟨x, hx, rfl⟩ := strs_get hy
    exact look (e _ _ hq) (in_strs rfl (brn (fun hn => ⟨by simp [onS, hn], e⟩) fun hm => ⟨by simp [onS, hm], e⟩))
  intro H₂ e2
  rw [filter_strs]
  refine made_of fun H₃ m e3 _ _ hm => made_of fun H₄ o e4 _ _ ho => ?_
  replace hm := e4 _ _ hm
  have E4 := e2.trans (e3.trans e4)
  replace hq := E4 _ _ hq
  replace hga := E4 _ _ hga
  replace hca := E4 _ _ hca
  have EH := e1.trans E4
  have hall : (st.goes.filter fun n => !decide (n ∈ ns)) = [] ↔ ∀ a ∈ st.goes, a ∈ ns := by simp [List.filter_eq_nil_iff]
  refine look hm (look ho (same_strs (ys := []) hm ho (brn (fun hno => ?_) fun hyes => ?_)))
  · unfold behindF at h
    rw [if_neg (fun hy => hno (hall.mpr hy))] at h
    exact h H₄ EH
  replace hall := hall.mp hyes
  unfold behindF at h
  rw [if_pos hall] at h
  clear hm ho hyes e2 e3 e4 E4 e1 hr hp
  refine ⟨?_⟩
  -- what stays
  refine comp_filter (ns.map V.str) (onS fun n => !decide (n ∈ st.goes)) (items_list hq) (by rw [List.length_map]; exact sizeS (by omega)) ?_ ?_
  · intro k y ys H' hy e
    obtain ⟨x, hx, rfl⟩ := strs_get hy
    exact look (e _ _ hga) (in_strs rfl (brn (fun hn => ⟨by simp [onS, hn], e⟩) fun hm => ⟨by simp [onS, hm], e⟩))
  intro H₅ e5
  rw [filter_strs]
  refine made_of fun H₆ s e6 _ _ hs => ⟨?_⟩
  replace hs : H₆.get s = some (.list ((staysOf st ns).map V.str)) := hs
  have E6 := e5.trans e6
  replace hq := E6 _ _ hq
  replace hga := E6 _ _ hga
  replace hca := E6 _ _ hca
  replace EH := EH.trans E6
  clear e5 e6 E6
  have hsl : (staysOf st ns).length ≤ 100 := Nat.le_trans (List.length_filter_le ..) hz
  have hcl := comes_len st
  -- a name that is there already
  refine comp_filter (st.comes.map V.str) (onS fun n => decide (n ∈ staysOf st ns)) (items_list hca) (by rw [List.length_map]; exact sizeS (by omega)) ?_ ?_
  · intro k y ys H' hy e
    obtain ⟨x, hx, rfl⟩ := strs_get hy
    exact look (e _ _ hs) (in_strs rfl (brd (fun hn => ⟨by simp [onS, hn], e⟩) fun hm => ⟨by simp [onS, hm], e⟩))
  intro H₇ e7
  rw [filter_strs]
  refine made_of fun H₈ m e8 _ _ hm => made_of fun H₉ o e9 _ _ ho => ?_
  replace hm := e9 _ _ hm
  have E9 := e7.trans (e8.trans e9)
  replace hq := E9 _ _ hq
  replace hga := E9 _ _ hga
  replace hca := E9 _ _ hca
  replace hs := E9 _ _ hs
  replace EH := EH.trans E9
  have hno : (st.comes.filter fun n => decide (n ∈ staysOf st ns)) = [] ↔ ∀ x ∈ st.comes, x ∉ staysOf st ns := by simp [List.filter_eq_nil_iff]
  refine look hm (look ho (same_strs (ys := []) hm ho (brn (fun hne => ?_) fun hyes => ?_)))
  · rw [if_neg (fun hy => hne (hno.mpr hy))] at h
    exact h H₉ EH
  rw [if_pos (hno.mp hyes)] at h
  clear hm ho hyes e7 e8 e9 E9 hno
  -- where it is put
  refine ⟨look hq (ife_cut (fun ρ' H' => Bx14 (fun (n : Nat) => ρ' = [some (.ref p), some (.ref q), some (.ref ga), some (.ref ca), some (.ref s), some (.int n), none, none, none]) (fun (n : Nat) => n ≤ 100) (fun (n : Nat) => (staysOf st ns).take n ++ st.comes ++ (staysOf st ns).drop n = foundOf st ns ++ (if st.isAdd then [st.fst] else [])) (fun (n : Nat) => Ext H₉ H')) (fun N rest => ?_) ?_)⟩
  · refine made_of fun Ha o ea _ _ ho => ?_
    refine look (ea _ _ hga) (look ho (same_strs (ys := []) (ea _ _ hga) ho (brn (fun hne => ?_) fun hnil => ?_)))
    · obtain ⟨r, hr⟩ : ∃ r, st.goes = st.fst :: r := goes_fst.resolve_left hne
      have hmem : st.fst ∈ ns := hall _ (by rw [hr]; simp)
      refine look (ea _ _ hq) (look (ea _ _ hga) (got (v := .str st.fst) (by rw [hr]; rfl) (look (ea _ _ hq) (ix_strs rfl hmem (look (ea _ _ hq) (reqp (by rw [List.length_map]; exact sizeS (by omega)) (oni (reqp (by omega) (made_of fun Hb t eb _ _ ht => ?_)))))))))
      rw [Int.toNat_natCast, ← List.map_take] at ht
      refine comp_filter ((ns.take (ns.idxOf st.fst)).map V.str) (onS fun n => decide (n ∈ staysOf st ns)) (items_list ht) (by rw [List.length_map, List.length_take]; exact sizeS (by omega)) ?_ ?_
      · intro k y ys H' hy e
        obtain ⟨x, hx, rfl⟩ := strs_get hy
        exact look (e _ _ (eb _ _ (ea _ _ hs))) (in_strs rfl (brd (fun hn => ⟨by simp [onS, hn], e⟩) fun hm => ⟨by simp [onS, hm], e⟩))
      intro Hc ec
      rw [filter_strs]
      refine made_of fun Hd u ed _ _ hu => look hu ?_
      rw [List.length_map]
      have hadd : st.isAdd = false := by
        cases q : st.isAdd with
        | false => rfl
        | true => rw [goes_add.mpr q] at hr; cases hr
      have hS : st.fst ∉ staysOf st ns := fun hm => (mem_stays.mp hm).2 (by rw [hr]; simp)
      have hsp : ∀ l : List Str, (∀ x ∈ l, x ∈ ns) → (l.filter fun n => decide (n ∈ staysOf st ns)) = l.filter fun n => !decide (n ∈ st.goes) := fun l hl => List.filter_congr fun x hx => by simp [mem_stays, hl x hx]
      have hst : staysOf st ns = ((ns.take (ns.idxOf st.fst)).filter fun n => decide (n ∈ staysOf st ns)) ++ ((ns.drop (ns.idxOf st.fst)).filter fun n => decide (n ∈ staysOf st ns)) := by
        rw [hsp _ fun x hx => List.mem_of_mem_take hx, hsp _ fun x hx => List.mem_of_mem_drop hx, ← List.filter_append, List.take_append_drop]; rfl
      refine ⟨rest _ _ ⟨_, rfl, ?_, ?_, ((ea.trans eb).trans ec).trans ed⟩⟩
      · have := List.length_filter_le (fun n => decide (n ∈ staysOf st ns)) (ns.take (ns.idxOf st.fst))
        rw [List.length_take] at this
        rw [List.length_map]; omega
      · unfold foundOf
        rw [found_split nd hmem hS, hadd]
        generalize ((ns.take (ns.idxOf st.fst)).filter fun n => decide (n ∈ staysOf st ns)) = A at hst ⊢
        generalize ((ns.drop (ns.idxOf st.fst)).filter fun n => decide (n ∈ staysOf st ns)) = B at hst ⊢
        rw [hst]; simp
    · have hadd := goes_add.mp hnil
      have hst : staysOf st ns = ns := by unfold staysOf; rw [hnil]; simp
      refine rest _ _ ⟨ns.length, by rw [List.length_map]; rfl, hz, ?_, ea⟩
      have hfo : foundOf st ns = ns := by
        unfold foundOf
        rw [hst]
        have : ∀ l : List Str, (∀ x ∈ l, x ∈ ns) → (l.flatMap fun n => if n ∈ ns then [n] else if n = st.fst then st.comes else []) = l := by
          intro l
          induction l with
          | nil => intro _; rfl
          | cons x l ih => intro hl; rw [List.flatMap_cons, ih (fun y hy => hl y (by simp [hy])), if_pos (hl x (by simp))]; rfl
        exact this ns fun x hx => hx
      rw [hfo, hst, hadd, add_comes hadd]; simp
  rintro ρ Ha ⟨n, rfl, hn, hdue, ea⟩
  generalize hfs : foundOf st ns ++ (if st.isAdd then [st.fst] else []) = fs at hdue h
  replace hs := ea _ _ hs
  replace hca := ea _ _ hca
  refine ⟨?_⟩
  refine look hs (reqp (by rw [List.length_map]; exact sizeS (by omega)) (oni (reqp (by omega) (made_of fun Hb t eb _ _ ht => ?_))))
  rw [Int.toNat_natCast, ← List.map_take] at ht
  refine look ht (look (eb _ _ hca) (reqp (by simp only [List.length_map, List.length_take]; exact sizeS (by omega)) (made_of fun Hc u ec _ _ hu => ?_)))
  rw [← List.map_append] at hu
  refine look (ec _ _ (eb _ _ hs)) (reqp (by rw [List.length_map]; exact sizeS (by omega)) (reqp (by omega) (made_of fun Hd w ed _ _ hw => ?_)))
  rw [Int.toNat_natCast, ← List.map_drop] at hw
  refine look (ed _ _ hu) (look hw (reqp (by simp only [List.length_map, List.length_append, List.length_take, List.length_drop]; exact sizeS (by omega)) (made_of fun He v ee nv fv hv => ⟨?_⟩)))
  rw [← List.map_append, hdue] at hv
  have EE := ((EH.trans ea).trans (eb.trans ec)).trans (ed.trans ee)
  have hfl : (fs.map V.str).length = fs.length := List.length_map ..
  have fin1 : ¬ (1 ≤ fs.length ∧ fs.length ≤ 12) → Q (.str (wordOf 3)) He := fun hno => by rw [if_neg hno] at h; exact h He EE
  refine look hv (brd (fun h1 => ?_) fun h1 => ?_)
  · refine brn (fun h2 => fin1 (by omega)) fun h2 => ⟨?_⟩
    rw [if_pos (by omega)] at h
    exact h He v EE ((EH.trans ea).trans (eb.trans (ec.trans ed)) |>.none nv) fv hv
  · exact fin1 (by omega)
end Mine
namespace Mine
open PySem PySem.Calls PySem.SeqAt PySem.W PyProof.Rows PySem.Challenge
theorem ok_made6 {C : Cx} {a : Addr} {d : Nat} (F : Is_made6 C a) (he : ExsOk C sup) (hg : Gs_made6 C d) : Meets C (d + 1) true (.ref a) T_made6 := by
  refine def_at (kk_made6 C d) (fun _ => rfl) c_made6 1 F k_made6 b_made6 he hg.1 hg.2 fun fz vs Q X H h => ?_
  obtain ⟨l, xs, rfl, hl, hs, h⟩ := h
  refine ⟨rfl, ⟨⟨l, xs, rfl, hl, hs, ?_⟩⟩⟩
  cases hi : initF xs with
  | inl i =>
    rw [hi] at h
    exact fun H' e => br_t (sup9 (h H' e).1) fun p np pf => ⟨p, i, rfl, AH.set_self .., (h H' e).1, fun H'' e' => (h H' e).2 H'' ((Ext.new np).trans e')⟩
  | inr ns => rw [hi] at h; exact h
theorem apart26 {a r : Int} (h0 : 0 ≤ r) (h1 : r < 25) : a.fmod 26 ≠ (a + 1 + r).fmod 26 := by
  rw [Int.fmod_eq_emod_of_nonneg _ (by decide), Int.fmod_eq_emod_of_nonneg _ (by decide)]; omega
theorem in26 (b m : Int) : ∃ (k : Nat) (x : Str), (poolOf b)[k]? = some x ∧ (k : Int) = m.fmod 26 ∧ pick ((poolOf b).map V.str) (m.fmod 26) = some (.str x) := by
  obtain ⟨k, x, h1, h2, h3⟩ := in_mod (ss := poolOf b) (m := m) (by rw [pool_length]; decide)
  rw [pool_length] at h2
  rw [List.length_map, pool_length] at h3
  exact ⟨k, x, h1, h2, h3⟩
theorem sizeN {n : Int} (h0 : 0 ≤ n) (h1 : n < 999999) : isZ (.int (2 + n)) = true := by simp [isZ]; omega
theorem okb_part {o x y : Str} {s : Int} (nO : isN (.str o) = true) (nX : isN (.str x) = true) (nY : isN (.str y) = true) (sZ : isZ (.int s) = true) (xy : x ≠ y) : (Stp.part o x y s).okB = true := by
  show (isN (.str o) && ((isN (.str x) && isN (.str y) && isZ (.int s)) && decide (V.str x ≠ V.str y))) = true
  rw [nO, nX, nY, sZ, decide_eq_true (p := V.str x ≠ V.str y) (fun e => xy (by injection e))]; rfl
theorem okb_join {o l x : Str} {s : Int} (nO : isN (.str o) = true) (nL : isN (.str l) = true) (nX : isN (.str x) = true) (sZ : isZ (.int s) = true) (ol : o ≠ l) : (Stp.join o l x s).okB = true := by
  show (isN (.str o) && ((isN (.str l) && isN (.str x) && isZ (.int s)) && decide (V.str o ≠ V.str l))) = true
  rw [nO, nX, nL, sZ, decide_eq_true (p := V.str o ≠ V.str l) (fun e => ol (by injection e))]; rfl
theorem okb_one {st : Stp} (h : isN (.str st.fst) = true) (k : st.okB = (isN (.str st.fst) && true)) : st.okB = true := by rw [k, h]; rfl
theorem okb_name {o x : Str} (nO : isN (.str o) = true) (nX : isN (.str x) = true) : (Stp.name o x).okB = true := by
  show (isN (.str o) && isN (.str x)) = true; rw [nO, nX]; rfl
theorem okb_turn {o : Str} (nO : isN (.str o) = true) : (Stp.turn o).okB = true := okb_one (st := .turn o) nO rfl
theorem ok_step6 {C : Cx} {a : Addr} {d : Nat} (F : Is_step6 C a) (he : ExsOk C sup) (hg : Gs_step6 C d) : Meets C (d + 1) true (.ref a) T_step6 := by
  refine def_at (kk_step6 C d) (fun _ => rfl) c_step6 3 F k_step6 b_step6 he hg.1 hg.2 fun fz vs Q X H h => ?_
  obtain ⟨c, m, p, q, b, ns, rfl, hp, hq, ⟨h1, h12⟩, isn, h⟩ := h
  have hne : (((ns.map V.str).length : Nat) : Int) ≠ 0 := by rw [List.length_map]; exact Int.ofNat_ne_zero.mpr (Nat.ne_of_gt h1)
  obtain ⟨i, old, hold, _, po⟩ := in_mod (ss := ns) (m := m.fdiv 3) h1
  obtain ⟨j, low, hlow, _, pl⟩ := in_mod (ss := ns) (m := m.fdiv 3 + 1 + (m.fdiv 36).fmod 11) h1
  obtain ⟨k, x, hx, hk, px⟩ := in26 b (m.fdiv 5)
  obtain ⟨k', y, hy, hk', py⟩ := in26 b (m.fdiv 5 + 1 + (m.fdiv 130).fmod 25)
  obtain ⟨k'', z, hz, _, pz⟩ := in26 b (m.fdiv 11)
  have xy : x ≠ y := get_apart (pool_nodup b) hx hy fun e => apart26 (a := m.fdiv 5) (fm0 (m.fdiv 130) (by decide)) (fmlt (m.fdiv 130) (by decide)) (by rw [← hk, ← hk', e])
  have nO := isn old (List.mem_of_getElem? hold)
  have nL := isn low (List.mem_of_getElem? hlow)
  have nX := pool_isN (List.mem_of_getElem? hx)
  have nY := pool_isN (List.mem_of_getElem? hy)
  have nZ := pool_isN (List.mem_of_getElem? hz)
  have sZ := sizeN (fm0 m (b := 999999) (by decide)) (fmlt m (b := 999999) (by decide))
  refine ⟨rfl, ⟨look hq (reqp hne (look hq (got po ⟨look hq (reqp hne (look hq (got pl ⟨look hp (got px (look hp (got py (made_of fun H₁ n e1 nn _ hn => ?_))))⟩)))⟩)))⟩⟩
  refine ife_cut (fun ρ' H' => Bx14 (fun (o : Str) => ρ' = [some (.int c), some (.int m), some (.ref p), some (.ref q), some (.str o), some (.str low), some (.ref n)]) (fun o => isN (.str o) = true) (fun _ => Ext H H') (fun _ => H'.get n = some (.list [.str x, .str y]))) (fun N rest => brd (fun _ => look (e1 _ _ hp) (got pz ⟨rest _ _ ⟨z, rfl, nZ, e1, hn⟩⟩)) fun _ => rest _ _ ⟨old, rfl, nO, e1, hn⟩) ?_
  rintro ρ H₂ ⟨o, rfl, nO, e2, hn⟩
  refine ife_cut (fun ρ' H' => Bx14 (fun (l : Str) => ρ' = [some (.int c), some (.int m), some (.ref p), some (.ref q), some (.str o), some (.str l), some (.ref n)]) (fun l => isN (.str l) = true) (fun _ => Ext H H') (fun _ => H'.get n = some (.list [.str x, .str y]))) (fun N rest => brd (fun _ => look (e2 _ _ hp) (got pz ⟨rest _ _ ⟨z, rfl, nZ, e2, hn⟩⟩)) fun _ => rest _ _ ⟨low, rfl, nL, e2, hn⟩) ?_
  rintro ρ H₃ ⟨l, rfl, nL, e3, hn⟩
  have fin : ∀ st : Stp, st.okB = true → Made fz (.tuple st.vs) Q H₃ := fun st ok => made_of fun H₄ r e4 nr _ hr => h H₄ r st (e3.trans e4) (e3.none nr) hr ok
  have turn := fin (.turn o) (okb_turn nO)
  refine ⟨brd (fun _ => look hn (fin (.add x _) (okb_one nX rfl))) fun _ => ⟨brd (fun _ => fin (.drop o) (okb_one nO rfl)) fun _ => ⟨brd (fun _ => look hn (fin (.name o x) (okb_name nO nX))) fun _ => ⟨brd (fun _ => fin (.shift o _) (okb_one nO rfl)) fun _ => ⟨brd (fun _ => look hn (look hn (fin (.part o x y _) (okb_part nO nX nY sZ xy)))) fun _ => ⟨brd (fun _ => brs (fun hol => look hn (fin (.join o l x _) (okb_join nO nL nX sZ (sEq_f (by simpa using hol))))) fun h => brf h ⟨turn⟩) fun h => brf (decide_eq_false h) ⟨turn⟩⟩⟩⟩⟩⟩⟩
theorem StepSays.ext {H H' : AH} {v : V} {b : Bool} (h : StepSays H v b) (e : Ext H H') : StepSays H' v b := by
  cases h with
  | step p w parts hp hs hl => exact .step p w parts (e _ _ hp) (fun x hx => (hs x hx).ext e) hl
  | none => exact .none
  | bool b => exact .bool b
  | str s => exact .str s
  | list p xs h => exact .list p xs (e _ _ h)
  | dict p xs h => exact .dict p xs (e _ _ h)
  | short p xs h hl => exact .short p xs (e _ _ h) hl
  | odd p x y xs h sx hx => exact .odd p x y xs (e _ _ h) (sx.ext e) hx
theorem parts_served {H : AH} {st : Stp} (ok : st.okB = true) : ∀ x ∈ st.parts, Served H x := by
  have hs := okB_strs ok
  cases st <;> simp only [Stp.parts, Stp.strs, List.mem_cons, List.not_mem_nil, or_false, forall_eq_or_imp, forall_eq] at hs ⊢
  · exact ⟨.str _ hs, .int _⟩
  · exact .str _ hs
  · exact ⟨.str _ hs.1, .str _ hs.2⟩
  · exact ⟨.str _ hs, .int _⟩
  · exact .str _ hs
  · exact ⟨.str _ hs.1, .str _ hs.2.1, .str _ hs.2.2, .int _⟩
  · exact ⟨.str _ hs.1, .str _ hs.2.1, .str _ hs.2.2, .int _⟩
theorem says_no {H : AH} {p : Nat} {w : Str} {parts : List V} (h : H.get p = some (.tuple (.str w :: parts))) (hs : ∀ x ∈ parts, Served H x) (hl : parts.length ≤ 5) (hf : stepF w parts = false) : StepSays H (.ref p) false := hf ▸ .step p w parts h hs hl
noncomputable def srvB : V → Bool
  | .none => true
  | .bool _ => true
  | .int _ => true
  | .str s => decide (s.length ≤ 1000)
  | _ => false
theorem srvB_ok {H : AH} {v : V} (h : srvB v = true) : Served H v := by
  cases v <;> first | exact .none | exact .bool _ | exact .int _ | exact .str _ (of_decide_eq_true h) | cases h
theorem says_lit {H : AH} {p : Nat} {w : Str} {parts : List V} (h : H.get p = some (.tuple (.str w :: parts))) (hk : (parts.all srvB && (decide (parts.length ≤ 5) && !stepF w parts)) = true) : StepSays H (.ref p) false := by
  obtain ⟨h1, h2⟩ := and2 hk
  obtain ⟨h2, h3⟩ := and2 h2
  exact says_no h (fun x hx => srvB_ok (List.all_eq_true.mp h1 x hx)) (of_decide_eq_true h2) (by simpa using h3)
theorem says_more {H : AH} {p : Nat} {st : Stp} (hp : H.get p = some (.tuple (st.vs ++ [.int 1]))) (ok : st.okB = true) : StepSays H (.ref p) false := by
  rw [Stp.vs_eq] at hp
  refine says_no (w := tx st.word) (parts := st.parts ++ [V.int 1]) hp (fun x hx => ?_) (by cases st <;> simp [Stp.parts]) (by cases st <;> exact Bool.and_false _)
  rcases List.mem_append.mp hx with hx | hx
  · exact parts_served ok x hx
  · rw [List.mem_singleton.mp hx]; exact .int _
theorem all_cons {P : V → Prop} {v : V} {l : List V} (h : P v) (t : ∀ x ∈ l, P x) : ∀ x ∈ v :: l, P x := List.forall_mem_cons.mpr ⟨h, t⟩
theorem all_nil {P : V → Prop} : ∀ x ∈ ([] : List V), P x := fun _ h => (List.not_mem_nil h).elim
theorem all_app {P : V → Prop} {l m : List V} (h : ∀ x ∈ l, P x) (t : ∀ x ∈ m, P x) : ∀ x ∈ l ++ m, P x := fun x hx => (List.mem_append.mp hx).elim (h x) (t x)
theorem pick_mod {xs : List V} {n : Nat} {P : V → Prop} (c : Int) (hl : xs.length = n) (hn : 0 < n) (h : ∀ v ∈ xs, P v) : ∃ v, pick xs (c.fmod (n : Int)) = some v ∧ P v := by
  obtain ⟨N, hN, hlt⟩ := fmod_nat c hn
  obtain ⟨v, hv⟩ := getE hl hlt
  exact ⟨v, by rw [hN, pick_nat]; exact hv, h v (List.mem_of_getElem? hv)⟩
theorem vs_few (st : Stp) : st.vs.length ≤ 5 := by cases st <;> simp [Stp.vs]
theorem ok_odd {C : Cx} {a : Addr} {d : Nat} (F : Is_odd C a) (he : ExsOk C sup) (hg : Gs_odd C d) : Meets C (d + 1) true (.ref a) T_odd := by
  refine def_at (kk_odd C d) (fun _ => rfl) c_odd 1 F k_odd b_odd he hg.1 hg.2 fun fz vs Q X H h => ?_
  obtain ⟨c, p, st, rfl, hp, ok, h⟩ := h
  have l5 := vs_few st
  refine ⟨rfl, ⟨made_of fun H₁ t e1 _ _ ht => look (e1 _ _ hp) (look ht (reqd (by cases st <;> rfl) (reqp (sizeS (Nat.le_trans (Nat.add_le_add_right l5 1) (by decide))) (made_of fun H₂ a0 e2 _ _ h0 => look (e2 _ _ (e1 _ _ hp)) (reqp (sizeS (Nat.le_trans l5 (by decide))) (made_of fun H₃ a1 e3 _ _ h1 => made_of fun H₄ a2 e4 _ _ h2 => made_of fun H₅ a4 e5 _ _ h4 => made_of fun H₆ a5 e6 _ _ h5 => made_of fun H₇ L e7 _ _ hL => ⟨?_⟩))))))⟩⟩
  have all1 : ∀ v ∈ [V.ref a0, .ref a1, .ref a2, .none, .ref a4, .ref a5], StepSays H₇ v false :=
    all_cons ((says_more h0 ok).ext (e3.trans (e4.trans (e5.trans (e6.trans e7))))) (all_cons ((StepSays.list _ _ h1).ext (e4.trans (e5.trans (e6.trans e7)))) (all_cons ((says_lit h2 (by decide +kernel)).ext (e5.trans (e6.trans e7))) (all_cons .none (all_cons ((says_lit h4 (by decide +kernel)).ext (e6.trans e7)) (all_cons ((says_lit h5 (by decide +kernel)).ext e7) all_nil)))))
  have E7 : Ext H H₇ := e1.trans (e2.trans (e3.trans (e4.trans (e5.trans (e6.trans e7)))))
  clear h0 h1 h2 h4 h5 ht e1 e2 e3 e4 e5 e6 e7
  refine made_of fun H₈ a6 e8 _ _ h6 => made_of fun H₉ a7 e9 _ _ h7 => made_of fun Ha a8 ea _ _ h8 => look (ea _ _ (e9 _ _ (e8 _ _ (E7 _ _ hp)))) (reqd (by cases st <;> rfl) (made_of fun Hb a9 eb _ _ h9 => made_of fun Hc L2 ec _ _ hL2 => look (ec _ _ (eb _ _ (ea _ _ (e9 _ _ (e8 _ _ hL))))) (look hL2 (made_of fun Hd M ed _ _ hM => ⟨?_⟩))))
  have Ed := e8.trans (e9.trans (ea.trans (eb.trans (ec.trans ed))))
  have all2 : ∀ v ∈ [V.ref a0, .ref a1, .ref a2, .none, .ref a4, .ref a5] ++ [V.ref a6, .ref a7, .ref a8, .ref a9], StepSays Hd v false :=
    all_app (fun v hv => (all1 v hv).ext Ed) (all_cons ((says_lit h6 (by decide +kernel)).ext (e9.trans (ea.trans (eb.trans (ec.trans ed))))) (all_cons ((says_lit h7 (by decide +kernel)).ext (ea.trans (eb.trans (ec.trans ed)))) (all_cons ((says_lit h8 (by decide +kernel)).ext (eb.trans (ec.trans ed))) (all_cons ((StepSays.short _ _ h9 (Nat.lt_of_le_of_lt (List.length_take_le ..) (by decide))).ext (ec.trans ed)) all_nil))))
  have E := E7.trans Ed
  clear h6 h7 h8 h9 hL2 hL e8 e9 ea eb ec ed Ed E7 all1
  refine made_of fun H₁ b0 e1 _ _ h0 => made_of fun H₂ b1 e2 _ _ h1 => .s (made_of fun H₃ b2 e3 _ _ h2 => made_of fun H₄ b3 e4 _ _ h3 => made_of fun H₅ b4 e5 _ _ h4 => made_of fun H₆ b5 e6 _ _ h5 => made_of fun H₇ L e7 _ _ hL => look (e7 _ _ (e6 _ _ (e5 _ _ (e4 _ _ (e3 _ _ (e2 _ _ (e1 _ _ hM))))))) (look hL (made_of fun H₈ N e8 _ _ hN => ⟨?_⟩)))
  have E8 := e1.trans (e2.trans (e3.trans (e4.trans (e5.trans (e6.trans (e7.trans e8))))))
  obtain ⟨v, hv, sv⟩ := pick_mod (xs := ([V.ref a0, .ref a1, .ref a2, .none, .ref a4, .ref a5] ++ [V.ref a6, .ref a7, .ref a8, .ref a9]) ++ [V.ref b1, .ref b3, .ref b5]) (n := 13) (P := fun v => StepSays H₈ v false) c rfl (by decide)
    (all_app (fun v hv => (all2 v hv).ext E8) (all_cons ((StepSays.odd _ _ _ _ h1 (.list _ _ (e2 _ _ h0)) (fun s e => by cases e)).ext (e3.trans (e4.trans (e5.trans (e6.trans (e7.trans e8)))))) (all_cons ((StepSays.odd _ _ _ _ h3 (.dict _ _ (e4 _ _ h2)) (fun s e => by cases e)).ext (e5.trans (e6.trans (e7.trans e8)))) (all_cons ((StepSays.odd _ _ _ _ h5 (.tuple _ _ (e6 _ _ h4)) (fun s e => by cases e)).ext (e7.trans e8)) all_nil))))
  exact look hN (got hv (h H₈ v (E.trans E8) sv))
noncomputable def notS : V → Bool
  | .str _ => false
  | _ => true
theorem El.th {H : AH} {v : V} (h : Served H v) (h4 : notS v = true) : El H v := .thing v h fun s e => by subst e; cases h4
theorem El.od {H : AH} {s : Str} (h : decide (s ∈ odd4) = true) : El H (.str s) := .odd s (of_decide_eq_true h)
theorem ok_oddname {C : Cx} {a : Addr} {d : Nat} (F : Is_oddname C a) (he : ExsOk C sup) (hg : Gs_oddname C d) : Meets C (d + 1) true (.ref a) T_oddname := by
  refine def_at (kk_oddname C d) (fun _ => rfl) c_oddname 0 F k_oddname b_oddname he hg.1 hg.2 fun fz vs Q X H h => ?_
  obtain ⟨c, rfl, h⟩ := h
  refine ⟨rfl, ⟨made_of fun H₁ l e1 _ _ hl => fun D nD fD => made_of fun H₂ t e2 _ _ ht => made_of fun H₃ L e3 _ _ hL => ?_⟩⟩
  have eD : Ext H₁ ((H₁.set D (.sdict [])).set D (.sdict [(tx [97], .int 1)])) := (Ext.new nD).set nD
  have e2 : Ext ((H₁.set D (.sdict [])).set D (.sdict [(tx [97], .int 1)])) H₂ := e2
  have hD := e2 _ _ (AH.set_self ..)
  obtain ⟨v, hv, ev⟩ := pick_mod (xs := [V.str (tx []), .str (tx [65,98]), .str (tx [97,98,99,100,101,102,103,104,105]), .int 5, .none, .str (tx [97,32,98]), .ref l, .ref D, .ref t]) (n := 9) (P := El H₃) c rfl (by decide)
    (all_cons (.od (by decide +kernel)) (all_cons (.od (by decide +kernel)) (all_cons (.od (by decide +kernel)) (all_cons (.th (.int _) rfl) (all_cons (.th .none rfl) (all_cons (.od (by decide +kernel)) (all_cons (.th (.list _ _ (e3 _ _ (e2 _ _ (eD _ _ hl)))) rfl) (all_cons (.th (.dict _ _ (e3 _ _ hD)) rfl) (all_cons (.th (.tuple _ _ (e3 _ _ ht)) rfl) all_nil)))))))))
  exact look hL (got hv (h H₃ v (e1.trans (eD.trans (e2.trans e3))) ev))
end Mine
namespace Mine
open PySem PySem.Calls PySem.SeqAt PySem.W PyProof.Rows PySem.Challenge
theorem ok_due {C : Cx} {a : Addr} {d : Nat} (F : Is_due C a) (he : ExsOk C sup) (hg : Gs_due C d) : Meets C (d + 1) true (.ref a) T_due := by
  refine def_at (kk_due C d) (fun _ => rfl) c_due 1 F k_due b_due he hg.1 hg.2 fun fz vs Q X H h => ?_
  obtain ⟨l, Ls, v, u, b, rfl, ls, sv, h⟩ := h
  refine ⟨rfl, ⟨⟨v, rfl, sv, ?_⟩⟩⟩
  have no : numOk Ls.length v = false → Q (.str wNone) H := fun e => by
    cases h with
    | noform _ _ _ _ hq => exact hq
    | nostep _ _ h0 _ => rw [h0] at e; cases e
    | step e' sp w st hw _ _ => exact absurd (numOk_int.mpr ⟨Int.natCast_nonneg _, Int.ofNat_lt.mpr (List.getElem?_eq_some_iff.mp hw).1⟩) (Bool.eq_false_iff.mp e)
  cases sv with
  | int i =>
    refine brd (fun h0 => look ls.at_ (nor1 (fun h1 => no ?_) fun h1 => ⟨?_⟩)) fun h0 => no (Bool.eq_false_iff.mpr fun e => h0 (numOk_int.mp e).1)
    · rw [lenB] at h1
      exact Bool.eq_false_iff.mpr fun e => h1 (numOk_int.mp e).2
    rw [lenB] at h1
    cases h with
    | noform _ _ _ hno _ => rw [numOk_int.mpr ⟨h0, h1⟩] at hno; cases hno
    | nostep _ _ _ hq => exact hq
    | step e sp w st hw hsp hq =>
      obtain ⟨q1, q2, q3⟩ := ls.each w (List.mem_of_getElem? hw)
      refine ⟨look ls.at_ (got (pick_ref hw) ⟨sp, w.1, st, w.2, rfl, hsp, q1, Nat.le_trans q2 (by decide), q3, ?_⟩)⟩
      cases hb : behindF st w.2 with
      | inl i => rw [hb] at hq; exact fun H' e => ⟨⟨hq H' e⟩⟩
      | inr fs =>
        rw [hb] at hq
        simp only at hq
        intro H₁ a e1 na af ha
        refine ⟨look ha (look (e1 _ _ ls.at_) ?_)⟩
        by_cases h30 : Ls.length = 30
        · rw [if_pos h30] at hq
          exact brt (decide_eq_true (by rw [lenB, h30]; rfl)) (hq H₁ e1)
        · rw [if_neg h30] at hq
          have hn : ¬ ((((Ls.map fun w => V.ref w.1).length : Nat) : Int) = 30) := fun e => h30 (by rw [lenB] at e; exact Int.ofNat.inj e)
          exact brf (decide_eq_false hn) (brf (decide_eq_false hn) ⟨hq H₁ a e1 na af ha⟩)
  | _ => exact no rfl
theorem same_nil {H : AH} {p q : Nat} {xs : List V} {k : Bool → Prop} (hp : H.get p = some (.list xs)) (hq : H.get q = some (.list [])) (h : k (decide (xs = []))) : Same H (.ref p) (.ref q) k := by
  cases xs with
  | nil => exact .mk _ (0 + 1) (.list (e := fun _ => true) hp hq rfl rfl rfl (fun _ => rfl) fun j x y hx _ => by simp at hx) (by decide) h
  | cons a r => exact .mk _ 0 (.len hp hq rfl rfl (by simp)) (by decide) h
structure Nm (fz : List Nat) (H H' : AH) (n : Nat) (xs : List V) : Prop where
  at_ : H'.get n = some (.list xs)
  new : H.get n = none
  fz : n ∉ fz
  ext : Ext H H'
  els : ∀ v ∈ xs, El H' v
theorem ins_len (xs : List V) (k : Nat) (v : V) : ((xs.take k ++ [v]) ++ xs.drop k).length = xs.length + 1 := by simp; omega
theorem ins_mem {xs : List V} {k : Nat} {v u : V} (h : u ∈ (xs.take k ++ [v]) ++ xs.drop k) : u ∈ xs ∨ u = v := by
  rcases List.mem_append.mp h with h | h
  · rcases List.mem_append.mp h with h | h
    · exact .inl (List.mem_of_mem_take h)
    · exact .inr (List.mem_singleton.mp h)
  · exact .inl (List.mem_of_mem_drop h)
theorem Nm.ins {fz : List Nat} {H H₁ H₂ H₃ : AH} {n y : Nat} {xs : List V} {k : Nat} {v : V} (m : Nm fz H H₁ n xs) (e : Ext H₁ H₂) (e' : Ext H₂ H₃) (ny : H₂.get y = none) (fy : y ∉ fz) (hy : H₃.get y = some (.list ((xs.take k ++ [v]) ++ xs.drop k))) (ev : El H₃ v) : Nm fz H H₃ y ((xs.take k ++ [v]) ++ xs.drop k) :=
  ⟨hy, (m.ext.trans e).none ny, fy, m.ext.trans (e.trans e'), fun u hu => (ins_mem hu).elim (fun h => (m.els u h).ext (e.trans e')) fun h => h ▸ ev⟩
theorem pool_odd {b : Int} {s : Str} (h : s ∈ poolOf b) {H : AH} : El H (.str s) := .name s (pool_isN h) fun h4 => by have := (odd_no h4).1; rw [pool_isN h] at this; cases this
theorem s14 {n : Nat} (h : n ≤ 14) : n ≤ sizeLine := sizeS (Nat.le_trans h (by decide))
theorem sTake {xs : List V} (h : xs.length ≤ 14) (k : Nat) (v : V) : (xs.take k).length + [v].length ≤ sizeLine := sizeS (by have := List.length_take_le k xs; rw [List.length_singleton]; have := List.length_take_le' k xs; omega)
theorem sDrop {xs : List V} (h : xs.length ≤ 14) (k : Nat) (v : V) : (xs.take k ++ [v]).length + (xs.drop k).length ≤ sizeLine := by rw [← List.length_append, ins_len]; exact sizeS (Nat.le_trans (Nat.succ_le_succ h) (by decide))
theorem set_post {i : Nat} {e : CE} {r : CS} {K : KK} {X : XS} {R : PS} {ρ : Ev} {H : AH} (P : V → AH → Prop)
    (h : ∀ Q : QV, (∀ v H₁, P v H₁ → Q v H₁) → wE e K ρ (atX X ρ) Q H) (hr : ∀ v H₁, P v H₁ → Nx (wS r K X R (ρ.set i (some v)) H₁)) : Nx (wS (.set i e r) K X R ρ H) := ⟨h _ hr⟩
theorem and1 {c : Prop} [Decidable c] {A B : Prop} (h1 : ¬ c → A) (h2 : c → B) : br (!decide c) (br true A B) (br (!decide c) A B) := by
  by_cases h : c
  · rw [decide_eq_true h]; exact h2 h
  · rw [decide_eq_false h]; exact h1 h
theorem ok_first6 {C : Cx} {a : Addr} {d : Nat} (F : Is_first6 C a) (he : ExsOk C sup) (hg : Gs_first6 C d) : Meets C (d + 1) true (.ref a) T_first6 := by
  refine def_at (kk_first6 C d) (fun _ => rfl) c_first6 2 F k_first6 b_first6 he hg.1 hg.2 fun fz vs Q X H h => ?_
  obtain ⟨s, p, scr, b, rfl, hs, hp, h⟩ := h
  have plen := pool_length b
  have pe : ∀ t ∈ poolOf b, ∀ H, El H (.str t) := fun t ht H => pool_odd ht
  generalize poolOf b = P at hp plen pe
  refine ⟨rfl, ⟨cell_any hs (by decide) fun c1 => look hp (reqp (by rw [List.length_map, plen]; exact sizeS (by decide)) (oni (reqp (fm0 c1 (by decide)) (made_of fun H₁ n e1 nn nf hn => ?_))))⟩⟩
  have m : Nm fz H H₁ n ((P.map V.str).take (c1.fmod 14).toNat) := ⟨hn, nn, nf, e1, fun v hv => by
    obtain ⟨t, ht, rfl⟩ := List.mem_map.mp (List.mem_of_mem_take hv)
    exact pe _ ht _⟩
  have l13 : ((P.map V.str).take (c1.fmod 14).toNat).length ≤ 13 := Nat.le_trans (List.length_take_le ..) (by have := fmlt c1 (b := 14) (by decide); omega)
  generalize (P.map V.str).take (c1.fmod 14).toNat = xs at m l13
  clear hn hp
  refine set_post (fun v H' => Bx13 (fun (A : Int) => v = .int A) (fun A => 0 ≤ A) (fun _ => H' = H₁)) (fun Q q => cell_any (e1 _ _ hs) (by decide) fun c2 => look m.at_ (q _ _ ⟨_, rfl, fm0 c2 (b := ((xs.length : Nat) : Int) + 1) (Int.lt_add_one_of_le (Int.natCast_nonneg _)), rfl⟩)) ?_
  rintro v H' ⟨A, rfl, A0, rfl⟩
  generalize hc3 : scr.getD (3 : Int).toNat 0 = c3
  refine (ife_cut (fun ρ' H' => Bx24 (fun (n : Nat) (xs : List V) => ρ' = [some (.ref s), some (.ref p), some (.ref n), some (.int A)]) (fun n xs => Nm fz H H' n xs) (fun n xs => xs.length ≤ 14) (fun n xs => c3.fmod 6 ≠ 1 → xs.length ≤ 13)) (fun N rest => cell_at (e1 _ _ hs) (by decide) ?_) ?_)
  · rw [hc3]
    refine brd (fun hc => ?_) fun hc => rest _ _ ⟨n, xs, rfl, m, Nat.le_succ_of_le l13, fun _ => l13⟩
    have l14 := Nat.le_succ_of_le l13
    refine look m.at_ (reqp (s14 l14) (oni (reqp A0 (made_of fun H₂ t e2 _ _ ht => cell_any (e2 _ _ (e1 _ _ hs)) (by decide) fun c4 => ⟨c4, rfl, fun H₃ v e3 ev => made_of fun H₄ u e4 _ _ hu => look (e4 _ _ (e3 _ _ ht)) (look hu (reqp (sTake l14 ..) (made_of fun H₅ w e5 _ _ hw => look (e5 _ _ (e4 _ _ (e3 _ _ (e2 _ _ m.at_)))) (reqp (s14 l14) (reqp A0 (made_of fun H₆ z e6 _ _ hz => look (e6 _ _ hw) (look hz (reqp (sDrop l14 ..) (made_of fun H₇ y e7 ny fy hy => ⟨rest _ _ ⟨y, _, rfl, m.ins (e2.trans (e3.trans (e4.trans (e5.trans e6)))) e7 ny fy hy (ev.ext (e4.trans (e5.trans (e6.trans e7)))), ?_, fun hn => absurd hc hn⟩⟩)))))))))⟩))))
    rw [ins_len]; exact Nat.succ_le_succ l13
  rintro ρ H₂ ⟨n, xs, rfl, m, l14, l13⟩
  clear e1
  refine ife_cut (fun ρ' H' => Bx23 (fun (n : Nat) (xs : List V) => ρ' = [some (.ref s), some (.ref p), some (.ref n), some (.int A)]) (fun n xs => Nm fz H H' n xs) (fun n xs => xs.length ≤ 14)) (fun N rest => cell_at (m.ext _ _ hs) (by decide) ?_) ?_
  · rw [hc3]
    refine brd (fun hc => made_of fun H₃ o e3 _ _ ho => look (e3 _ _ m.at_) (look ho (same_nil (e3 _ _ m.at_) ho (and1 (fun hne => ?_) fun hnil => ?_)))) fun hc => brf (decide_eq_false hc) (rest _ _ ⟨n, xs, rfl, m, l14⟩)
    · have l13 := l13 (by rw [hc]; decide)
      have pos : 0 < xs.length := List.length_pos_iff.mpr hne
      refine look (e3 _ _ m.at_) (reqp (s14 l14) (oni (reqp A0 (made_of fun H₄ t e4 _ _ ht => cell_any (e4 _ _ (e3 _ _ (m.ext _ _ hs))) (by decide) fun c4 => look (e4 _ _ (e3 _ _ m.at_)) (reqp (Int.ofNat_ne_zero.mpr (Nat.ne_of_gt pos)) (look (e4 _ _ (e3 _ _ m.at_)) ?_))))))
      obtain ⟨v, hv, ev⟩ := pick_mod (xs := xs) (P := El H₂) c4 rfl pos m.els
      refine got hv (made_of fun H₅ u e5 _ _ hu => look (e5 _ _ ht) (look hu (reqp (sTake l14 ..) (made_of fun H₆ w e6 _ _ hw => look (e6 _ _ (e5 _ _ (e4 _ _ (e3 _ _ m.at_)))) (reqp (s14 l14) (reqp A0 (made_of fun H₇ z e7 _ _ hz => look (e7 _ _ hw) (look hz (reqp (sDrop l14 ..) (made_of fun H₈ y e8 ny fy hy => ⟨rest _ _ ⟨y, _, rfl, m.ins (e3.trans (e4.trans (e5.trans (e6.trans e7)))) e8 ny fy hy (ev.ext (e3.trans (e4.trans (e5.trans (e6.trans (e7.trans e8)))))), ?_⟩⟩))))))))))
      rw [ins_len]; exact Nat.succ_le_succ l13
    · exact rest _ _ ⟨n, xs, rfl, ⟨e3 _ _ m.at_, m.new, m.fz, m.ext.trans e3, fun v hv => (m.els v hv).ext e3⟩, l14⟩
  rintro ρ H₃ ⟨n, xs, rfl, m, l14⟩
  exact ⟨h H₃ n xs m.ext m.new m.fz m.at_ l14 m.els⟩
theorem due_form {xs : List V} (h : ¬ (1 ≤ xs.length ∧ xs.length ≤ 12)) : dueF xs = wForm := by unfold dueF initF; rw [if_neg h]; rfl
theorem due_name {xs : List V} (h : 1 ≤ xs.length ∧ xs.length ≤ 12) (h2 : xs.all isN ≠ true) : dueF xs = tName := by unfold dueF initF; rw [if_pos h, if_neg h2]; rfl
theorem due_rest {ss : List Str} (h : 1 ≤ (ss.map V.str).length ∧ (ss.map V.str).length ≤ 12) (h2 : (ss.map V.str).all isN = true) : dueF (ss.map V.str) = if ss.Nodup then tx [] else wTaken := by
  have hf : (ss.map V.str).filterMap initF.strOf = ss := by
    rw [List.filterMap_map]
    exact List.filterMap_some
  unfold dueF initF; rw [if_pos h, if_pos h2, hf]
  by_cases nd : ss.Nodup
  · rw [if_pos nd, if_pos nd]
  · rw [if_neg nd, if_neg nd]; rfl
theorem El.isN {H : AH} {v : V} (h : El H v) : (∃ s, v = .str s ∧ Mine.isN v = true ∧ s ∉ odd4) ∨ (∃ s, v = .str s ∧ Mine.isN v = false ∧ s ∈ odd4) ∨ (Served H v ∧ Mine.isN v = false ∧ ∀ s, v ≠ .str s) := by
  cases h with
  | name s h h4 => exact .inl ⟨s, rfl, h, h4⟩
  | odd s h => exact .inr (.inl ⟨s, rfl, (odd_no h).1, h⟩)
  | thing v h h4 => exact .inr (.inr ⟨h, by cases v <;> first | rfl | exact absurd rfl (h4 _), h4⟩)
theorem ok_firstdue {C : Cx} {a : Addr} {d : Nat} (F : Is_firstdue C a) (he : ExsOk C sup) (hg : Gs_firstdue C d) : Meets C (d + 1) true (.ref a) T_firstdue := by
  refine def_at (kk_firstdue C d) (fun _ => rfl) c_firstdue 1 F k_firstdue b_firstdue he hg.1 hg.2 fun fz vs Q X H h => ?_
  obtain ⟨l, xs, rfl, hl, l14, els, h⟩ := h
  have no3 : ¬ (1 ≤ xs.length ∧ xs.length ≤ 12) → Q (.str wForm) H := fun hn => by have := h H (Ext.refl _); rw [due_form hn] at this; exact this
  refine ⟨rfl, ⟨look hl (brd (fun h1 => brn (fun hn => no3 fun q => hn (Int.ofNat_le.mpr q.2)) fun h2 => ⟨?_⟩) fun h1 => no3 fun q => h1 (Int.ofNat_le.mpr q.1))⟩⟩
  have hlen : 1 ≤ xs.length ∧ xs.length ≤ 12 := ⟨Int.ofNat_le.mp h1, Int.ofNat_le.mp h2⟩
  refine comp_filter xs (fun v => !isN v) (items_list hl) (s14 l14) ?_ ?_
  · intro k y ys H' hy e
    rcases ((els y (List.mem_of_getElem? hy)).ext e).isN with ⟨s, rfl, hn, h4⟩ | ⟨s, rfl, hn, h4⟩ | ⟨sv, hn, h4⟩
    · refine made_of fun H₁ z e1 _ _ hz => look hz (in_strs (ss := odd4) rfl (brf (decide_eq_false h4) ⟨by rw [hn]; exact (List.append_nil _).symm, e.trans e1⟩))
    · refine made_of fun H₁ z e1 _ _ hz => look hz (in_strs (ss := odd4) rfl (brt (decide_eq_true h4) (brt (decide_eq_true h4) ⟨by rw [hn]; rfl, e.trans e1⟩)))
    · have fin : ys ++ [y] = ys ++ (if (!isN y) = true then [y] else []) ∧ Ext H H' := ⟨by rw [hn]; rfl, e⟩
      cases sv with
      | none => exact fin
      | bool b => exact fin
      | int i => exact fin
      | str s hs => exact absurd rfl (h4 s)
      | list p xs hp => exact look hp fin
      | tuple p xs hp => exact look hp fin
      | dict p xs hp => exact look hp fin
  intro H₁ e1
  refine made_of fun H₂ r e2 _ _ hr => made_of fun H₃ z e3 _ _ hz => look (e3 _ _ hr) (look hz (same_nil (e3 _ _ hr) hz (brn (fun hne => ?_) fun hnil => ⟨?_⟩)))
  · have := h H₃ (e1.trans (e2.trans e3))
    rw [due_name hlen fun hall => hne (List.filter_eq_nil_iff.mpr fun v hv => by simp [List.all_eq_true.mp hall v hv])] at this
    exact this
  have hall : xs.all isN = true := List.all_eq_true.mpr fun v hv => by simpa using List.filter_eq_nil_iff.mp hnil v hv
  obtain ⟨ss, rfl, _⟩ := all_strs hall
  have E3 := e1.trans (e2.trans e3)
  rw [due_rest hlen hall] at h
  replace hl := E3 _ _ hl
  refine look hl (made_of fun H₄ t e4 _ _ ht => ?_)
  rw [List.length_map] at ht
  have s12 : ss.length ≤ 12 := by rw [List.length_map] at hlen; exact hlen.2
  refine forS_of ((List.range ss.length).map fun i => V.int (i : Nat)) (fun k ρ H' => Bx13 (fun (a1 : Option V) => ρ = [some (.ref l), a1]) (fun _ => Ext H₃ H') (fun _ => (ss.take k).Nodup)) (items_rng ht (Nat.le_trans s12 (by decide))) ⟨none, rfl, e4, by simp⟩ ?_ ?_
  · rintro k y ρ H' hy ⟨a1, rfl, e5, nd⟩
    obtain ⟨hk, rfl⟩ := range_get hy
    obtain ⟨x, hx⟩ := getE (l := ss) rfl hk
    refine look (e5 _ _ hl) (got (pick_strs hx) (look (e5 _ _ hl) (reqp (by rw [List.length_map]; exact s14 (Nat.le_trans s12 (by decide))) (oni (reqp (Int.natCast_nonneg _) (made_of fun H₅ u e6 _ _ hu => look hu (in_strs (ss := ss.take k) (by rw [Int.toNat_natCast, List.map_take]) (brd (fun hm => ?_) fun hn => ⟨_, rfl, e5.trans e6, ?_⟩))))))))
    · have := h H₅ (E3.trans (e5.trans e6))
      rw [if_neg fun nd => not_in_take nd hx hm] at this
      exact this
    · rw [List.take_add_one, hx]
      exact List.nodup_append.mpr ⟨nd, by simp, fun a ha b hb => by simp at hb; subst hb; exact fun e => hn (e ▸ ha)⟩
  · rintro ρ H' ⟨a1, rfl, e5, nd⟩
    rw [List.length_map, List.length_range, List.take_length] at nd
    have := h H' (E3.trans e5)
    rw [if_pos nd] at this
    exact ⟨this⟩
end Mine
namespace Mine
open PySem PySem.Calls PySem.SeqAt PySem.W PyProof.Rows PySem.Challenge
theorem Deed.tup {H H' : AH} {ns : List Str} {p : Nat} (h : Deed H ns p) (e : ∀ a xs, H.get a = some (.tuple xs) → H'.get a = some (.tuple xs)) : Deed H' ns p := by
  cases h with
  | drawn a b c h => exact .drawn a b c (e _ _ h)
  | turn sp n h hs hn => exact .turn sp n (e _ _ h) (e _ _ hs) hn
theorem tup_set {H : AH} {l : Nat} {xs : List V} {n : Node} (hl : H.get l = some (.list xs)) : ∀ a ys, H.get a = some (.tuple ys) → (H.set l n).get a = some (.tuple ys) := fun a ys h => by
  rw [AH.set_ne]
  · exact h
  · rintro rfl; rw [hl] at h; cases h
theorem till69 (n : Nat) : ∃ m : Int, (if (69 : Int) < (n : Int) - 1 then (69 : Int) else (n : Int) - 1) = m ∧ m ≤ 69 ∧ m ≤ (n : Int) - 1 ∧ -(2 ^ 60) ≤ m ∧ m ≤ 2 ^ 60 := by
  refine ⟨_, rfl, ?_⟩
  split <;> omega
theorem deeds_at {k n : Nat} {m : Int} (hi : 7 + (k : Int) * 2 < m) (m69 : m ≤ 69) (ml : m ≤ (n : Int) - 1) : ∃ g : Nat, 7 + (k : Int) * 2 = (g : Nat) ∧ g + 1 < n ∧ k < 31 ∧ (-18446744073709551616 : Int) < (g : Nat) ∧ ((g : Nat) : Int) < 18446744073709551616 := ⟨7 + k * 2, by omega, by omega, by omega, by omega, by omega⟩
inductive DJ (fz : List Nat) (H : AH) (s q : Nat) (ns : List Str) (l n : Nat) (ρ : Ev) (H' : AH) : Prop
  | mk (ps : List Nat) (a3 : Option V) (hρ : ρ = [some (.ref s), some (.ref q), some (.ref l), a3]) (hl : H'.get l = some (.list (ps.map V.ref))) (nl : H.get l = none) (lf : l ∉ fz) (e : Ext H H') (ds : ∀ p ∈ ps, Deed H' ns p) (few : ps.length ≤ n) : DJ fz H s q ns l n ρ H'
theorem snoc_deeds {H H' : AH} {ns : List Str} {ps : List Nat} {t : Nat} (ds : ∀ p ∈ ps, Deed H ns p) (e : ∀ p, Deed H ns p → Deed H' ns p) (d : Deed H' ns t) : ∀ p ∈ ps ++ [t], Deed H' ns p := fun p hp =>
  (List.mem_append.mp hp).elim (fun h => e p (ds p h)) fun h => (List.mem_singleton.mp h).symm ▸ d
theorem ok_deeds {C : Cx} {a : Addr} {d : Nat} (F : Is_deeds C a) (he : ExsOk C sup) (hg : Gs_deeds C d) : Meets C (d + 1) true (.ref a) T_deeds := by
  refine def_at (kk_deeds C d) (fun _ => rfl) c_deeds 2 F k_deeds b_deeds he hg.1 hg.2 fun fz vs Q X H h => ?_
  obtain ⟨s, q, scr, ns, rfl, hs, h63, hq, ⟨h1, h12⟩, h⟩ := h
  have hne : (((ns.map V.str).length : Nat) : Int) ≠ 0 := by rw [List.length_map]; exact Int.ofNat_ne_zero.mpr (Nat.ne_of_gt h1)
  refine ⟨rfl, ⟨made_of fun H₁ l e1 nl lf hl => ?_⟩⟩
  refine ife_cut (fun ρ' H' => ∃ l, DJ fz H s q ns l 28 ρ' H') (fun N rest => cell_any (e1 _ _ hs) (by decide) fun c => brd (fun _ => made_of fun H₂ r e2 _ _ hr => ?_) fun _ => rest _ _ ⟨l, [], none, rfl, hl, nl, lf, e1, fun _ h => (List.not_mem_nil h).elim, by decide⟩) ?_
  · refine ⟨(List.range 28).map fun i => V.int (i : Nat), items_rng (n := 28) hr (by decide), sizeS (by decide), fun k ys H' => Bx13 (fun (ps : List Nat) => ys = ps.map V.ref) (fun _ => Ext H H') (fun ps => ∀ p ∈ ps, Deed H' ns p), ⟨[], rfl, e1.trans e2, fun _ h => (List.not_mem_nil h).elim⟩, ?_, ?_⟩
    · rintro k y ys H' hy ⟨ps, rfl, e, ds⟩
      obtain ⟨hk, rfl⟩ := range_get hy
      obtain ⟨i, n, hn, _, pn⟩ := in_mod (ss := ns) (m := (k : Int)) h1
      exact look (e _ _ hq) (reqp hne (look (e _ _ hq) (got pn (made_of fun Ha sp ea _ _ hsp => made_of fun Hb t eb _ _ ht => ⟨ps ++ [t], by rw [List.map_append]; rfl, e.trans (ea.trans eb), snoc_deeds ds (fun p h => h.ext (ea.trans eb)) (.turn sp n ht (eb _ _ hsp) (List.mem_of_getElem? hn))⟩))))
    · rintro ys H' hle ⟨ps, rfl, e, ds⟩
      exact made_of fun Ha l' ea nl' lf' hl' => ⟨rest _ _ ⟨l', ps, none, rfl, hl', e.none nl', lf', e.trans ea, fun p hp => (ds p hp).ext ea, by rw [List.length_map, List.length_map, List.length_range] at hle; exact hle⟩⟩
  rintro ρ H₂ ⟨l, ps, a3, rfl, hl, nl, lf, e, ds, few⟩
  refine ⟨look (e _ _ hs) (made_of fun H₃ r e3 nr rf hr => ?_)⟩
  rw [List.length_map] at hr
  obtain ⟨m, hm, m69, mlen, mlow, mup⟩ := till69 scr.length
  rw [hm] at hr
  have lr : l ≠ r := fun q => by rw [← q, hl] at nr; cases nr
  refine forO _ (fun k => DJ fz H s q ns l (28 + k)) (rng_items hr ⟨by decide, by decide, mlow, mup, by decide, by decide⟩) ⟨ps, a3, rfl, e3 _ _ hl, nl, lf, e.trans e3, fun p hp => (ds p hp).ext e3, few⟩ ?_ ?_
  · rintro R' k y ρ H' hy ⟨ps, a3, rfl, hl, nl, lf, e, ds, few⟩ n
    obtain ⟨hy, hi⟩ := rng_get (by decide) hy
    obtain ⟨g, hgk, glt, k31, g1, g2⟩ := deeds_at hi m69 mlen
    rw [hgk] at hy
    subst hy
    obtain ⟨z, hz⟩ := pick_cell (scr := scr) (Nat.lt_of_succ_lt glt)
    obtain ⟨z1, hz1⟩ := pick_cell (scr := scr) glt
    have sc := e _ _ hs
    refine look hl (look sc (got hz (look sc (got hz (mulR g1 g2 (look sc (got hz (look sc (got hz1 (mulL (by decide) (by decide) (made_of fun H₄ t e4 _ _ ht => look (e4 _ _ hl) (reqp (fun hm => (List.mem_cons.mp hm).elim lr lf) (reqp (by rw [List.length_map]; exact sizeS (by omega)) ⟨n _ _ ⟨ps ++ [t], _, rfl, ?_, nl, lf, (e.trans e4).set nl, ?_, ?_⟩⟩)))))))))))))
    · rw [AH.set_self, List.map_append]; rfl
    · exact snoc_deeds ds (fun p h => (h.ext e4).tup (tup_set (e4 _ _ hl))) (.drawn _ _ _ (tup_set (e4 _ _ hl) _ _ ht))
    · rw [List.length_append]; exact Nat.succ_le_succ few
  · rintro ρ H' ⟨ps, a3, rfl, hl, nl, lf, e, ds, few⟩
    exact ⟨h H' l ps e nl hl ds⟩
theorem int_inj {k f : Nat} (h : V.int (k : Int) = V.int (f : Int)) : k = f := by injection h with h; exact Int.ofNat.inj h
theorem same_tuple {H : AH} {p : Nat} {xs : List V} {k : Bool → Prop} (hp : H.get p = some (.tuple xs)) (hs : ∀ v ∈ xs, scEq v v = some true) (h : k true) : Same H (.ref p) (.ref p) k := by
  have he : ((List.range (min xs.length xs.length)).all (fun _ => true) && xs.length == xs.length) = true := by simp
  refine .mk true (0 + 1) ?_ (by decide) h
  rw [← he]
  refine .tuple hp hp (fun _ => he) fun j x y hx hy => .sc ?_
  rw [hx] at hy; cases hy
  exact hs x (List.mem_of_getElem? hx)
theorem sc_ss (s : Str) : scEq (.str s) (.str s) = some true := by rw [scEq_ss, beq_self_eq_true]
theorem sc_ii (i : Int) : scEq (.int i) (.int i) = some true := scE_ok (show some (decide (i = i)) = some true by rw [decide_eq_true rfl])
theorem stp_sc (st : Stp) : ∀ v ∈ st.vs, scEq v v = some true := by
  cases st <;> simp only [Stp.vs, List.mem_cons, List.not_mem_nil, or_false, forall_eq_or_imp, forall_eq, sc_ss, sc_ii, and_self]
theorem eq_step {H : AH} {w : RowR} {Q : Bool → Prop} (r : RowAt H w) (h : Q true) : oEq ((w.vs[1]?).getD .none) ((w.vs[1]?).getD .none) Q H := by
  have hs := r.step
  obtain ⟨p, n, ns, s⟩ := w
  cases s with
  | none => exact h
  | some t =>
    obtain ⟨e, sp, st⟩ := t
    have hsp := hs e sp st rfl
    exact look hsp (look hsp (same_tuple hsp (stp_sc st) h))
theorem eq_elder {H : AH} {w : RowR} {Q : Bool → Prop} (h : Q true) : oEq ((w.vs[0]?).getD .none) ((w.vs[0]?).getD .none) Q H := by
  obtain ⟨p, n, ns, s⟩ := w
  cases s with
  | none => exact h
  | some t =>
    obtain ⟨e, sp, st⟩ := t
    show Q (decide ((e : Int) = (e : Int)))
    rw [decide_eq_true rfl]; exact h
theorem row0 {B : Bk} (ok : B.Ok) {w : RowR} (h : B.rows[0]? = some w) : w.src = none := by
  have := (ok.rows 0 w h).src
  cases q : w.src with
  | none => rfl
  | some t => rw [q] at this; exact absurd this.1 (Nat.not_lt_zero _)
theorem rowS {B : Bk} (ok : B.Ok) {i : Nat} {w : RowR} (h : B.rows[i]? = some w) (hi : 0 < i) : ∃ e : Nat, (w.vs[0]?).getD .none = .int e := by
  have := (ok.rows i w h).src
  obtain ⟨p, n, ns, s⟩ := w
  cases s with
  | none => exact absurd this (Nat.ne_of_gt hi)
  | some t => exact ⟨t.1, rfl⟩
theorem Tells.len {H : AH} {x : Nat} {B : Bk} {l e s : Nat} {Ls : List (Nat × List Str)} (t : Tells H x B l e s Ls) : Ls.length = B.rows.length := by
  have := congrArg List.length t.names
  rw [List.length_map, List.length_map] at this; exact this
theorem Tells.row {H : AH} {x : Nat} {B : Bk} {l e s : Nat} {Ls : List (Nat × List Str)} (t : Tells H x B l e s Ls) {k : Nat} {w : Nat × List Str} {r : RowR} (hw : Ls[k]? = some w) (hr : B.rows[k]? = some r) : w.2 = r.names := by
  have := congrArg (fun l => l[k]?) t.names
  simp only [List.getElem?_map, hw, hr] at this
  exact Option.some.inj this
theorem pick_g {α : Type} {l : List α} {f : α → V} {e : Nat} {w : α} (h : l[e]? = some w) : pick (l.map f) (e : Int) = some (f w) := by
  rw [pick_nat, List.getElem?_map, h]; rfl
theorem num_in {B : Bk} {k : Nat} {P : Prop} (hk : k < B.rows.length) (h : numOk B.rows.length (.int (k : Int)) = false) : P := by
  rw [numOk_int.mpr ⟨Int.natCast_nonneg _, Int.ofNat_lt.mpr hk⟩] at h; cases h
theorem ok_told6 {C : Cx} {a : Addr} {d : Nat} (F : Is_told6 C a) (he : ExsOk C sup) (hg : Gs_told6 C d) : Meets C (d + 1) true (.ref a) T_told6 := by
  refine def_at (kk_told6 C d) (fun _ => rfl) c_told6 2 F k_told6 b_told6 he hg.1 hg.2 fun fz vs Q X H h => ?_
  obtain ⟨x, l, e, s, B, Ls, rfl, t, h⟩ := h
  have len := t.len
  refine ⟨rfl, ⟨look t.bk.inst (look t.bk.attrs ⟨x, B, rfl, t.bk, ⟨_, rfl, .int _, look t.bk.inst (look t.bk.attrs ⟨x, B, rfl, t.bk, look t.ls.at_ (nor1 (fun hn => absurd (by rw [lenB, len]) hn) fun _ => ⟨look t.ls.at_ (made_of fun H₁ r e1 _ _ hr => ?_)⟩)⟩)⟩⟩)⟩⟩
  rw [List.length_map] at hr
  refine forS_of ((List.range Ls.length).map fun i => V.int (i : Nat)) (fun k ρ H' => Bx22 (fun (a4 a5 : Option V) => ρ = [some (.ref x), some (.ref l), some (.ref e), some (.ref s), a4, a5]) (fun _ _ => Ext H H')) (items_rng hr (Nat.le_trans t.ls.few (by decide))) ⟨none, none, rfl, e1⟩ ?_ ?_
  · rintro k y ρ H' hy ⟨a4, a5, rfl, E⟩
    obtain ⟨hk, rfl⟩ := range_get hy
    obtain ⟨w, hw⟩ := getE (l := Ls) rfl hk
    obtain ⟨r', hr'⟩ := getE (l := B.rows) rfl (len ▸ hk)
    have nm := t.row hw hr'
    have hkB := (List.getElem?_eq_some_iff.mp hr').1
    have t1 := t.ext E
    refine look t1.bk.inst (look t1.bk.attrs ⟨x, B, .int k, rfl, t1.bk, t1.ok, .int _, num_in hkB, fun f w' hv hw' H₂ n e2 nn nf hn => ⟨?_⟩⟩)
    cases int_inj hv
    rw [hr'] at hw'; cases hw'
    have t2 := t1.ext e2
    have q2 := (t2.ls.each w (List.mem_of_getElem? hw)).1
    have r2 := t2.bk.rows r' (List.mem_of_getElem? hr')
    refine look hn (look t2.ls.at_ (got (pick_ref hw) (look hn (look q2 (same_strs hn q2 (brn (fun hne => absurd nm.symm hne) fun _ => look t2.bk.inst (look t2.bk.attrs ⟨x, B, .int k, rfl, t2.bk, .int _, num_in hkB, fun f w' hv hw' => ?_⟩)))))))
    cases int_inj hv
    rw [hr'] at hw'; cases hw'
    refine look t2.steps (got (pick_g hr') (eq_step r2 ⟨look hn (look hn (reqp nf (reqp ?_ ⟨?_⟩)))⟩))
    · rw [List.length_map, ← nm]; exact sizeS (Nat.le_trans (t2.ls.each w (List.mem_of_getElem? hw)).2.1 (by decide))
    have e3 : Ext H' (H₂.set n (.list [])) := e2.set nn
    have t3 := t1.ext e3
    refine look t3.bk.inst (look t3.bk.attrs ⟨x, B, .int k, rfl, t3.bk, t3.ok, .int _, num_in hkB, fun f w' hv hw' H₄ n4 e4 _ _ hn4 => ?_⟩)
    cases int_inj hv
    rw [hr'] at hw'; cases hw'
    have t4 := t3.ext e4
    have q4 := (t4.ls.each w (List.mem_of_getElem? hw)).1
    refine look t4.ls.at_ (got (pick_ref hw) (look hn4 (look q4 (same_strs hn4 q4 (brn (fun hne => absurd nm.symm hne) fun _ => look t4.bk.inst (look t4.bk.attrs ⟨x, B, .int k, rfl, t4.bk, .int _, num_in hkB, fun f w' hv hw' => ?_⟩))))))
    cases int_inj hv
    rw [hr'] at hw'; cases hw'
    have fin : Ext H H₄ := E.trans (e3.trans e4)
    refine look t4.elders (got (pick_g hr') (eq_elder ⟨brd (fun hpos => look t4.bk.inst (look t4.bk.attrs ⟨x, B, .int k, rfl, t4.bk, .int _, num_in hkB, fun f w' hv hw' => ?_⟩)) fun hz => brf (decide_eq_false hz) ⟨_, _, rfl, fin⟩⟩))
    cases int_inj hv
    rw [hr'] at hw'; cases hw'
    obtain ⟨e', he'⟩ := rowS t.ok hr' (Int.ofNat_lt.mp hpos)
    rw [he']
    exact ⟨_, rfl, .int _, ⟨_, _, rfl, fin⟩⟩
  · rintro ρ H' ⟨a4, a5, rfl, E⟩
    obtain ⟨w0, h0, _⟩ := t.ok.first
    have hs := row0 t.ok h0
    have t1 := t.ext E
    have h0B := (List.getElem?_eq_some_iff.mp h0).1
    refine ⟨look t1.bk.inst (look t1.bk.attrs ⟨x, B, .int 0, rfl, t1.bk, .int _, num_in (k := 0) h0B, fun f w hv hw => ?_⟩)⟩
    cases int_inj (k := 0) hv
    rw [h0] at hw; cases hw
    rw [show (w0.vs[0]?).getD .none = .none by obtain ⟨_, _, _, s⟩ := w0; cases hs; rfl]
    refine look t1.bk.inst (look t1.bk.attrs ⟨x, B, .int 0, rfl, t1.bk, .int _, num_in (k := 0) h0B, fun f w hv hw => ?_⟩)
    cases int_inj (k := 0) hv
    rw [h0] at hw; cases hw
    rw [show (w0.vs[1]?).getD .none = .none by obtain ⟨_, _, _, s⟩ := w0; cases hs; rfl]
    exact h H' E
theorem BkAt.out {H : AH} {x : Nat} {B : Bk} {a : Nat} (b : BkAt H x B) (h : H.get a = none) : a ∉ B.mut := fun hm => by
  rcases b.mutN hm with ⟨_, z⟩ | ⟨_, z⟩ <;> (rw [h] at z; cases z)
theorem num_no {B : Bk} {v : V} {f : Nat} {w : RowR} {P : Prop} (h : numOk B.rows.length v = false) (hv : v = .int f) (hw : B.rows[f]? = some w) : P := by
  subst hv; exact num_in (List.getElem?_eq_some_iff.mp hw).1 h
theorem ok_noform {C : Cx} {a : Addr} {d : Nat} (F : Is_noform C a) (he : ExsOk C sup) (hg : Gs_noform C d) : Meets C (d + 1) true (.ref a) T_noform := by
  refine def_at (kk_noform C d) (fun _ => rfl) c_noform 2 F k_noform b_noform he hg.1 hg.2 fun fz vs Q X H h => ?_
  obtain ⟨x, B, v, rfl, b, ok, sv, no, hfz, h⟩ := h
  refine ⟨rfl, ⟨⟨made_of fun H₁ r e1 nr _ hr => ?_⟩⟩⟩
  have hfz' : ∀ a ∈ B.mut, a ∉ r :: fz := fun a ha hm => (List.mem_cons.mp hm).elim (fun e => b.out nr (e ▸ ha)) (hfz a ha)
  refine forO ((List.range 4).map fun i => V.int (i : Nat)) (fun k ρ H' => Bx12 (fun (a3 : Option V) => ρ = [some (.ref x), some v, some (.int k), a3]) (fun _ => Ext H H')) (items_rng (n := 4) hr (by decide)) ⟨none, rfl, e1⟩ ?_ ?_
  · rintro R' k y ρ H' hy ⟨a3, rfl, e⟩ n
    obtain ⟨hk, rfl⟩ := range_get hy
    refine try_of (fun i ρ' H'' => i = 6 ∧ ρ' = [some (.ref x), some v, some (.int k), some (.int k)] ∧ Ext H H'') (fun X' N hx n' => ?_) ?_
    · have b1 := b.ext e
      have sv1 := sv.ext e
      have x1 := hx 6 _ _ ⟨rfl, rfl, e⟩
      rcases k with _ | _ | _ | _ | k
      · exact look b1.inst (look b1.attrs ⟨x, B, v, rfl, b1, ok, sv1, fun _ => x1, fun f w hv hw => num_no no hv hw⟩)
      · exact look b1.inst (look b1.attrs ⟨x, B, v, rfl, b1, sv1, fun _ => x1, fun f w hv hw => num_no no hv hw⟩)
      · exact look b1.inst (look b1.attrs ⟨x, B, v, rfl, b1, sv1, fun _ => x1, fun f w hv hw => num_no no hv hw⟩)
      · exact look b1.inst (look b1.attrs (made_of fun H₂ sp e2 _ _ hsp => ⟨x, B, v, .ref sp, rfl, b1.ext e2, ok, sv1.ext e2, hfz', .noform _ _ no (hx 6 _ _ ⟨rfl, rfl, e.trans e2⟩)⟩))
      · exact absurd hk (Nat.not_lt.mpr (Nat.le_add_left 4 k))
    · rintro i ρ' H'' N ⟨rfl, rfl, e'⟩ n'
      exact fun a na fa => ⟨n' _ _ ⟨n _ _ ⟨_, rfl, e'.trans (Ext.new na)⟩⟩⟩
  · rintro ρ H' ⟨a3, rfl, e⟩
    exact ⟨h H' e⟩
theorem behind_turn {a : Str} {ns : List Str} (ha : a ∈ ns) (h1 : 1 ≤ ns.length) (h2 : ns.length ≤ 12) : behindF (.turn a) ns = .inr ns := by
  have hf : foundOf (.turn a) ns = ns := by
    unfold foundOf
    have : ∀ l : List Str, (∀ n ∈ l, n ∈ ns) → l.flatMap (fun n => if n ∈ staysOf (.turn a) ns then [n] else if n = (Stp.turn a).fst then (Stp.turn a).comes else []) = l := by
      intro l
      induction l with
      | nil => intro _; rfl
      | cons n r ih =>
        intro hl
        rw [List.flatMap_cons, ih fun m hm => hl m (List.mem_cons_of_mem _ hm)]
        by_cases hn : n = a
        · subst hn
          rw [if_neg (fun hm => (mem_stays.mp hm).2 (by simp [Stp.goes])), if_pos (show n = (Stp.turn n).fst from rfl)]; rfl
        · rw [if_pos (mem_stays.mpr ⟨hl n (by simp), by simpa [Stp.goes] using hn⟩)]; rfl
    exact this ns fun n h => h
  unfold behindF
  rw [hf, if_pos (by simpa [Stp.goes] using ha), if_pos (fun x hx hm => (mem_stays.mp hm).2 (by simpa [Stp.comes, Stp.goes] using hx))]
  show (if 1 ≤ (ns ++ []).length ∧ (ns ++ []).length ≤ 12 then Sum.inr (ns ++ []) else Sum.inl 3) = Sum.inr ns
  rw [List.append_nil, if_pos ⟨h1, h2⟩]
theorem ok_growson {C : Cx} {a : Addr} {d : Nat} (F : Is_growson C a) (he : ExsOk C sup) (hg : Gs_growson C d) : Meets C (d + 1) true (.ref a) T_growson := by
  refine def_at (kk_growson C d) (fun _ => rfl) c_growson 1 F k_growson b_growson he hg.1 hg.2 fun fz vs Q X H h => ?_
  obtain ⟨x, l, e, s, B, Ls, rfl, t, isn, hfz, out, lout, h⟩ := h
  have len := t.len
  obtain ⟨w0, h0, _⟩ := t.ok.first
  have pos : 0 < B.rows.length := (List.getElem?_eq_some_iff.mp h0).1
  obtain ⟨k, hk⟩ : ∃ k, B.rows.length = k + 1 := ⟨B.rows.length - 1, (Nat.sub_add_cancel pos).symm⟩
  have hL : (((Ls.map fun w => V.ref w.1).length : Nat) : Int) - 1 = (k : Nat) := by rw [lenB, len, hk]; omega
  obtain ⟨w, hw⟩ := getE (l := Ls) (i := k) (len.trans hk) (Nat.lt_succ_self k)
  obtain ⟨r, hr⟩ := getE (l := B.rows) (i := k) hk (Nat.lt_succ_self k)
  have nm := t.row hw hr
  obtain ⟨q1, q2, q3⟩ := t.ls.each w (List.mem_of_getElem? hw)
  refine ⟨rfl, ⟨look t.ls.at_ ⟨?_⟩⟩⟩
  rw [hL]
  refine brd (fun h27 => brt (decide_eq_true h27) (h _)) fun h27 => look t.ls.at_ (got (pick_ref hw) (made_of fun H₁ z e1 _ _ hz => look (e1 _ _ q1) (look hz (same_strs (ys := []) (e1 _ _ q1) hz (brd (fun hnil => brt (decide_eq_true hnil) (h _)) fun hne => ⟨?_⟩)))))
  have k28 : k < 28 := by omega
  obtain ⟨n0, nr, hns⟩ : ∃ n0 nr, w.2 = n0 :: nr := by
    cases q : w.2 with
    | nil => exact absurd q hne
    | cons a r => exact ⟨a, r, rfl⟩
  have m0 : n0 ∈ w.2 := by rw [hns]; exact List.mem_cons_self
  have t1 := t.ext e1
  refine look t1.ls.at_ (got (pick_ref hw) (look (e1 _ _ q1) (got (v := .str n0) (by rw [hns]; rfl) (made_of fun H₂ sp e2 nsp _ hsp => ?_))))
  have t2 := t1.ext e2
  have ok1 : (Stp.turn n0).okB = true := okb_turn (isn w (List.mem_of_getElem? hw) n0 m0)
  refine ⟨x, B, .int (k : Nat), .ref sp, rfl, t2.bk, t2.ok, .int _, hfz, .step k sp r (.turn n0) hr hsp (okB_strs ok1) ok1 ?_⟩
  rw [← nm, behind_turn m0 (List.length_pos_of_mem m0) q2]
  show (if 30 ≤ B.rows.length then _ else _)
  rw [if_neg (by omega)]
  intro H₃ p n np nn x3 b3
  have hr3 : (B.grown k sp (.turn n0) w.2 p n).rows[k + 1]? = some ⟨p, n, w.2, some (k, sp, .turn n0)⟩ := by
    show (B.rows ++ [_])[k + 1]? = _
    rw [List.getElem?_append_right (by omega), hk, Nat.sub_self]; rfl
  have lt3 := (List.getElem?_eq_some_iff.mp hr3).1
  have ok3 : (B.grown k sp (.turn n0) w.2 p n).Ok := t.ok.grown hr ok1 (by rw [← nm]; exact behind_turn m0 (List.length_pos_of_mem m0) q2) (by omega) (fun q hq => by rw [t.no.2] at hq; exact (List.not_mem_nil hq).elim)
  refine brn (fun hn => absurd (by rw [hk]; rfl) hn) fun _ => ⟨look b3.inst (look b3.attrs ⟨x, _, .int ((k + 1 : Nat) : Int), rfl, b3, ok3, .int _, num_in lt3, fun f w' hv hw' H₄ n4 e4 _ _ hn4 => ?_⟩)⟩
  cases int_inj hv
  rw [hr3] at hw'; cases hw'
  have l4 := e4 _ _ (x3 _ _ lout t2.ls.at_)
  have q4 := e4 _ _ (x3 _ _ (out w (List.mem_of_getElem? hw)) (e2 _ _ (e1 _ _ q1)))
  refine look l4 (got (pick_ref hw) (look hn4 (look q4 (same_strs hn4 q4 ?_))))
  rw [decide_eq_true rfl]
  exact h _
end Mine
namespace Mine
open PySem PySem.Calls PySem.SeqAt PySem.W PyProof.Rows PySem.Challenge
theorem sEq_self (s : Str) : sEq s s = true := by rw [sEq_iff]; exact decide_eq_true rfl
theorem behind_nodup {st : Stp} {ns fs : List Str} (h : behindF st ns = .inr fs) (ok : st.okB = true) (nd : ns.Nodup) : fs.Nodup := by
  obtain ⟨cnd, gnd, _⟩ := okB_facts ok
  unfold behindF at h
  have hp : (∀ a ∈ st.goes, a ∈ ns) → _ := found_perm (st := st) nd
  generalize foundOf st ns ++ (if st.isAdd then [st.fst] else []) = F at h hp
  split at h
  · rename_i hg
    split at h
    · rename_i hc
      split at h
      · injection h with h
        subst h
        refine (hp hg).nodup_iff.mpr ?_
        rw [List.nodup_append]
        exact ⟨nd.sublist (List.filter_sublist ..), cnd, fun a ha b hb e => hc b hb (e ▸ ha)⟩
      · cases h
    · cases h
  · cases h
theorem comes_strs (st : Stp) : ∀ x ∈ st.comes, x ∈ st.strs := by cases st <;> simp [Stp.comes, Stp.strs]
theorem behind_isN {st : Stp} {ns fs : List Str} (h : behindF st ns = .inr fs) (ok : st.okB = true) (hn : ∀ s ∈ ns, isN (.str s) = true) : 1 ≤ fs.length ∧ ∀ s ∈ fs, isN (.str s) = true := by
  obtain ⟨_, _, h3, h4, _⟩ := behind_inr h
  exact ⟨h4, fun s hs => ((h3 s).mp hs).elim (fun h => hn s h.1) fun h => okB_isN ok s (comes_strs st s h)⟩
structure LJ (H₀ : AH) (x l e s : Nat) (M : List Nat) (H : AH) (B : Bk) (Ls : List (Nat × List Str)) : Prop where
  ext : ExtB (l :: e :: s :: M) H₀ H
  t : Tells H x B l e s Ls
  mu : B.mut = M
  nil : ¬ B.In x l
  nie : ¬ B.In x e
  nis : ¬ B.In x s
  out : ∀ w ∈ Ls, w.1 ∉ l :: e :: s :: M
  nm : ∀ w ∈ Ls, 1 ≤ w.2.length ∧ ∀ t ∈ w.2, isN (.str t) = true
theorem LJ.still {H₀ : AH} {x l e s : Nat} {M : List Nat} {H H' : AH} {B : Bk} {Ls : List (Nat × List Str)} (j : LJ H₀ x l e s M H B Ls) (h : Ext H H') : LJ H₀ x l e s M H' B Ls :=
  ⟨j.ext.trans (ExtB.of h), j.t.ext h, j.mu, j.nil, j.nie, j.nis, j.out, j.nm⟩
theorem mem4 {a l e s : Nat} {M : List Nat} (h : a ∉ l :: e :: s :: M) : a ≠ l ∧ a ≠ e ∧ a ≠ s ∧ a ∉ M := by
  simp only [List.mem_cons, not_or] at h; exact h
theorem LJ.grow {H₀ : AH} {x l e s : Nat} {M : List Nat} {H : AH} {B : Bk} {Ls : List (Nat × List Str)} (j : LJ H₀ x l e s M H B Ls) (le : l ≠ e) (ls : l ≠ s) (es : e ≠ s)
    {f sp p n a : Nat} {st : Stp} {w : Nat × List Str} {r : RowR} {fs : List Str} {H' : AH} (hw : Ls[f]? = some w) (hr : B.rows[f]? = some r) (hsp : H.get sp = some (.tuple st.vs)) (ok : st.okB = true) (hb : behindF st r.names = .inr fs) (h30 : B.rows.length < 30)
    (ha : H.get a = some (.list (fs.map V.str))) (aout : a ∉ l :: e :: s :: M) (np : H.get p = none) (nn : H.get n = none) (x' : ExtB B.mut H H') (b' : BkAt H' x (B.grown f sp st fs p n)) :
    LJ H₀ x l e s M (((H'.set l (.list ((Ls.map fun w => V.ref w.1) ++ [.ref a]))).set e (.list ((B.rows.map fun w => (w.vs[0]?).getD .none) ++ [.int f]))).set s (.list ((B.rows.map fun w => (w.vs[1]?).getD .none) ++ [.ref sp]))) (B.grown f sp st fs p n) (Ls ++ [(a, fs)]) := by
  have ng : ∀ y xs, ¬ B.In x y → H.get y = some (.list xs) → ¬ (B.grown f sp st fs p n).In x y := fun y xs hni hy hin => (grown_in hin).elim hni fun h => h.elim (fun h => by rw [h, np] at hy; cases hy) fun h => h.elim (fun h => by rw [h, nn] at hy; cases hy) fun h => by rw [h, hsp] at hy; cases hy
  have nl := ng l _ j.nil j.t.ls.at_
  have ne := ng e _ j.nie j.t.elders
  have nS := ng s _ j.nis j.t.steps
  have nmr := j.t.row hw hr
  obtain ⟨_, _, wnd⟩ := j.t.ls.each w (List.mem_of_getElem? hw)
  have wN := (j.nm w (List.mem_of_getElem? hw)).2
  rw [nmr] at wnd wN
  have get : ∀ {y : Nat} {A B' C' : Node}, y ≠ l → y ≠ e → y ≠ s → (((H'.set l A).set e B').set s C').get y = H'.get y := fun h1 h2 h3 => by rw [AH.set_ne _ _ h3, AH.set_ne _ _ h2, AH.set_ne _ _ h1]
  have get4 : ∀ {y : Nat} {A B' C' nd : Node}, y ∉ l :: e :: s :: M → H.get y = some nd → (((H'.set l A).set e B').set s C').get y = some nd := fun hy h => by
    obtain ⟨h1, h2, h3, h4⟩ := mem4 hy
    rw [get h1 h2 h3]; exact x' _ _ (j.mu ▸ h4) h
  refine ⟨fun y nd hy h => get4 hy (j.ext y nd hy h), ⟨b'.over fun y nd hin hy => ?_, j.t.ok.grown hr ok hb h30 (fun q hq => by rw [j.t.no.2] at hq; exact (List.not_mem_nil hq).elim), ⟨?_, fun w' hw' => ?_, ?_⟩, ?_, ?_, ?_, ⟨j.t.no.1, ?_⟩⟩, (grown_mut ..).trans j.mu, nl, ne, nS, fun w' hw' => ?_, fun w' hw' => ?_⟩
  · rw [get (fun q => nl (q ▸ hin)) (fun q => ne (q ▸ hin)) (fun q => nS (q ▸ hin))]; exact hy
  · rw [AH.set_ne _ _ ls, AH.set_ne _ _ le, AH.set_self, List.map_append]; rfl
  · rcases List.mem_append.mp hw' with h | h
    · obtain ⟨q1, q2⟩ := j.t.ls.each w' h
      exact ⟨get4 (j.out w' h) q1, q2⟩
    · rw [List.mem_singleton.mp h]
      exact ⟨get4 aout ha, (behind_inr hb).2.2.2.2, behind_nodup hb ok wnd⟩
  · rw [List.length_append, j.t.len]; exact h30
  · rw [List.map_append, j.t.names]
    show _ = (B.rows ++ [_]).map _
    rw [List.map_append]; rfl
  · rw [AH.set_ne _ _ es, AH.set_self]
    show _ = some (Node.list ((B.rows ++ [_]).map _))
    rw [List.map_append]; rfl
  · rw [AH.set_self]
    show _ = some (Node.list ((B.rows ++ [_]).map _))
    rw [List.map_append]; rfl
  · show (match st.num with | some c => B.owns.map (fun (w : Nat × OI) => (w.1, pO w.2 (B.rows.length : Nat) c)) | none => B.owns) = []
    rw [j.t.no.2]; cases st.num <;> rfl
  · rcases List.mem_append.mp hw' with h | h
    · exact j.out w' h
    · rw [List.mem_singleton.mp h]; exact aout
  · rcases List.mem_append.mp hw' with h | h
    · exact j.nm w' h
    · rw [List.mem_singleton.mp h]; exact behind_isN hb ok wN
noncomputable abbrev rhoL (sc p nA hA x l e s hd : Nat) (a5 a10 a11 a12 a13 a14 a15 : Option V) : Ev := [some (.ref sc), some (.ref p), some (.ref nA), some (.ref hA), some (.ref x), a5, some (.ref l), some (.ref e), some (.ref s), some (.ref hd), a10, a11, a12, a13, a14, a15, none]
inductive LW (H₀ : AH) (sc p nA hA x l e s hd : Nat) (M : List Nat) (ρ : Ev) (H : AH) : Prop
  | mk (a5 a10 a11 a12 a13 a14 a15 : Option V) (B : Bk) (Ls : List (Nat × List Str)) (hρ : ρ = rhoL sc p nA hA x l e s hd a5 a10 a11 a12 a13 a14 a15) (j : LJ H₀ x l e s M H B Ls) : LW H₀ sc p nA hA x l e s hd M ρ H
inductive Out (fz : List Nat) (x : Nat) (B : Bk) (H H' : AH) (v u dv : V) : Prop
  | no (i : Nat) (e : Ext H H') (h9 : i < 9) (hd : dv = .str (wordOf i)) (how : ∀ (Q : QV) (X : QX), (∀ H'', Ext H' H'' → X i H'') → GrowHow fz x B Q X H' v u) : Out fz x B H H' v u dv
  | yes (a f sp : Nat) (st : Stp) (r : RowR) (fs : List Str) (e : Ext H H') (hv : v = .int f) (hu : u = .ref sp) (hd : dv = .ref a) (na : H.get a = none) (ha : H'.get a = some (.list (fs.map V.str))) (hr : B.rows[f]? = some r) (hsp : H'.get sp = some (.tuple st.vs)) (ok : st.okB = true) (hb : behindF st r.names = .inr fs) (h30 : B.rows.length < 30) : Out fz x B H H' v u dv
theorem behind9 {st : Stp} {ns : List Str} {i : Nat} (h : behindF st ns = .inl i) : i < 9 := by
  rcases behind_inl h with rfl | rfl | rfl <;> decide
theorem due_how {fz : List Nat} {H₀ : AH} {x l e s : Nat} {M : List Nat} {H : AH} {B : Bk} {Ls : List (Nat × List Str)} (j : LJ H₀ x l e s M H B Ls) {Q : QV} {v u : V} {o : Int} {f sp : Nat} {st : Stp} {w : Nat × List Str} {r : RowR} (hw : Ls[f]? = some w) (hr : B.rows[f]? = some r) (hsp : H.get sp = some (.tuple st.vs)) (ok : st.okB = true)
    (hv : (v = .int f ∧ o ≠ 1) ∨ (numOk Ls.length v = false ∧ o = 1)) (hu : (o = 2 ∧ StepSays H u false) ∨ (o ≠ 2 ∧ u = .ref sp)) (q : ∀ dv H', Out fz x B H H' v u dv → Q dv H') : DueHow fz Ls Q H v u (decide (o = 2)) := by
  have len := j.t.len
  have nm := j.t.row hw hr
  have hfl := (List.getElem?_eq_some_iff.mp hw).1
  rcases hv with ⟨rfl, h1⟩ | ⟨hno, rfl⟩
  · have hyes : numOk Ls.length (.int f) = true := numOk_int.mpr ⟨Int.natCast_nonneg _, Int.ofNat_lt.mpr hfl⟩
    rcases hu with ⟨h2, su⟩ | ⟨h2, rfl⟩
    · rw [decide_eq_true h2]
      refine .nostep _ _ hyes (q _ _ (.no 5 (Ext.refl _) (by decide) rfl fun Q X hX => .nostep _ _ (len ▸ hyes) su hX))
    · rw [decide_eq_false h2]
      refine .step f sp w st hw hsp ?_
      have sl := okB_strs ok
      cases hb : behindF st w.2 with
      | inl i => exact fun H' e' => q _ _ (.no i e' (behind9 hb) rfl fun Q X hX => .step f sp r st hr (e' _ _ hsp) sl ok (by rw [← nm, hb]; exact hX))
      | inr fs =>
        show if Ls.length = 30 then _ else _
        by_cases h30 : Ls.length = 30
        · rw [if_pos h30]
          refine fun H' e' => q _ _ (.no 8 e' (by decide) rfl fun Q X hX => .step f sp r st hr (e' _ _ hsp) sl ok ?_)
          rw [← nm, hb]
          show if 30 ≤ B.rows.length then _ else _
          rw [if_pos (len ▸ Nat.le_of_eq h30.symm)]; exact hX
        · rw [if_neg h30]
          exact fun H' a e' na _ ha => q _ _ (.yes a f sp st r fs e' rfl rfl rfl na ha hr (e' _ _ hsp) ok (nm ▸ hb) (len ▸ Nat.lt_of_le_of_ne j.t.ls.few h30))
  · have h2 : ¬ ((1 : Int) = 2) := by decide
    refine .noform _ _ _ hno (q _ _ (.no 6 (Ext.refl _) (by decide) rfl fun Q X hX => .noform _ _ (len ▸ hno) (hX _ (Ext.refl _))))
end Mine
namespace Mine
open PySem PySem.Calls PySem.SeqAt PySem.W PyProof.Rows PySem.Challenge
noncomputable def loopB : CS := (.set 11 (.bin .Mod (.sub (.var 10) (.int 0)) (.call 26 (.cons (.var 6) .nil))) (.set 12 (.sub (.var 10) (.int 3)) (.ife (.cmp .Is (.var 12) .none) (.set 12 (.call 27 (.cons (.sub (.var 10) (.int 1)) (.cons (.sub (.var 10) (.int 2)) (.cons (.var 1) (.cons (.sub (.var 6) (.var 11)) .nil))))) .skip) .skip (.set 13 (.bin .Mod (.sub (.var 10) (.int 2)) (.int 20)) (.ife (.cmp .Eq (.var 13) (.int 1)) (.set 14 (.list (.cons (.bin .Add (.call 26 (.cons (.var 6) .nil)) (.var 11)) (.cons (.bin .Sub (.neg (.int 1)) (.var 11)) (.cons (.bool true) (.cons .none (.cons (.bool false) (.cons (.str [48]) (.cons (.tup (.cons (.int 0) .nil)) .nil)))))))) (.set 11 (.sub (.var 14) (.bin .Mod (.bin .FloorDiv (.sub (.var 10) (.int 2)) (.int 20)) (.int 7))) .skip)) .skip (.ife (.cmp .Eq (.var 13) (.int 2)) (.set 12 (.call 28 (.cons (.bin .FloorDiv (.sub (.var 10) (.int 2)) (.int 20)) (.cons (.var 12) .nil))) .skip) .skip (.set 5 (.call 29 (.cons (.var 6) (.cons (.var 11) (.cons (.var 12) (.cons (.cmp .Eq (.var 13) (.int 2)) .nil))))) (.set 15 (.call 30 (.cons (.var 4) (.cons (.var 11) (.cons (.var 12) .nil)))) (.ife (.bop .And (.cons (.isi 23 24 (.var 5)) (.cons (.bop .Or (.cons (.not (.isi 23 24 (.var 15))) (.cons (.cmp .NotEq (.var 15) (.var 5)) .nil))) .nil))) (.ret (.bool false) .skip) .skip (.ife (.not (.isi 23 24 (.var 5))) (.ife (.bop .Or (.cons (.not (.call 31 (.cons (.var 15) .nil))) (.cons (.cmp .NotEq (.var 15) (.call 26 (.cons (.var 6) .nil))) .nil))) (.ret (.bool false) .skip) .skip (.expr (.meth .append (.var 6) (.cons (.var 5) .nil)) (.expr (.meth .append (.var 7) (.cons (.var 11) .nil)) (.expr (.meth .append (.var 8) (.cons (.var 12) .nil)) .skip)))) .skip (.ife (.bop .Or (.cons (.cmp .NotEq (.om 0 (.var 4) .nil) (.call 26 (.cons (.var 6) .nil))) (.cons (.not (.call 32 (.cons (.var 4) (.cons (.call 26 (.cons (.var 6) .nil)) .nil)))) .nil))) (.ret (.bool false) .skip) .skip .skip)))))))))))
theorem deed_at {H : AH} {ns : List Str} {pd : Nat} (h : Deed H ns pd) : Bx43 (fun (d0 d1 d2 : Int) (v3 : V) => H.get pd = some (.tuple [.int d0, .int d1, .int d2, v3])) (fun _ _ _ _ => True) (fun _ _ _ v3 => v3 = .none ∨ ∃ sp n, v3 = .ref sp ∧ H.get sp = some (.tuple (Stp.turn n).vs) ∧ n ∈ ns) := by
  cases h with
  | drawn a b c h => exact ⟨a, b, c, .none, h, trivial, .inl rfl⟩
  | turn sp n h hs hn => exact ⟨0, 0, 0, .ref sp, h, trivial, .inr ⟨sp, n, rfl, hs, hn⟩⟩
theorem odd_forms {H : AH} {n f t : Nat} {xs : List V} (ht : H.get t = some (.tuple xs)) : ∀ v ∈ [V.int ((n : Int) + (f : Int)), .int (-1 - (f : Int)), .bool true, .none, .bool false, .str (tx [48]), .ref t], Served H v ∧ numOk n v = false :=
  all_cons ⟨.int _, Bool.eq_false_iff.mpr fun e => by have := (numOk_int.mp e).2; omega⟩ (all_cons ⟨.int _, Bool.eq_false_iff.mpr fun e => by have := (numOk_int.mp e).1; omega⟩ (all_cons ⟨.bool _, rfl⟩ (all_cons ⟨.none, rfl⟩ (all_cons ⟨.bool _, rfl⟩ (all_cons ⟨.str _ (by decide), rfl⟩ (all_cons ⟨.tuple _ _ ht, rfl⟩ all_nil))))))
theorem num_len (n : Nat) : numOk n (.int (n : Int)) = false := Bool.eq_false_iff.mpr fun e => Int.lt_irrefl _ (numOk_int.mp e).2
theorem law_turn {C : Cx} {d : Nat} {H₀ : AH} {sc p nA hA x l e s hd D pd : Nat} {M : List Nat} {c0 : Int} {ns : List Str} (le : l ≠ e) (ls : l ≠ s) (es : e ≠ s) (hp : H₀.get p = some (.list ((poolOf c0).map V.str))) (pout : p ∉ l :: e :: s :: M) (tout : ∀ a xs, H₀.get a = some (.tuple xs) → a ∉ l :: e :: s :: M) (nsN : ∀ n ∈ ns, isN (.str n) = true) (dD : ∀ y ∈ l :: e :: s :: M, y ∉ [D])
    (deed : Deed H₀ ns pd) {H : AH} {B : Bk} {Ls : List (Nat × List Str)} (j : LJ H₀ x l e s M H B Ls) {a5 a11 a12 a13 a14 a15 : Option V} {R' : PS} (n : ∀ ρ H, LW H₀ sc p nA hA x l e s hd M ρ H → R' .next ρ H) :
    wS loopB ((kk_law C d []).more (.ref D)) (xq nX) R' (rhoL sc p nA hA x l e s hd a5 (some (.ref pd)) a11 a12 a13 a14 a15) H := by
  have len := j.t.len
  have L0 : 0 < Ls.length := by obtain ⟨w0, h0, _⟩ := j.t.ok.first; rw [len]; exact (List.getElem?_eq_some_iff.mp h0).1
  have hmut : ∀ a ∈ B.mut, a ∉ [D] := fun a ha => dD a (by rw [← j.mu]; exact List.mem_cons_of_mem _ (List.mem_cons_of_mem _ (List.mem_cons_of_mem _ ha)))
  obtain ⟨d0, d1, d2, v3, hpd, _, h3⟩ := deed_at (deed.tup fun a xs h => j.ext _ _ (tout a xs h) h)
  obtain ⟨f, hf, hfl⟩ := fmod_nat d0 L0
  obtain ⟨w, hw⟩ := getE (l := Ls) rfl hfl
  obtain ⟨r, hr⟩ := getE (l := B.rows) rfl (len ▸ hfl)
  obtain ⟨q1, q2, q3⟩ := j.t.ls.each w (List.mem_of_getElem? hw)
  obtain ⟨w1, wN⟩ := j.nm w (List.mem_of_getElem? hw)
  refine look hpd (look j.t.ls.at_ (reqp (by rw [List.length_map]; exact Int.ofNat_ne_zero.mpr (Nat.ne_of_gt L0)) ⟨?_⟩))
  rw [List.length_map, hf]
  refine look hpd ?_
  refine ife_cut (fun ρ' H' => Bx24 (fun (sp : Nat) (st : Stp) => ρ' = rhoL sc p nA hA x l e s hd a5 (some (.ref pd)) (some (.int f)) (some (.ref sp)) a13 a14 a15) (fun sp st => H'.get sp = some (.tuple st.vs)) (fun _ st => st.okB = true) (fun _ _ => Ext H H')) (fun N rest => ?_) ?_
  · rcases h3 with rfl | ⟨sp, n0, rfl, hsp, hn0⟩
    · exact look hpd (look hpd (look j.t.ls.at_ (got (pick_ref hw) ⟨d1, d2, p, w.1, c0, w.2, rfl, j.ext _ _ pout hp, q1, ⟨w1, q2⟩, wN, fun H' a st e' na ha ok => ⟨rest _ _ ⟨a, st, rfl, ha, ok, e'⟩⟩⟩)))
    · exact rest _ _ ⟨sp, .turn n0, rfl, hsp, okb_turn (nsN n0 hn0), Ext.refl _⟩
  rintro ρ H₁ ⟨sp, st, rfl, hsp, ok, e1⟩
  have j1 := j.still e1
  replace hpd := e1 _ _ hpd
  clear h3 q1 e1 j
  refine ⟨look hpd ⟨?_⟩⟩
  generalize d2.fmod 20 = o
  refine Nx.out (ife_cut (fun ρ' H' => Bx24 (fun (v : V) (a14 : Option V) => ρ' = rhoL sc p nA hA x l e s hd a5 (some (.ref pd)) (some v) (some (.ref sp)) (some (.int o)) a14 a15) (fun v _ => Served H' v) (fun v _ => (v = .int f ∧ o ≠ 1) ∨ (numOk Ls.length v = false ∧ o = 1)) (fun _ _ => Ext H₁ H')) (fun N rest => brd (fun h1 => ?_) fun h1 => rest _ _ ⟨.int f, _, rfl, .int _, .inl ⟨rfl, h1⟩, Ext.refl _⟩) ?_)
  · refine look j1.t.ls.at_ (made_of fun H₂ t e2 _ _ ht => made_of fun H₃ S e3 _ _ hS => ⟨look (e3 _ _ (e2 _ _ hpd)) ?_⟩)
    rw [List.length_map] at hS
    obtain ⟨v, hv, sv, hno⟩ := pick_mod (n := 7) (d2.fdiv 20) rfl (by decide) (odd_forms (n := Ls.length) (f := f) (e3 _ _ ht))
    exact look hS (got hv ⟨rest _ _ ⟨v, _, rfl, sv, .inr ⟨hno, h1⟩, e2.trans e3⟩⟩)
  rintro ρ H₂ ⟨v, a14', rfl, sv, hv, e2⟩
  have j2 := j1.still e2
  replace hpd := e2 _ _ hpd
  replace hsp := e2 _ _ hsp
  clear e2 j1
  refine ife_cut (fun ρ' H' => Bx13 (fun (u : V) => ρ' = rhoL sc p nA hA x l e s hd a5 (some (.ref pd)) (some v) (some u) (some (.int o)) a14' a15) (fun u => (o = 2 ∧ StepSays H' u false) ∨ (o ≠ 2 ∧ u = .ref sp)) (fun _ => Ext H₂ H')) (fun N rest => brd (fun h2 => look hpd ⟨_, sp, st, rfl, hsp, ok, fun H' u e' su => ⟨rest _ _ ⟨u, rfl, .inl ⟨h2, su⟩, e'⟩⟩⟩) fun h2 => rest _ _ ⟨.ref sp, rfl, .inr ⟨h2, rfl⟩, Ext.refl _⟩) ?_
  rintro ρ H₃ ⟨u, rfl, hu, e3⟩
  have j3 := j2.still e3
  replace hsp := e3 _ _ hsp
  replace sv := sv.ext e3
  clear e3 j2 hpd
  refine set_post (fun dv H' => Out [D] x B H₃ H' v u dv) (fun Q q => ⟨l, Ls, v, u, decide (o = 2), rfl, j3.t.ls, sv, due_how j3 hw hr hsp ok hv hu q⟩) ?_
  rintro dv H₄ (⟨i, e4, h9, rfl, how⟩ | ⟨a, f', sp', st', r', fs, e4, rfl, rfl, rfl, na, ha, hr', hsp', ok', hb, h30⟩)
  · -- a refusal
    have j4 := j3.still e4
    refine ⟨⟨x, B, v, u, rfl, j4.t.bk, j4.t.ok, sv.ext e4, hmut, how _ _ fun H₅ e5 => ⟨h9, fun H₆ e6 => ⟨?_⟩⟩⟩⟩
    have j6 := j4.still (e5.trans e6)
    refine brf (by rw [sEq_self]; rfl) ⟨⟨?_⟩⟩
    have b6 := j6.t.bk
    refine look b6.inst (look b6.attrs ⟨x, B, rfl, b6, look j6.t.ls.at_ (brn (fun hn => absurd (by rw [lenB, len]) hn) fun _ => look j6.t.ls.at_ ?_)⟩)
    exact ⟨x, B, _, rfl, b6, j6.t.ok, .int _, by rw [lenB, len]; exact num_len _, hmut, fun H₇ e7 => ⟨n _ _ ⟨_, _, _, _, _, _, _, B, Ls, rfl, j6.still e7⟩⟩⟩
  · -- a new form
    have j4 := j3.still e4
    have hm3 := j3.t.bk.out na
    have aout : a ∉ l :: e :: s :: M := by
      simp only [List.mem_cons, not_or]
      exact ⟨fun q => (by rw [q, j3.t.ls.at_] at na; cases na), fun q => (by rw [q, j3.t.elders] at na; cases na), fun q => (by rw [q, j3.t.steps] at na; cases na), j3.mu ▸ hm3⟩
    obtain ⟨w', hw'⟩ := getE (l := Ls) rfl (len.symm ▸ (List.getElem?_eq_some_iff.mp hr').1)
    refine ⟨⟨x, B, .int f', .ref sp', rfl, j4.t.bk, j4.t.ok, .int _, hmut, .step f' sp' r' st' hr' hsp' (okB_strs ok') ok' ?_⟩⟩
    rw [hb]
    show if 30 ≤ B.rows.length then _ else _
    rw [if_neg (Nat.not_le.mpr h30)]
    intro H₅ p' n' np nn x5 b5
    have hl5 := x5 _ _ (fun h => j4.nil (In_mut h)) j4.t.ls.at_
    have he5 := x5 _ _ (fun h => j4.nie (In_mut h)) j4.t.elders
    have hs5 := x5 _ _ (fun h => j4.nis (In_mut h)) j4.t.steps
    have ha5 := x5 _ _ hm3 ha
    have j5 := j4.grow le ls es hw' hr' hsp' ok' hb h30 ha aout np nn x5 b5
    have fl : l ∉ [D] := dD l (by simp)
    have fe : e ∉ [D] := dD e (by simp)
    have fs' : s ∉ [D] := dD s (by simp)
    have few := j4.t.ls.few
    refine ⟨look ha5 ⟨look ha5 ⟨_, rfl, .int _, look hl5 (nor1 (fun hn => absurd (by rw [lenB, len]) hn) fun _ => ⟨look hl5 (look hl5 (reqp fl (reqp (by rw [List.length_map]; exact sizeS (Nat.le_trans few (by decide))) ⟨?_⟩)))⟩)⟩⟩⟩
    have he6 : (H₅.set l (.list ((Ls.map fun w => V.ref w.1) ++ [.ref a]))).get e = _ := (AH.set_ne _ _ (Ne.symm le)).trans he5
    refine look he6 (look he6 (reqp fe (reqp (by rw [List.length_map, ← len]; exact sizeS (Nat.le_trans few (by decide))) ⟨?_⟩)))
    have hs6 : ((H₅.set l (.list ((Ls.map fun w => V.ref w.1) ++ [.ref a]))).set e (.list ((B.rows.map fun w => (w.vs[0]?).getD .none) ++ [.int f']))).get s = _ := (AH.set_ne _ _ (Ne.symm es)).trans ((AH.set_ne _ _ (Ne.symm ls)).trans hs5)
    refine look hs6 (look hs6 (reqp fs' (reqp (by rw [List.length_map, ← len]; exact sizeS (Nat.le_trans few (by decide))) ⟨⟨?_⟩⟩)))
    have b6 := j5.t.bk
    have len6 := j5.t.len
    have mut6 : ∀ a ∈ (B.grown f' sp' st' fs p' n').mut, a ∉ [D] := fun a ha => hmut a (by rw [grown_mut] at ha; exact ha)
    refine look b6.inst (look b6.attrs ⟨x, _, rfl, b6, look j5.t.ls.at_ (brn (fun hn => absurd (by rw [lenB, len6]) hn) fun _ => look j5.t.ls.at_ ?_)⟩)
    exact ⟨x, _, _, rfl, b6, j5.t.ok, .int _, by rw [lenB, len6]; exact num_len _, mut6, fun H₇ e7 => ⟨n _ _ ⟨_, _, _, _, _, _, _, _, _, rfl, j5.still e7⟩⟩⟩
end Mine
namespace Mine
open PySem PySem.Calls PySem.SeqAt PySem.W PyProof.Rows PySem.Challenge
theorem init_inl {xs : List V} {i : Nat} (h : initF xs = .inl i) : i < 9 := by
  unfold initF at h
  split at h
  · split at h
    · split at h
      · cases h
      · injection h with h; subst h; decide
    · injection h with h; subst h; decide
  · injection h with h; subst h; decide
theorem init_inr {xs : List V} {ns : List Str} (h : initF xs = .inr ns) : Bx15 (fun (_ : Unit) => xs = ns.map V.str) (fun _ => ns.Nodup) (fun _ => 1 ≤ ns.length) (fun _ => ns.length ≤ 12) (fun _ => ∀ s ∈ ns, isN (.str s) = true) := by
  unfold initF at h
  split at h
  · rename_i hl
    split at h
    · rename_i ha
      obtain ⟨ss, e1, e2⟩ := all_strs ha
      rw [e2] at h
      split at h
      · rename_i nd
        injection h with h
        subst h
        rw [e1, List.length_map] at hl
        exact ⟨(), e1, nd, hl.1, hl.2, fun s hs => List.all_eq_true.mp ha _ (e1 ▸ List.mem_map.mpr ⟨s, hs, rfl⟩)⟩
      · cases h
    · cases h
  · cases h
theorem same_els {H : AH} {p q : Nat} {xs : List V} {k : Bool → Prop} (hp : H.get p = some (.list xs)) (hq : H.get q = some (.list xs)) (hs : ∀ v ∈ xs, Served H v) (h : k true) : Same H (.ref p) (.ref q) k := by
  have he : (List.range xs.length).all (fun _ => true) = true := List.all_eq_true.mpr fun _ _ => rfl
  refine .items p q _ _ xs xs (fun _ => true) rfl rfl hp hq rfl rfl rfl (fun i x y hx hy => ?_) (by rw [he]; exact h)
  rw [hx] at hy; cases hy
  cases hs x (List.mem_of_getElem? hx) with
  | none => exact .eqv 0 (.sc rfl) (by decide)
  | bool b => exact .eqv 0 (.sc (by rw [scEq_bb, beq_self_eq_true])) (by decide)
  | int i => exact .eqv 0 (.sc (sc_ii i)) (by decide)
  | str s _ => exact .eqv 0 (.sc (sc_ss s)) (by decide)
  | list p xs h => exact .same p rfl rfl rfl
  | tuple p xs h => exact .same p rfl rfl rfl
  | dict p xs h => exact .same p rfl rfl rfl
theorem far_forms {H : AH} {n t u : Nat} {far : Int} (h0 : 0 ≤ far) {xs ys : List V} (ht : H.get t = some (.tuple xs)) (hu : H.get u = some (.list ys)) : ∀ v ∈ [V.int ((n : Int) + far), .int (-1 - far), .bool true, .bool false, .none, .str (tx [48]), .ref t, .ref u], Served H v ∧ numOk n v = false :=
  all_cons ⟨.int _, Bool.eq_false_iff.mpr fun e => by have := (numOk_int.mp e).2; omega⟩ (all_cons ⟨.int _, Bool.eq_false_iff.mpr fun e => by have := (numOk_int.mp e).1; omega⟩ (all_cons ⟨.bool _, rfl⟩ (all_cons ⟨.bool _, rfl⟩ (all_cons ⟨.none, rfl⟩ (all_cons ⟨.str _ (by decide), rfl⟩ (all_cons ⟨.tuple _ _ ht, rfl⟩ (all_cons ⟨.list _ _ hu, rfl⟩ all_nil)))))))
theorem no_nodes {H : AH} {a l : Nat} {n : Node} (h : H.get a = some n) (hl : H.get l = none) : a ≠ l := fun e => by rw [e, hl] at h; cases h
theorem out4 {a l e s : Nat} {M : List Nat} (h1 : a ≠ l) (h2 : a ≠ e) (h3 : a ≠ s) (h4 : a ∉ M) : a ∉ l :: e :: s :: M := by
  simp only [List.mem_cons, not_or]; exact ⟨h1, h2, h3, h4⟩
theorem ok_law {C : Cx} {a : Addr} {d : Nat} (F : Is_law C a) (he : ExsOk C sup) (hg : Gs_law C d) {scr : List Int} {sc : Nat} {H : AH} (h63 : scr.length ≤ 63) (hsc : H.get sc = some (.rlist (scr.map V.int))) : TopTo C (d + 1) (.ref a) [.ref sc] (fun v => v = .bool true) H := by
  refine top_at (kk_law C d []) rfl c_law 16 F k_law b_law he hg.1 hg.2 rfl ⟨cell_any hsc (by decide) fun c0 => fun H₁ p e1 np _ hp => ⟨⟨sc, p, scr, c0, rfl, e1 _ _ hsc, hp, fun H₂ nA xs e2 nn _ hn l14 els => ⟨look hn (reqp (s14 l14) (made_of fun H₃ hA e3 nh _ hh => ⟨⟨hA, xs, rfl, hh, fun v hv => ((els v hv).ext e3).served, ?_⟩⟩))⟩⟩⟩⟩
  have pA : p ≠ hA := no_nodes (e2 _ _ hp) nh
  have nAh : nA ≠ hA := no_nodes hn nh
  have sA : sc ≠ hA := no_nodes (e2 _ _ (e1 _ _ hsc)) nh
  replace hsc := e3 _ _ (e2 _ _ (e1 _ _ hsc))
  replace hp := e3 _ _ (e2 _ _ hp)
  replace hn := e3 _ _ hn
  replace els : ∀ v ∈ xs, El H₃ v := fun v hv => (els v hv).ext e3
  clear e1 e2 np nn nh e3
  cases hi : initF xs with
  | inl i =>
    refine fun H₄ e4 => ⟨init_inl hi, fun H₅ e5 => ⟨⟨nA, xs, rfl, e5 _ _ (e4 _ _ hn), l14, fun v hv => (els v hv).ext (e4.trans e5), fun H₆ e6 => ⟨?_⟩⟩⟩⟩
    have hd : dueF xs = wordOf i := by unfold dueF; rw [hi]
    rw [hd]
    have E := e4.trans (e5.trans e6)
    have same : Same H₆ (.ref hA) (.ref nA) (fun r => V.bool r = .bool true) := same_els (E _ _ hh) (E _ _ hn) (fun v hv => ((els v hv).ext E).served) rfl
    exact brs (fun h => brt h (brt (sEq_self _) (look (E _ _ hh) (look (E _ _ hn) same)))) fun h => brt (sEq_self _) (look (E _ _ hh) (look (E _ _ hn) same))
  | inr ns =>
    obtain ⟨_, rfl, nd, n1, n12, nsN⟩ := init_inr hi
    have hd : dueF (ns.map V.str) = tx [] := by unfold dueF; rw [hi]
    intro H₄ x B e4 new _ b ok hB
    obtain ⟨dx, r, k, o, p0, n0, hB⟩ := hB
    refine ⟨⟨nA, _, rfl, e4 _ _ hn, l14, fun v hv => (els v hv).ext e4, fun H₅ e5 => ⟨?_⟩⟩⟩
    rw [hd]
    have E5 := e4.trans e5
    have b5 := b.ext e5
    refine look b5.inst (look b5.attrs ⟨look (E5 _ _ hh) (look (E5 _ _ hh) (reqp (fun h => (List.not_mem_nil h).elim) (reqp (s14 l14) ⟨?_⟩)))⟩)
    have b6 : BkAt (H₅.set hA (.list [])) x B := b5.over fun a nd hin h => (AH.set_ne _ _ (fun q => by have := new a hin; rw [q, hh] at this; cases this)).trans h
    have n6 : (H₅.set hA (.list [])).get nA = _ := (AH.set_ne _ _ nAh).trans (E5 _ _ hn)
    have p6 : (H₅.set hA (.list [])).get p = _ := (AH.set_ne _ _ pA).trans (E5 _ _ hp)
    have s6 : (H₅.set hA (.list [])).get sc = _ := (AH.set_ne _ _ sA).trans (E5 _ _ hsc)
    have nM : nA ∉ B.mut := fun h => by have := new nA (In_mut h); rw [hn] at this; cases this
    have pM : p ∉ B.mut := fun h => by have := new p (In_mut h); rw [hp] at this; cases this
    have sM : sc ∉ B.mut := fun h => by have := new sc (In_mut h); rw [hsc] at this; cases this
    generalize H₅.set hA (.list []) = H₆ at b6 n6 p6 s6 ⊢
    clear b5 E5 e5 e4 b hsc hp hn hh els new pA nAh sA
    refine made_of fun H₇ l e7 nl _ hl => made_of fun H₈ e e8 ne _ hE => made_of fun H₉ s e9 nS _ hS => made_of fun Ha t ea _ _ ht => look ht ⟨?_⟩
    have le : l ≠ e := no_nodes hl ne
    have ls : l ≠ s := no_nodes (e8 _ _ hl) nS
    have es : e ≠ s := no_nodes hE nS
    have old : ∀ {a : Nat} {nd : Node}, H₆.get a = some nd → a ∉ B.mut → a ∉ l :: e :: s :: B.mut := fun h hm => out4 (no_nodes h nl) (no_nodes (e7 _ _ h) ne) (no_nodes (e8 _ _ (e7 _ _ h)) nS) hm
    have nil : ¬ B.In x l := fun h => b6.dom h nl
    have nie : ¬ B.In x e := fun h => (b6.ext e7).dom h ne
    have nis : ¬ B.In x s := fun h => ((b6.ext e7).ext e8).dom h nS
    have Ea := e7.trans (e8.trans (e9.trans ea))
    have ba := b6.ext Ea
    have la := ea _ _ (e9 _ _ (e8 _ _ hl))
    have Ea' := ea _ _ (e9 _ _ hE)
    have Sa := ea _ _ hS
    have hrow : B.rows[0]? = some ⟨p0, n0, ns, none⟩ := by rw [hB]; rfl
    refine look ba.inst (look ba.attrs ⟨x, B, .int 0, rfl, ba, ok, .int _, num_in (k := 0) (List.getElem?_eq_some_iff.mp hrow).1, fun f w hv hw Hb hd' eb nhd _ hhd => ⟨?_⟩⟩)
    cases int_inj (k := 0) hv
    rw [hrow] at hw; cases hw
    have Eb := Ea.trans eb
    have bb := ba.ext eb
    refine ⟨sc, nA, scr, ns, rfl, Eb _ _ s6, h63, Eb _ _ n6, ⟨n1, n12⟩, fun Hc D ps ec nD hD ds => ?_⟩
    have bc := bb.ext ec
    have lc := ec _ _ (eb _ _ la)
    have Ec := ec _ _ (eb _ _ Ea')
    have Sc := ec _ _ (eb _ _ Sa)
    have nc := ec _ _ (Eb _ _ n6)
    have pc := ec _ _ (Eb _ _ p6)
    have sc' := ec _ _ (Eb _ _ s6)
    have hc := ec _ _ hhd
    have hout : hd' ∉ l :: e :: s :: B.mut := out4 (Ne.symm (no_nodes la nhd)) (Ne.symm (no_nodes Ea' nhd)) (Ne.symm (no_nodes Sa nhd)) (ba.out nhd)
    have nout := old n6 nM
    have pout := old p6 pM
    have sout := old s6 sM
    have tout : ∀ a xs, Hc.get a = some (.tuple xs) → a ∉ l :: e :: s :: B.mut := fun a xs h => out4 (fun q => by rw [q, lc] at h; cases h) (fun q => by rw [q, Ec] at h; cases h) (fun q => by rw [q, Sc] at h; cases h) (bc.tOut h)
    have dD : ∀ y ∈ l :: e :: s :: B.mut, y ∉ [D] := fun y hy q => by
      rw [List.mem_singleton.mp q] at hy
      exact out4 (Ne.symm (no_nodes (eb _ _ la) nD)) (Ne.symm (no_nodes (eb _ _ Ea') nD)) (Ne.symm (no_nodes (eb _ _ Sa) nD)) (bb.out nD) hy
    have j0 : LJ Hc x l e s B.mut Hc B [(nA, ns)] := ⟨ExtB.refl _ _, ⟨bc, ok, ⟨lc, fun w hw => by rw [List.mem_singleton.mp hw]; exact ⟨nc, n12, nd⟩, by simp⟩, by rw [hB]; rfl, by rw [Ec, hB]; rfl, by rw [Sc, hB]; rfl, by rw [hB]; exact ⟨rfl, rfl⟩⟩, rfl, nil, nie, nis, fun w hw => by rw [List.mem_singleton.mp hw]; exact nout, fun w hw => by rw [List.mem_singleton.mp hw]; exact ⟨n1, nsN⟩⟩
    clear hB hrow b6 ba bb bc la Ea' Sa lc Ec Sc Ea Eb e7 e8 e9 ea eb ec hl hE hS ht nl ne nS nhd nD old nil nie nis n6 p6 s6 nM pM sM hhd hd ok hi l14
    refine forO (ps.map V.ref) (fun _ => LW Hc sc p nA hA x l e s hd' B.mut) (items_list hD) ⟨_, _, _, _, _, _, _, B, _, rfl, j0⟩ ?_ ?_
    · rintro R' k y ρ H' hy ⟨a5, a10, a11, a12, a13, a14, a15, B', Ls, rfl, j⟩ n
      rw [List.getElem?_map] at hy
      obtain ⟨pd, hpd, rfl⟩ := Option.map_eq_some_iff.mp hy
      exact law_turn le ls es pc pout tout nsN dD (ds pd (List.mem_of_getElem? hpd)) j n
    rintro ρ H' ⟨a5, a10, a11, a12, a13, a14, a15, B', Ls, rfl, j⟩
    refine ⟨cell_any (j.ext _ _ sout sc') (by decide) fun c5 => ⟨?_⟩⟩
    have f0 : 0 ≤ c5.fmod (10 ^ 20) := fm0 _ (by decide)
    refine look j.t.ls.at_ (made_of fun H₁ t e1 _ _ ht => made_of fun H₂ u e2 _ _ hu => made_of fun H₃ S e3 nS _ hS => ?_)
    rw [List.length_map] at hS
    have far := far_forms (n := Ls.length) f0 (e3 _ _ (e2 _ _ ht)) (e3 _ _ hu)
    have j3 := j.still (e1.trans (e2.trans e3))
    have mutS : ∀ a ∈ B'.mut, a ∉ [S] := fun a ha q => by rw [List.mem_singleton.mp q] at ha; exact (j.still (e1.trans e2)).t.bk.out nS ha
    refine forO _ (fun k ρ H'' => Bx12 (fun (a11 : Option V) => ρ = (rhoL sc p nA hA x l e s hd' a5 a10 a11 a12 a13 a14 a15).set 16 (some (.int (c5.fmod (10 ^ 20))))) (fun _ => Ext H₃ H'')) (items_list hS) ⟨_, rfl, Ext.refl _⟩ ?_ ?_
    · rintro R' k y ρ H'' hy ⟨a11, rfl, e4⟩ n
      obtain ⟨sv, no⟩ := far y (List.mem_of_getElem? hy)
      have j4 := j3.still e4
      exact ⟨x, B', y, rfl, j4.t.bk, j4.t.ok, sv.ext e4, by rw [← j4.t.len]; exact no, mutS, fun H₅ e5 => ⟨n _ _ ⟨_, rfl, e4.trans e5⟩⟩⟩
    · rintro ρ H₄ ⟨a11, rfl, e4⟩
      have j4 := j3.still e4
      refine ⟨⟨x, l, e, s, B', Ls, rfl, j4.t, fun H₅ e5 => ?_⟩⟩
      have j5 := j4.still e5
      have h5 := j5.ext _ _ hout hc
      have n5 := j5.ext _ _ nout nc
      exact look h5 (look n5 (same_strs h5 n5 (brt (decide_eq_true rfl) ⟨x, l, e, s, B', Ls, rfl, j5.t, fun w hw => (j5.nm w hw).2, fun _ _ h => (List.not_mem_nil h).elim, fun w hw => j5.mu ▸ (mem4 (j5.out w hw)).2.2.2, fun h => j5.nil (In_mut h), fun _ => rfl⟩)))
end Mine
set_option maxRecDepth 100000
namespace Mine
open PySem PySem.Calls PySem.SeqAt PySem.W PyProof.Rows PySem.Challenge
noncomputable def defsL : List Nat := [0, 16, 17, 18, 19, 20, 21, 22, 23, 24, 29, 30, 31, 32, 33, 34, 35, 36, 37, 38, 39, 40, 41, 42, 43, 44, 45, 46, 47]
noncomputable def biL : List Str := ["ValueError", "all", "bool", "int", "isinstance", "len", "list", "min", "range", "set", "str", "tuple"]
noncomputable def atsL : List Str := ["kept", "owns", "rows"]
noncomputable def jsL : List Nat := [0, 1, 2, 3, 4, 5, 6, 7, 8, 9, 10, 11, 12]
theorem gv_bi {C : Cx} {p : Program} {loose : List Str} {mean : ExcName → Option Value} (T : Top p loose mean C.mg C.mb C.h₀) {xs : List Str} (hf : freeOk p loose xs = true) {x : Str} (hx : x ∈ xs) {cv : Value} (hb : bootBuiltins x = some cv) : GV C x = some cv := by
  have h := List.all_eq_true.mp hf x hx
  simp only [Bool.and_eq_true, Bool.not_eq_true', List.contains_eq_mem, decide_eq_false_iff_not, bne_iff_ne] at h
  obtain ⟨⟨⟨⟨⟨h1, h2⟩, h3⟩, h4⟩, h5⟩, h6⟩ := h
  unfold GV
  rw [T.free x h1 h2 h3 h4 h5, T.builtins x h6, hb]; rfl
theorem ats_no : ∀ y ∈ atsL, typeLookup (.type "object") y = pure none := by
  intro y hy
  simp only [atsL, List.mem_cons, List.not_mem_nil, or_false] at hy
  rcases hy with rfl | rfl | rfl <;> (rw [typeLookup_type, builtinLookup_eq_fast]; kernel_rfl)
theorem lawL {C : Cx} {p : Program} {loose : List Str} {mean : ExcName → Option Value} (T : Top p loose mean C.mg C.mb C.h₀) (F : ExFact exL sup C.mg C.h₀) (hex : C.ex = exOf exL C.mg) (B : BkIs C.h₀ C.mg "Book" C.ats pw 27 jsL C.bc C.bN C.bm) (hats : C.ats = atsL) (hr : recs p = rowRecs pw defsL) (hf : freeOk p loose biL = true) (v1 : valOf p "LETTERS" = some (.str abc)) (v2 : valOf p "LONGEST" = some (.int 8)) (v3 : valOf p "MOST_NAMES" = some (.int 12)) (v4 : valOf p "MOST_SIZE" = some (.int 1000000)) (v5 : valOf p "MOST_FORMS" = some (.int 30)) :
    ∃ a, C.mg "law" = some (.ref a) ∧ ∀ (scr : List Int) l H, scr.length ≤ 63 → AH.get H l = some (.rlist (scr.map V.int)) → TopTo C 7 (.ref a) [.ref l] (fun v => v = .bool true) H := by
  have he : ExsOk C sup := exs_ok F hex B.is
  have gx : ∀ {d free i q}, exL[i]? = some q → GOk C d free q.1 (.exc i) := fun h => exs_g F hex h
  have gb : ∀ x ∈ biL, ∀ cv, bootBuiltins x = some cv → GV C x = some cv := fun x hx cv hb => gv_bi T hf hx hb
  have hne : C.ats ≠ [] := by rw [hats]; decide
  have at_ : ∀ (i : Nat) {x : Str} {d : Nat}, atsL[i]? = some x → GOk C d true x (.attr i) := fun i x d h => by show C.ats[i]? = some x; rw [hats]; exact h
  have con : ∀ {d free x f T}, GV C x = some f → Callee C f → Meets C d free f T → GOk C d free x (.con T false) := fun h1 h2 h3 => ⟨_, h1, h2, h3, fun h => nomatch h⟩
  have v_Book : GV C "Book" = some (.ref C.bc) := by unfold GV; rw [B.is]; rfl
  have c_Book : Callee C (.ref C.bc) := cls_callee hne
  have h_LETTERS := gv_str T v1
  have h_LONGEST := gv_int T v2
  have h_MOST_FORMS := gv_int T v5
  have h_MOST_NAMES := gv_int T v3
  have h_MOST_SIZE := gv_int T v4
  have h_ValueError := gb "ValueError" (by decide) _ rfl
  have h_all := gb "all" (by decide) _ rfl
  have h_bool := gb "bool" (by decide) _ rfl
  have h_int := gb "int" (by decide) _ rfl
  have h_isinstance := gb "isinstance" (by decide) _ rfl
  have h_len := gb "len" (by decide) _ rfl
  have h_list := gb "list" (by decide) _ rfl
  have h_min := gb "min" (by decide) _ rfl
  have h_range := gb "range" (by decide) _ rfl
  have h_set := gb "set" (by decide) _ rfl
  have h_str := gb "str" (by decide) _ rfl
  have h_tuple := gb "tuple" (by decide) _ rfl
  obtain ⟨a_isname, m_isname, v_isname, c_isname, f_isname⟩ := fnAt_row T hr 16 "is_name" ["thing"] (by decide) rfl ⟨rfl, rfl, rfl, rfl, rfl⟩ rfl
  obtain ⟨a_isnumber, m_isnumber, v_isnumber, c_isnumber, f_isnumber⟩ := fnAt_row T hr 17 "is_number" ["thing"] (by decide) rfl ⟨rfl, rfl, rfl, rfl, rfl⟩ rfl
  obtain ⟨a_issize, m_issize, v_issize, c_issize, f_issize⟩ := fnAt_row T hr 18 "is_size" ["thing"] (by decide) rfl ⟨rfl, rfl, rfl, rfl, rfl⟩ rfl
  obtain ⟨a_isstep, m_isstep, v_isstep, c_isstep, f_isstep⟩ := fnAt_row T hr 19 "is_step" ["thing"] (by decide) rfl ⟨rfl, rfl, rfl, rfl, rfl⟩ rfl
  obtain ⟨a_begun, m_begun, v_begun, c_begun, f_begun⟩ := fnAt_row T hr 20 "begun_from" ["step"] (by decide) rfl ⟨rfl, rfl, rfl, rfl, rfl⟩ rfl
  obtain ⟨a_brought, m_brought, v_brought, c_brought, f_brought⟩ := fnAt_row T hr 21 "brought" ["step"] (by decide) rfl ⟨rfl, rfl, rfl, rfl, rfl⟩ rfl
  obtain ⟨a_behind, m_behind, v_behind, c_behind, f_behind⟩ := fnAt_row T hr 22 "names_behind" ["step", "names"] (by decide) rfl ⟨rfl, rfl, rfl, rfl, rfl⟩ rfl
  obtain ⟨a_whole, m_whole, v_whole, c_whole, f_whole⟩ := fnAt_row T hr 29 "_law_whole" ["_law_found"] (by decide) rfl ⟨rfl, rfl, rfl, rfl, rfl⟩ rfl
  obtain ⟨a_cell, m_cell, v_cell, c_cell, f_cell⟩ := fnAt_row T hr 30 "_law_cell_at" ["_law_script", "_law_k"] (by decide) rfl ⟨rfl, rfl, rfl, rfl, rfl⟩ rfl
  obtain ⟨a_pool, m_pool, v_pool, c_pool, f_pool⟩ := fnAt_row T hr 31 "_law_pool" ["_law_cell"] (by decide) rfl ⟨rfl, rfl, rfl, rfl, rfl⟩ rfl
  obtain ⟨a_word, m_word, v_word, c_word, f_word⟩ := fnAt_row T hr 32 "_law_word" ["_law_error"] (by decide) rfl ⟨rfl, rfl, rfl, rfl, rfl⟩ rfl
  obtain ⟨a_sides, m_sides, v_sides, c_sides, f_sides⟩ := fnAt_row T hr 33 "_law_sides" ["_law_step_here"] (by decide) rfl ⟨rfl, rfl, rfl, rfl, rfl⟩ rfl
  obtain ⟨a_lbehind, m_lbehind, v_lbehind, c_lbehind, f_lbehind⟩ := fnAt_row T hr 34 "_law_behind" ["_law_step_here", "_law_names"] (by decide) rfl ⟨rfl, rfl, rfl, rfl, rfl⟩ rfl
  obtain ⟨a_step6, m_step6, v_step6, c_step6, f_step6⟩ := fnAt_row T hr 35 "_law_step" ["_law_cell", "_law_more", "_law_pool_here", "_law_names"] (by decide) rfl ⟨rfl, rfl, rfl, rfl, rfl⟩ rfl
  obtain ⟨a_odd, m_odd, v_odd, c_odd, f_odd⟩ := fnAt_row T hr 36 "_law_odd" ["_law_cell", "_law_step_here"] (by decide) rfl ⟨rfl, rfl, rfl, rfl, rfl⟩ rfl
  obtain ⟨a_made6, m_made6, v_made6, c_made6, f_made6⟩ := fnAt_row T hr 37 "_law_made" ["_law_names"] (by decide) rfl ⟨rfl, rfl, rfl, rfl, rfl⟩ rfl
  obtain ⟨a_grown6, m_grown6, v_grown6, c_grown6, f_grown6⟩ := fnAt_row T hr 38 "_law_grown" ["_law_book", "_law_form", "_law_step_here"] (by decide) rfl ⟨rfl, rfl, rfl, rfl, rfl⟩ rfl
  obtain ⟨a_due, m_due, v_due, c_due, f_due⟩ := fnAt_row T hr 39 "_law_due" ["_law_lists", "_law_form", "_law_step_here", "_law_is_odd"] (by decide) rfl ⟨rfl, rfl, rfl, rfl, rfl⟩ rfl
  obtain ⟨a_oddname, m_oddname, v_oddname, c_oddname, f_oddname⟩ := fnAt_row T hr 40 "_law_odd_name" ["_law_cell"] (by decide) rfl ⟨rfl, rfl, rfl, rfl, rfl⟩ rfl
  obtain ⟨a_first6, m_first6, v_first6, c_first6, f_first6⟩ := fnAt_row T hr 41 "_law_first" ["_law_script", "_law_pool_here"] (by decide) rfl ⟨rfl, rfl, rfl, rfl, rfl⟩ rfl
  obtain ⟨a_firstdue, m_firstdue, v_firstdue, c_firstdue, f_firstdue⟩ := fnAt_row T hr 42 "_law_first_due" ["_law_names"] (by decide) rfl ⟨rfl, rfl, rfl, rfl, rfl⟩ rfl
  obtain ⟨a_deeds, m_deeds, v_deeds, c_deeds, f_deeds⟩ := fnAt_row T hr 43 "_law_deeds" ["_law_script", "_law_names"] (by decide) rfl ⟨rfl, rfl, rfl, rfl, rfl⟩ rfl
  obtain ⟨a_told6, m_told6, v_told6, c_told6, f_told6⟩ := fnAt_row T hr 44 "_law_told" ["_law_book", "_law_lists", "_law_elders", "_law_steps"] (by decide) rfl ⟨rfl, rfl, rfl, rfl, rfl⟩ rfl
  obtain ⟨a_noform, m_noform, v_noform, c_noform, f_noform⟩ := fnAt_row T hr 45 "_law_no_form" ["_law_book", "_law_form"] (by decide) rfl ⟨rfl, rfl, rfl, rfl, rfl⟩ rfl
  obtain ⟨a_growson, m_growson, v_growson, c_growson, f_growson⟩ := fnAt_row T hr 46 "_law_grows_on" ["_law_book", "_law_lists"] (by decide) rfl ⟨rfl, rfl, rfl, rfl, rfl⟩ rfl
  obtain ⟨a_law, m_law, v_law, c_law, f_law⟩ := fnAt_row T hr 47 "law" ["_law_script"] (by decide) rfl ⟨rfl, rfl, rfl, rfl, rfl⟩ rfl
  obtain ⟨a_init, M_init, c_init, f_init⟩ := meth_row B hne 0 "__init__" ["self", "names"] (by decide) rfl ⟨rfl, rfl, rfl, rfl, rfl⟩ rfl ⟨some (.builtin "object.__init__"), by rw [typeLookup_type, builtinLookup_eq_fast]; kernel_rfl⟩ (by rw [hats]; decide)
  obtain ⟨a_needform, M_needform, c_needform, f_needform⟩ := meth_row B hne 1 "need_form" ["self", "form"] (by decide) rfl ⟨rfl, rfl, rfl, rfl, rfl⟩ rfl ⟨none, by rw [typeLookup_type, builtinLookup_eq_fast]; kernel_rfl⟩ (by rw [hats]; decide)
  obtain ⟨a_grow, M_grow, c_grow, f_grow⟩ := meth_row B hne 3 "grow" ["self", "form", "step"] (by decide) rfl ⟨rfl, rfl, rfl, rfl, rfl⟩ rfl ⟨none, by rw [typeLookup_type, builtinLookup_eq_fast]; kernel_rfl⟩ (by rw [hats]; decide)
  obtain ⟨a_forms, M_forms, c_forms, f_forms⟩ := meth_row B hne 4 "forms" ["self"] (by decide) rfl ⟨rfl, rfl, rfl, rfl, rfl⟩ rfl ⟨none, by rw [typeLookup_type, builtinLookup_eq_fast]; kernel_rfl⟩ (by rw [hats]; decide)
  obtain ⟨a_fields, M_fields, c_fields, f_fields⟩ := meth_row B hne 5 "fields" ["self", "form"] (by decide) rfl ⟨rfl, rfl, rfl, rfl, rfl⟩ rfl ⟨none, by rw [typeLookup_type, builtinLookup_eq_fast]; kernel_rfl⟩ (by rw [hats]; decide)
  obtain ⟨a_elder, M_elder, c_elder, f_elder⟩ := meth_row B hne 6 "elder" ["self", "form"] (by decide) rfl ⟨rfl, rfl, rfl, rfl, rfl⟩ rfl ⟨none, by rw [typeLookup_type, builtinLookup_eq_fast]; kernel_rfl⟩ (by rw [hats]; decide)
  obtain ⟨a_stepof, M_stepof, c_stepof, f_stepof⟩ := meth_row B hne 7 "step" ["self", "form"] (by decide) rfl ⟨rfl, rfl, rfl, rfl, rfl⟩ rfl ⟨none, by rw [typeLookup_type, builtinLookup_eq_fast]; kernel_rfl⟩ (by rw [hats]; decide)
  have k_begun_ : ∀ d, Meets C (d + 1) true (.ref a_begun) T_begun := fun d => ok_begun (d := d + 0) f_begun he ⟨trivial, trivial⟩
  have k_brought_ : ∀ d, Meets C (d + 1) true (.ref a_brought) T_brought := fun d => ok_brought (d := d + 0) f_brought he ⟨trivial, trivial⟩
  have k_cell_ : ∀ d, Meets C (d + 1) true (.ref a_cell) T_cell := fun d => ok_cell (d := d + 0) f_cell he ⟨⟨⟨rfl, h_len⟩, trivial⟩, trivial⟩
  have k_firstdue_ : ∀ d, Meets C (d + 1) true (.ref a_firstdue) T_firstdue := fun d => ok_firstdue (d := d + 0) f_firstdue he ⟨⟨⟨rfl, h_len⟩, ⟨rfl, h_range⟩, trivial⟩, ⟨h_isinstance, h_str, trivial⟩⟩
  have k_forms_ : ∀ d, Meets C (d + 1) true (.ref a_forms) T_forms := fun d => ok_forms (d := d + 0) f_forms he ⟨⟨⟨rfl, h_len⟩, trivial⟩, ⟨at_ 2 rfl, trivial⟩⟩
  have k_isname_ : ∀ d, Meets C (d + 1) true (.ref a_isname) T_isname := fun d => ok_isname (d := d + 0) f_isname he ⟨⟨⟨rfl, h_isinstance⟩, ⟨rfl, h_str⟩, ⟨rfl, h_len⟩, ⟨rfl, h_LONGEST⟩, ⟨rfl, h_all⟩, trivial⟩, ⟨h_LETTERS, trivial⟩⟩
  have k_isnumber_ : ∀ d, Meets C (d + 1) true (.ref a_isnumber) T_isnumber := fun d => ok_isnumber (d := d + 0) f_isnumber he ⟨⟨⟨rfl, h_isinstance⟩, ⟨rfl, h_int⟩, ⟨rfl, h_bool⟩, trivial⟩, trivial⟩
  have k_odd_ : ∀ d, Meets C (d + 1) true (.ref a_odd) T_odd := fun d => ok_odd (d := d + 0) f_odd he ⟨⟨⟨rfl, h_list⟩, trivial⟩, trivial⟩
  have k_oddname_ : ∀ d, Meets C (d + 1) true (.ref a_oddname) T_oddname := fun d => ok_oddname (d := d + 0) f_oddname he ⟨trivial, trivial⟩
  have k_pool_ : ∀ d, Meets C (d + 1) true (.ref a_pool) T_pool := fun d => ok_pool (d := d + 0) f_pool he ⟨⟨⟨rfl, h_range⟩, trivial⟩, trivial⟩
  have k_sides_ : ∀ d, Meets C (d + 1) true (.ref a_sides) T_sides := fun d => ok_sides (d := d + 0) f_sides he ⟨trivial, trivial⟩
  have k_step6_ : ∀ d, Meets C (d + 1) true (.ref a_step6) T_step6 := fun d => ok_step6 (d := d + 0) f_step6 he ⟨⟨⟨rfl, h_len⟩, trivial⟩, trivial⟩
  have k_whole_ : ∀ d, Meets C (d + 1) true (.ref a_whole) T_isnumber := fun d => ok_whole (d := d + 0) f_whole he ⟨⟨⟨rfl, h_isinstance⟩, ⟨rfl, h_int⟩, ⟨rfl, h_bool⟩, trivial⟩, trivial⟩
  have k_word_ : ∀ d fr, Meets C (d + 1) fr (.ref a_word) T_word := fun d fr => ok_word (d := d + 0) fr f_word he ⟨⟨⟨rfl, h_isinstance⟩, ⟨rfl, h_ValueError⟩, ⟨rfl, gx (i := 3) rfl⟩, ⟨rfl, gx (i := 4) rfl⟩, ⟨rfl, gx (i := 2) rfl⟩, ⟨rfl, gx (i := 6) rfl⟩, ⟨rfl, gx (i := 5) rfl⟩, ⟨rfl, gx (i := 1) rfl⟩, ⟨rfl, h_int⟩, ⟨rfl, gx (i := 8) rfl⟩, trivial⟩, trivial⟩
  have k_behind_ : ∀ d, Meets C (d + 2) true (.ref a_behind) T_behind := fun d => ok_behind (d := d + 1) f_behind he ⟨⟨⟨rfl, con v_begun c_begun (k_begun_ (d + 0))⟩, ⟨rfl, gx (i := 1) rfl⟩, ⟨rfl, con v_brought c_brought (k_brought_ (d + 0))⟩, ⟨rfl, gx (i := 2) rfl⟩, ⟨rfl, h_len⟩, ⟨rfl, h_MOST_NAMES⟩, ⟨rfl, gx (i := 3) rfl⟩, trivial⟩, trivial⟩
  have k_deeds_ : ∀ d, Meets C (d + 2) true (.ref a_deeds) T_deeds := fun d => ok_deeds (d := d + 1) f_deeds he ⟨⟨⟨rfl, con v_cell c_cell (k_cell_ (d + 0))⟩, ⟨rfl, h_range⟩, ⟨rfl, h_min⟩, ⟨rfl, h_len⟩, trivial⟩, ⟨h_len, trivial⟩⟩
  have k_first6_ : ∀ d, Meets C (d + 2) true (.ref a_first6) T_first6 := fun d => ok_first6 (d := d + 1) f_first6 he ⟨⟨⟨rfl, con v_cell c_cell (k_cell_ (d + 0))⟩, ⟨rfl, h_len⟩, ⟨rfl, con v_oddname c_oddname (k_oddname_ (d + 0))⟩, trivial⟩, trivial⟩
  have k_init_ : ∀ d, Meets C (d + 2) true (.ref a_init) T_init := fun d => ok_init (d := d + 1) f_init he ⟨⟨⟨rfl, h_len⟩, ⟨rfl, h_MOST_NAMES⟩, ⟨rfl, gx (i := 3) rfl⟩, ⟨rfl, con v_isname c_isname (k_isname_ (d + 0))⟩, ⟨rfl, gx (i := 4) rfl⟩, ⟨rfl, h_set⟩, ⟨rfl, gx (i := 2) rfl⟩, ⟨rfl, h_list⟩, trivial⟩, ⟨at_ 1 rfl, at_ 0 rfl, at_ 2 rfl, trivial⟩⟩
  have k_issize_ : ∀ d, Meets C (d + 2) true (.ref a_issize) T_issize := fun d => ok_issize (d := d + 1) f_issize he ⟨⟨⟨rfl, con v_isnumber c_isnumber (k_isnumber_ (d + 0))⟩, ⟨rfl, h_MOST_SIZE⟩, trivial⟩, trivial⟩
  have k_lbehind_ : ∀ d, Meets C (d + 2) true (.ref a_lbehind) T_lbehind := fun d => ok_lbehind (d := d + 1) f_lbehind he ⟨⟨⟨rfl, con v_sides c_sides (k_sides_ (d + 0))⟩, ⟨rfl, h_len⟩, trivial⟩, trivial⟩
  have k_needform_ : ∀ d, Meets C (d + 2) true (.ref a_needform) T_needform := fun d => ok_needform (d := d + 1) f_needform he ⟨⟨⟨rfl, con v_isnumber c_isnumber (k_isnumber_ (d + 0))⟩, ⟨rfl, h_len⟩, ⟨rfl, gx (i := 6) rfl⟩, trivial⟩, ⟨at_ 2 rfl, trivial⟩⟩
  have k_due_ : ∀ d, Meets C (d + 3) true (.ref a_due) T_due := fun d => ok_due (d := d + 2) f_due he ⟨⟨⟨rfl, con v_whole c_whole (k_whole_ (d + 1))⟩, ⟨rfl, h_len⟩, ⟨rfl, con v_lbehind c_lbehind (k_lbehind_ (d + 0))⟩, ⟨rfl, h_isinstance⟩, ⟨rfl, h_str⟩, trivial⟩, trivial⟩
  have k_elder_ : ∀ d, Meets C (d + 3) true (.ref a_elder) T_elder := fun d => ok_elder (d := d + 2) f_elder he ⟨trivial, ⟨at_ 2 rfl, ⟨_, M_needform, c_needform, (k_needform_ (d + 0))⟩, trivial⟩⟩
  have k_fields_ : ∀ d, Meets C (d + 3) true (.ref a_fields) T_fields := fun d => ok_fields (d := d + 2) f_fields he ⟨⟨⟨rfl, h_list⟩, trivial⟩, ⟨at_ 2 rfl, ⟨_, M_needform, c_needform, (k_needform_ (d + 0))⟩, trivial⟩⟩
  have k_isstep_ : ∀ d, Meets C (d + 3) true (.ref a_isstep) T_isstep := fun d => ok_isstep (d := d + 2) f_isstep he ⟨⟨⟨rfl, h_isinstance⟩, ⟨rfl, h_tuple⟩, ⟨rfl, h_len⟩, ⟨rfl, h_str⟩, ⟨rfl, con v_isname c_isname (k_isname_ (d + 1))⟩, ⟨rfl, con v_isnumber c_isnumber (k_isnumber_ (d + 1))⟩, ⟨rfl, con v_issize c_issize (k_issize_ (d + 0))⟩, trivial⟩, trivial⟩
  have k_stepof_ : ∀ d, Meets C (d + 3) true (.ref a_stepof) T_stepof := fun d => ok_stepof (d := d + 2) f_stepof he ⟨trivial, ⟨at_ 2 rfl, ⟨_, M_needform, c_needform, (k_needform_ (d + 0))⟩, trivial⟩⟩
  have k_Book_ : ∀ d, Meets C (d + 4) true (.ref C.bc) T_book6 := fun d => new_book6 (by rw [hats]; rfl) (cls_meets hne M_init (k_init_ d))
  have k_grow_ : ∀ d, Meets C (d + 4) true (.ref a_grow) T_grow := fun d => ok_grow (d := d + 3) f_grow he ⟨⟨⟨rfl, con v_isstep c_isstep (k_isstep_ (d + 0))⟩, ⟨rfl, gx (i := 5) rfl⟩, ⟨rfl, con v_behind c_behind (k_behind_ (d + 1))⟩, ⟨rfl, h_len⟩, ⟨rfl, h_MOST_FORMS⟩, ⟨rfl, gx (i := 8) rfl⟩, trivial⟩, ⟨at_ 1 rfl, at_ 2 rfl, ⟨_, M_needform, c_needform, (k_needform_ (d + 1))⟩, trivial⟩⟩
  have k_told6_ : ∀ d, Meets C (d + 4) true (.ref a_told6) T_told6 := fun d => ok_told6 (d := d + 3) f_told6 he ⟨⟨⟨rfl, con v_whole c_whole (k_whole_ (d + 2))⟩, ⟨rfl, h_len⟩, ⟨rfl, h_range⟩, ⟨rfl, h_isinstance⟩, ⟨rfl, h_list⟩, trivial⟩, ⟨⟨_, M_stepof, c_stepof, (k_stepof_ (d + 0))⟩, ⟨_, M_elder, c_elder, (k_elder_ (d + 0))⟩, ⟨_, M_fields, c_fields, (k_fields_ (d + 0))⟩, ⟨_, M_forms, c_forms, (k_forms_ (d + 2))⟩, trivial⟩⟩
  have k_grown6_ : ∀ d, Meets C (d + 5) true (.ref a_grown6) T_grown6 := fun d => ok_grown6 (d := d + 4) f_grown6 he ⟨⟨⟨rfl, gx (i := 0) rfl⟩, ⟨rfl, ⟨_, v_word, c_word, k_word_ (d + 3) _, fun _ fr => k_word_ (d + 3) fr⟩⟩, trivial⟩, ⟨⟨_, M_grow, c_grow, (k_grow_ (d + 0))⟩, trivial⟩⟩
  have k_made6_ : ∀ d, Meets C (d + 5) true (.ref a_made6) T_made6 := fun d => ok_made6 (d := d + 4) f_made6 he ⟨⟨⟨rfl, con v_Book c_Book (k_Book_ (d + 0))⟩, ⟨rfl, gx (i := 0) rfl⟩, ⟨rfl, ⟨_, v_word, c_word, k_word_ (d + 3) _, fun _ fr => k_word_ (d + 3) fr⟩⟩, trivial⟩, trivial⟩
  have k_noform_ : ∀ d, Meets C (d + 5) true (.ref a_noform) T_noform := fun d => ok_noform (d := d + 4) f_noform he ⟨⟨⟨rfl, h_range⟩, ⟨rfl, gx (i := 6) rfl⟩, ⟨rfl, gx (i := 0) rfl⟩, trivial⟩, ⟨⟨_, M_fields, c_fields, (k_fields_ (d + 1))⟩, ⟨_, M_elder, c_elder, (k_elder_ (d + 1))⟩, ⟨_, M_stepof, c_stepof, (k_stepof_ (d + 1))⟩, ⟨_, M_grow, c_grow, (k_grow_ (d + 0))⟩, trivial⟩⟩
  have k_growson_ : ∀ d, Meets C (d + 6) true (.ref a_growson) T_growson := fun d => ok_growson (d := d + 5) f_growson he ⟨⟨⟨rfl, h_len⟩, ⟨rfl, con v_grown6 c_grown6 (k_grown6_ (d + 0))⟩, trivial⟩, ⟨⟨_, M_fields, c_fields, (k_fields_ (d + 2))⟩, trivial⟩⟩
  exact ⟨a_law, m_law, fun scr l H h63 hl => ok_law (d := 6) f_law he ⟨⟨⟨rfl, con v_pool c_pool (k_pool_ (0 + 5))⟩, ⟨rfl, con v_cell c_cell (k_cell_ (0 + 5))⟩, ⟨rfl, con v_first6 c_first6 (k_first6_ (0 + 4))⟩, ⟨rfl, h_list⟩, ⟨rfl, con v_made6 c_made6 (k_made6_ (0 + 1))⟩, ⟨rfl, con v_firstdue c_firstdue (k_firstdue_ (0 + 5))⟩, ⟨rfl, h_isinstance⟩, ⟨rfl, h_str⟩, ⟨rfl, con v_deeds c_deeds (k_deeds_ (0 + 4))⟩, ⟨rfl, h_len⟩, ⟨rfl, con v_step6 c_step6 (k_step6_ (0 + 5))⟩, ⟨rfl, con v_odd c_odd (k_odd_ (0 + 5))⟩, ⟨rfl, con v_due c_due (k_due_ (0 + 3))⟩, ⟨rfl, con v_grown6 c_grown6 (k_grown6_ (0 + 1))⟩, ⟨rfl, con v_whole c_whole (k_whole_ (0 + 5))⟩, ⟨rfl, con v_noform c_noform (k_noform_ (0 + 1))⟩, ⟨rfl, con v_told6 c_told6 (k_told6_ (0 + 2))⟩, ⟨rfl, con v_growson c_growson (k_growson_ (0 + 0))⟩, trivial⟩, ⟨⟨_, M_forms, c_forms, (k_forms_ (0 + 5))⟩, ⟨_, M_fields, c_fields, (k_fields_ (0 + 3))⟩, trivial⟩⟩ h63 hl⟩
end Mine
open PySem PySem.W PyProof.Rows
set_option maxRecDepth 100000 in
set_option maxHeartbeats 8000000 in
theorem PySem.Challenge.cw_uf040039_06_holds : PySem.Challenge.rw_uf040039_06.Holds := by
  w_on
  refine holds_law (by kernel_rfl) fun said => ?_
  refine holds_open (q := Mine.viewOf PySem.Challenge.pw_uf040039_06 Mine.keepL) (loose := []) (Xt := Mine.xtL) (XP := fun mg h => XL (Mine.viewOf PySem.Challenge.pw_uf040039_06 Mine.keepL) [] mg h ∧ Mine.ExFact Mine.exL Mine.sup mg h) (Yf := Hook.obs Hook.none) (Ya := Hook.val Hook.none) (YP := Hook.says Hook.none) (N := 4500) ?hl (Hook.of Hook.none) (Hook.keeps Hook.none) (fun s e => ⟨xl_of s (Bool.and_eq_true_iff.mp (Bool.and_eq_true_iff.mp e).1).1, Mine.exFact_of (Bool.and_eq_true_iff.mp (Bool.and_eq_true_iff.mp e).1).2⟩) (fun mg h h' x hk => ⟨XL.keeps mg h h' x.1 hk, x.2.keeps hk⟩) (by rfl) (by rfl) (by rfl) (fun s e => recFacts_of (Bool.and_eq_true_iff.mp e).2) (by rfl) (by first | assumption | decide +kernel) (by decide +kernel) ⟨rfl, rfl, rfl, rfl, rfl, by decide +kernel⟩ ?hw ?hc
  case hl => exact Mine.leftL
  case hw => w_witness2
  case hc =>
    intro w s₀ s₁ mg mb G Y fa o pm cd doc dV kV ho hd hcd hD hmg hg args vals as hpre hlay hrd hwl hlo
    have hF := G.X.2
    refine Ground.open G ?_
    intro T B D TE TW
    wrow_args hpre hlay hrd hwl hlo
    all_goals (
      obtain ⟨bc, bN, bm, hB⟩ := Mine.bkIs_of TE (x := "Book") (ats := Mine.atsL) (q := Mine.pw) (i := 27) (js := Mine.jsL) (by kernel_rfl) (by decide) (by decide) Mine.ats_no
      clear hd hcd hD Y B D TE TW ho
      refine Mine.law_entry (d := 7) T (by decide +kernel) hg hmg ‹_› ‹_› ‹_› (by decide) (Mine.well_dict ‹_›) (ex := Mine.exOf Mine.exL mg) (ats := Mine.atsL) (bc := bc) (bN := bN) (bm := bm) (hbk := fun _ => hB.ok) ?_ ?_
      · intro h63
        obtain ⟨a, ha, hl⟩ := Mine.lawL (C := Mine.cxOf _ w s₁ (Mine.exOf Mine.exL mg) Mine.atsL bc bN bm (fun _ => hB.ok) T (by decide +kernel)) T hF rfl hB rfl rfl (by decide +kernel) (by kernel_rfl) (by kernel_rfl) (by kernel_rfl) (by kernel_rfl) (by kernel_rfl)
        exact ⟨a, ha, fun l H e => hl _ l H h63 e⟩
      · exact ⟨fun _ => rfl, by with_unfolding_all rfl, fun _ => by constructor⟩)
