import PyProof.Rows.All
import Wide.All
import OpenK.AllK
import Wide.FinOn
import Lean
import PySem.Challenge.RW_nm0019_01
open PySem PySem.W PySem.Calls PyProof.Rows PySem.Spec
set_option Elab.async false
set_option maxRecDepth 100000
set_option genSizeOf false
set_option genInjectivity false
set_option bootstrap.genMatcherCode false
set_option backward.match.sparseCases false
set_option tactic.hygienic false
set_option linter.all false
namespace Mine
section
theorem nA {α : Type} {a : α} {P : Prop} (h : none = some a) : P := nomatch h
theorem nB {α : Type} {a : α} {P : Prop} (h : some a = none) : P := nomatch h
theorem nC {P : Prop} (h : true = false) : P := nomatch h
theorem nD {P : Prop} (h : false = true) : P := nomatch h
structure Nm where
  i : Nat
  h : Nat.blt i 65 = true
  deriving DecidableEq
noncomputable abbrev Nm.r : Nm := ⟨0, rfl⟩
noncomputable abbrev Nm.k : Nm := ⟨1, rfl⟩
noncomputable abbrev Nm.g : Nm := ⟨2, rfl⟩
noncomputable abbrev Nm.add : Nm := ⟨3, rfl⟩
noncomputable abbrev Nm.sub : Nm := ⟨4, rfl⟩
noncomputable abbrev Nm.mul : Nm := ⟨5, rfl⟩
noncomputable abbrev Nm.and : Nm := ⟨6, rfl⟩
noncomputable abbrev Nm.or : Nm := ⟨7, rfl⟩
noncomputable abbrev Nm.xor : Nm := ⟨8, rfl⟩
noncomputable abbrev Nm.shl : Nm := ⟨9, rfl⟩
noncomputable abbrev Nm.shr : Nm := ⟨10, rfl⟩
noncomputable abbrev Nm.sar : Nm := ⟨11, rfl⟩
noncomputable abbrev Nm.divu : Nm := ⟨12, rfl⟩
noncomputable abbrev Nm.remu : Nm := ⟨13, rfl⟩
noncomputable abbrev Nm.lt : Nm := ⟨14, rfl⟩
noncomputable abbrev Nm.ltu : Nm := ⟨15, rfl⟩
noncomputable abbrev Nm.eq : Nm := ⟨16, rfl⟩
noncomputable abbrev Nm.ne : Nm := ⟨17, rfl⟩
noncomputable abbrev Nm.neg : Nm := ⟨18, rfl⟩
noncomputable abbrev Nm.not : Nm := ⟨19, rfl⟩
noncomputable abbrev Nm.sx8 : Nm := ⟨20, rfl⟩
noncomputable abbrev Nm.sx16 : Nm := ⟨21, rfl⟩
noncomputable abbrev Nm.zx8 : Nm := ⟨22, rfl⟩
noncomputable abbrev Nm.zx16 : Nm := ⟨23, rfl⟩
noncomputable abbrev Nm.name : Nm := ⟨24, rfl⟩
noncomputable abbrev Nm.load : Nm := ⟨25, rfl⟩
noncomputable abbrev Nm.const : Nm := ⟨26, rfl⟩
noncomputable abbrev Nm.copy : Nm := ⟨27, rfl⟩
noncomputable abbrev Nm.store : Nm := ⟨28, rfl⟩
noncomputable abbrev Nm.jump : Nm := ⟨29, rfl⟩
noncomputable abbrev Nm.branch : Nm := ⟨30, rfl⟩
noncomputable abbrev Nm.table : Nm := ⟨31, rfl⟩
noncomputable abbrev Nm.give : Nm := ⟨32, rfl⟩
noncomputable abbrev Nm.drawn : Nm := ⟨33, rfl⟩
noncomputable abbrev Nm.op : Nm := ⟨34, rfl⟩
noncomputable abbrev Nm.dst : Nm := ⟨35, rfl⟩
noncomputable abbrev Nm.args : Nm := ⟨36, rfl⟩
noncomputable abbrev Nm.more : Nm := ⟨37, rfl⟩
noncomputable abbrev Nm.volat : Nm := ⟨38, rfl⟩
noncomputable abbrev Nm.line : Nm := ⟨39, rfl⟩
noncomputable abbrev Nm.number : Nm := ⟨40, rfl⟩
noncomputable abbrev Nm.steps : Nm := ⟨41, rfl⟩
noncomputable abbrev Nm.end_ : Nm := ⟨42, rfl⟩
noncomputable abbrev Nm.params : Nm := ⟨43, rfl⟩
noncomputable abbrev Nm.static_ : Nm := ⟨44, rfl⟩
noncomputable abbrev Nm.slots : Nm := ⟨45, rfl⟩
noncomputable abbrev Nm.blocks : Nm := ⟨46, rfl⟩
noncomputable abbrev Nm.registers : Nm := ⟨47, rfl⟩
noncomputable abbrev Nm.hasv : Nm := ⟨48, rfl⟩
noncomputable abbrev Nm.operands : Nm := ⟨49, rfl⟩
noncomputable abbrev Nm.shapes : Nm := ⟨50, rfl⟩
noncomputable abbrev Nm.made : Nm := ⟨51, rfl⟩
noncomputable abbrev Nm.setAt : Nm := ⟨52, rfl⟩
noncomputable abbrev Nm.now : Nm := ⟨53, rfl⟩
noncomputable abbrev Nm.append : Nm := ⟨54, rfl⟩
noncomputable abbrev Nm.pop : Nm := ⟨55, rfl⟩
noncomputable abbrev Nm.items : Nm := ⟨56, rfl⟩
noncomputable abbrev Nm.get : Nm := ⟨57, rfl⟩
noncomputable abbrev Nm.count : Nm := ⟨58, rfl⟩
noncomputable abbrev Nm.index : Nm := ⟨59, rfl⟩
noncomputable abbrev Nm.holds : Nm := ⟨60, rfl⟩
noncomputable abbrev Nm.best : Nm := ⟨61, rfl⟩
noncomputable abbrev Nm.shape : Nm := ⟨62, rfl⟩
noncomputable abbrev Nm.learn : Nm := ⟨63, rfl⟩
noncomputable abbrev Nm.passStep : Nm := ⟨64, rfl⟩
noncomputable def nmTab : List String := ["r", "k", "g", "add", "sub", "mul", "and", "or", "xor", "shl", "shr", "sar", "divu", "remu", "lt", "ltu", "eq", "ne", "neg", "not", "sx8", "sx16", "zx8", "zx16", "name", "load", "const", "copy", "store", "jump", "branch", "table", "give", "drawn", "op", "dst", "args", "more", "is_volatile", "line", "number", "steps", "end", "params", "is_static", "slots", "blocks", "registers", "has_value", "operands", "shapes", "made", "set_at", "now", "append", "pop", "items", "get", "count", "index", "holds", "best", "shape", "learn", "pass_step"]
noncomputable def Nm.s (n : Nm) : String := nmTab[n.i]?.getD ""
noncomputable def Nm.str (n : Nm) : Str := Str.ofString n.s
noncomputable def Nm.all : List Nm := [.r, .k, .g, .add, .sub, .mul, .and, .or, .xor, .shl, .shr, .sar, .divu, .remu, .lt, .ltu, .eq, .ne, .neg, .not, .sx8, .sx16, .zx8, .zx16, .name, .load, .const, .copy,
  .store, .jump, .branch, .table, .give, .drawn, .op, .dst, .args, .more, .volat, .line, .number, .steps, .end_, .params, .static_, .slots, .blocks, .registers, .hasv, .operands, .shapes, .made, .setAt, .now,
  .append, .pop, .items, .get, .count, .index, .holds, .best, .shape, .learn, .passStep]
noncomputable def Nm.of (x : Str) : Option Nm := Nm.all.find? fun n => n.str == x
theorem blt_fin {k : Nat} (i : Fin k) : Nat.blt i.1 k = true := Nat.ble_eq_true_of_le i.2
theorem Nm.all_fin {P : Nm → Prop} (h : ∀ i : Fin 65, P ⟨i.1, blt_fin i⟩) (n : Nm) : P n := h ⟨n.i, Nat.le_of_ble_eq_true n.h⟩
theorem Nm.of_str (n : Nm) : Nm.of n.str = some n := Nm.all_fin (P := fun n => Nm.of n.str = some n) (by decide +kernel) n
theorem Nm.str_inj {a b : Nm} (h : a.str = b.str) : a = b := by
  have := congrArg Nm.of h
  rw [Nm.of_str, Nm.of_str] at this
  exact Option.some.inj this
inductive Opd where | k (v : Int) | r (x : Int)
  deriving DecidableEq
inductive Cl where
  | Step | Block | Func | Lasting | Facts
  deriving DecidableEq
inductive Fn where
  | withNumber | num | stepInit | blockInit | funcInit | followers | areLasting | endOf | lastingOf | lastingInit | factsInit | holds | best | shape | learn | passStep
  | learnBranch | learnTable | factsAt | preds | postorder | order
  | draw | operand | made | acts | way | func | said | allSaid | signed | word | turned | worked | loaded | read | isSo | walk | shown | numbersKnown | law
  | cls (c : Cl) | len | all | sorted | int | list
inductive Gn where
  | MASK | NEVER | TELLING | SHAPED | SIZE | PLACE | TWO | ONE | SEEN
  deriving DecidableEq
inductive V where
  | none
  | bool (b : Bool)
  | int (i : Int)
  | str (n : Nm)
  | tup (vs : List V)
  | lst (vs : List V)
  | dI (es : List (Int × V))
  | dS (es : List (Nm × V))
  | obj (C : Cl) (fs : List (Nm × V))
  | ref (a : Addr)
noncomputable abbrev Fz := Addr → Option Obj
noncomputable abbrev seqObj (cls : String) (cs : List Value) (n : Nat) : Obj := { cls := .type cls, data := .seq cs.toArray n }
structure Cx where
  prog : Program
  w : World
  K : Frag
  ca : Cl → Addr
  fa : Fn → Value
section
variable (X : Cx)
mutual
inductive RelV (F : Fz) : Value → V → Prop
  | none : RelV F .none .none
  | bool (b : Bool) : RelV F (.bool b) (.bool b)
  | int (i : Int) (t : Tok) : RelV F (.int i t) (.int i)
  | str (n : Nm) (t : Tok) : RelV F (.str n.str t) (.str n)
  | tup {a : Addr} {cs : List Value} {n : Nat} {vs : List V} : F a = some (seqObj "tuple" cs n) → RelVs F cs vs → RelV F (.ref a) (.tup vs)
  | lst {a : Addr} {cs : List Value} {n : Nat} {vs : List V} : F a = some (seqObj "list" cs n) → RelVs F cs vs → RelV F (.ref a) (.lst vs)
  | dI {a : Addr} {o : Obj} {kvs : List (Int × Value)} {es : List (Int × V)} : F a = some o → (a == sysModules) = false → o.IsDictOf (intKind X.prog X.w) kvs → RelI F kvs es → RelV F (.ref a) (.dI es)
  | dS {a : Addr} {o : Obj} {kvs : List (Str × Value)} {es : List (Nm × V)} : F a = some o → (a == sysModules) = false → o.IsDictOf (strKind X.prog X.w) kvs → RelS F kvs es → RelV F (.ref a) (.dS es)
  | obj {C : Cl} {a dx : Addr} {es : List DictEntry} {n : Nat} {fs : List (Nm × V)} : F a = some (instObj (X.ca C) dx) → F dx = some (dictOf es n) → RelD F es fs → RelV F (.ref a) (.obj C fs)
  | ref (a : Addr) : RelV F (.ref a) (.ref a)
inductive RelVs (F : Fz) : List Value → List V → Prop
  | nil : RelVs F [] []
  | cons {c : Value} {v : V} {cs : List Value} {vs : List V} : RelV F c v → RelVs F cs vs → RelVs F (c :: cs) (v :: vs)
inductive RelI (F : Fz) : List (Int × Value) → List (Int × V) → Prop
  | nil : RelI F [] []
  | cons {i : Int} {c : Value} {v : V} {cs : List (Int × Value)} {vs : List (Int × V)} : RelV F c v → RelI F cs vs → RelI F ((i, c) :: cs) ((i, v) :: vs)
inductive RelS (F : Fz) : List (Str × Value) → List (Nm × V) → Prop
  | nil : RelS F [] []
  | cons {n : Nm} {c : Value} {v : V} {cs : List (Str × Value)} {vs : List (Nm × V)} : RelV F c v → RelS F cs vs → RelS F ((n.str, c) :: cs) ((n, v) :: vs)
inductive RelD (F : Fz) : List DictEntry → List (Nm × V) → Prop
  | nil : RelD F [] []
  | cons {n : Nm} {h : Int} {t : Tok} {c : Value} {v : V} {es : List DictEntry} {fs : List (Nm × V)} : RelV F c v → RelD F es fs → RelD F (⟨h, .str n.str t, c⟩ :: es) ((n, v) :: fs)
end
noncomputable def Sub (F F' : Fz) : Prop := ∀ a o, F a = some o → F' a = some o
theorem Sub.refl (F : Fz) : Sub F F := fun ι ι h => h
theorem Sub.trans {F F' F'' : Fz} (h : Sub F F') (h' : Sub F' F'') : Sub F F'' := fun a o e => h' a o (h a o e)
variable {X}
theorem RelV.mono {F F' : Fz} (hs : Sub F F') {c : Value} {v : V} (r : RelV X F c v) : RelV X F' c v :=
  RelV.rec (motive_1 := fun c v ι => RelV X F' c v) (motive_2 := fun c v ι => RelVs X F' c v) (motive_3 := fun c v ι => RelI X F' c v) (motive_4 := fun c v ι => RelS X F' c v) (motive_5 := fun c v ι => RelD X F' c v)
    .none .bool .int .str (fun h ι r => .tup (hs _ _ h) r) (fun h ι r => .lst (hs _ _ h) r) (fun h m d ι r => .dI (hs _ _ h) m d r) (fun h m d ι r => .dS (hs _ _ h) m d r) (fun h h' ι r => .obj (hs _ _ h) (hs _ _ h') r) .ref
    .nil (fun ι ι a b => .cons a b) .nil (fun ι ι a b => .cons a b) .nil (fun ι ι a b => .cons a b) .nil (fun ι ι a b => .cons a b) r
theorem RelVs.mono {F F' : Fz} (hs : Sub F F') {cs : List Value} {vs : List V} (r : RelVs X F cs vs) : RelVs X F' cs vs := by
  induction vs generalizing cs with
  | nil => cases r; exact .nil
  | cons v vs ih => cases r with | cons a b => exact .cons (a.mono hs) (ih b)
theorem RelI.mono {F F' : Fz} (hs : Sub F F') {cs : List (Int × Value)} {vs : List (Int × V)} (r : RelI X F cs vs) : RelI X F' cs vs := by
  induction vs generalizing cs with
  | nil => cases r; exact .nil
  | cons v vs ih => cases r with | cons a b => exact .cons (a.mono hs) (ih b)
theorem RelS.mono {F F' : Fz} (hs : Sub F F') {cs : List (Str × Value)} {vs : List (Nm × V)} (r : RelS X F cs vs) : RelS X F' cs vs := by
  induction cs generalizing vs with
  | nil => cases r; exact .nil
  | cons v vs ih => cases r with | cons a b => exact .cons (a.mono hs) (ih b)
theorem RelD.mono {F F' : Fz} (hs : Sub F F') {cs : List DictEntry} {vs : List (Nm × V)} (r : RelD X F cs vs) : RelD X F' cs vs := by
  induction cs generalizing vs with
  | nil => cases r; exact .nil
  | cons v vs ih => cases r with | cons a b => exact .cons (a.mono hs) (ih b)
section
variable {F : Fz} {c : Value}
inductive SeqIs (t : String) (X : Cx) (g F : Fz) (c : Value) (vs : List V) : Prop
  | mk (a : Addr) (cs : List Value) (n : Nat) (e : c = .ref a) (h : g a = some (seqObj t cs n)) (r : RelVs X F cs vs)
inductive DIIs (X : Cx) (F : Fz) (c : Value) (es : List (Int × V)) : Prop
  | mk (a : Addr) (o : Obj) (kvs : List (Int × Value)) (e : c = .ref a) (h : F a = some o) (m : (a == sysModules) = false) (d : o.IsDictOf (intKind X.prog X.w) kvs) (r : RelI X F kvs es)
inductive DSIs (X : Cx) (F : Fz) (c : Value) (es : List (Nm × V)) : Prop
  | mk (a : Addr) (o : Obj) (kvs : List (Str × Value)) (e : c = .ref a) (h : F a = some o) (m : (a == sysModules) = false) (d : o.IsDictOf (strKind X.prog X.w) kvs) (r : RelS X F kvs es)
inductive ObIs (X : Cx) (g F : Fz) (c : Value) (C : Cl) (fs : List (Nm × V)) : Prop
  | mk (a dx : Addr) (es : List DictEntry) (n : Nat) (e : c = .ref a) (h : g a = some (instObj (X.ca C) dx)) (h2 : g dx = some (dictOf es n)) (r : RelD X F es fs)
theorem iV0 (r : RelV X F c .none) : c = .none := by cases r; rfl
theorem iVb {b : Bool} (r : RelV X F c (.bool b)) : c = .bool b := by cases r; rfl
theorem iVi {i : Int} (r : RelV X F c (.int i)) : ∃ t, c = .int i t := by cases r; exact ⟨_, rfl⟩
theorem iVs {n : Nm} (r : RelV X F c (.str n)) : ∃ t, c = .str n.str t := by cases r; exact ⟨_, rfl⟩
theorem iVt {vs : List V} (r : RelV X F c (.tup vs)) : SeqIs "tuple" X F F c vs := by cases r; exact ⟨_, _, _, rfl, ‹_›, ‹_›⟩
theorem iVl {vs : List V} (r : RelV X F c (.lst vs)) : SeqIs "list" X F F c vs := by cases r; exact ⟨_, _, _, rfl, ‹_›, ‹_›⟩
theorem iVd {es : List (Int × V)} (r : RelV X F c (.dI es)) : DIIs X F c es := by cases r; exact ⟨_, _, _, rfl, ‹_›, ‹_›, ‹_›, ‹_›⟩
theorem iVS {es : List (Nm × V)} (r : RelV X F c (.dS es)) : DSIs X F c es := by cases r; exact ⟨_, _, _, rfl, ‹_›, ‹_›, ‹_›, ‹_›⟩
theorem iVo {C : Cl} {fs : List (Nm × V)} (r : RelV X F c (.obj C fs)) : ObIs X F F c C fs := by cases r; exact ⟨_, _, _, _, rfl, ‹_›, ‹_›, ‹_›⟩
theorem iVr {a : Addr} (r : RelV X F c (.ref a)) : c = .ref a := by cases r; rfl
end
end
inductive M where
  | lst (vs : List V)
  | dI (es : List (Int × V))
  | dS (es : List (Nm × V))
  | ns (fs : List (Nm × V))
  | obj (C : Cl) (dx : Addr)
  | set (is : List Int)
noncomputable def M.k : M → Nat
  | .lst _ => 0 | .dI _ => 1 | .dS _ => 2 | .ns _ => 3 | .obj .. => 4 | .set _ => 5
noncomputable def M.ko : Option M → Nat
  | none => 9
  | some m => m.k
theorem nM {m m' : M} {P : Prop} (h : some m = some m') (k : Nat.beq m.k m'.k = false) : P := by
  cases h; rw [Nat.beq_refl] at k; exact nC k
noncomputable abbrev So := Addr → Option M
theorem ne_of {σ : So} {a b : Addr} {o o' : Option M} (h : σ a = o) (h' : σ b = o') (k : Nat.beq (M.ko o) (M.ko o') = false) : a ≠ b := fun e => by
  subst e; subst h; subst h'; rw [Nat.beq_refl] at k; exact nC k
variable (X : Cx)
inductive RelM (F : Fz) : Obj → M → Prop
  | lst {cs : List Value} {n : Nat} {vs : List V} : RelVs X F cs vs → RelM F (seqObj "list" cs n) (.lst vs)
  | dI {o : Obj} {kvs : List (Int × Value)} {es : List (Int × V)} : o.IsDictOf (intKind X.prog X.w) kvs → RelI X F kvs es → RelM F o (.dI es)
  | dS {o : Obj} {kvs : List (Str × Value)} {es : List (Nm × V)} : o.IsDictOf (strKind X.prog X.w) kvs → RelS X F kvs es → RelM F o (.dS es)
  | ns {es : List DictEntry} {n : Nat} {fs : List (Nm × V)} : RelD X F es fs → RelM F (dictOf es n) (.ns fs)
  | obj {C : Cl} {dx : Addr} : RelM F (instObj (X.ca C) dx) (.obj C dx)
  | set {o : Obj} {is : List Int} : o.SetObjOf (intKind X.prog X.w) (fun k => decide (k ∈ is)) is.length → is.length < 200 → RelM F o (.set is)
variable {X}
section
variable {F : Fz} {o : Obj}
theorem RelM.iLst {vs : List V} (r : RelM X F o (.lst vs)) : ∃ cs n, o = seqObj "list" cs n ∧ RelVs X F cs vs := by cases r; exact ⟨_, _, rfl, ‹_›⟩
theorem RelM.iDI {es : List (Int × V)} (r : RelM X F o (.dI es)) : ∃ kvs, o.IsDictOf (intKind X.prog X.w) kvs ∧ RelI X F kvs es := by cases r; exact ⟨_, ‹_›, ‹_›⟩
theorem RelM.iDS {es : List (Nm × V)} (r : RelM X F o (.dS es)) : ∃ kvs, o.IsDictOf (strKind X.prog X.w) kvs ∧ RelS X F kvs es := by cases r; exact ⟨_, ‹_›, ‹_›⟩
theorem RelM.iNs {fs : List (Nm × V)} (r : RelM X F o (.ns fs)) : ∃ es n, o = dictOf es n ∧ RelD X F es fs := by cases r; exact ⟨_, _, rfl, ‹_›⟩
theorem RelM.iObj {C : Cl} {dx : Addr} (r : RelM X F o (.obj C dx)) : o = instObj (X.ca C) dx := by cases r; rfl
theorem RelM.iSet {is : List Int} (r : RelM X F o (.set is)) : o.SetObjOf (intKind X.prog X.w) (fun k => decide (k ∈ is)) is.length ∧ is.length < 200 := by cases r; exact ⟨‹_›, ‹_›⟩
end
theorem RelM.mono {F F' : Fz} (hs : Sub F F') {o : Obj} {m : M} (h : RelM X F o m) : RelM X F' o m := by
  cases h with
  | lst h => exact .lst (h.mono hs)
  | dI d h => exact .dI d (h.mono hs)
  | dS d h => exact .dS d (h.mono hs)
  | ns h => exact .ns (h.mono hs)
  | obj => exact .obj
  | set d l => exact .set d l
noncomputable def Fn.text : Fn → String
  | .withNumber => "with_number" | .num => "num" | .stepInit => "__init__" | .blockInit => "__init__" | .funcInit => "__init__" | .followers => "followers" | .areLasting => "are_lasting" | .endOf => "end_of"
  | .lastingOf => "lasting_of" | .lastingInit => "__init__" | .factsInit => "__init__" | .holds => "holds" | .best => "best" | .shape => "shape" | .learn => "learn" | .passStep => "pass_step"
  | .learnBranch => "learn_from_branch" | .learnTable => "learn_from_table" | .factsAt => "facts_at" | .preds => "preds" | .postorder => "postorder" | .order => "order"
  | .draw => "_law_draw" | .operand => "_law_operand" | .made => "_law_made" | .acts => "_law_acts" | .way => "_law_way" | .func => "_law_func" | .said => "_law_said" | .allSaid => "_law_all_said" | .signed => "_law_signed"
  | .word => "_law_word" | .turned => "_law_turned" | .worked => "_law_worked" | .loaded => "_law_loaded" | .read => "_law_read" | .isSo => "_law_is_so" | .walk => "_law_walk" | .shown => "_law_shown" | .numbersKnown => "_law_numbers_known" | .law => "law"
  | .cls .Step => "Step" | .cls .Block => "Block" | .cls .Func => "Func" | .cls .Lasting => "Lasting" | .cls .Facts => "Facts"
  | .len => "len" | .all => "all" | .sorted => "sorted" | .int => "int" | .list => "list"
noncomputable def Fn.str (f : Fn) : Str := Str.ofString f.text
noncomputable def Fn.at_ : Fn → Option Bool
  | .stepInit | .blockInit | .funcInit | .lastingInit | .factsInit | .holds | .best | .shape | .learn | .passStep | .law => none
  | .len | .all | .sorted | .int | .list => some true
  | _ => some false
noncomputable def Gn.text : Gn → String
  | .MASK => "MASK" | .NEVER => "NEVER" | .TELLING => "TELLING" | .SHAPED => "SHAPED" | .SIZE => "_law_SIZE" | .PLACE => "_law_PLACE" | .TWO => "_law_TWO" | .ONE => "_law_ONE" | .SEEN => "_law_SEEN"
noncomputable def Gn.str (g : Gn) : Str := Str.ofString g.text
noncomputable def shaped : List Nm := [.add, .sub, .mul, .and, .or, .xor, .shl, .shr, .sar, .divu, .remu, .lt, .ltu, .eq, .ne, .neg, .not, .sx8, .sx16, .zx8, .zx16, .name, .load, .const, .copy]
noncomputable def Gn.val : Gn → V
  | .MASK => .int 4294967295 | .NEVER => .int (-1)
  | .TELLING => .dS [(.const, .int 1), (.copy, .int 1)]
  | .SHAPED => .dS (shaped.map fun n => (n, .int 1))
  | .SIZE => .int 4294967296 | .PLACE => .int 8192
  | .TWO => .tup [.str .add, .str .sub, .str .mul, .str .and, .str .or, .str .xor, .str .shl, .str .shr, .str .sar, .str .lt, .str .ltu, .str .eq, .str .ne]
  | .ONE => .tup [.str .neg, .str .not, .str .sx8, .str .sx16, .str .zx8, .str .zx16]
  | .SEEN => .tup [.tup [], .tup [.int 0], .tup [.int 0, .int 1], .tup [.int 0, .int 1], .tup [.int 0, .int 1], .tup [.int 0, .int 1, .int 4]]
structure GB (X : Cx) (B : Heap) : Prop where
  inK : X.K.In B
  names : ∃ mg mb, B.Ns mainGlobals mg ∧ B.Ns builtinsNs mb ∧ (∀ g : Gn, ∃ c, mg g.str = some c ∧ RelV X B.get? c g.val) ∧ (∀ f : Fn, f.at_ = some false → mg f.str = some (X.fa f)) ∧ (∀ f : Fn, f.at_ = some true → mg f.str = none ∧ mb f.str = some (X.fa f)) ∧
    mg "range" = none ∧ mb "range" = some (.type "range") ∧ mg "enumerate" = none ∧ mb "enumerate" = some (.type "enumerate")
  nolimit : B.NoLimit
  mods : (B.get? sysModules).isSome = true
noncomputable def Grd (X : Cx) (F : Fz) : Prop := ∃ B, GB X B ∧ Sub B.get? F
theorem Grd.mono {F F' : Fz} (h : Grd X F) (hs : Sub F F') : Grd X F' := let ⟨B, g, s⟩ := h; ⟨B, g, s.trans hs⟩
inductive Own (X : Cx) (F : Fz) (h : Heap) (a : Addr) (m : M) : Prop
  | mk (f : F a = none) (o : Obj) (ho : h.get? a = some o) (r : RelM X F o m)
theorem Own.f {X : Cx} {F : Fz} {h : Heap} {a : Addr} {m : M} (w : Own X F h a m) : F a = none := let ⟨f, _, _, _⟩ := w; f
structure St (X : Cx) (F : Fz) (σ : So) (h : Heap) : Prop where
  fro : Sub F h.get?
  own : ∀ a m, σ a = some m → Own X F h a m
theorem St.inK {F : Fz} {σ : So} {h : Heap} (S : St X F σ h) (G : Grd X F) : X.K.In h := let ⟨_, g, s⟩ := G; g.inK.keeps (s.trans S.fro)
theorem St.nolimit {F : Fz} {σ : So} {h : Heap} (S : St X F σ h) (G : Grd X F) : h.NoLimit := let ⟨_, g, s⟩ := G; g.nolimit.keeps (s.trans S.fro)
structure Stp (Pv : Addr → Prop) (F : Fz) (σ : So) (h : Heap) (F' : Fz) (σ' : So) (h' : Heap) : Prop where
  mono : Sub F F'
  keep : ∀ b o, h.get? b = some o → σ b = none → ¬ Pv b → h'.get? b = some o
  foot : ∀ a, ((F' a).isSome = true ∨ (σ' a).isSome = true) → (F a).isSome = true ∨ (σ a).isSome = true ∨ h.get? a = none
  live : ∀ b, (h.get? b).isSome = true → (h'.get? b).isSome = true
theorem Stp.refl (Pv : Addr → Prop) (F : Fz) (σ : So) (h : Heap) : Stp Pv F σ h F σ h :=
  ⟨.refl F, fun ι ι e ι ι => e, fun ι e => e.elim .inl fun e => .inr (.inl e), fun ι e => e⟩
theorem none_of_live {h h' : Heap} (l : ∀ b, (h.get? b).isSome = true → (h'.get? b).isSome = true) {a : Addr} (e : h'.get? a = none) : h.get? a = none := by
  cases q : h.get? a with
  | none => rfl
  | some o => have := l a (by rw [q]; rfl); rw [e] at this; cases this
theorem Stp.trans {Pv : Addr → Prop} {F F' F'' : Fz} {σ σ' σ'' : So} {h h' h'' : Heap} (a : Stp Pv F σ h F' σ' h') (b : Stp Pv F' σ' h' F'' σ'' h'') (S' : St X F' σ' h') : Stp Pv F σ h F'' σ'' h'' := by
  refine ⟨a.mono.trans b.mono, fun c o e hσ hp => ?_, fun c hc => ?_, fun c hc => b.live c (a.live c hc)⟩
  · have e' := a.keep c o e hσ hp
    cases q : σ' c with
    | none => exact b.keep c o e' q hp
    | some m =>
      rcases a.foot c (.inr (by rw [q]; rfl)) with f | f | f
      · obtain ⟨o', ho'⟩ := Option.isSome_iff_exists.mp f
        have := (S'.own c m q).f
        rw [a.mono c o' ho'] at this
        cases this
      · rw [hσ] at f; cases f
      · rw [e] at f; cases f
  · rcases b.foot c hc with f | f | f
    · exact a.foot c (.inl f)
    · exact a.foot c (.inr f)
    · exact .inr (.inr (none_of_live a.live f))
noncomputable def Shd (s s' : Shared) : Prop := ∃ h tk, s' = { s with heap := h, toks := tk }
theorem Shd.refl (s : Shared) : Shd s s := ⟨s.heap, s.toks, rfl⟩
theorem Shd.trans {s s' s'' : Shared} (a : Shd s s') (b : Shd s' s'') : Shd s s'' := by
  obtain ⟨h, t, rfl⟩ := a
  obtain ⟨h', t', rfl⟩ := b
  exact ⟨h', t', rfl⟩
noncomputable def Prv (env : Env) (a : Addr) : Prop := a = env.locals ∨ ∃ x, env.cells.lookup x = some a
structure Frm (X : Cx) (F : Fz) (σ : So) (env : Env) (nm : List Str) (h : Heap) (ρ : List (Option V)) : Prop where
  loc : ∃ m, h.Ns env.locals m ∧ ∀ (i : Nat) x v, nm[i]? = some x → ρ[i]? = some (some v) → env.kindOf x = some .local → ∃ c, m x = some c ∧ RelV X F c v
  cel : ∀ (i : Nat) x v, nm[i]? = some x → ρ[i]? = some (some v) → env.kindOf x ≠ some .local → ∃ a c, env.cells.lookup x = some a ∧ h.IsCell a (some c) ∧ RelV X F c v
  cells : ∀ x a, env.cells.lookup x = some a → ∃ v, h.IsCell a v
  dist : ∀ x y a, env.cells.lookup x = some a → env.cells.lookup y = some a → x = y
  prv : ∀ a, Prv env a → F a = none ∧ σ a = none
theorem Frm.prvLive {F : Fz} {σ : So} {env : Env} {nm : List Str} {h : Heap} {ρ : List (Option V)} (R : Frm X F σ env nm h ρ) {a : Addr} (p : Prv env a) : h.get? a ≠ none := by
  rcases p with rfl | ⟨x, hx⟩
  · obtain ⟨m, ⟨o, _, _, ho, _⟩, _⟩ := R.loc; rw [ho]; exact fun q => nomatch q
  · obtain ⟨v, o, ho, _⟩ := R.cells x a hx; rw [ho]; exact fun q => nomatch q
theorem isCell_keep {h h' : Heap} {a : Addr} {v : Option Value} (x : h.IsCell a v) (k : ∀ o, h.get? a = some o → h'.get? a = some o) : h'.IsCell a v :=
  let ⟨o, ho, r⟩ := x; ⟨o, k o ho, r⟩
theorem Frm.stepP {Pv : Addr → Prop} {F F' : Fz} {σ σ' : So} {env : Env} {nm : List Str} {h h' : Heap} {ρ : List (Option V)} (R : Frm X F σ env nm h ρ) (p : Stp Pv F σ h F' σ' h') (ap : ∀ a, Prv env a → ¬ Pv a) : Frm X F' σ' env nm h' ρ := by
  have keep : ∀ a, Prv env a → ∀ o, h.get? a = some o → h'.get? a = some o := fun a ha o e => p.keep a o e (R.prv a ha).2 (ap a ha)
  obtain ⟨m, hn, hl⟩ := R.loc
  refine ⟨⟨m, hn.at' (keep _ (.inl rfl)), fun i x v h1 h2 h3 => ?_⟩, fun i x v h1 h2 h3 => ?_, fun x a hx => ?_, R.dist, fun a ha => ?_⟩
  · obtain ⟨c, hc, r⟩ := hl i x v h1 h2 h3; exact ⟨c, hc, r.mono p.mono⟩
  · obtain ⟨a, c, ha, hc, r⟩ := R.cel i x v h1 h2 h3; exact ⟨a, c, ha, isCell_keep hc (keep a (.inr ⟨x, ha⟩)), r.mono p.mono⟩
  · obtain ⟨v, hv⟩ := R.cells x a hx; exact ⟨v, isCell_keep hv (keep a (.inr ⟨x, hx⟩))⟩
  · have lt := R.prvLive ha
    obtain ⟨f1, f2⟩ := R.prv a ha
    have no : ¬ ((F' a).isSome = true ∨ (σ' a).isSome = true) := fun q => by
      rcases p.foot a q with f | f | f
      · rw [f1] at f; cases f
      · rw [f2] at f; cases f
      · exact lt f
    rw [not_or] at no
    exact ⟨Option.not_isSome_iff_eq_none.mp no.1, Option.not_isSome_iff_eq_none.mp no.2⟩
theorem Frm.step {F F' : Fz} {σ σ' : So} {env : Env} {nm : List Str} {h h' : Heap} {ρ : List (Option V)} (R : Frm X F σ env nm h ρ) (p : Stp (fun ι => False) F σ h F' σ' h') : Frm X F' σ' env nm h' ρ := R.stepP p fun ι ι => id
theorem Stp.weaken {Pv Pv' : Addr → Prop} {F F' : Fz} {σ σ' : So} {h h' : Heap} (p : Stp Pv F σ h F' σ' h') (hp : ∀ a, Pv a → Pv' a) : Stp Pv' F σ h F' σ' h' :=
  ⟨p.mono, fun b o e s n => p.keep b o e s fun q => n (hp b q), p.foot, p.live⟩
end
set_option hygiene false in
set_option compiler.extract_closed false in
local macro_rules | `(tactic| injection $h:ident) => `(tactic| first | exact nA $h | exact nB $h | exact nC $h | exact nD $h | exact nM $h rfl | cases (Option.some.inj $h) | cases $h:term)
section
inductive Bop where | add | sub | mul | fdiv | mod | pow | and | or | xor
  deriving DecidableEq
inductive Cop where | eq | ne | lt | gt | ge | is_ | isNot | in_ | notIn
  deriving DecidableEq
inductive Tg where | v (i : Nat) | t (is : List Nat)
mutual
inductive E where
  | none | bool (b : Bool) | int (i : Int) | str (n : Nm)
  | var (i : Nat) | glob (g : Gn)
  | tup (es : Es) | lst (m : Bool) (es : Es) | dict (ks : List Int) (es : Es) | set1 (i : Int)
  | bin (o : Bop) (l r : E) | cat (l r : E) | neg (e : E) | not (e : E)
  | cmp (o : Cop) (l r : E) | neNil (e : E) | bop (and : Bool) (es : Es) | ite (t a b : E)
  | attr (e : E) (n : Nm) | sub (e i : E) | take (e : E) (k : Nat) | rev (e : E)
  | call (f : Fn) (es : Es) | meth (f : Fn) (o : E) (es : Es)
  | append (o e : E) | pop (o : E) | dpop (o k : E) | dget (o k d : E) | count (o e : E) | index (o e : E) | sadd (o e : E)
  | comp (m : Bool) (elt : E) (tg : Tg) (iter : E) (cond : Option E) (nm : List Str) (caps : List (Option Nat))
  | fz (e : E)
inductive Es where
  | nil | cons (e : E) (es : Es)
end
inductive It where | seq | range | items | enum
  deriving DecidableEq
mutual
inductive S where
  | expr (e : E) | asg (i : Nat) (e : E) | asgT (is : List Nat) (e : E) | asgA (o : E) (n : Nm) (e : E) | asgS (o i e : E)
  | augA (o : E) (n : Nm) (op : Bop) (e : E) | augS (o i : E) (op : Bop) (e : E)
  | ite (t : E) (a b : Ss) | for_ (tg : Tg) (it : It) (e : E) (body : Ss) | while_ (t : E) (body : Ss)
  | ret (e : E) | retN | cont
  | frz (i : Nat) | frzF (i : Nat) (n : Nm)
inductive Ss where
  | nil | cons (s : S) (ss : Ss)
end
noncomputable abbrev Ro := List (Option V)
noncomputable def upd {α : Type} (σ : Addr → Option α) (a : Addr) (m : α) : Addr → Option α := fun b => if b = a then some m else σ b
noncomputable def drp {α : Type} (σ : Addr → Option α) (a : Addr) : Addr → Option α := fun b => if b = a then none else σ b
noncomputable def och {α : Type} (o : Option α) (k : α → Prop) : Prop := match o with | some a => k a | none => False
@[simp] theorem och_some {α : Type} (a : α) (k : α → Prop) : och (some a) k = k a := rfl
@[simp] theorem och_none {α : Type} (k : α → Prop) : och none k = False := rfl
theorem och_mono {α : Type} {o : Option α} {k k' : α → Prop} (h : ∀ a, k a → k' a) : och o k → och o k' := by cases o with | none => exact id | some a => exact h a
inductive OchE {α : Type} (o : Option α) (k : α → Prop) : Prop
  | mk (a : α) (e : o = some a) (h : k a)
theorem och_elim {α : Type} {o : Option α} {k : α → Prop} (h : och o k) : OchE o k := by cases o with | none => exact h.elim | some a => exact ⟨a, rfl, h⟩
noncomputable def lstM : Option M → Option (List V) | some (.lst vs) => some vs | _ => none
noncomputable def dIM : Option M → Option (List (Int × V)) | some (.dI es) => some es | _ => none
noncomputable def objM : Option M → Option (Cl × Addr) | some (.obj C dx) => some (C, dx) | _ => none
noncomputable def nsM : Option M → Option (List (Nm × V)) | some (.ns fs) => some fs | _ => none
noncomputable def setM : Option M → Bool | some (.set _) => true | _ => false
theorem lstM_inv {o : Option M} {vs : List V} (h : lstM o = some vs) : o = some (.lst vs) := by
  cases o with
  | none => exact nA h
  | some m => cases m <;> cases h; rfl
theorem dIM_inv {o : Option M} {vs : List (Int × V)} (h : dIM o = some vs) : o = some (.dI vs) := by
  cases o with
  | none => exact nA h
  | some m => cases m <;> cases h; rfl
theorem objM_inv {o : Option M} {p : Cl × Addr} (h : objM o = some p) : o = some (.obj p.1 p.2) := by
  cases o with
  | none => exact nA h
  | some m => cases m <;> cases h; rfl
theorem nsM_inv {o : Option M} {vs : List (Nm × V)} (h : nsM o = some vs) : o = some (.ns vs) := by
  cases o with
  | none => exact nA h
  | some m => cases m <;> cases h; rfl
inductive SetAt (o : Option M) : Prop | mk (is : List Int) (e : o = some (.set is))
theorem setM_inv {o : Option M} (h : setM o = true) : SetAt o := by
  cases o with
  | none => exact nD h
  | some m => cases m <;> first | exact nD h | exact ⟨_, rfl⟩
noncomputable def listV (σ : So) (v : V) : Option (List V) := match v with
  | .lst vs => some vs
  | .ref a => lstM (σ a)
  | _ => none
noncomputable def itemsV (σ : So) : V → Option (List V)
  | .tup vs => some vs
  | v => listV σ v
noncomputable def dictV (σ : So) : V → Option (List (Int × V))
  | .dI es => some es
  | .ref a => dIM (σ a)
  | _ => none
noncomputable def fieldsV (σ : So) : V → Option (Cl × List (Nm × V))
  | .obj C fs => some (C, fs)
  | .ref a => match objM (σ a) with
    | some p => match nsM (σ p.2) with | some fs => some (p.1, fs) | none => none
    | none => none
  | _ => none
inductive LstAt (σ : So) (v : V) (vs : List V) : Prop | op (e : v = .lst vs) | at_ (a : Addr) (e : v = .ref a) (h : σ a = some (.lst vs))
inductive DctAt (σ : So) (v : V) (es : List (Int × V)) : Prop | op (e : v = .dI es) | at_ (a : Addr) (e : v = .ref a) (h : σ a = some (.dI es))
inductive FldAt (σ : So) (v : V) (C : Cl) (fs : List (Nm × V)) : Prop | op (e : v = .obj C fs) | at_ (a dx : Addr) (e : v = .ref a) (h : σ a = some (.obj C dx)) (h2 : σ dx = some (.ns fs))
theorem listV_inv {σ : So} {v : V} {vs : List V} (h : listV σ v = some vs) : LstAt σ v vs := by
  cases v with
  | lst xs => cases h; exact .op rfl
  | ref a => exact .at_ a rfl (lstM_inv h)
  | _ => exact nA h
theorem dictV_inv {σ : So} {v : V} {vs : List (Int × V)} (h : dictV σ v = some vs) : DctAt σ v vs := by
  cases v with
  | dI xs => cases h; exact .op rfl
  | ref a => exact .at_ a rfl (dIM_inv h)
  | _ => exact nA h
theorem fieldsV_at {σ : So} {a dx : Addr} {C : Cl} {fs : List (Nm × V)} (h : σ a = some (.obj C dx)) (h2 : σ dx = some (.ns fs)) : fieldsV σ (.ref a) = some (C, fs) := by
  show (match objM (σ a) with | some p => _ | none => none) = _
  rw [h]; show (match nsM (σ dx) with | some fs => _ | none => none) = _; rw [h2]; rfl
theorem fieldsV_inv {σ : So} {v : V} {C : Cl} {fs : List (Nm × V)} (h : fieldsV σ v = some (C, fs)) : FldAt σ v C fs := by
  cases v with
  | obj D xs => cases h; exact .op rfl
  | ref a =>
    change (match objM (σ a) with | some p => (match nsM (σ p.2) with | some fs => some (p.1, fs) | none => none) | none => none) = _ at h
    cases e : objM (σ a) with
    | none => rw [e] at h; exact nA h
    | some p =>
      rw [e] at h
      change (match nsM (σ p.2) with | some fs => some (p.1, fs) | none => none) = _ at h
      cases e2 : nsM (σ p.2) with
      | none => rw [e2] at h; exact nA h
      | some gs => rw [e2] at h; cases h; exact .at_ a _ rfl (objM_inv e) (nsM_inv e2)
  | _ => exact nA h
theorem listV_at {σ : So} {a : Addr} {vs : List V} (h : σ a = some (.lst vs)) : listV σ (.ref a) = some vs := congrArg lstM h
theorem itemsV_at {σ : So} {a : Addr} {vs : List V} (h : σ a = some (.lst vs)) : itemsV σ (.ref a) = some vs := congrArg lstM h
theorem dictV_at {σ : So} {a : Addr} {vs : List (Int × V)} (h : σ a = some (.dI vs)) : dictV σ (.ref a) = some vs := congrArg dIM h
theorem isL {σ : So} {a : Addr} {vs : List V} (h : σ a = some (.lst vs)) : (listV σ (.ref a)).isSome = true := congrArg (fun o => (lstM o).isSome) h
theorem isD {σ : So} {a : Addr} {vs : List (Int × V)} (h : σ a = some (.dI vs)) : (dictV σ (.ref a)).isSome = true := congrArg (fun o => (dIM o).isSome) h
noncomputable def look {K : Type} [DecidableEq K] : List (K × V) → K → Option V
  | [], _ => none
  | (k, v) :: r, x => if k = x then some v else look r x
noncomputable def put {K : Type} [DecidableEq K] : List (K × V) → K → V → List (K × V)
  | [], x, v => [(x, v)]
  | (k, u) :: r, x, v => if k = x then (k, v) :: r else (k, u) :: put r x v
noncomputable def del {K : Type} [DecidableEq K] : List (K × V) → K → List (K × V)
  | [], _ => []
  | (k, u) :: r, x => if k = x then r else (k, u) :: del r x
noncomputable def methNm : List Nm := [.holds, .best, .shape, .learn, .passStep]
noncomputable def noMeth (fs : List (Nm × V)) : Bool := methNm.all fun m => (look fs m).isNone
noncomputable def isSetV (σ : So) : V → Bool | .ref a => setM (σ a) | _ => false
inductive SetVAt (σ : So) (v : V) : Prop | mk (l : Addr) (is : List Int) (e : v = .ref l) (h : σ l = some (.set is))
theorem isSetV_inv {σ : So} {v : V} (h : isSetV σ v = true) : SetVAt σ v := by
  cases v with
  | ref l => obtain ⟨is, e⟩ := setM_inv h; exact ⟨l, is, rfl, e⟩
  | _ => exact nD h
theorem isSetV_at {σ : So} {a : Addr} {is : List Int} (h : σ a = some (.set is)) : isSetV σ (.ref a) = true := congrArg setM h
noncomputable def lstV : V → Option (List V) | .lst xs => some xs | _ => none
noncomputable def intV : V → Option Int | .int i => some i | _ => none
noncomputable def one1 : List V → Option Int | [] => none | x :: r => match r with | [] => intV x | _ :: _ => none
noncomputable def oneInt : V → Option Int | .lst vs => one1 vs | _ => none
noncomputable def big : Nat := 18446744073709551616
noncomputable def binI : Bop → Int → Int → Option Int
  | .add, a, b => some (a + b)
  | .sub, a, b => some (a - b)
  | .mul, a, b => if a.natAbs < big ∧ b.natAbs < big then some (a * b) else none
  | .fdiv, a, b => if 0 < b ∧ b < 18446744073709551616 then some (a / b) else none
  | .mod, a, b => if 0 < b ∧ b < 18446744073709551616 then some (a % b) else none
  | .pow, a, b => if 0 ≤ a ∧ a ≤ 256 ∧ 0 ≤ b ∧ b < 64 then some (a ^ b.toNat) else none
  | .and, a, b => some (Builtin.bitAnd a b)
  | .or, a, b => some (Builtin.bitOr a b)
  | .xor, a, b => some (Builtin.bitXor a b)
noncomputable def binV (o : Bop) : V → V → Option V
  | .int a, .int b => (binI o a b).map .int
  | _, _ => none
inductive BinAt (o : Bop) (a b v : V) : Prop | mk (i j r : Int) (ea : a = .int i) (eb : b = .int j) (h : binI o i j = some r) (ev : v = .int r)
theorem binV_inv {o : Bop} {a b v : V} (h : binV o a b = some v) : BinAt o a b v := by
  cases a with
  | int i => cases b with
    | int j => obtain ⟨r, hr, e⟩ := Option.map_eq_some_iff.mp h; exact ⟨i, j, r, rfl, rfl, hr, e.symm⟩
    | _ => exact nA h
  | _ => exact nA h
mutual
noncomputable def pyV : V → PyData
  | .none => .none
  | .bool b => .bool b
  | .int i => .int i
  | .str n => .str n.str
  | .tup vs => .tuple (pyVs vs)
  | .lst vs => .list (pyVs vs)
  | _ => .none
noncomputable def pyVs : List V → List PyData
  | [] => []
  | v :: vs => pyV v :: pyVs vs
end
mutual
noncomputable def okV : V → Nat → Bool
  | .none, _ => true
  | .bool _, _ => true
  | .int _, _ => true
  | .str _, _ => true
  | .tup vs, n => match n with | 0 => false | n + 1 => okVs vs n
  | .lst vs, n => match n with | 0 => false | n + 1 => okVs vs n
  | _, _ => false
noncomputable def okVs : List V → Nat → Bool
  | [], _ => true
  | v :: vs, n => okV v n && okVs vs n
end
noncomputable def eqG (a b : V) : Option Bool := if okV a 8 && okV b 8 then some (PyData.eqv (pyV a) (pyV b)) else none
noncomputable def eqV (a b : V) : Option Bool := match a with
  | .int i => match b with | .int j => some (decide (i = j)) | b => eqG (.int i) b
  | .str n => match b with | .str m => some (decide (n = m)) | b => eqG (.str n) b
  | a => eqG a b
noncomputable def isStrV : V → Bool | .str _ => true | _ => false
noncomputable def isIntV : V → Bool | .int _ => true | _ => false
noncomputable def eqStrV (n : Nm) : V → Bool | .str m => decide (n = m) | _ => false
noncomputable def eqIntV (i : Int) : V → Bool | .int m => decide (i = m) | _ => false
noncomputable def memM (i : Int) : Option M → Option Bool
  | some (.dI es) => some (look es i).isSome
  | some (.lst vs) => if vs.all isIntV then some (vs.any (eqIntV i)) else none
  | some (.set is) => some (decide (i ∈ is))
  | _ => none
noncomputable def memV (σ : So) (x c : V) : Option Bool := match x with
  | .str n => match c with
    | .dS es => some (look es n).isSome
    | .tup vs => if vs.all isStrV then some (vs.any (eqStrV n)) else none
    | _ => none
  | .int i => match c with
    | .dI es => some (look es i).isSome
    | .lst vs => if vs.all isIntV then some (vs.any (eqIntV i)) else none
    | .ref a => memM i (σ a)
    | _ => none
  | _ => none
noncomputable def isNoneV : V → Bool | .none => true | _ => false
noncomputable def ordV (f : Int → Int → Bool) (a b : V) : Option Bool := match a with | .int i => (match b with | .int j => some (f i j) | _ => none) | _ => none
noncomputable def cmpV (σ : So) (o : Cop) (a b : V) : Option Bool :=
  match o with
  | .eq => eqV a b
  | .ne => (eqV a b).map (!·)
  | .lt => ordV (fun i j => decide (i < j)) a b
  | .gt => ordV (fun i j => decide (i > j)) a b
  | .ge => ordV (fun i j => decide (i ≥ j)) a b
  | .is_ => match b with | .none => some (isNoneV a) | _ => none
  | .isNot => match b with | .none => some (!isNoneV a) | _ => none
  | .in_ => memV σ a b
  | .notIn => (memV σ a b).map (!·)
inductive OrdAt (f : Int → Int → Bool) (a b : V) (r : Bool) : Prop | mk (i j : Int) (ea : a = .int i) (eb : b = .int j) (e : f i j = r)
theorem ordV_inv {f : Int → Int → Bool} {a b : V} {r : Bool} (h : ordV f a b = some r) : OrdAt f a b r := by
  cases a with
  | int i => cases b with
    | int j => exact ⟨i, j, rfl, rfl, Option.some.inj h⟩
    | _ => exact nA h
  | _ => exact nA h
noncomputable def lid : Nat := 1000000
noncomputable def truthV (σ : So) : V → Option Bool
  | .bool b => some b
  | .ref a => match lstM (σ a) with | some vs => if vs.length < lid then some (!vs.isEmpty) else none | none => none
  | _ => none
theorem if_inv {α : Type} {c : Prop} [Decidable c] {o : Option α} {b : α} (h : (if c then o else none) = some b) : c ∧ o = some b := by
  by_cases q : c
  · rw [if_pos q] at h; exact ⟨q, h⟩
  · rw [if_neg q] at h; exact nA h
theorem if_same {α β : Type} {c : Prop} [Decidable c] {a b : Option α} {r : α} {x y z : β} (h : (if c then a else b) = some r) (h1 : a = some r → x = z) (h2 : b = some r → y = z) : (if c then x else y) = z := by
  by_cases q : c
  · rw [if_pos q] at h ⊢; exact h1 h
  · rw [if_neg q] at h ⊢; exact h2 h
inductive TruAt (σ : So) (v : V) (b : Bool) : Prop | op (e : v = .bool b) | at_ (a : Addr) (vs : List V) (e : v = .ref a) (h : σ a = some (.lst vs)) (lt : vs.length < lid) (eb : (!vs.isEmpty) = b)
theorem truthV_inv {σ : So} {v : V} {b : Bool} (h : truthV σ v = some b) : TruAt σ v b := by
  cases v with
  | bool xs => cases h; exact .op rfl
  | ref a =>
    change (match lstM (σ a) with | some vs => if vs.length < lid then some (!vs.isEmpty) else none | none => none) = _ at h
    cases e : lstM (σ a) with
    | none => rw [e] at h; exact nA h
    | some vs => rw [e] at h; obtain ⟨q, h⟩ := if_inv h; exact .at_ a vs rfl (lstM_inv e) q (Option.some.inj h)
  | _ => exact nA h
theorem truthV_at {σ : So} {a : Addr} {vs : List V} (h : σ a = some (.lst vs)) (lt : vs.length < lid) : truthV σ (.ref a) = some (!vs.isEmpty) := by
  show (match lstM (σ a) with | some vs => _ | none => none) = _
  rw [h]; exact if_pos lt
noncomputable def idxL (vs : List V) (i : Int) : Option V := if lid ≤ vs.length then none else if 0 ≤ i then vs[i.toNat]? else if 0 ≤ (vs.length : Int) + i then vs[((vs.length : Int) + i).toNat]? else none
noncomputable def idxV (σ : So) (c i : V) : Option V :=
  match i with
  | .int i => match itemsV σ c with
    | some vs => idxL vs i
    | none => match dictV σ c with
      | some es => look es i
      | none => none
  | _ => none
inductive Frzs : So → V → V → So → Prop
  | id {σ : So} {v : V} : Frzs σ v v σ
  | lst {σ : So} {a : Addr} {vs : List V} : σ a = some (.lst vs) → Frzs σ (.ref a) (.lst vs) (drp σ a)
  | dI {σ : So} {a : Addr} {es : List (Int × V)} : σ a = some (.dI es) → Frzs σ (.ref a) (.dI es) (drp σ a)
  | obj {σ : So} {a dx : Addr} {C : Cl} {fs : List (Nm × V)} : σ a = some (.obj C dx) → σ dx = some (.ns fs) → Frzs σ (.ref a) (.obj C fs) (drp (drp σ a) dx)
inductive AppQ (σ : So) (a v : V) (Q : V → So → Prop) : Prop
  | mk (l : Addr) (xs : List V) (e : a = .ref l) (h : σ l = some (.lst xs)) (lt : xs.length < lid) (q : Q .none (upd σ l (.lst (xs ++ [v]))))
inductive PopQ (σ : So) (a : V) (Q : V → So → Prop) : Prop
  | mk (l : Addr) (xs : List V) (x : V) (e : a = .ref l) (h : σ l = some (.lst (xs ++ [x]))) (lt : xs.length < lid) (q : Q x (upd σ l (.lst xs)))
inductive DpopQ (σ : So) (a k : V) (Q : V → So → Prop) : Prop
  | mk (l : Addr) (es : List (Int × V)) (i : Int) (v : V) (e : a = .ref l) (h : σ l = some (.dI es)) (ek : k = .int i) (lt : es.length < lid) (hl : look es i = some v) (q : Q v (upd σ l (.dI (del es i))))
inductive SaddQ (σ : So) (a v : V) (Q : V → So → Prop) : Prop
  | mk (l : Addr) (is : List Int) (i : Int) (e : a = .ref l) (h : σ l = some (.set is)) (ev : v = .int i) (lt : is.length < 100) (q : Q .none (upd σ l (.set (if i ∈ is then is else is ++ [i]))))
inductive FzQ (σ : So) (v : V) (Q : V → So → Prop) : Prop
  | mk (u : V) (σ' : So) (z : Frzs σ v u σ') (q : Q u σ')
inductive FzF (σ : So) (v : V) (a : Nm) (K : So → Prop) : Prop
  | mk (l : Addr) (C : Cl) (dx : Addr) (fs : List (Nm × V)) (u u' : V) (σ' : So) (e : v = .ref l) (h : σ l = some (.obj C dx)) (hd : σ dx = some (.ns fs)) (hl : look fs a = some u) (z : Frzs σ u u' σ') (hk : σ' dx = some (.ns fs)) (q : K (upd σ' dx (.ns (put fs a u'))))
inductive StoA (σ : So) (ov : V) (a : Nm) (v : V) (K : So → Prop) : Prop
  | mk (l : Addr) (C : Cl) (dx : Addr) (fs : List (Nm × V)) (e : ov = .ref l) (h : σ l = some (.obj C dx)) (hd : σ dx = some (.ns fs)) (lt : fs.length < 100) (q : K (upd σ dx (.ns (put fs a v))))
inductive StoD (σ : So) (l : Addr) (k : Int) (v : V) (K : So → Prop) : Prop
  | mk (es : List (Int × V)) (h : σ l = some (.dI es)) (lt : es.length < lid) (q : K (upd σ l (.dI (put es k v))))
inductive StoL (σ : So) (l : Addr) (k : Int) (v : V) (K : So → Prop) : Prop
  | mk (vs : List V) (h : σ l = some (.lst vs)) (lt : vs.length < lid) (h0 : 0 ≤ k) (h1 : k < vs.length) (q : K (upd σ l (.lst (vs.set k.toNat v))))
inductive StoS (σ : So) (ov iv v : V) (K : So → Prop) : Prop
  | mk (l : Addr) (k : Int) (e : ov = .ref l) (ei : iv = .int k) (q : StoD σ l k v K ∨ StoL σ l k v K)
inductive AugS (σ : So) (ov iv r : V) (K : So → Prop) : Prop
  | mk (l : Addr) (k : Int) (vs : List V) (e : ov = .ref l) (ei : iv = .int k) (h : σ l = some (.lst vs)) (lt : vs.length < lid) (h0 : 0 ≤ k) (h1 : k < vs.length) (q : K (upd σ l (.lst (vs.set k.toNat r))))
section
variable (X : Cx)
noncomputable def Room (n : Nat) (A : Around) : Prop := A.handled = none ∧ A.depth + n < recursionLimit ∧ A.units + 40 * n + 100 < cLine
noncomputable def Call (n : Nat) (f : Fn) (vs : List V) (σ : So) (Q : V → So → Prop) : Prop :=
  ∀ (A : Around) (F : Fz) (s : Shared) (cs : List Value) (P : Value → Shared → Prop) (E : Value → Shared → Prop), Room n A → Grd X F → St X F σ s.heap → RelVs X F cs vs →
    (∀ c v F' σ' s', RelV X F' c v → Q v σ' → St X F' σ' s'.heap → Stp (fun ι => False) F σ s.heap F' σ' s'.heap → Shd s s' → P c s') → wpAny (model X.prog X.w) A (call (X.fa f) cs []) P E s
variable (n : Nat)
noncomputable def setR (ρ : Ro) (i : Nat) (v : V) : Ro := ρ.set i (some v)
noncomputable def setT : Ro → List Nat → List V → Option Ro
  | ρ, [], [] => some ρ
  | ρ, i :: is, v :: vs => setT (setR ρ i v) is vs
  | _, _, _ => none
noncomputable def bindTg (σ : So) (ρ : Ro) (tg : Tg) (v : V) : Option Ro := match tg with
  | .v i => some (setR ρ i v)
  | .t is => match itemsV σ v with
    | some vs => setT ρ is vs
    | none => none
noncomputable def compL (turn : V → So → (Option V → So → Prop) → Prop) : List V → List V → So → (List V → So → Prop) → Prop
  | [], acc, σ, Q => Q acc σ
  | x :: xs, acc, σ, Q => turn x σ fun r σ' => match r with
    | some y => compL turn xs (acc ++ [y]) σ' Q
    | none => compL turn xs acc σ' Q
noncomputable def capR (ρ : Ro) (caps : List (Option Nat)) : Ro := caps.map fun c => match c with | some i => (ρ[i]?).join | none => none
noncomputable def newL (m : Bool) (vs : List V) (σ : So) (Q : V → So → Prop) : Prop := vs.length < lid ∧ (if m then ∀ a, σ a = none → Q (.ref a) (upd σ a (.lst vs)) else Q (.lst vs) σ)
mutual
noncomputable def W : E → Ro → So → (V → So → Prop) → Prop
  | .none, _, σ, Q => Q .none σ
  | .bool b, _, σ, Q => Q (.bool b) σ
  | .int i, _, σ, Q => Q (.int i) σ
  | .str n, _, σ, Q => Q (.str n) σ
  | .var i, ρ, σ, Q => och (ρ[i]?).join fun v => Q v σ
  | .glob g, _, σ, Q => Q g.val σ
  | .tup es, ρ, σ, Q => Ws es ρ σ fun vs σ => vs.length < lid ∧ Q (.tup vs) σ
  | .lst m es, ρ, σ, Q => Ws es ρ σ fun vs σ => newL m vs σ Q
  | .dict ks es, ρ, σ, Q => Ws es ρ σ fun vs σ => ∀ a, σ a = none → Q (.ref a) (upd σ a (.dI (ks.zip vs)))
  | .set1 i, _, σ, Q => ∀ a, σ a = none → Q (.ref a) (upd σ a (.set [i]))
  | .bin o l r, ρ, σ, Q => W l ρ σ fun a σ => W r ρ σ fun b σ => och (binV o a b) fun v => Q v σ
  | .cat l r, ρ, σ, Q => W l ρ σ fun a σ => W r ρ σ fun b σ => och (listV σ a) fun xs => och (listV σ b) fun ys => newL false (xs ++ ys) σ Q
  | .neg e, ρ, σ, Q => W e ρ σ fun a σ => och (intV a) fun i => Q (.int (-i)) σ
  | .not _, _, _, _ => False
  | .cmp o l r, ρ, σ, Q => W l ρ σ fun a σ => W r ρ σ fun b σ => och (cmpV σ o a b) fun c => Q (.bool c) σ
  | .neNil _, _, _, _ => False
  | .bop and es, ρ, σ, Q => Wb and es ρ σ Q
  | .ite t a b, ρ, σ, Q => Wt t ρ σ fun c σ => (c = true → W a ρ σ Q) ∧ (c = false → W b ρ σ Q)
  | .attr e n, ρ, σ, Q => W e ρ σ fun a σ => och (fieldsV σ a) fun p => och (look p.2 n) fun v => Q v σ
  | .sub e i, ρ, σ, Q => W e ρ σ fun a σ => W i ρ σ fun b σ => och (idxV σ a b) fun v => Q v σ
  | .take e k, ρ, σ, Q => W e ρ σ fun a σ => och (listV σ a) fun xs => xs.length ≤ sizeLine ∧ newL false (xs.take k) σ Q
  | .rev e, ρ, σ, Q => W e ρ σ fun a σ => och (listV σ a) fun xs => xs.length ≤ sizeLine ∧ newL false xs.reverse σ Q
  | .call f es, ρ, σ, Q => Ws es ρ σ fun vs σ => Call X n f vs σ Q
  | .meth f o es, ρ, σ, Q => W o ρ σ fun a σ => och (fieldsV σ a) fun p => p.1 = .Facts ∧ noMeth p.2 = true ∧ Ws es ρ σ fun vs σ => Call X n f (a :: vs) σ Q
  | .append o e, ρ, σ, Q => W o ρ σ fun a σ => (listV σ a).isSome = true ∧ W e ρ σ fun v σ => AppQ σ a v Q
  | .pop o, ρ, σ, Q => W o ρ σ fun a σ => PopQ σ a Q
  | .dpop o k, ρ, σ, Q => W o ρ σ fun a σ => (dictV σ a).isSome = true ∧ W k ρ σ fun k σ => DpopQ σ a k Q
  | .dget o k d, ρ, σ, Q => W o ρ σ fun a σ => (dictV σ a).isSome = true ∧ W k ρ σ fun k σ => W d ρ σ fun d σ => och (dictV σ a) fun es => och (intV k) fun i => Q ((look es i).getD d) σ
  | .count o e, ρ, σ, Q => W o ρ σ fun a σ => och (oneInt a) fun i => W e ρ σ fun v σ => och (intV v) fun j => Q (.int (if i = j then 1 else 0)) σ
  | .index o e, ρ, σ, Q => W o ρ σ fun a σ => och (oneInt a) fun i => W e ρ σ fun v σ => v = .int i ∧ Q (.int 0) σ
  | .sadd o e, ρ, σ, Q => W o ρ σ fun a σ => isSetV σ a = true ∧ W e ρ σ fun v σ => SaddQ σ a v Q
  | .comp m elt tg iter cond _ caps, ρ, σ, Q => W iter ρ σ fun a σ => och (lstV a) fun xs => xs.length < lid ∧
      compL (fun x σ k => och (bindTg σ (capR ρ caps) tg x) fun ρ' => match cond with
        | some c => Wt c ρ' σ fun b σ => (b = true → W elt ρ' σ fun y σ => k (some y) σ) ∧ (b = false → k none σ)
        | none => W elt ρ' σ fun y σ => k (some y) σ) xs [] σ fun ys σ => newL m ys σ Q
  | .fz e, ρ, σ, Q => W e ρ σ fun v σ => FzQ σ v Q
noncomputable def Wt : E → Ro → So → (Bool → So → Prop) → Prop
  | .not e, ρ, σ, Q => Wt e ρ σ fun b σ => Q (!b) σ
  | .bop and es, ρ, σ, Q => Wbt and es ρ σ Q
  | .cmp o l r, ρ, σ, Q => W l ρ σ fun a σ => W r ρ σ fun b σ => och (cmpV σ o a b) fun c => Q c σ
  | .neNil e, ρ, σ, Q => W e ρ σ fun a σ => och (listV σ a) fun xs => okVs xs 7 = true ∧ Q (!xs.isEmpty) σ
  | .var i, ρ, σ, Q => och (ρ[i]?).join fun v => och (truthV σ v) fun b => Q b σ
  | .sub e i, ρ, σ, Q => W e ρ σ fun a σ => W i ρ σ fun b σ => och (idxV σ a b) fun v => och (truthV σ v) fun b => Q b σ
  | .call f es, ρ, σ, Q => Ws es ρ σ fun vs σ => Call X n f vs σ fun v σ => och (truthV σ v) fun b => Q b σ
  | .meth f o es, ρ, σ, Q => W o ρ σ fun a σ => och (fieldsV σ a) fun p => p.1 = .Facts ∧ noMeth p.2 = true ∧ Ws es ρ σ fun vs σ => Call X n f (a :: vs) σ fun v σ => och (truthV σ v) fun b => Q b σ
  | _, _, _, _ => False
noncomputable def Ws : Es → Ro → So → (List V → So → Prop) → Prop
  | .nil, _, σ, Q => Q [] σ
  | .cons e es, ρ, σ, Q => W e ρ σ fun v σ => Ws es ρ σ fun vs σ => Q (v :: vs) σ
noncomputable def Wb (and : Bool) : Es → Ro → So → (V → So → Prop) → Prop
  | .nil, _, _, _ => False
  | .cons e .nil, ρ, σ, Q => W e ρ σ Q
  | .cons e es, ρ, σ, Q => W e ρ σ fun v σ => och (truthV σ v) fun b => (b = and → Wb and es ρ σ Q) ∧ (b ≠ and → Q v σ)
noncomputable def Wbt (and : Bool) : Es → Ro → So → (Bool → So → Prop) → Prop
  | .nil, _, σ, Q => Q and σ
  | .cons e es, ρ, σ, Q => Wt e ρ σ fun b σ => (b = and → Wbt and es ρ σ Q) ∧ (b ≠ and → Q b σ)
end
inductive Fl where | next | cont | ret (v : V)
noncomputable def Kn (a c : Ro → So → Prop) (r : V → Ro → So → Prop) : Fl → Ro → So → Prop
  | .next => a
  | .cont => c
  | .ret v => r v
noncomputable def forL (turn : V → Ro → So → (Fl → Ro → So → Prop) → Prop) : List V → Ro → So → (Fl → Ro → So → Prop) → Prop
  | [], ρ, σ, Q => Q .next ρ σ
  | x :: xs, ρ, σ, Q => turn x ρ σ (Kn (fun ρ σ => forL turn xs ρ σ Q) (fun ρ σ => forL turn xs ρ σ Q) fun v ρ σ => Q (.ret v) ρ σ)
noncomputable def whileL (test : Ro → So → (Bool → So → Prop) → Prop) (turn : Ro → So → (Fl → Ro → So → Prop) → Prop) : Nat → Ro → So → (Fl → Ro → So → Prop) → Prop
  | 0, _, _, _ => False
  | k + 1, ρ, σ, Q => test ρ σ fun b σ => (b = true → turn ρ σ (Kn (fun ρ σ => whileL test turn k ρ σ Q) (fun ρ σ => whileL test turn k ρ σ Q) fun v ρ σ => Q (.ret v) ρ σ)) ∧ (b = false → Q .next ρ σ)
noncomputable def enumL (i : Nat) : List V → List V
  | [] => []
  | x :: xs => .tup [.int i, x] :: enumL (i + 1) xs
noncomputable def rngV : V → Option (List V)
  | .int i => if 0 ≤ i ∧ i.toNat < lid then some ((List.range i.toNat).map fun (j : Nat) => V.int (j : Int)) else none
  | _ => none
noncomputable def seqV : V → Option (List V)
  | .tup vs => some vs
  | v => lstV v
noncomputable def itmV : V → Option (List V)
  | .dI es => some (es.map fun p => .tup [.int p.1, p.2])
  | _ => none
noncomputable def itV (_ : So) (k : It) (v : V) : Option (List V) := match k with
  | .seq => seqV v
  | .range => rngV v
  | .items => itmV v
  | .enum => (lstV v).map (enumL 0)
inductive RngAt (v : V) (xs : List V) : Prop | mk (i : Int) (e : v = .int i) (h : 0 ≤ i ∧ i.toNat < lid) (ex : xs = (List.range i.toNat).map fun (j : Nat) => V.int (j : Int))
theorem rngV_inv {v : V} {xs : List V} (h : rngV v = some xs) : RngAt v xs := by
  cases v with
  | int i => obtain ⟨q, h⟩ := if_inv h; exact ⟨i, rfl, q, (Option.some.inj h).symm⟩
  | _ => exact nA h
theorem lstV_inv {v : V} {xs : List V} (h : lstV v = some xs) : v = .lst xs := by
  cases v with
  | lst vs => exact congrArg V.lst (Option.some.inj h)
  | _ => exact nA h
theorem seqV_inv {v : V} {xs : List V} (h : seqV v = some xs) : v = .tup xs ∨ v = .lst xs := by
  cases v with
  | tup vs => exact .inl (congrArg V.tup (Option.some.inj h))
  | lst vs => exact .inr (congrArg V.lst (Option.some.inj h))
  | _ => exact nA h
theorem itmV_inv {v : V} {xs : List V} (h : itmV v = some xs) : ∃ es, v = .dI es ∧ xs = es.map fun p => .tup [.int p.1, p.2] := by
  cases v with
  | dI es => exact ⟨es, rfl, (Option.some.inj h).symm⟩
  | _ => exact nA h
mutual
noncomputable def WS : S → Ro → So → (Fl → Ro → So → Prop) → Prop
  | .expr e, ρ, σ, Q => W X n e ρ σ fun ι σ => Q .next ρ σ
  | .asg i e, ρ, σ, Q => W X n e ρ σ fun v σ => Q .next (setR ρ i v) σ
  | .asgT is e, ρ, σ, Q => W X n e ρ σ fun v σ => och (itemsV σ v) fun vs => och (setT ρ is vs) fun ρ' => Q .next ρ' σ
  | .asgA o a e, ρ, σ, Q => W X n e ρ σ fun v σ => W X n o ρ σ fun ov σ => StoA σ ov a v fun σ => Q .next ρ σ
  | .asgS o i e, ρ, σ, Q => W X n e ρ σ fun v σ => W X n o ρ σ fun ov σ => W X n i ρ σ fun iv σ => StoS σ ov iv v fun σ => Q .next ρ σ
  | .augA o a op e, ρ, σ, Q => W X n o ρ σ fun ov σ => och (fieldsV σ ov) fun p => och (look p.2 a) fun u => W X n e ρ σ fun v σ => och (binV op u v) fun r =>
      StoA σ ov a r fun σ => Q .next ρ σ
  | .augS o i op e, ρ, σ, Q => W X n o ρ σ fun ov σ => W X n i ρ σ fun iv σ => och (idxV σ ov iv) fun u => W X n e ρ σ fun v σ => och (binV op u v) fun r =>
      AugS σ ov iv r fun σ => Q .next ρ σ
  | .ite t a b, ρ, σ, Q => Wt X n t ρ σ fun c σ => (c = true → WSs a ρ σ Q) ∧ (c = false → WSs b ρ σ Q)
  | .for_ tg it e body, ρ, σ, Q => W X n e ρ σ fun v σ => och (itV σ it v) fun xs => forL (fun x ρ σ k => och (bindTg σ ρ tg x) fun ρ' => WSs body ρ' σ k) xs ρ σ Q
  | .while_ t body, ρ, σ, Q => ∃ k, whileL (fun ρ σ q => Wt X n t ρ σ q) (fun ρ σ q => WSs body ρ σ q) k ρ σ Q
  | .ret e, ρ, σ, Q => W X n e ρ σ fun v σ => Q (.ret v) ρ σ
  | .retN, ρ, σ, Q => Q (.ret .none) ρ σ
  | .cont, ρ, σ, Q => Q .cont ρ σ
  | .frz i, ρ, σ, Q => och (ρ[i]?).join fun v => FzQ σ v fun u σ' => Q .next (setR ρ i u) σ'
  | .frzF i a, ρ, σ, Q => och (ρ[i]?).join fun v => FzF σ v a fun σ => Q .next ρ σ
noncomputable def WSs : Ss → Ro → So → (Fl → Ro → So → Prop) → Prop
  | .nil, ρ, σ, Q => Q .next ρ σ
  | .cons s ss, ρ, σ, Q => WS s ρ σ (Kn (fun ρ σ => WSs ss ρ σ Q) (fun ρ σ => Q .cont ρ σ) fun v ρ σ => Q (.ret v) ρ σ)
end
end
end
set_option genInjectivity true
section
variable {X : Cx}
theorem upd_self {α : Type} (σ : Addr → Option α) (a : Addr) (m : α) : upd σ a m a = some m := if_pos rfl
theorem upd_ne {α : Type} (σ : Addr → Option α) {a b : Addr} (m : α) (h : b ≠ a) : upd σ a m b = σ b := if_neg h
theorem drp_self {α : Type} (σ : Addr → Option α) (a : Addr) : drp σ a a = none := if_pos rfl
theorem drp_ne {α : Type} (σ : Addr → Option α) {a b : Addr} (h : b ≠ a) : drp σ a b = σ b := if_neg h
theorem get_size (h : Heap) : h.get? h.objs.size = none := by
  cases q : h.get? h.objs.size with
  | none => rfl
  | some o => exact absurd (Heap.lt_size q) (Nat.lt_irrefl _)
structure Nx (X : Cx) (F : Fz) (σ : So) (h : Heap) (F' : Fz) (σ' : So) (h' : Heap) : Prop where
  st : St X F' σ' h'
  p : Stp (fun ι => False) F σ h F' σ' h'
theorem Nx.trans {F F' F'' : Fz} {σ σ' σ'' : So} {h h' h'' : Heap} (a : Nx X F σ h F' σ' h') (b : Nx X F' σ' h' F'' σ'' h'') : Nx X F σ h F'' σ'' h'' := ⟨b.st, a.p.trans b.p a.st⟩
theorem Nx.refl {F : Fz} {σ : So} {h : Heap} (S : St X F σ h) : Nx X F σ h F σ h := ⟨S, .refl ..⟩
theorem St.sub {F : Fz} {σ : So} {h : Heap} (S : St X F σ h) : Sub F h.get? := S.fro
theorem St.fresh {F : Fz} {σ : So} {h : Heap} (S : St X F σ h) {a : Addr} (e : h.get? a = none) : F a = none ∧ σ a = none := by
  constructor
  · cases q : F a with
    | none => rfl
    | some o => have := S.fro a o q; rw [e] at this; (injection this)
  · cases q : σ a with
    | none => rfl
    | some m => obtain ⟨_, o, ho, _⟩ := S.own a m q; rw [e] at ho; (injection ho)
theorem Nx.same {F : Fz} {σ : So} {h h' : Heap} (S : St X F σ h) (k : ∀ a o, h.get? a = some o → h'.get? a = some o) : Nx X F σ h F σ h' := by
  refine ⟨⟨fun a o e => k a o (S.fro a o e), fun a m e => ?_⟩, .refl F, fun b o e ι ι => k b o e, fun a q => q.elim .inl fun q => .inr (.inl q), fun b q => ?_⟩
  · obtain ⟨f, o, ho, r⟩ := S.own a m e; exact ⟨f, o, k a o ho, r⟩
  · obtain ⟨o, ho⟩ := Option.isSome_iff_exists.mp q; rw [k b o ho]; rfl
theorem push_keeps (h : Heap) (o : Obj) : ∀ a o', h.get? a = some o' → (h.push o).get? a = some o' := fun ι ι e => Heap.get?_push_of_some _ e
theorem Nx.junk {F : Fz} {σ : So} {h : Heap} (S : St X F σ h) (o : Obj) : Nx X F σ h F σ (h.push o) := .same S (push_keeps h o)
theorem Sub.upd {F : Fz} {a : Addr} {o : Obj} (h : F a = none) : Sub F (upd F a o) := fun b o' e => by
  rw [upd_ne]
  · exact e
  · rintro rfl; rw [h] at e; (injection e)
theorem Nx.fz {F : Fz} {σ : So} {h : Heap} (S : St X F σ h) (o : Obj) (hf : o.isFreed = false := by rfl) : Nx X F σ h (upd F h.objs.size o) σ (h.push o) := by
  obtain ⟨f1, f2⟩ := S.fresh (get_size h)
  have hs : Sub F (upd F h.objs.size o) := .upd f1
  refine ⟨⟨fun a o' e => ?_, fun a m e => ?_⟩, hs, fun b o' e ι ι => Heap.get?_push_of_some _ e, fun a q => ?_, fun b q => ?_⟩
  · by_cases q : a = h.objs.size
    · subst q; rw [upd_self] at e; (injection e); exact Heap.get?_push_size _ hf
    · rw [upd_ne _ _ q] at e; exact Heap.get?_push_of_some _ (S.fro a o' e)
  · obtain ⟨f, o', ho, r⟩ := S.own a m e
    refine ⟨?_, o', Heap.get?_push_of_some _ ho, r.mono hs⟩
    rw [upd_ne _ _ (by rintro rfl; rw [f2] at e; (injection e))]; exact f
  · by_cases q' : a = h.objs.size
    · subst q'; exact .inr (.inr (get_size h))
    · rw [upd_ne _ _ q'] at q; exact q.elim .inl fun q => .inr (.inl q)
  · obtain ⟨o', ho⟩ := Option.isSome_iff_exists.mp q; rw [Heap.get?_push_of_some _ ho]; rfl
theorem Nx.own {F : Fz} {σ : So} {h : Heap} (S : St X F σ h) {o : Obj} {m : M} (r : RelM X F o m) (hf : o.isFreed = false := by rfl) : Nx X F σ h F (upd σ h.objs.size m) (h.push o) := by
  obtain ⟨f1, f2⟩ := S.fresh (get_size h)
  refine ⟨⟨fun a o' e => Heap.get?_push_of_some _ (S.fro a o' e), fun a m' e => ?_⟩, .refl F, fun b o' e ι ι => Heap.get?_push_of_some _ e, fun a q => ?_, fun b q => ?_⟩
  · by_cases q : a = h.objs.size
    · subst q; rw [upd_self] at e; (injection e); exact ⟨f1, o, Heap.get?_push_size _ hf, r⟩
    · rw [upd_ne _ _ q] at e
      obtain ⟨f, o', ho, r⟩ := S.own a m' e
      exact ⟨f, o', Heap.get?_push_of_some _ ho, r⟩
  · by_cases q' : a = h.objs.size
    · subst q'; exact .inr (.inr (get_size h))
    · rw [upd_ne _ _ q'] at q; exact q.elim .inl fun q => .inr (.inl q)
  · obtain ⟨o', ho⟩ := Option.isSome_iff_exists.mp q; rw [Heap.get?_push_of_some _ ho]; rfl
theorem Nx.chg {F : Fz} {σ : So} {h h' : Heap} (S : St X F σ h) {D : Addr} {m m' : M} {o' : Obj} (hm : σ D = some m) (ho : h'.get? D = some o') (r : RelM X F o' m') (hs : ∀ b o, b ≠ D → h.get? b = some o → h'.get? b = some o) : Nx X F σ h F (upd σ D m') h' := by
  have fD := (S.own D m hm).f
  have ne : ∀ a o, F a = some o → a ≠ D := fun a o e => by rintro rfl; rw [fD] at e; (injection e)
  refine ⟨⟨fun a o e => hs a o (ne a o e) (S.fro a o e), fun a m₁ e => ?_⟩, .refl F, fun b o e q ι => hs b o (by rintro rfl; rw [hm] at q; (injection q)) e, fun a q => ?_, fun b q => ?_⟩
  · by_cases q : a = D
    · subst q; rw [upd_self] at e; (injection e); exact ⟨fD, o', ho, r⟩
    · rw [upd_ne _ _ q] at e
      obtain ⟨f, o, ho, r⟩ := S.own a m₁ e
      exact ⟨f, o, hs a o q ho, r⟩
  · by_cases q' : a = D
    · subst q'; exact .inr (.inl (by rw [hm]; rfl))
    · rw [upd_ne _ _ q'] at q; exact q.elim .inl fun q => .inr (.inl q)
  · by_cases q' : b = D
    · subst q'; rw [ho]; rfl
    · obtain ⟨o', ho⟩ := Option.isSome_iff_exists.mp q; rw [hs b o' q' ho]; rfl
theorem Nx.frz1 {F : Fz} {σ : So} {h : Heap} (S : St X F σ h) {a : Addr} {m : M} {o : Obj} (hm : σ a = some m) (ho : h.get? a = some o) : Nx X F σ h (upd F a o) (drp σ a) h := by
  have fa := (S.own a m hm).f
  have hs : Sub F (upd F a o) := .upd fa
  refine ⟨⟨fun b o' e => ?_, fun b m' e => ?_⟩, hs, fun b o' e ι ι => e, fun b q => ?_, fun b q => q⟩
  · by_cases q : b = a
    · subst q; rw [upd_self] at e; (injection e); exact ho
    · rw [upd_ne _ _ q] at e; exact S.fro b o' e
  · by_cases q : b = a
    · subst q; rw [drp_self] at e; (injection e)
    · rw [drp_ne _ q] at e
      obtain ⟨f, o', ho', r⟩ := S.own b m' e
      exact ⟨by rw [upd_ne _ _ q]; exact f, o', ho', r.mono hs⟩
  · by_cases q' : b = a
    · subst q'; exact .inr (.inl (by rw [hm]; rfl))
    · rw [upd_ne _ _ q', drp_ne _ q'] at q; exact q.elim .inl fun q => .inr (.inl q)
theorem Grd.mods {F : Fz} (G : Grd X F) : (F sysModules).isSome = true := by
  obtain ⟨B, g, s⟩ := G
  obtain ⟨o, ho⟩ := Option.isSome_iff_exists.mp g.mods
  rw [s _ _ ho]; rfl
theorem St.notMods {F : Fz} {σ : So} {h : Heap} (S : St X F σ h) (G : Grd X F) {a : Addr} {m : M} (e : σ a = some m) : (a == sysModules) = false := by
  have f := (S.own a m e).f
  have g := G.mods
  rw [beq_eq_false_iff_ne]
  rintro rfl
  rw [f] at g; (injection g)
theorem frz_ok {F : Fz} {σ σ' : So} {h : Heap} {v u : V} {c : Value} (S : St X F σ h) (G : Grd X F) (z : Frzs σ v u σ') (r : RelV X F c v) : ∃ F', Nx X F σ h F' σ' h ∧ RelV X F' c u := by
  cases z with
  | id => exact ⟨F, .refl S, r⟩
  | @lst a vs e =>
    (first | (obtain rfl := iVr r) | (obtain ⟨_, rfl⟩ := iVi r) | (obtain rfl := iV0 r) | (obtain rfl := iVb r) | (obtain ⟨_, rfl⟩ := iVs r) | (obtain ⟨_, _, _, rfl, _, _⟩ := iVt r) | (obtain ⟨_, _, _, rfl, _, _⟩ := iVl r) | (obtain ⟨_, _, _, rfl, _, _, _, _⟩ := iVd r) | (obtain ⟨_, _, _, rfl, _, _, _, _⟩ := iVS r) | (obtain ⟨_, _, _, _, rfl, _, _, _⟩ := iVo r) | cases r)
    obtain ⟨f, o, ho, r⟩ := S.own _ _ e
    obtain ⟨cs, j, rfl, q⟩ := r.iLst
    exact ⟨_, .frz1 S e ho, .lst (upd_self ..) (q.mono (.upd f))⟩
  | @dI a es e =>
    (first | (obtain rfl := iVr r) | (obtain ⟨_, rfl⟩ := iVi r) | (obtain rfl := iV0 r) | (obtain rfl := iVb r) | (obtain ⟨_, rfl⟩ := iVs r) | (obtain ⟨_, _, _, rfl, _, _⟩ := iVt r) | (obtain ⟨_, _, _, rfl, _, _⟩ := iVl r) | (obtain ⟨_, _, _, rfl, _, _, _, _⟩ := iVd r) | (obtain ⟨_, _, _, rfl, _, _, _, _⟩ := iVS r) | (obtain ⟨_, _, _, _, rfl, _, _, _⟩ := iVo r) | cases r)
    obtain ⟨f, o, ho, r⟩ := S.own _ _ e
    have nm := S.notMods G e
    obtain ⟨kvs, d, q⟩ := r.iDI
    exact ⟨_, .frz1 S e ho, .dI (upd_self ..) nm d (q.mono (.upd f))⟩
  | @obj a dx C fs e1 e2 =>
    (first | (obtain rfl := iVr r) | (obtain ⟨_, rfl⟩ := iVi r) | (obtain rfl := iV0 r) | (obtain rfl := iVb r) | (obtain ⟨_, rfl⟩ := iVs r) | (obtain ⟨_, _, _, rfl, _, _⟩ := iVt r) | (obtain ⟨_, _, _, rfl, _, _⟩ := iVl r) | (obtain ⟨_, _, _, rfl, _, _, _, _⟩ := iVd r) | (obtain ⟨_, _, _, rfl, _, _, _, _⟩ := iVS r) | (obtain ⟨_, _, _, _, rfl, _, _, _⟩ := iVo r) | cases r)
    obtain ⟨f, o, ho, r⟩ := S.own _ _ e1
    obtain ⟨f2, o2, ho2, r2⟩ := S.own _ _ e2
    have ne : dx ≠ a := by rintro rfl; rw [e1] at e2; (injection e2)
    obtain rfl := r.iObj
    obtain ⟨es, j, rfl, q2⟩ := r2.iNs
    · · have n1 := Nx.frz1 S e1 ho
        have n2 := Nx.frz1 n1.st (m := .ns fs) (by rw [drp_ne _ ne]; exact e2) ho2
        refine ⟨_, n1.trans n2, .obj (by rw [upd_ne _ _ ne.symm]; exact upd_self ..) (upd_self ..) (q2.mono (n1.p.mono.trans n2.p.mono))⟩
structure Nxt (X : Cx) (F : Fz) (σ : So) (s : Shared) (F' : Fz) (σ' : So) (s' : Shared) : Prop where
  n : Nx X F σ s.heap F' σ' s'.heap
  sh : Shd s s'
section
variable {F F' F'' : Fz} {σ σ' σ'' : So} {s s' s'' : Shared}
theorem Nxt.refl (S : St X F σ s.heap) : Nxt X F σ s F σ s := ⟨.refl S, .refl s⟩
theorem Nxt.trans (a : Nxt X F σ s F' σ' s') (b : Nxt X F' σ' s' F'' σ'' s'') : Nxt X F σ s F'' σ'' s'' := ⟨a.n.trans b.n, a.sh.trans b.sh⟩
theorem Nxt.sub (a : Nxt X F σ s F' σ' s') : Sub F F' := a.n.p.mono
theorem Nxt.st (a : Nxt X F σ s F' σ' s') : St X F' σ' s'.heap := a.n.st
theorem Nxt.toks (a : Nxt X F σ s F' σ' s') (t : Nat) : Nxt X F σ s F' σ' { s' with toks := t } := ⟨a.n, a.sh.trans ⟨s'.heap, t, rfl⟩⟩
theorem Nxt.of {h' : Heap} (n : Nx X F σ s.heap F' σ' h') (t : Nat) : Nxt X F σ s F' σ' { s with heap := h', toks := t } := ⟨n, ⟨h', t, rfl⟩⟩
end
structure Fo (X : Cx) (env : Env) (nm : List Str) (F : Fz) (ρ : Ro) (σ : So) (s : Shared) : Prop where
  g : Grd X F
  st : St X F σ s.heap
  fr : Frm X F σ env nm s.heap ρ
structure Bs where
  F : Fz
  σ : So
  s : Shared
structure Ok (X : Cx) (env : Env) (nm : List Str) (Pv : Addr → Prop) (b : Bs) (F : Fz) (ρ : Ro) (σ : So) (s : Shared) : Prop where
  fo : Fo X env nm F ρ σ s
  stp : Stp Pv b.F b.σ b.s.heap F σ s.heap
  shd : Shd b.s s
section
variable {env : Env} {nm : List Str} {b : Bs} {F F' : Fz} {ρ : Ro} {σ σ' : So} {s s' : Shared} {Pv : Addr → Prop}
theorem Fo.to (k : Fo X env nm F ρ σ s) (n : Nxt X F σ s F' σ' s') : Fo X env nm F' ρ σ' s' := ⟨k.g.mono n.sub, n.st, k.fr.step n.n.p⟩
theorem Ok.to (k : Ok X env nm Pv b F ρ σ s) (n : Nxt X F σ s F' σ' s') : Ok X env nm Pv b F' ρ σ' s' :=
  ⟨k.fo.to n, k.stp.trans (n.n.p.weaken fun ι f => f.elim) k.fo.st, k.shd.trans n.sh⟩
end
structure EnvOk (X : Cx) (env : Env) (names : List (Str × NameKind)) (nm : List Str) : Prop where
  nms : env.scope.names = names
  kind : env.scope.kind = .function
  globals : env.globals = mainGlobals
  builtins : env.builtins = builtinsNs
  cells : ∀ x, names.lookup x = some .cell ∨ names.lookup x = some .free → (env.cells.lookup x).isSome = true
  code : kdsCode X.K env.code = true
  nd : nm.Nodup
section
variable {env : Env} {names : List (Str × NameKind)} {nm : List Str}
theorem EnvOk.kindOf (e : EnvOk X env names nm) (x : Str) : Env.kindOf env x = names.lookup x := by
  unfold Env.kindOf
  rw [e.nms]
theorem EnvOk.store (e : EnvOk X env names nm) : (env.scope.kind == .class || (env.scope.kind == .module && env.locals != env.globals)) = false := by
  rw [e.kind]; rfl
end
noncomputable def locK (names : List (Str × NameKind)) (x : Str) : Bool := (names.lookup x == some .local || names.lookup x == some .cell || names.lookup x == some .free) && !(x == ("__debug__" : Str)) && !(x == ("__classdict__" : Str))
section
variable {env : Env} {nm : List Str} {b : Bs} {F : Fz} {ρ : Ro} {σ : So} {s : Shared} {A : Around} {E : Value → Shared → Prop} {names : List (Str × NameKind)} {M : Model} {Pv : Addr → Prop}
theorem load_var {i : Nat} {x : Str} {v : V} {pos : Pos} {P : Value → Shared → Prop} (eo : EnvOk X env names nm) (k : Fo X env nm F ρ σ s) (hx : nm[i]? = some x) (hl : locK names x = true) (hv : (ρ[i]?).join = some v)
    (h : ∀ c, RelV X F c v → P c s) : wpAny M A (eval (.Name x pos) env) P E s := by
  have hv' : ρ[i]? = some (some v) := by
    cases q : ρ[i]? with
    | none => rw [q] at hv; (injection hv)
    | some o => rw [q] at hv; simpa using hv
  simp only [locK, Bool.and_eq_true, Bool.or_eq_true, beq_iff_eq, Bool.not_eq_true', beq_eq_false_iff_ne, ne_eq] at hl
  obtain ⟨⟨hk, hd⟩, hcd⟩ := hl
  have hd' : (x == ("__debug__" : Str)) = false := beq_eq_false_iff_ne.mpr hd
  have hcd' : (x == ("__classdict__" : Str)) = false := beq_eq_false_iff_ne.mpr hcd
  refine wpAny_Name ?_ hd'
  rcases hk with (hk | hk) | hk
  · obtain ⟨m, hn, hm⟩ := k.fr.loc
    have hk' : env.kindOf x = some .local := (eo.kindOf x).trans hk
    obtain ⟨c, hc, r⟩ := hm i x v hx hv' hk'
    exact wpAny_loadName_local eo.kind hk' hn hc (h c r)
  · have hk' : env.kindOf x = some .cell := (eo.kindOf x).trans hk
    obtain ⟨a, c, ha, hc, r⟩ := k.fr.cel i x v hx hv' (by rw [hk']; exact fun q => nomatch q)
    exact wpAny_loadName_cell eo.kind hk' ha hc (h c r)
  · have hk' : env.kindOf x = some .free := (eo.kindOf x).trans hk
    obtain ⟨a, c, ha, hc, r⟩ := k.fr.cel i x v hx hv' (by rw [hk']; exact fun q => nomatch q)
    exact wpAny_loadName_free eo.kind hk' ha hc (h c r) hcd'
theorem set_get {ρ : Ro} {i j : Nat} {v u : V} (h : (setR ρ i v)[j]? = some (some u)) : (j = i ∧ u = v) ∨ (j ≠ i ∧ ρ[j]? = some (some u)) := by
  unfold setR at h
  by_cases q : i = j
  · subst q
    rw [List.getElem?_set] at h
    simp only [if_true] at h
    split at h
    · (injection h); exact .inl ⟨rfl, rfl⟩
    · (injection h)
  · rw [List.getElem?_set_ne q] at h
    exact .inr ⟨fun e => q e.symm, h⟩
theorem store_var {i : Nat} {x : Str} {c : Value} {v : V} {P : Unit → Shared → Prop} (eo : EnvOk X env names nm) (k : Ok X env nm Pv b F ρ σ s) (hx : nm[i]? = some x) (hl : (names.lookup x = some .local ∧ Pv env.locals) ∨ (names.lookup x = some .cell ∧ ∀ a, env.cells.lookup x = some a → Pv a))
    (r : RelV X F c v) (h : ∀ h' t, Ok X env nm Pv b F (setR ρ i v) σ { s with heap := h', toks := t } → P () { s with heap := h', toks := t }) : wpAny M A (storeName env x c) P E s := by
  have idx : ∀ j, nm[j]? = some x → j = i := fun j hj => by
    have hi' := (List.getElem?_eq_some_iff.mp hx).1
    have hj' := (List.getElem?_eq_some_iff.mp hj).1
    exact (List.getElem?_inj hj' eo.nd).mp (hj.trans hx.symm)
  rcases hl with ⟨hl, hpv⟩ | ⟨hl, hpv⟩
  · have hk : env.kindOf x = some .local := (eo.kindOf x).trans hl
    obtain ⟨m, hn, hm⟩ := k.fo.fr.loc
    refine wpAny_storeName_local hk hn (fun h' hn' hs => ?_) eo.store
    have keep : ∀ a o, a ≠ env.locals → s.heap.get? a = some o → h'.get? a = some o := fun a o n e => hs.extBut a o n e
    have pl := k.fo.fr.prv _ (.inl rfl)
    refine h h' _ ⟨⟨k.fo.g, ⟨fun a o e => keep a o (by rintro rfl; rw [pl.1] at e; (injection e)) (k.fo.st.fro a o e), fun a m e => ?_⟩, ⟨⟨_, hn', fun j y u hj hu hy => ?_⟩, fun j y u hj hu hy => ?_, fun y a ha => ?_, k.fo.fr.dist, k.fo.fr.prv⟩⟩, ?_, k.shd.trans ⟨h', _, rfl⟩⟩
    · obtain ⟨f, o, ho, r⟩ := k.fo.st.own a m e
      exact ⟨f, o, keep a o (by rintro rfl; rw [pl.2] at e; (injection e)) ho, r⟩
    · rcases set_get hu with ⟨rfl, rfl⟩ | ⟨ne, hu⟩
      · have : y = x := Option.some.inj (hj.symm.trans hx)
        exact ⟨c, if_pos this, r⟩
      · obtain ⟨c', hc', r'⟩ := hm j y u hj hu hy
        refine ⟨c', ?_, r'⟩
        rw [if_neg (by rintro rfl; exact ne (idx j hj))]; exact hc'
    · rcases set_get hu with ⟨rfl, rfl⟩ | ⟨ne, hu⟩
      · have : y = x := Option.some.inj (hj.symm.trans hx)
        exact absurd (this ▸ hk) hy
      · obtain ⟨a, c', ha, hc', r'⟩ := k.fo.fr.cel j y u hj hu hy
        exact ⟨a, c', ha, isCell_keep hc' fun o e => keep a o (by
          rintro rfl
          obtain ⟨o1, ho1, hd1⟩ := hc'
          obtain ⟨o2, _, _, ho2, hd2, _⟩ := hn
          rw [ho1] at ho2; (injection ho2); rw [hd1] at hd2; (injection hd2)) e, r'⟩
    · obtain ⟨v', hv'⟩ := k.fo.fr.cells y a ha
      exact ⟨v', isCell_keep hv' fun o e => keep a o (by
          rintro rfl
          obtain ⟨o1, ho1, hd1⟩ := hv'
          obtain ⟨o2, _, _, ho2, hd2, _⟩ := hn
          rw [ho1] at ho2; (injection ho2); rw [hd1] at hd2; (injection hd2)) e⟩
    · refine k.stp.trans ⟨.refl F, fun a o e ι n => keep a o (fun q => n (q ▸ hpv)) e, fun a q => q.elim .inl fun q => .inr (.inl q), fun a q => ?_⟩ k.fo.st
      by_cases e : a = env.locals
      · subst e; obtain ⟨o, _, _, ho, _⟩ := hn'; rw [ho]; rfl
      · obtain ⟨o, ho⟩ := Option.isSome_iff_exists.mp q; rw [keep a o e ho]; rfl
  · have hk : env.kindOf x = some .cell := (eo.kindOf x).trans hl
    obtain ⟨a, ha⟩ := Option.isSome_iff_exists.mp (eo.cells x (.inl hl))
    obtain ⟨v₀, hv₀⟩ := k.fo.fr.cells x a ha
    refine wpAny_storeName_cell eo.kind hk ha hv₀ fun h' hc' hs => ?_
    have keep : ∀ d o, d ≠ a → s.heap.get? d = some o → h'.get? d = some o := fun d o n e => hs.extBut d o n e
    have pl := k.fo.fr.prv a (.inr ⟨x, ha⟩)
    obtain ⟨m, hn, hm⟩ := k.fo.fr.loc
    have nl : env.locals ≠ a := by
      rintro rfl
      obtain ⟨o1, ho1, hd1⟩ := hv₀
      obtain ⟨o2, _, _, ho2, hd2, _⟩ := hn
      rw [ho1] at ho2; (injection ho2); rw [hd1] at hd2; (injection hd2)
    refine h h' s.toks ⟨⟨k.fo.g, ⟨fun d o e => keep d o (by rintro rfl; rw [pl.1] at e; (injection e)) (k.fo.st.fro d o e), fun d m e => ?_⟩, ⟨⟨m, hn.at' (fun o e => keep _ o nl e), fun j y u hj hu hy => ?_⟩, fun j y u hj hu hy => ?_, fun y d hd => ?_, k.fo.fr.dist, k.fo.fr.prv⟩⟩, ?_, k.shd.trans ⟨h', _, rfl⟩⟩
    · obtain ⟨f, o, ho, r⟩ := k.fo.st.own d m e
      exact ⟨f, o, keep d o (by rintro rfl; rw [pl.2] at e; (injection e)) ho, r⟩
    · rcases set_get hu with ⟨rfl, rfl⟩ | ⟨ne, hu⟩
      · have : y = x := Option.some.inj (hj.symm.trans hx)
        rw [this, hk] at hy; (injection hy)
      · exact hm j y u hj hu hy
    · rcases set_get hu with ⟨rfl, rfl⟩ | ⟨ne, hu⟩
      · have : y = x := Option.some.inj (hj.symm.trans hx)
        exact ⟨a, c, this ▸ ha, hc', r⟩
      · obtain ⟨d, c', hd, hc'', r'⟩ := k.fo.fr.cel j y u hj hu hy
        refine ⟨d, c', hd, isCell_keep hc'' fun o e => keep d o (fun q => ne (idx j ?_)) e, r'⟩
        subst q
        rw [hj, k.fo.fr.dist y x d hd ha]
    · by_cases q : d = a
      · subst q; exact ⟨_, hc'⟩
      · obtain ⟨v', hv'⟩ := k.fo.fr.cells y d hd
        exact ⟨v', isCell_keep hv' fun o e => keep d o q e⟩
    · refine k.stp.trans ⟨.refl F, fun d o e ι n => keep d o (fun q => n (q ▸ hpv a ha)) e, fun d q => q.elim .inl fun q => .inr (.inl q), fun d q => ?_⟩ k.fo.st
      by_cases e : d = a
      · subst e; obtain ⟨o, ho, _⟩ := hc'; rw [ho]; rfl
      · obtain ⟨o, ho⟩ := Option.isSome_iff_exists.mp q; rw [keep d o e ho]; rfl
end
end
section
variable {X : Cx}
noncomputable def opB : Bop → Operator
  | .add => .Add | .sub => .Sub | .mul => .Mult | .fdiv => .FloorDiv | .mod => .Mod | .pow => .Pow | .and => .BitAnd | .or => .BitOr | .xor => .BitXor
section
variable {A : Around} {Eb : Value → Shared → Prop} {s : Shared} {F : Fz} {σ : So}
theorem log2_small {b : Int} (h0 : 0 < b) (h : b < 18446744073709551616) : b.natAbs.log2 < 9000 := by
  have : b.natAbs < 2 ^ 64 := by omega
  have h2 := (Nat.log2_lt (by omega : b.natAbs ≠ 0)).mpr this
  omega
theorem bits_big {a : Int} (h : a.natAbs < big) : Builtin.Int.intBits a ≤ 64 := by
  unfold big at h
  exact intBits_le_64 (by lia) (by lia)
theorem pow_bits {i j : Int} (q0 : 0 ≤ i) (q1 : i ≤ 256) (q2 : 0 ≤ j) (q3 : j < 64) : Builtin.Int.intBits i * j ≤ 2 ^ 27 := by
  have := bits_big (a := i) (by unfold big; lia)
  have h1 : (0 : Int) ≤ Builtin.Int.intBits i := by lia
  have : ((Builtin.Int.intBits i : Nat) : Int) * j ≤ 64 * 64 := Int.mul_le_mul (by lia) (by lia) q2 (by lia)
  lia
theorem bin_ok {o : Bop} {a b v : V} {ca cb : Value} {P : Value → Shared → Prop} (h : binV o a b = some v) (ra : RelV X F ca a) (rb : RelV X F cb b)
    (hP : ∀ c t, RelV X F c v → P c { s with toks := t }) : wpAny (model X.prog X.w) A (binaryOp (opB o) ca cb) P Eb s := by
  obtain ⟨i, j, r, rfl, rfl, hr, rfl⟩ := binV_inv h
  obtain ⟨_, rfl⟩ := iVi ra
  obtain ⟨_, rfl⟩ := iVi rb
  cases o with
  | add => cases hr; exact add_int (hP _ _ (.int ..))
  | sub => cases hr; exact sub_int (hP _ _ (.int ..))
  | mul => obtain ⟨q, hr⟩ := if_inv hr; cases hr; exact mul_int (hP _ _ (.int ..)) (.of_left (bits_big q.1))
  | fdiv =>
    obtain ⟨q, hr⟩ := if_inv hr
    cases hr
    refine floordiv_int (Int.ne_of_gt q.1) ?_ (.inl (PyProof.noPylong_of_log2 (log2_small q.1 q.2)))
    rw [Int.fdiv_eq_ediv_of_nonneg _ (Int.le_of_lt q.1)]
    exact hP _ _ (.int ..)
  | mod =>
    obtain ⟨q, hr⟩ := if_inv hr
    cases hr
    refine mod_int' (Int.ne_of_gt q.1) ?_
    rw [Int.fmod_eq_emod_of_nonneg _ (Int.le_of_lt q.1)]
    exact hP _ _ (.int ..)
  | pow =>
    obtain ⟨q, hr⟩ := if_inv hr
    cases hr
    exact pow_int q.2.2.1 (pow_bits q.1 q.2.1 q.2.2.1 q.2.2.2) (hP _ _ (.int ..))
  | and => cases hr; exact and_int (hP _ _ (.int ..))
  | or => cases hr; exact or_int (hP _ _ (.int ..))
  | xor => cases hr; exact xor_int (hP _ _ (.int ..))
theorem add_ok {a b v : V} {ca cb : Value} {P : Value → Shared → Prop} (h : binV .add a b = some v) (ra : RelV X F ca a) (rb : RelV X F cb b)
    (hP : ∀ c t, RelV X F c v → P c { s with toks := t }) : wpAny (model X.prog X.w) A (inplaceOp .Add ca cb) P Eb s := by
  obtain ⟨i, j, r, rfl, rfl, hr, rfl⟩ := binV_inv h
  obtain ⟨_, rfl⟩ := iVi ra
  obtain ⟨_, rfl⟩ := iVi rb
  cases hr
  exact wpAny_iadd_int (hP _ _ (.int ..))
theorem RelVs.length {cs : List Value} {vs : List V} (h : RelVs X F cs vs) : cs.length = vs.length := by
  induction cs generalizing vs with
  | nil => (injection h); rfl
  | cons c cs ih => cases h with | cons _ h => simp [ih h]
inductive GetV (X : Cx) (F : Fz) (cs : List Value) (i : Nat) (v : V) : Prop
  | mk (c : Value) (h : cs[i]? = some c) (r : RelV X F c v)
theorem RelVs.get {cs : List Value} {vs : List V} (h : RelVs X F cs vs) {i : Nat} {v : V} (e : vs[i]? = some v) : GetV X F cs i v := by
  induction cs generalizing vs i with
  | nil => (injection h); (injection i) <;> (injection e)
  | cons c cs ih =>
    cases h with
    | cons h0 h =>
      cases i with
      | zero => (injection e); exact ⟨c, rfl, h0⟩
      | succ i => obtain ⟨c, h1, r⟩ := ih h e; exact ⟨c, h1, r⟩
theorem RelVs.append {cs cs' : List Value} {vs vs' : List V} (h : RelVs X F cs vs) (h' : RelVs X F cs' vs') : RelVs X F (cs ++ cs') (vs ++ vs') := by
  induction cs generalizing vs with
  | nil => (injection h); exact h'
  | cons c cs ih => cases h with | cons h0 h => exact .cons h0 (ih h)
theorem RelVs.take {cs : List Value} {vs : List V} (h : RelVs X F cs vs) (k : Nat) : RelVs X F (cs.take k) (vs.take k) := by
  induction cs generalizing vs k with
  | nil => (injection h); rw [List.take_nil, List.take_nil]; exact .nil
  | cons c cs ih =>
    cases h with
    | cons h0 h => cases k with
      | zero => exact .nil
      | succ k => exact .cons h0 (ih h k)
theorem RelVs.reverse {cs : List Value} {vs : List V} (h : RelVs X F cs vs) : RelVs X F cs.reverse vs.reverse := by
  induction cs generalizing vs with
  | nil => (injection h); exact .nil
  | cons c cs ih => cases h with | cons h0 h => rw [List.reverse_cons, List.reverse_cons]; exact (ih h).append (.cons h0 .nil)
theorem RelVs.set {cs : List Value} {vs : List V} (h : RelVs X F cs vs) {c : Value} {v : V} (r : RelV X F c v) (k : Nat) : RelVs X F (cs.set k c) (vs.set k v) := by
  induction cs generalizing vs k with
  | nil => (injection h); exact .nil
  | cons c cs ih =>
    cases h with
    | cons h0 h => cases k with
      | zero => exact .cons r h
      | succ k => exact .cons h0 (ih h k)
inductive SplV (X : Cx) (F : Fz) (cs : List Value) (vs : List V) (v : V) : Prop
  | mk (cs' : List Value) (c : Value) (e : cs = cs' ++ [c]) (h : RelVs X F cs' vs) (r : RelV X F c v)
theorem RelVs.split {cs : List Value} {vs : List V} {v : V} (h : RelVs X F cs (vs ++ [v])) : SplV X F cs vs v := by
  induction vs generalizing cs with
  | nil => cases h with | cons h0 h => (injection h); exact ⟨[], _, rfl, .nil, h0⟩
  | cons u vs ih =>
    cases h with
    | cons h0 h =>
      obtain ⟨cs', c, rfl, h1, h2⟩ := ih h
      exact ⟨_ :: cs', c, rfl, .cons h0 h1, h2⟩
theorem list_at (S : St X F σ s.heap) {c : Value} {v : V} {vs : List V} (r : RelV X F c v) (h : listV σ v = some vs) : SeqIs "list" X s.heap.get? F c vs := by
  cases listV_inv h with
  | op e => subst e; obtain ⟨a, cs, n, rfl, h1, h2⟩ := iVl r; exact ⟨a, cs, n, rfl, S.fro _ _ h1, h2⟩
  | at_ a e q =>
    subst e; cases iVr r
    obtain ⟨f, o, ho, ro⟩ := S.own a _ q
    obtain ⟨cs, n, rfl, r⟩ := ro.iLst
    exact ⟨a, cs, n, rfl, ho, r⟩
theorem isList_of {h : Heap} {a : Addr} {cs : List Value} {n : Nat} (e : h.get? a = some (seqObj "list" cs n)) : h.IsList a cs.toArray := ⟨_, e, rfl, n, rfl⟩
theorem isTuple_of {h : Heap} {a : Addr} {cs : List Value} {n : Nat} (e : h.get? a = some (seqObj "tuple" cs n)) : h.IsTuple a cs.toArray := ⟨_, e, rfl, n, rfl⟩
theorem truth_ok (S : St X F σ s.heap) {c : Value} {v : V} {b : Bool} {P : Bool → Shared → Prop} (r : RelV X F c v) (h : truthV σ v = some b) (hP : ∀ t, P b { s with toks := t }) :
    wpAny (model X.prog X.w) A (truthy c) P Eb s := by
  cases truthV_inv h with
  | op e => subst e; cases iVb r; exact wpAny_truthy_bool (hP s.toks)
  | at_ a vs e q lt eb =>
    subst e; cases iVr r
    obtain ⟨f, o, ho, ro⟩ := S.own a _ q
    obtain ⟨cs, n, rfl, r⟩ := ro.iLst
    subst eb
    have this : (!vs.isEmpty) = !(cs.toArray).isEmpty := by cases r <;> rfl
    rw [this] at hP
    refine wpAny_truthy_list (isList_of ho) ?_ (hP _)
    rw [List.size_toArray, r.length]
    have := lt
    unfold lid at this
    lia
end
end
section
variable {X : Cx}
noncomputable def attN : List Nm := [.op, .dst, .args, .more, .volat, .line, .number, .steps, .end_, .params, .static_, .slots, .blocks, .registers, .hasv, .operands, .shapes, .made, .setAt, .now, .name]
noncomputable def clN : List Cl := [.Step, .Block, .Func, .Lasting, .Facts]
noncomputable def methN : List (Fn × Nm) := [(.holds, .holds), (.best, .best), (.shape, .shape), (.learn, .learn), (.passStep, .passStep)]
noncomputable def initN : List (Cl × Fn) := [(.Step, .stepInit), (.Block, .blockInit), (.Func, .funcInit), (.Lasting, .lastingInit), (.Facts, .factsInit)]
noncomputable def clsLook (K : Frag) (C : Addr) : Bool :=
  hasDictIn K C && plainOver K C && (findIn K (.ref C) "__setattr__" == some (some (.builtin "object.__setattr__"))) && makesIn K C &&
  attN.all fun n => plainGet K C n.str && findIn K (.ref C) n.str == some none && takerIn K C n.str == some none
noncomputable def fnRef (v : Value) : Option Addr := match v with | .ref a => some a | _ => none
noncomputable def cxLook (X : Cx) : Bool :=
  (clN.all fun C => clsLook X.K (X.ca C)) &&
  (methN.all fun p => match X.fa p.1 with | .ref f => findIn X.K (.ref (X.ca .Facts)) p.2.str == some (some (.ref f)) && isFn X.K (.ref f) && fnIn X.K f | _ => false) &&
  (initN.all fun p => match X.fa p.2 with | .ref f => findIn X.K (.ref (X.ca p.1)) "__init__" == some (some (.ref f)) && isFn X.K (.ref f) | _ => false)
noncomputable def keptV (K : Frag) (v : Value) : Bool := match v with
  | .builtin _ => true
  | .type _ => true
  | v => keepIn K v
structure CxOk (X : Cx) : Prop where
  kept : ∀ f : Fn, f.at_.isSome = true → keptV X.K (X.fa f) = true
  look : cxLook X = true
  clsAt : ∀ C, X.fa (.cls C) = .ref (X.ca C)
theorem CxOk.cls (c : CxOk X) (C : Cl) : clsLook X.K (X.ca C) = true := by
  have h := c.look
  simp only [cxLook, Bool.and_eq_true] at h
  exact List.all_eq_true.mp h.1.1 C (by (injection C) <;> simp [clN])
theorem CxOk.att (c : CxOk X) (C : Cl) {n : Nm} (hn : attN.contains n = true) : plainGet X.K (X.ca C) n.str = true ∧ findIn X.K (.ref (X.ca C)) n.str = some none ∧ takerIn X.K (X.ca C) n.str = some none := by
  have h := c.cls C
  simp only [clsLook, Bool.and_eq_true] at h
  have := List.all_eq_true.mp h.2 n (List.contains_iff_mem.mp hn)
  simp only [Bool.and_eq_true, beq_iff_eq] at this
  exact ⟨this.1.1, this.1.2, this.2⟩
theorem CxOk.base (c : CxOk X) (C : Cl) : hasDictIn X.K (X.ca C) = true ∧ plainOver X.K (X.ca C) = true ∧ findIn X.K (.ref (X.ca C)) "__setattr__" = some (some (.builtin "object.__setattr__")) ∧ makesIn X.K (X.ca C) = true := by
  have h := c.cls C
  simp only [clsLook, Bool.and_eq_true, beq_iff_eq] at h
  exact ⟨h.1.1.1.1, h.1.1.1.2, h.1.1.2, h.1.2⟩
section
variable {F : Fz}
theorem isStr_iff {n m : Nm} {t : Tok} : (Value.str n.str t).isStr m.str = decide (n = m) := by
  show (n.str == m.str) = _
  by_cases h : n = m
  · subst h; simp
  · rw [decide_eq_false h]; exact beq_eq_false_iff_ne.mpr fun q => h (Nm.str_inj q)
theorem relD_get {es : List DictEntry} {fs : List (Nm × V)} (r : RelD X F es fs) (n : Nm) :
    (∀ v, look fs n = some v → ∃ c, getL n.str es = some (some c) ∧ RelV X F c v) ∧ (look fs n = none → getL n.str es = some none) := by
  induction es generalizing fs with
  | nil => (first | (obtain rfl := iVr r) | (obtain ⟨_, rfl⟩ := iVi r) | (obtain rfl := iV0 r) | (obtain rfl := iVb r) | (obtain ⟨_, rfl⟩ := iVs r) | (obtain ⟨_, _, _, rfl, _, _⟩ := iVt r) | (obtain ⟨_, _, _, rfl, _, _⟩ := iVl r) | (obtain ⟨_, _, _, rfl, _, _, _, _⟩ := iVd r) | (obtain ⟨_, _, _, rfl, _, _, _, _⟩ := iVS r) | (obtain ⟨_, _, _, _, rfl, _, _, _⟩ := iVo r) | cases r); exact ⟨fun ι h => (nomatch h), fun ι => rfl⟩
  | cons e es ih =>
    cases r with
    | @cons m h t c v es fs h1 h2 =>
      obtain ⟨i1, i2⟩ := ih h2
      unfold getL at i1 i2 ⊢
      simp only [look, List.find?_cons, isStr_iff, List.any_cons]
      by_cases q : m = n
      · subst q
        simp only [if_true, decide_true]
        exact ⟨fun u hu => by (injection hu); exact ⟨c, rfl, h1⟩, fun hu => (nomatch hu)⟩
      · simp only [if_neg q, decide_eq_false q]
        exact ⟨i1, i2⟩
theorem relD_put {es : List DictEntry} {fs : List (Nm × V)} (r : RelD X F es fs) {n : Nm} {c : Value} {v : V} (rv : RelV X F c v) (h : Int) (t : Tok) : RelD X F (putL n.str h (.str n.str t) c es) (put fs n v) := by
  induction es generalizing fs with
  | nil => (first | (obtain rfl := iVr r) | (obtain ⟨_, rfl⟩ := iVi r) | (obtain rfl := iV0 r) | (obtain rfl := iVb r) | (obtain ⟨_, rfl⟩ := iVs r) | (obtain ⟨_, _, _, rfl, _, _⟩ := iVt r) | (obtain ⟨_, _, _, rfl, _, _⟩ := iVl r) | (obtain ⟨_, _, _, rfl, _, _, _, _⟩ := iVd r) | (obtain ⟨_, _, _, rfl, _, _, _, _⟩ := iVS r) | (obtain ⟨_, _, _, _, rfl, _, _, _⟩ := iVo r) | cases r); exact .cons rv .nil
  | cons e es ih =>
    cases r with
    | @cons m h t c' v' es fs h1 h2 =>
      unfold putL put
      simp only [isStr_iff]
      by_cases q : m = n
      · subst q; simp only [if_true, decide_true]; exact .cons rv h2
      · simp only [if_neg q, decide_eq_false q]; exact .cons h1 (ih h2)
theorem relD_length {es : List DictEntry} {fs : List (Nm × V)} (r : RelD X F es fs) : es.length = fs.length := by
  induction es generalizing fs with
  | nil => (first | (obtain rfl := iVr r) | (obtain ⟨_, rfl⟩ := iVi r) | (obtain rfl := iV0 r) | (obtain rfl := iVb r) | (obtain ⟨_, rfl⟩ := iVs r) | (obtain ⟨_, _, _, rfl, _, _⟩ := iVt r) | (obtain ⟨_, _, _, rfl, _, _⟩ := iVl r) | (obtain ⟨_, _, _, rfl, _, _, _, _⟩ := iVd r) | (obtain ⟨_, _, _, rfl, _, _, _, _⟩ := iVS r) | (obtain ⟨_, _, _, _, rfl, _, _, _⟩ := iVo r) | cases r); rfl
  | cons e es ih => cases r with | cons _ h => simp [ih h]
theorem putL_length (name : Str) (h : Int) (k v : Value) : ∀ es : List DictEntry, (putL name h k v es).length ≤ es.length + 1
  | [] => Nat.le_refl _
  | e :: es => by
    unfold putL
    split
    · simp
    · have := putL_length name h k v es; simp only [List.length_cons]; lia
end
section
variable {A : Around} {Eb : Value → Shared → Prop} {s : Shared} {F : Fz} {σ : So}
theorem handed_rel {c : Value} {v : V} (r : RelV X F c v) : handedIn c = true := by (first | (obtain rfl := iVr r) | (obtain ⟨_, rfl⟩ := iVi r) | (obtain rfl := iV0 r) | (obtain rfl := iVb r) | (obtain ⟨_, rfl⟩ := iVs r) | (obtain ⟨_, _, _, rfl, _, _⟩ := iVt r) | (obtain ⟨_, _, _, rfl, _, _⟩ := iVl r) | (obtain ⟨_, _, _, rfl, _, _, _, _⟩ := iVd r) | (obtain ⟨_, _, _, rfl, _, _, _, _⟩ := iVS r) | (obtain ⟨_, _, _, _, rfl, _, _, _⟩ := iVo r) | cases r) <;> rfl
theorem obj_at (S : St X F σ s.heap) {c : Value} {v : V} {C : Cl} {fs : List (Nm × V)} (r : RelV X F c v) (h : fieldsV σ v = some (C, fs)) : ObIs X s.heap.get? F c C fs := by
  cases fieldsV_inv h with
  | op e => subst e; obtain ⟨a, dx, es, n, rfl, h1, h2, h3⟩ := iVo r; exact ⟨a, dx, es, n, rfl, S.fro _ _ h1, S.fro _ _ h2, h3⟩
  | at_ a dx e e1 e2 =>
    subst e; cases iVr r
    obtain ⟨f, o, ho, ro⟩ := S.own a _ e1
    obtain ⟨f2, o2, ho2, ro2⟩ := S.own dx _ e2
    cases ro.iObj
    obtain ⟨es, n, rfl, r2⟩ := ro2.iNs
    exact ⟨a, dx, es, n, rfl, ho, ho2, r2⟩
theorem attr_ok (c : CxOk X) (G : Grd X F) (S : St X F σ s.heap) {co : Value} {o u : V} {C : Cl} {fs : List (Nm × V)} {n : Nm} {expr : Bool} {P : Value → Shared → Prop} (r : RelV X F co o) (h : fieldsV σ o = some (C, fs)) (hn : attN.contains n = true)
    (hl : look fs n = some u) (hP : ∀ c t, RelV X F c u → P c { s with toks := t }) : wpAny (model X.prog X.w) A (getAttr co n.str expr) P Eb s := by
  obtain ⟨a, dx, es, k, rfl, h1, h2, rd⟩ := obj_at S r h
  obtain ⟨g1, g2, -⟩ := c.att C hn
  obtain ⟨b1, -, -, -⟩ := c.base C
  obtain ⟨cu, hg, ru⟩ := (relD_get rd n).1 u hl
  have I : W.InstAt s.heap a (instObj (X.ca C) dx) (X.ca C) (some (dictOf es k)) := ⟨h1, rfl, rfl, h2⟩
  exact get_value (S.inK G) I (plainGet_of g1).1 (findObj_own b1 g2 rfl hg) (handed_rel ru) (hP _ _ ru)
theorem setattr_at {K : Frag} {C x dx : Addr} {es : List DictEntry} {k : Nat} {name : Str} {v : Value} {P : Unit → Shared → Prop} (XK : K.In s.heap) (h1 : s.heap.get? x = some (instObj C dx)) (h2 : s.heap.get? dx = some (dictOf es k))
    (hh : hasDictIn K C = true) (hp : plainOver K C = true) (hs : findIn K (.ref C) "__setattr__" = some (some (.builtin "object.__setattr__"))) (ht : takerIn K C name = some none) (hl : (getL name es).isSome = true) (hz : es.length < 900)
    (hP : ∀ h' t u hsh, h'.get? dx = some (dictOf (putL name hsh (.str name u) v es) (putN name es k)) → (∀ b o, b ≠ dx → s.heap.get? b = some o → h'.get? b = some o) → P () { s with heap := h', toks := t }) :
    wpAny (model X.prog X.w) A (setAttr (.ref x) name v) P Eb s := by
  have I : W.InstAt s.heap x (instObj C dx) C (some (dictOf es k)) := ⟨h1, rfl, rfl, h2⟩
  obtain ⟨cd, hc, hd⟩ := any_some (show (clsIn K C).any (·.hasDict) = true from hh)
  refine set_plain XK I hs ?_
  refine osa_open (s := { s with toks := s.toks + 1 }) XK I hp ht fun b => ?_
  refine wpAny_bind (wpAny_pure (wpAny_bind (wpAny_bind (wpAny_loadPart h1 (wpAny_bind ((looks_clsIn (h := s.heap) XK hc) _ _ _ _ (fun ι ι e => e) ?_))))))
  rw [hd]
  refine wpAny_pure (a := some dx) (wpAny_bind (wpAny_pure (wpAny_bind ?_)))
  unfold nsSet
  refine wpAny_bind (wpAny_bind (wpAny_askSetting (wpAny_pure (wpAny_bind (wpAny_mkText (wpAny_bind (wpAny_loadPart h2 ?_)))))))
  have nokey : (!(es.toArray.any (·.key.isStr name)) && es.toArray.any (·.refKey)) = false := by
    rw [← Array.any_toList, ← Array.any_toList]
    unfold getL at hl
    cases q : es.find? (·.key.isStr name) with
    | some e => rw [List.any_eq_true.mpr ⟨e, List.mem_of_find?_eq_some q, List.find?_some q⟩]; rfl
    | none =>
      rw [q] at hl
      cases q2 : es.any (·.refKey) with
      | true => rw [q2] at hl; (injection hl)
      | false => rw [Bool.and_false]
  dsimp only
  rw [aRefKeyMayBeTheName_at, nokey]
  have hu := putName_dict name (PyData.keyHash X.w.params name) (.str name (s.toks + 1)) v es k
  have hg : ∀ h' : Heap, h' = s.heap.update dx (Obj.putName name (PyData.keyHash X.w.params name) (.str name (s.toks + 1)) v) → h'.get? dx = some (dictOf (putL name (PyData.keyHash X.w.params name) (.str name (s.toks + 1)) v es) (putN name es k)) := by
    rintro h' rfl
    rw [← hu]
    exact Heap.get?_update_self _ h2 (by rw [hu]; rfl)
  refine wpAny_updatePart h2 (wpAny_bind (wpAny_lookBehind (hg _ rfl) (pastItsLine_dict ?_) (wpAny_pure ?_)))
  · have := putL_length name (PyData.keyHash X.w.params name) (.str name (s.toks + 1)) v es
    rw [List.size_toArray, sizeLine_eq]; lia
  · exact hP _ _ _ _ (hg _ rfl) (fun b o n e => (Heap.get?_update_other _ _ (Ne.symm n)).trans e)
set_option tactic.hygienic true in
theorem setattr_ok (c : CxOk X) (G : Grd X F) (S : St X F σ s.heap) {l dx : Addr} {cv : Value} {v : V} {C : Cl} {fs : List (Nm × V)} {n : Nm} {P : Unit → Shared → Prop} (h1 : σ l = some (.obj C dx)) (h2 : σ dx = some (.ns fs)) (hf : fs.length < 100) (hn : attN.contains n = true)
    (rv : RelV X F cv v) (hP : ∀ h' t, Nx X F σ s.heap F (upd σ dx (.ns (put fs n v))) h' → P () { s with heap := h', toks := t }) : wpAny (model X.prog X.w) A (setAttr (.ref l) n.str cv) P Eb s := by
  obtain ⟨f, o, ho, r⟩ := S.own l _ h1
  obtain ⟨f2, o2, ho2, r2⟩ := S.own dx _ h2
  (first | (obtain rfl := iVr r) | (obtain ⟨_, rfl⟩ := iVi r) | (obtain rfl := iV0 r) | (obtain rfl := iVb r) | (obtain ⟨_, rfl⟩ := iVs r) | (obtain ⟨_, _, _, rfl, _, _⟩ := iVt r) | (obtain ⟨_, _, _, rfl, _, _⟩ := iVl r) | (obtain ⟨_, _, _, rfl, _, _, _, _⟩ := iVd r) | (obtain ⟨_, _, _, rfl, _, _, _, _⟩ := iVS r) | (obtain ⟨_, _, _, _, rfl, _, _, _⟩ := iVo r) | cases r); (first | (obtain rfl := iVr r2) | (obtain ⟨_, rfl⟩ := iVi r2) | (obtain rfl := iV0 r2) | (obtain rfl := iVb r2) | (obtain ⟨_, rfl⟩ := iVs r2) | (obtain ⟨_, _, _, rfl, _, _⟩ := iVt r2) | (obtain ⟨_, _, _, rfl, _, _⟩ := iVl r2) | (obtain ⟨_, _, _, rfl, _, _, _, _⟩ := iVd r2) | (obtain ⟨_, _, _, rfl, _, _, _, _⟩ := iVS r2) | (obtain ⟨_, _, _, _, rfl, _, _, _⟩ := iVo r2) | cases r2)
  rename_i es k rd
  obtain ⟨-, -, g3⟩ := c.att C hn
  obtain ⟨b1, b2, b3, -⟩ := c.base C
  refine setattr_at (S.inK G) ho ho2 b1 b2 b3 g3 ?_ (by rw [relD_length rd]; lia) fun h' t u hsh hg hk => hP h' t (.chg S h2 hg (.ns (relD_put rd rv _ _)) hk)
  cases q : look fs n with
  | some u => obtain ⟨_, hu, _⟩ := (relD_get rd n).1 u q; rw [hu]; rfl
  | none => rw [(relD_get rd n).2 q]; rfl
end
end
section
variable {X : Cx}
section
variable {F : Fz}
theorem relI_look {kvs : List (Int × Value)} {es : List (Int × V)} (r : RelI X F kvs es) (i : Int) : (∀ v, look es i = some v → ∃ c, valueAt kvs i = some c ∧ RelV X F c v) ∧ (look es i = none → valueAt kvs i = none) := by
  induction kvs generalizing es with
  | nil => (first | (obtain rfl := iVr r) | (obtain ⟨_, rfl⟩ := iVi r) | (obtain rfl := iV0 r) | (obtain rfl := iVb r) | (obtain ⟨_, rfl⟩ := iVs r) | (obtain ⟨_, _, _, rfl, _, _⟩ := iVt r) | (obtain ⟨_, _, _, rfl, _, _⟩ := iVl r) | (obtain ⟨_, _, _, rfl, _, _, _, _⟩ := iVd r) | (obtain ⟨_, _, _, rfl, _, _, _, _⟩ := iVS r) | (obtain ⟨_, _, _, _, rfl, _, _, _⟩ := iVo r) | cases r); exact ⟨fun ι h => (nomatch h), fun ι => rfl⟩
  | cons p kvs ih =>
    cases r with
    | @cons j c v cs vs h1 h2 =>
      obtain ⟨i1, i2⟩ := ih h2
      unfold valueAt at i1 i2 ⊢
      simp only [look, List.find?_cons]
      by_cases q : j = i
      · subst q; simp only [if_true, decide_true]
        exact ⟨fun u hu => by (injection hu); exact ⟨c, rfl, h1⟩, fun hu => (nomatch hu)⟩
      · simp only [if_neg q, decide_eq_false q]; exact ⟨i1, i2⟩
theorem relS_look {kvs : List (Str × Value)} {es : List (Nm × V)} (r : RelS X F kvs es) (n : Nm) : (look es n).isSome = (valueAt kvs n.str).isSome := by
  induction kvs generalizing es with
  | nil => (first | (obtain rfl := iVr r) | (obtain ⟨_, rfl⟩ := iVi r) | (obtain rfl := iV0 r) | (obtain rfl := iVb r) | (obtain ⟨_, rfl⟩ := iVs r) | (obtain ⟨_, _, _, rfl, _, _⟩ := iVt r) | (obtain ⟨_, _, _, rfl, _, _⟩ := iVl r) | (obtain ⟨_, _, _, rfl, _, _, _, _⟩ := iVd r) | (obtain ⟨_, _, _, rfl, _, _, _, _⟩ := iVS r) | (obtain ⟨_, _, _, _, rfl, _, _, _⟩ := iVo r) | cases r); rfl
  | cons p kvs ih =>
    cases r with
    | @cons m c v cs vs h1 h2 =>
      have i1 := ih h2
      unfold valueAt at i1 ⊢
      simp only [look, List.find?_cons]
      by_cases q : m = n
      · subst q; simp
      · have q' : ¬ m.str = n.str := fun e => q (Nm.str_inj e)
        simp only [if_neg q, decide_eq_false q']; exact i1
theorem relI_keys {kvs : List (Int × Value)} {es : List (Int × V)} (r : RelI X F kvs es) : kvs.map (·.1) = es.map (·.1) := by
  induction kvs generalizing es with
  | nil => (first | (obtain rfl := iVr r) | (obtain ⟨_, rfl⟩ := iVi r) | (obtain rfl := iV0 r) | (obtain rfl := iVb r) | (obtain ⟨_, rfl⟩ := iVs r) | (obtain ⟨_, _, _, rfl, _, _⟩ := iVt r) | (obtain ⟨_, _, _, rfl, _, _⟩ := iVl r) | (obtain ⟨_, _, _, rfl, _, _, _, _⟩ := iVd r) | (obtain ⟨_, _, _, rfl, _, _, _, _⟩ := iVS r) | (obtain ⟨_, _, _, _, rfl, _, _, _⟩ := iVo r) | cases r); rfl
  | cons p kvs ih => cases r with | cons _ h => simp [ih h]
set_option tactic.hygienic true in
theorem relI_stored {kvs : List (Int × Value)} {es : List (Int × V)} (r : RelI X F kvs es) (nd : (kvs.map (·.1)).Nodup) {c : Value} {v : V} (rv : RelV X F c v) (i : Int) : RelI X F (stored kvs i c) (put es i v) := by
  have key : ∀ {kvs : List (Int × Value)} {es : List (Int × V)}, RelI X F kvs es → (kvs.map (·.1)).Nodup →
      RelI X F (if kvs.any (fun kv => kv.1 = i) then kvs.map (fun kv => if kv.1 = i then (kv.1, c) else kv) else kvs ++ [(i, c)]) (put es i v) := by
    intro kvs
    induction kvs with
    | nil => intro es r _; (first | (obtain rfl := iVr r) | (obtain ⟨_, rfl⟩ := iVi r) | (obtain rfl := iV0 r) | (obtain rfl := iVb r) | (obtain ⟨_, rfl⟩ := iVs r) | (obtain ⟨_, _, _, rfl, _, _⟩ := iVt r) | (obtain ⟨_, _, _, rfl, _, _⟩ := iVl r) | (obtain ⟨_, _, _, rfl, _, _, _, _⟩ := iVd r) | (obtain ⟨_, _, _, rfl, _, _, _, _⟩ := iVS r) | (obtain ⟨_, _, _, _, rfl, _, _, _⟩ := iVo r) | cases r); exact .cons rv .nil
    | cons p kvs ih =>
      intro es r nd
      cases r with
      | @cons j c' v' cs vs h1 h2 =>
        rw [List.map_cons, List.nodup_cons] at nd
        have i1 := ih h2 nd.2
        simp only [put, List.any_cons, List.map_cons]
        by_cases q : j = i
        · subst q
          simp only [if_true, decide_true, Bool.true_or]
          rw [map_store_of_not_mem kvs j c nd.1]
          exact .cons rv h2
        · simp only [if_neg q, decide_eq_false q, Bool.false_or]
          split
          · rename_i a; rw [if_pos a] at i1; exact .cons h1 i1
          · rename_i a; rw [if_neg a] at i1; exact .cons h1 i1
  exact key r nd
end
section
variable {A : Around} {Eb : Value → Shared → Prop} {s : Shared} {F : Fz} {σ : So}
inductive DictAt (X : Cx) (h : Heap) (F : Fz) (c : Value) (es : List (Int × V)) : Prop
  | mk (a : Addr) (kvs : List (Int × Value)) (e : c = .ref a) (m : (a == sysModules) = false) (d : h.DictOf (intKind X.prog X.w) a kvs) (r : RelI X F kvs es)
theorem dict_at (G : Grd X F) (S : St X F σ s.heap) {c : Value} {v : V} {es : List (Int × V)} (r : RelV X F c v) (h : dictV σ v = some es) : DictAt X s.heap F c es := by
  cases dictV_inv h with
  | op e =>
    subst e
    obtain ⟨a, o, kvs, rfl, h1, h4, h2, h3⟩ := iVd r
    exact ⟨a, kvs, rfl, h4, Heap.dictOf_iff.mpr ⟨_, S.fro _ _ h1, h2⟩, h3⟩
  | at_ a e q =>
    subst e; cases iVr r
    obtain ⟨f, o, ho, ro⟩ := S.own a _ q
    obtain ⟨kvs, d, r⟩ := ro.iDI
    exact ⟨a, kvs, rfl, S.notMods G q, Heap.dictOf_iff.mpr ⟨_, ho, d⟩, r⟩
inductive IdlAt (vs : List V) (i : Int) (v : V) : Prop
  | pos (l : vs.length < lid) (h0 : 0 ≤ i) (h1 : i < vs.length) (h : vs[i.toNat]? = some v)
  | neg (l : vs.length < lid) (h0 : i < 0) (h1 : 0 ≤ i + vs.length) (h : vs[(i + vs.length).toNat]? = some v)
theorem idxL_some {vs : List V} {i : Int} {v : V} (h : idxL vs i = some v) : IdlAt vs i v := by
  unfold idxL at h
  by_cases hl : lid ≤ vs.length
  · rw [if_pos hl] at h; exact nA h
  · rw [if_neg hl] at h
    by_cases h0 : 0 ≤ i
    · rw [if_pos h0] at h
      have hlt := (List.getElem?_eq_some_iff.mp h).1
      exact .pos (Nat.lt_of_not_le hl) h0 (by lia) h
    · rw [if_neg h0] at h
      obtain ⟨h1, h⟩ := if_inv h
      rw [Int.add_comm] at h
      exact .neg (Nat.lt_of_not_le hl) (Int.not_le.mp h0) (by lia) h
inductive IdxAt (σ : So) (c i v : V) : Prop
  | tup (j : Int) (vs : List V) (ei : i = .int j) (h : c = .tup vs) (hl : idxL vs j = some v)
  | lst (j : Int) (vs : List V) (ei : i = .int j) (h : listV σ c = some vs) (hl : idxL vs j = some v)
  | dt (j : Int) (es : List (Int × V)) (ei : i = .int j) (h : dictV σ c = some es) (hl : look es j = some v)
theorem idxV_inv {c i v : V} (h : idxV σ c i = some v) : IdxAt σ c i v := by
  cases i with
  | int j =>
    have key : ∀ {v : V}, (match listV σ c with | some vs => idxL vs j | none => match dictV σ c with | some es => look es j | none => none) = some v → IdxAt σ c (.int j) v := by
      intro v h
      cases q : listV σ c with
      | some vs => rw [q] at h; exact .lst j vs rfl q h
      | none =>
        rw [q] at h
        cases q2 : dictV σ c with
        | some es => dsimp only at h; rw [q2] at h; exact .dt j es rfl q2 h
        | none => dsimp only at h; rw [q2] at h; exact nA h
    cases c with
    | tup vs => exact .tup j vs rfl rfl h
    | _ => exact key h
  | _ => exact nA h
theorem seqIndex_pos {i : Int} {k : Nat} (h0 : 0 ≤ i) (h1 : i < k) : seqIndex? i k = some i.toNat := by
  unfold seqIndex?
  simp only [if_neg (by lia : ¬ i < 0)]
  rw [if_pos (by simp only [Bool.and_eq_true, decide_eq_true_eq]; lia)]
theorem seqIndex_neg {i : Int} {k : Nat} (h0 : i < 0) (h1 : 0 ≤ i + k) : seqIndex? i k = some (i + k).toNat := by
  unfold seqIndex?
  simp only [if_pos h0]
  rw [if_pos (by simp only [Bool.and_eq_true, decide_eq_true_eq]; lia)]
inductive IdxOk (X : Cx) (A : Around) (Eb : Value → Shared → Prop) (s : Shared) (cc ci : Value) (P : Value → Shared → Prop) : Prop
  | mk (T id : String) (ht : s.TypeIs cc T) (hl : typeLookup (.type T) "__getitem__" = pure (some (.builtin id))) (h : wpAny (model X.prog X.w) A (getItem cc ci) P Eb s)
theorem idx_ok (G : Grd X F) (S : St X F σ s.heap) {cc ci : Value} {c i v : V} {P : Value → Shared → Prop} (rc : RelV X F cc c) (ri : RelV X F ci i) (h : idxV σ c i = some v) (hP : ∀ c t, RelV X F c v → P c { s with toks := t }) :
    IdxOk X A Eb s cc ci P := by
  cases idxV_inv h with
  | tup i vs ei ec hi =>
    subst ei; subst ec
    obtain ⟨t, rfl⟩ := iVi ri
    obtain ⟨a, cs, n, rfl, h1, h2⟩ := iVt rc
    have it : IsTup s.heap _ _ := isTuple_of (S.fro _ _ h1)
    refine ⟨"tuple", _, it.typeIs, slot_tuple_getitem.lookup, ?_⟩
    cases idxL_some hi with
    | pos hl a0 a1 hv =>
      obtain ⟨cv, hc, rv⟩ := h2.get hv
      unfold lid at hl
      exact PyProof.Rows.getItem_tuple it (by lia) (by lia) (by rw [List.size_toArray, h2.length]; exact seqIndex_pos a0 a1) (by simpa using hc) (hP cv s.toks rv)
    | neg hl a0 a1 hv =>
      obtain ⟨cv, hc, rv⟩ := h2.get hv
      unfold lid at hl
      exact PyProof.Rows.getItem_tuple it (by lia) (by lia) (by rw [List.size_toArray, h2.length]; exact seqIndex_neg a0 a1) (by simpa using hc) (hP cv s.toks rv)
  | lst i vs ei ec hi =>
    subst ei
    obtain ⟨t, rfl⟩ := iVi ri
    obtain ⟨a, cs, n, rfl, ho, r⟩ := list_at S rc ec
    have il := isList_of ho
    have hlen := r.length
    refine ⟨"list", _, il.typeIs, slot_list_getitem.lookup, ?_⟩
    cases idxL_some hi with
    | pos hl h0 h1 hv =>
      obtain ⟨cv, hc, rv⟩ := r.get hv
      unfold lid at hl
      exact wpAny_getItem_list il h0 (by lia) (by simpa using hc) (hP cv s.toks rv)
    | neg hl h0 h1 hv =>
      obtain ⟨cv, hc, rv⟩ := r.get hv
      unfold lid at hl
      refine wpAny_getItem_list_neg il h0 ?_ (by lia) ?_ (hP cv s.toks rv)
      · rw [List.size_toArray, hlen]; lia
      · rw [List.size_toArray, hlen]; simpa using hc
  | dt i es ei ec hi =>
    subst ei
    obtain ⟨t, rfl⟩ := iVi ri
    obtain ⟨a, kvs, rfl, nm, hd, r⟩ := dict_at G S rc ec
    obtain ⟨cv, hc, rv⟩ := (relI_look r i).1 v hi
    exact ⟨"dict", _, hd.typeIs, slot_dict_getitem.lookup, wpAny_getItem_of (intKind_is ..) hd.mapOf hc (hP cv _ rv)⟩
theorem reads_l (hs : Sub F s.heap.get?) {k : Nat} (ih : ∀ {c : Value} {v : V}, RelV X F c v → okV v k = true → ∃ as, Reads s.heap c (pyV v) as) {cs : List Value} {vs : List V} (r : RelVs X F cs vs) (h : okVs vs k = true) : ∃ as, ReadsAll s.heap cs (pyVs vs) as := by
  induction vs generalizing cs with
  | nil => cases r; exact ⟨_, .nil⟩
  | cons v vs ihv =>
    cases r with
    | cons a b =>
      have e := Bool.and_eq_true_iff.mp (show (okV v k && okVs vs k) = true from h)
      obtain ⟨_, x⟩ := ih a e.1
      obtain ⟨_, y⟩ := ihv b e.2
      exact ⟨_, .cons x y⟩
theorem reads_one (hs : Sub F s.heap.get?) {k : Nat} (ih : ∀ n, k = n + 1 → ∀ {c : Value} {v : V}, RelV X F c v → okV v n = true → ∃ as, Reads s.heap c (pyV v) as) {c : Value} {v : V} (r : RelV X F c v) (h : okV v k = true) : ∃ as, Reads s.heap c (pyV v) as := by
  cases v with
  | none => cases iV0 r; exact ⟨_, .none⟩
  | bool b => cases iVb r; exact ⟨_, .bool b⟩
  | int i => obtain ⟨t, rfl⟩ := iVi r; exact ⟨_, .int i t⟩
  | str n => obtain ⟨t, rfl⟩ := iVs r; exact ⟨_, .str _ t⟩
  | tup vs =>
    cases k with
    | zero => exact nD h
    | succ k =>
      obtain ⟨a, cs, n, rfl, h1, h2⟩ := iVt r
      obtain ⟨as, r⟩ := reads_l hs (ih k rfl) h2 h
      exact ⟨as, reads_tuple_at (hs _ _ h1) rfl rfl r⟩
  | lst vs =>
    cases k with
    | zero => exact nD h
    | succ k =>
      obtain ⟨a, cs, n, rfl, h1, h2⟩ := iVl r
      obtain ⟨as, r⟩ := reads_l hs (ih k rfl) h2 h
      exact ⟨_, reads_list_at (hs _ _ h1) rfl rfl r⟩
  | _ => exact nD h
theorem reads_of (hs : Sub F s.heap.get?) {c : Value} {v : V} {k : Nat} (r : RelV X F c v) (h : okV v k = true) : ∃ as, Reads s.heap c (pyV v) as := by
  induction k generalizing c v with
  | zero => exact reads_one hs (fun ι e => by cases e) r h
  | succ n ih => exact reads_one hs (fun m e {c v} r h => by cases e; exact ih r h) r h
theorem reads_all (hs : Sub F s.heap.get?) {cs : List Value} {vs : List V} {k : Nat} (r : RelVs X F cs vs) (h : okVs vs k = true) : ∃ as, ReadsAll s.heap cs (pyVs vs) as := reads_l hs (reads_of hs) r h
theorem strOk_nm (n : Nm) : PyData.strOk n.str = true := Nm.all_fin (P := fun n => PyData.strOk n.str = true) (by decide +kernel) n
mutual
theorem lay_of : ∀ {v : V} {k : Nat}, okV v k = true → (pyV v).canLay0 = true ∧ (pyV v).depth ≤ k
  | .none, _, _ => by simp [pyV, PyData.canLay0, PyData.depth]
  | .bool _, _, _ => by simp [pyV, PyData.canLay0, PyData.depth]
  | .int _, _, _ => by simp [pyV, PyData.canLay0, PyData.depth]
  | .str n, _, _ => by simp [pyV, PyData.canLay0, PyData.depth, strOk_nm]
  | .tup _, 0, h => by (injection h)
  | .tup vs, k + 1, h => by have := lays_of (vs := vs) (k := k) h; simp only [pyV, PyData.canLay0, PyData.depth]; exact ⟨this.1, by lia⟩
  | .lst _, 0, h => by (injection h)
  | .lst vs, k + 1, h => by have := lays_of (vs := vs) (k := k) h; simp only [pyV, PyData.canLay0, PyData.depth]; exact ⟨this.1, by lia⟩
  | .dI _, _, h => by (injection h)
  | .dS _, _, h => by (injection h)
  | .obj _ _, _, h => by (injection h)
  | .ref _, _, h => by (injection h)
theorem lays_of : ∀ {vs : List V} {k : Nat}, okVs vs k = true → PyData.canLayAll0 (pyVs vs) = true ∧ PyData.depthAll (pyVs vs) ≤ k
  | [], _, _ => by simp [pyVs, PyData.canLayAll0, PyData.depthAll]
  | v :: vs, k, h => by
    simp only [okVs, Bool.and_eq_true] at h
    have a := lay_of (v := v) (k := k) h.1
    have b := lays_of (vs := vs) (k := k) h.2
    simp only [pyVs, PyData.canLayAll0, PyData.depthAll, a.1, b.1, Bool.and_self, true_and]
    lia
end
theorem shaped_of {v : V} (h : okV v 8 = true) : SeqAt.shaped (pyV v) = true := by
  have := lay_of h
  unfold SeqAt.shaped
  rw [this.1, Bool.true_and, decide_eq_true_eq]; lia
noncomputable def opC : Cop → CmpOp
  | .eq => .Eq | .ne => .NotEq | .lt => .Lt | .gt => .Gt | .ge => .GtE | .is_ => .Is | .isNot => .IsNot | .in_ => .In | .notIn => .NotIn
theorem eqG_ii {i j : Int} : eqG (.int i) (.int j) = some (decide (i = j)) := by
  show (if okV (.int i) 8 && okV (.int j) 8 then some (PyData.eqv (pyV (.int i)) (pyV (.int j))) else none) = _
  simp only [okV, pyV, PyData.eqv, Bool.and_self, if_true]
  congr 1
theorem eqG_ss {n m : Nm} : eqG (.str n) (.str m) = some (decide (n = m)) := by
  show (if okV (.str n) 8 && okV (.str m) 8 then some (PyData.eqv (pyV (.str n)) (pyV (.str m))) else none) = _
  simp only [okV, pyV, PyData.eqv, Bool.and_self, if_true]
  by_cases q : n = m
  · subst q; simp
  · rw [decide_eq_false q]; congr 1; exact beq_eq_false_iff_ne.mpr fun e => q (Nm.str_inj e)
theorem eqV_G {a b : V} : eqV a b = eqG a b := by
  cases a with
  | int i => cases b <;> first | exact eqG_ii.symm | rfl
  | str n => cases b <;> first | exact eqG_ss.symm | rfl
  | _ => rfl
theorem eqV_some {a b : V} {r : Bool} (h : eqV a b = some r) : okV a 8 = true ∧ okV b 8 = true ∧ r = PyData.eqv (pyV a) (pyV b) := by
  rw [eqV_G] at h
  obtain ⟨q, h⟩ := if_inv h
  have q := Bool.and_eq_true_iff.mp q
  exact ⟨q.1, q.2, (Option.some.inj h).symm⟩
end
end
section
variable {X : Cx}
section
variable {A : Around} {Eb : Value → Shared → Prop} {s : Shared} {F : Fz} {σ : So}
theorem eqAt_int (A : Around) (s : Shared) (i j : Int) (t u : Tok) : SeqAt.EqAt A s (.int i t) (.int j u) (i == j) := SeqAt.EqAt.int_int i t j u
theorem eqAt_str (A : Around) (s : Shared) (n m : Nm) (t u : Tok) : SeqAt.EqAt A s (.str n.str t) (.str m.str u) (decide (n = m)) := by
  have h := SeqAt.EqAt.str_str (A := A) (s := s) n.str t m.str u
  have e : (n.str == m.str) = decide (n = m) := by
    by_cases q : n = m
    · subst q; simp
    · rw [decide_eq_false q]; exact beq_eq_false_iff_ne.mpr fun z => q (Nm.str_inj z)
  rw [← e]; exact h
noncomputable def intIs (i : Int) : Value → Bool | .int j _ => j == i | _ => false
set_option tactic.hygienic true in
theorem relVs_ints {cs : List Value} {vs : List V} (r : RelVs X F cs vs) (h : vs.all isIntV = true) (i : Int) (u : Tok) :
    (∀ y ∈ cs.toArray, SeqAt.EqAt A s y (.int i u) (intIs i y)) ∧ (cs.toArray.any (intIs i)) = vs.any (eqIntV i) := by
  induction cs generalizing vs with
  | nil => (first | (obtain rfl := iVr r) | (obtain ⟨_, rfl⟩ := iVi r) | (obtain rfl := iV0 r) | (obtain rfl := iVb r) | (obtain ⟨_, rfl⟩ := iVs r) | (obtain ⟨_, _, _, rfl, _, _⟩ := iVt r) | (obtain ⟨_, _, _, rfl, _, _⟩ := iVl r) | (obtain ⟨_, _, _, rfl, _, _, _, _⟩ := iVd r) | (obtain ⟨_, _, _, rfl, _, _, _, _⟩ := iVS r) | (obtain ⟨_, _, _, _, rfl, _, _, _⟩ := iVo r) | cases r); exact ⟨fun y hy => by simp at hy, by simp⟩
  | cons c cs ih =>
    cases r with
    | @cons _ v _ vs h1 h2 =>
      rw [List.all_cons, Bool.and_eq_true] at h
      obtain ⟨i1, i2⟩ := ih h2 h.2
      (injection v) <;> try (exact absurd h.1 Bool.false_ne_true)
      rename_i j
      (injection h1)
      rename_i t
      constructor
      · intro y hy
        simp only [List.mem_toArray, List.mem_cons] at hy i1
        rcases hy with rfl | hy
        · exact eqAt_int A s j i t u
        · exact i1 y hy
      · simp only [List.any_toArray, List.any_cons] at i2 ⊢
        rw [i2]
        congr 1
        show (j == i) = decide (i = j)
        by_cases q : i = j
        · subst q; simp
        · rw [decide_eq_false q]; exact beq_eq_false_iff_ne.mpr fun z => q z.symm
noncomputable def strIs (n : Nm) : Value → Bool | .str x _ => (match Nm.of x with | some m => decide (n = m) | none => false) | _ => false
set_option tactic.hygienic true in
theorem relVs_strs {cs : List Value} {vs : List V} (r : RelVs X F cs vs) (h : vs.all isStrV = true) (n : Nm) (u : Tok) :
    (∀ y ∈ cs.toArray, SeqAt.EqAt A s y (.str n.str u) (strIs n y)) ∧ (cs.toArray.any (strIs n)) = vs.any (eqStrV n) := by
  induction cs generalizing vs with
  | nil => (first | (obtain rfl := iVr r) | (obtain ⟨_, rfl⟩ := iVi r) | (obtain rfl := iV0 r) | (obtain rfl := iVb r) | (obtain ⟨_, rfl⟩ := iVs r) | (obtain ⟨_, _, _, rfl, _, _⟩ := iVt r) | (obtain ⟨_, _, _, rfl, _, _⟩ := iVl r) | (obtain ⟨_, _, _, rfl, _, _, _, _⟩ := iVd r) | (obtain ⟨_, _, _, rfl, _, _, _, _⟩ := iVS r) | (obtain ⟨_, _, _, _, rfl, _, _, _⟩ := iVo r) | cases r); exact ⟨fun y hy => by simp at hy, by simp⟩
  | cons c cs ih =>
    cases r with
    | @cons _ v _ vs h1 h2 =>
      rw [List.all_cons, Bool.and_eq_true] at h
      obtain ⟨i1, i2⟩ := ih h2 h.2
      (injection v) <;> try (exact absurd h.1 Bool.false_ne_true)
      rename_i m
      (injection h1)
      rename_i t
      have e : strIs n (.str m.str t) = decide (n = m) := by simp only [strIs, Nm.of_str]
      constructor
      · intro y hy
        simp only [List.mem_toArray, List.mem_cons] at hy i1
        rcases hy with rfl | hy
        · rw [e]
          have := eqAt_str A s m n t u
          have e2 : decide (n = m) = decide (m = n) := by by_cases q : n = m <;> simp [q, eq_comm]
          rw [e2]; exact this
        · exact i1 y hy
      · simp only [List.any_toArray, List.any_cons] at i2 ⊢
        rw [i2, e]; rfl
inductive InOk (X : Cx) (A : Around) (Eb : Value → Shared → Prop) (s : Shared) (cx cc : Value) (r : Bool) : Prop
  | mk (y : ∀ P : Value → Shared → Prop, (∀ t, P (.bool r) { s with toks := t }) → wpAny (model X.prog X.w) A (compareOp .In cx cc) P Eb s) (n : ∀ P : Value → Shared → Prop, (∀ t, P (.bool (!r)) { s with toks := t }) → wpAny (model X.prog X.w) A (compareOp .NotIn cx cc) P Eb s)
theorem in_list {i : Int} {u : Tok} {a : Addr} {cs : List Value} {n : Nat} {vs : List V} {r : Bool} (ho : s.heap.get? a = some (seqObj "list" cs n)) (rr : RelVs X F cs vs) (h : (if vs.all isIntV then some (vs.any (eqIntV i)) else none) = some r) : InOk X A Eb s (.int i u) (.ref a) r := by
  obtain ⟨q, h⟩ := if_inv h
  obtain ⟨e1, e2⟩ := relVs_ints (A := A.in1) (s := s) rr q i u
  cases e2.trans (Option.some.inj h)
  exact ⟨fun P hP => SeqAt.in_listAt _ (isList_of ho) e1 (hP s.toks), fun P hP => SeqAt.notIn_listAt _ (isList_of ho) e1 (hP s.toks)⟩
theorem in_dict {i : Int} {u : Tok} {a : Addr} {kvs : List (Int × Value)} {es : List (Int × V)} (hm : (a == sysModules) = false) (hd : s.heap.DictOf (intKind X.prog X.w) a kvs) (rr : RelI X F kvs es) : InOk X A Eb s (.int i u) (.ref a) (look es i).isSome := by
  have e : (look es i).isSome = (valueAt kvs i).isSome := by
    cases q : look es i with
    | some v => obtain ⟨c, hc, _⟩ := (relI_look rr i).1 v q; rw [hc]; rfl
    | none => rw [(relI_look rr i).2 q]; rfl
  rw [e]
  exact ⟨fun P hP => wpAny_in_of (intKind_is ..) hm hd.mapOf (hP _), fun P hP => wpAny_notIn_of (intKind_is ..) hm hd.mapOf (hP _)⟩
theorem mem_ok (G : Grd X F) (S : St X F σ s.heap) {cx cc : Value} {x c : V} {r : Bool} (rx : RelV X F cx x) (rc : RelV X F cc c) (h : memV σ x c = some r) : InOk X A Eb s cx cc r := by
  cases x with
  | str n =>
    obtain ⟨t, rfl⟩ := iVs rx
    cases c with
    | dS es =>
      cases h
      obtain ⟨a, o, kvs, rfl, h1, hm, h2, h3⟩ := iVS rc
      have hd : s.heap.DictOf (strKind X.prog X.w) a kvs := Heap.dictOf_iff.mpr ⟨_, S.fro _ _ h1, h2⟩
      rw [relS_look h3]
      exact ⟨fun P hP => wpAny_in_of (strKind_is ..) hm hd.mapOf (hP _), fun P hP => wpAny_notIn_of (strKind_is ..) hm hd.mapOf (hP _)⟩
    | tup vs =>
      obtain ⟨q, h⟩ := if_inv h
      obtain ⟨a, cs, k, rfl, h1, h2⟩ := iVt rc
      obtain ⟨e1, e2⟩ := relVs_strs (A := A.in1) (s := s) h2 q n t
      cases e2.trans (Option.some.inj h)
      have it := isTuple_of (S.fro _ _ h1)
      exact ⟨fun P hP => SeqAt.in_tupleAt _ it e1 (hP s.toks), fun P hP => SeqAt.notIn_tupleAt _ it e1 (hP s.toks)⟩
    | _ => exact nA h
  | int i =>
    obtain ⟨t, rfl⟩ := iVi rx
    cases c with
    | dI es =>
      cases h
      obtain ⟨a, o, kvs, rfl, h1, hm, h2, h3⟩ := iVd rc
      exact in_dict hm (Heap.dictOf_iff.mpr ⟨_, S.fro _ _ h1, h2⟩) h3
    | lst vs =>
      obtain ⟨a, cs, k, rfl, h1, h2⟩ := iVl rc
      exact in_list (S.fro _ _ h1) h2 h
    | ref a =>
      cases iVr rc
      change memM i (σ a) = _ at h
      cases q : σ a with
      | none => rw [q] at h; exact nA h
      | some m =>
        rw [q] at h
        have nm := S.notMods G q
        obtain ⟨f, o, ho, ro⟩ := S.own a m q
        cases m with
        | lst vs => obtain ⟨cs, k, rfl, h2⟩ := ro.iLst; exact in_list ho h2 h
        | dI es =>
          obtain ⟨kvs, d, h2⟩ := ro.iDI
          cases h
          exact in_dict nm (Heap.dictOf_iff.mpr ⟨_, ho, d⟩) h2
        | set is =>
          obtain ⟨d, l⟩ := ro.iSet
          cases h
          have hs := d.setOf ho (by unfold scanBound; lia)
          exact ⟨fun P hP => wpAny_inSet_of (intKind_is ..) rfl hs (hP _), fun P hP => wpAny_notInSet_of (intKind_is ..) rfl hs (hP _)⟩
        | _ => exact nA h
    | _ => exact nA h
  | _ => exact nA h
theorem plain_rel {ca : Value} {a : V} (ra : RelV X F ca a) : plainIs ca .none = true ∧ (ca == Value.none) = isNoneV a := by
  cases ra <;> exact ⟨rfl, rfl⟩
theorem cmp_ok (G : Grd X F) (S : St X F σ s.heap) (hu : A.units + 64 < cLine) {o : Cop} {ca cb : Value} {a b : V} {r : Bool} {P : Value → Shared → Prop} (ra : RelV X F ca a) (rb : RelV X F cb b) (h : cmpV σ o a b = some r)
    (hP : ∀ t, P (.bool r) { s with toks := t }) : wpAny (model X.prog X.w) A (compareOp (opC o) ca cb) P Eb s := by
  cases o with
  | eq =>
    obtain ⟨ha, hb, rfl⟩ := eqV_some h
    obtain ⟨_, xa⟩ := reads_of S.fro ra ha
    obtain ⟨_, xb⟩ := reads_of S.fro rb hb
    exact eq_dataH xa xb (shaped_of ha) (shaped_of hb) hu (hP s.toks)
  | ne =>
    obtain ⟨q, hq, rfl⟩ := Option.map_eq_some_iff.mp h
    obtain ⟨ha, hb, rfl⟩ := eqV_some hq
    obtain ⟨_, xa⟩ := reads_of S.fro ra ha
    obtain ⟨_, xb⟩ := reads_of S.fro rb hb
    exact ne_dataH xa xb (shaped_of ha) (shaped_of hb) hu (hP s.toks)
  | lt => obtain ⟨i, j, rfl, rfl, rfl⟩ := ordV_inv h; obtain ⟨_, rfl⟩ := iVi ra; obtain ⟨_, rfl⟩ := iVi rb; exact lt_int (hP s.toks)
  | gt => obtain ⟨i, j, rfl, rfl, rfl⟩ := ordV_inv h; obtain ⟨_, rfl⟩ := iVi ra; obtain ⟨_, rfl⟩ := iVi rb; exact gt_int (hP s.toks)
  | ge => obtain ⟨i, j, rfl, rfl, rfl⟩ := ordV_inv h; obtain ⟨_, rfl⟩ := iVi ra; obtain ⟨_, rfl⟩ := iVi rb; exact ge_int (hP s.toks)
  | is_ =>
    cases b with
    | none =>
      cases iV0 rb
      cases (plain_rel ra).2.trans (Option.some.inj h)
      exact wpAny_is_plain (plain_rel ra).1 (hP s.toks)
    | _ => exact nA h
  | isNot =>
    cases b with
    | none =>
      cases iV0 rb
      have e := Option.some.inj h
      rw [← (plain_rel ra).2] at e
      cases e
      exact wpAny_isNot_plain (plain_rel ra).1 (hP s.toks)
    | _ => exact nA h
  | in_ => exact (mem_ok G S ra rb h).1 P hP
  | notIn =>
    obtain ⟨q, hq, rfl⟩ := Option.map_eq_some_iff.mp h
    exact (mem_ok G S ra rb hq).2 P hP
end
end
noncomputable abbrev Nms := List (Str × NameKind)
noncomputable def gloK (names : Nms) (x : Str) : Bool := names.lookup x == some .globalImplicit && !(x == ("__debug__" : Str))
noncomputable def stoK (names : Nms) (x : Str) : Bool := names.lookup x == some .local || names.lookup x == some .cell
noncomputable def varIs (names : Nms) (nm : List Str) (i : Nat) (x : Str) : Bool := nm[i]? == some x && locK names x
noncomputable def stoIs (names : Nms) (nm : List Str) (i : Nat) (x : Str) : Bool := nm[i]? == some x && stoK names x
noncomputable def nmE (e : Expr) : Option (Str × Pos) := @Expr.casesOn (fun ι => Option (Str × Pos)) e (fun ι ι ι => none) (fun ι ι ι => none) (fun ι ι ι ι => none) (fun ι ι ι => none) (fun ι ι ι ι => none) (fun ι ι ι ι => none) (fun ι ι ι => none) (fun ι ι ι => none) (fun ι ι ι ι => none) (fun ι ι ι ι => none) (fun ι ι ι ι ι => none) (fun ι ι ι ι => none) (fun ι ι => none) (fun ι ι => none) (fun ι ι => none) (fun ι ι ι ι => none) (fun ι ι ι ι => none) (fun ι ι ι ι => none) (fun ι ι => none) (fun ι ι ι => none) (fun ι ι ι => none) (fun ι ι ι => none) (fun ι ι => none) (fun x p => some (x, p)) (fun ι ι => none) (fun ι ι ι => none) (fun ι ι ι ι => none)
noncomputable def tupE (e : Expr) : Option (List Expr) := @Expr.casesOn (fun ι => Option (List Expr)) e (fun ι ι ι => none) (fun ι ι ι => none) (fun ι ι ι ι => none) (fun ι ι ι => none) (fun ι ι ι ι => none) (fun ι ι ι ι => none) (fun ι ι ι => none) (fun ι ι ι => none) (fun ι ι ι ι => none) (fun ι ι ι ι => none) (fun ι ι ι ι ι => none) (fun ι ι ι ι => none) (fun ι ι => none) (fun ι ι => none) (fun ι ι => none) (fun ι ι ι ι => none) (fun ι ι ι ι => none) (fun ι ι ι ι => none) (fun ι ι => none) (fun ι ι ι => none) (fun ι ι ι => none) (fun ι ι ι => none) (fun ι ι => none) (fun ι ι => none) (fun ι ι => none) (fun x ι ι => some x) (fun ι ι ι ι => none)
noncomputable def litI (i : Int) : Const → Bool | .int j => i == j | _ => false
noncomputable def constE (e : Expr) : Int → Bool := @Expr.casesOn (fun ι => Int → Bool) e (fun ι ι ι => fun ι => false) (fun ι ι ι => fun ι => false) (fun ι ι ι ι => fun ι => false) (fun ι ι ι => fun ι => false) (fun ι ι ι ι => fun ι => false) (fun ι ι ι ι => fun ι => false) (fun ι ι ι => fun ι => false) (fun ι ι ι => fun ι => false) (fun ι ι ι ι => fun ι => false) (fun ι ι ι ι => fun ι => false) (fun ι ι ι ι ι => fun ι => false) (fun ι ι ι ι => fun ι => false) (fun ι ι => fun ι => false) (fun ι ι => fun ι => false) (fun ι ι => fun ι => false) (fun ι ι ι ι => fun ι => false) (fun ι ι ι ι => fun ι => false) (fun ι ι ι ι => fun ι => false) (fun ι ι => fun ι => false) (fun c ι ι i => litI i c) (fun ι ι ι => fun ι => false) (fun ι ι ι => fun ι => false) (fun ι ι => fun ι => false) (fun ι ι => fun ι => false) (fun ι ι => fun ι => false) (fun ι ι ι => fun ι => false) (fun ι ι ι ι => fun ι => false)
noncomputable def constI (i : Int) (e : Expr) : Bool := constE e i
noncomputable def isName (x : Str) (e : Expr) : Bool := match nmE e with | some p => p.1 == x | none => false
noncomputable def constO (i : Int) : Option Expr → Bool | some e => constI i e | none => false
noncomputable def constIs : List Int → List (Option Expr) → Bool
  | [], ks => ks.isEmpty
  | i :: is, ks => match ks with
    | [] => false
    | k :: es => constO i k && constIs is es
inductive FitNs (names : Nms) (nm : List Str) : List Nat → List Expr → Prop
  | nil : FitNs names nm [] []
  | cons {i : Nat} {x : Str} {p : Pos} {is : List Nat} {es : List Expr} (h : stoIs names nm i x = true) (t : FitNs names nm is es) : FitNs names nm (i :: is) (.Name x p :: es)
inductive FitTg (names : Nms) (nm : List Str) : Tg → Expr → Prop
  | v {i : Nat} {x : Str} {p : Pos} (h : stoIs names nm i x = true) : FitTg names nm (.v i) (.Name x p)
  | t {is : List Nat} {es : List Expr} {j : Nat} {p : Pos} (h : FitNs names nm is es) : FitTg names nm (.t is) (.Tuple es j p)
noncomputable def noSup (e : Expr) : Bool := !(Nat.beq e.ctorIdx 16)
noncomputable def sameLine (a p : Pos) : Bool := a.endLine == p.line
noncomputable def relab (outer : Nms) (inner : Nms) : Nms := inner.map fun p => (p.1, if p.2 == .free && outer.lookup p.1 == some .cell then .cell else p.2)
noncomputable def capO (outer : Nms) (onm : List Str) (inner : Nms) (x : Str) : Option Nat → Bool
  | some i => inner.lookup x == some .free && onm[i]? == some x && (outer.lookup x == some .cell || outer.lookup x == some .free)
  | none => inner.lookup x == some .local
noncomputable def capsOk (outer : Nms) (onm : List Str) (inner : Nms) : List Str → List (Option Nat) → Bool
  | [], cs => cs.isEmpty
  | x :: xs, cs => match cs with
    | [] => false
    | c :: cs => capO outer onm inner x c && capsOk outer onm inner xs cs
noncomputable def freeOk (outer inner : Nms) : Bool := inner.all fun p => p.2 != .cell && (p.2 != .free || outer.lookup p.1 == some .cell || outer.lookup p.1 == some .free) && (p.2 != .local || inner.lookup p.1 == some .local)
noncomputable def notSl (e : Expr) : Bool := !(Nat.beq e.ctorIdx 26)
noncomputable def isTup (e : Expr) : Bool := Nat.beq e.ctorIdx 25
noncomputable def notSet (e : Expr) : Bool := !(Nat.beq e.ctorIdx 7)
noncomputable def few (n : Nat) : Bool := decide (n < 30)
noncomputable def callFn (f : Fn) : Bool := f.at_.isSome
noncomputable def Fn.meth : Fn → Option Nm
  | .holds => some .holds | .best => some .best | .shape => some .shape | .learn => some .learn | .passStep => some .passStep
  | _ => none
noncomputable def isMeth (f : Fn) (n : Str) : Bool := match f.meth with | some m => n == m.str | none => false
noncomputable def swNm (names : Nms) (line : Nat) : Option (Str × Pos) → Option Str
  | some p => if names.lookup p.1 == some .local && p.2.line == line then some p.1 else none
  | none => none
noncomputable def swTup (names : Nms) (ts vs : List Expr) : Option (Option (List Str)) :=
  if !(ts.length == 2 || ts.length == 3) || vs.length != ts.length then some none
  else if vs.any fun e => Nat.beq e.ctorIdx 22 then some none
  else
    let ns := ts.filterMap fun e => swNm names ((ts.head?.map (·.pos.line)).getD 0) (nmE e)
    if ns.length != ts.length || ns.eraseDups.length != ns.length then some none
    else if vs.all (foldedForSure 8) then some none
    else if vs.all (constantsAlone 8) then none
    else some (some ns)
noncomputable def swOk (names : Nms) (ts : List Expr) (v : Expr) : Option (Option (List Str)) :=
  match tupE v with
  | some vs => swTup names ts vs
  | none => some none
noncomputable def bindOk (names : Nms) (nm : List Str) : List Nat → List Str → Bool
  | [], xs => xs.isEmpty
  | i :: is, xs => match xs with
    | [] => false
    | x :: xs => stoIs names nm i x && bindOk names nm is xs
noncomputable def isComp (e : Expr) : Bool := Nat.ble 8 e.ctorIdx && Nat.ble e.ctorIdx 10
section
variable {X : Cx}
noncomputable def TV (X : Cx) (n : Nat) (env : Env) (nm : List Str) (t : Sem Value) (w : Ro → So → (V → So → Prop) → Prop) : Prop :=
  ∀ (A : Around) (F : Fz) (ρ : Ro) (σ : So) (s : Shared) (Q : V → So → Prop) (P : Value → Shared → Prop) (Eb : Value → Shared → Prop), Room n A → Fo X env nm F ρ σ s → w ρ σ Q →
    (∀ c v F' σ' s', RelV X F' c v → Q v σ' → Nxt X F σ s F' σ' s' → P c s') → wpAny (model X.prog X.w) A t P Eb s
noncomputable def TB (X : Cx) (n : Nat) (env : Env) (nm : List Str) (t : Sem Bool) (w : Ro → So → (Bool → So → Prop) → Prop) : Prop :=
  ∀ (A : Around) (F : Fz) (ρ : Ro) (σ : So) (s : Shared) (Q : Bool → So → Prop) (P : Bool → Shared → Prop) (Eb : Value → Shared → Prop), Room n A → Fo X env nm F ρ σ s → w ρ σ Q →
    (∀ c F' σ' s', Q c σ' → Nxt X F σ s F' σ' s' → P c s') → wpAny (model X.prog X.w) A t P Eb s
noncomputable def TL (X : Cx) (n : Nat) (env : Env) (nm : List Str) (t : Sem (List Value)) (w : Ro → So → (List V → So → Prop) → Prop) : Prop :=
  ∀ (A : Around) (F : Fz) (ρ : Ro) (σ : So) (s : Shared) (Q : List V → So → Prop) (P : List Value → Shared → Prop) (Eb : Value → Shared → Prop), Room n A → Fo X env nm F ρ σ s → w ρ σ Q →
    (∀ c v F' σ' s', RelVs X F' c v → Q v σ' → Nxt X F σ s F' σ' s' → P c s') → wpAny (model X.prog X.w) A t P Eb s
section
variable {n : Nat} {env : Env} {nm : List Str} {names : Nms}
theorem tv_none {k : Nat} {pos : Pos} : TV X n env nm (eval (.Constant .none k pos) env) fun ι σ Q => Q .none σ :=
  fun ι ι ι ι ι ι ι ι ι k w h => wpAny_Constant_none (h _ _ _ _ _ .none w (.refl k.st))
theorem tv_bool {c : Bool} {k : Nat} {pos : Pos} : TV X n env nm (eval (.Constant (.bool c) k pos) env) fun ι σ Q => Q (.bool c) σ :=
  fun ι ι ι ι ι ι ι ι ι k w h => wpAny_Constant_bool (h _ _ _ _ _ (.bool c) w (.refl k.st))
theorem const_int {M : Model} {A : Around} {E : Value → Shared → Prop} {s : Shared} {i : Int} {k : Nat} {pos : Pos} {Q : Value → Shared → Prop} (h : Q (.int i s.toks) { s with toks := s.toks + 1 }) : wpAny M A (eval (.Constant (.int i) k pos) env) Q E s :=
  fun ι ι ι => h
theorem tv_int {i : Int} {k : Nat} {pos : Pos} : TV X n env nm (eval (.Constant (.int i) k pos) env) fun ι σ Q => Q (.int i) σ :=
  fun ι ι ι ι ι ι ι ι ι k w h => const_int (h _ _ _ _ _ (.int i _) w ((Nxt.refl k.st).toks _))
theorem tv_str {x : Nm} {k : Nat} {pos : Pos} : TV X n env nm (eval (.Constant (.str x.str) k pos) env) fun ι σ Q => Q (.str x) σ :=
  fun ι ι ι ι ι ι ι ι ι k w h => Calls.Constant_str (h _ _ _ _ _ (.str x _) w ((Nxt.refl k.st).toks _))
theorem varIs_ok {i : Nat} {x : Str} (h : varIs names nm i x = true) : nm[i]? = some x ∧ locK names x = true := by
  simp only [varIs, Bool.and_eq_true, beq_iff_eq] at h; exact h
theorem tv_var {i : Nat} {x : Str} {pos : Pos} (eo : EnvOk X env names nm) (h : varIs names nm i x = true) : TV X n env nm (eval (.Name x pos) env) fun ρ σ Q => och (ρ[i]?).join fun v => Q v σ :=
  fun ι ι ι ι ι ι ι ι ι k w c => by
    obtain ⟨v, e, q⟩ := och_elim w
    exact load_var eo k (varIs_ok h).1 (varIs_ok h).2 e fun ι r => c _ _ _ _ _ r q (.refl k.st)
theorem gloK_ok {x : Str} (h : gloK names x = true) : names.lookup x = some .globalImplicit ∧ (x == ("__debug__" : Str)) = false := by
  simp only [gloK, Bool.and_eq_true, beq_iff_eq, Bool.not_eq_true'] at h; exact h
theorem Fo.gr {F : Fz} {ρ : Ro} {σ : So} {s : Shared} (k : Fo X env nm F ρ σ s) : ∃ B, GB X B ∧ (∀ a o, B.get? a = some o → s.heap.get? a = some o) ∧ Sub B.get? F := by
  obtain ⟨B, g, q⟩ := k.g
  exact ⟨B, g, q.trans k.st.fro, q⟩
theorem tv_glob {g : Gn} {pos : Pos} (eo : EnvOk X env names nm) (h : gloK names g.str = true) : TV X n env nm (eval (.Name g.str pos) env) fun ι σ Q => Q g.val σ :=
  fun ι F ι ι s ι ι ι ι k w c => by
    obtain ⟨B, gb, q, q'⟩ := k.gr
    obtain ⟨mg, mb, hg, hb, hd, -⟩ := gb.names
    obtain ⟨v, hv, r⟩ := hd g
    refine Name_function_global eo.kind ((eo.kindOf _).trans (gloK_ok h).1) (loadGlobal_global (mg := mg) ?_ hv (c _ _ _ _ _ (r.mono q') w (.refl k.st))) (gloK_ok h).2
    rw [eo.globals]; exact hg.keeps q
theorem load_fn {f : Fn} {pos : Pos} {A : Around} {F : Fz} {ρ : Ro} {σ : So} {s : Shared} {P : Value → Shared → Prop} {Eb : Value → Shared → Prop} (eo : EnvOk X env names nm) (h : gloK names f.str = true) (hf : callFn f = true)
    (k : Fo X env nm F ρ σ s) (c : P (X.fa f) s) : wpAny (model X.prog X.w) A (eval (.Name f.str pos) env) P Eb s := by
  obtain ⟨B, gb, q, q'⟩ := k.gr
  obtain ⟨mg, mb, hg, hb, -, h1, h2, -⟩ := gb.names
  refine Name_function_global eo.kind ((eo.kindOf _).trans (gloK_ok h).1) ?_ (gloK_ok h).2
  have hg' : s.heap.Ns env.globals mg := by rw [eo.globals]; exact hg.keeps q
  have hb' : s.heap.Ns env.builtins mb := by rw [eo.builtins]; exact hb.keeps q
  unfold callFn at hf
  obtain ⟨t, ht⟩ := Option.isSome_iff_exists.mp hf
  cases t with
  | false => exact loadGlobal_global hg' (h1 f ht) c
  | true => exact loadGlobal_builtin hg' (h2 f ht).1 hb' (h2 f ht).2 c
theorem Room.cmp {A : Around} (R : Room n A) : A.units + 64 < cLine := by have := R.2.2; lia
section
variable {x y z : Expr} {pos : Pos} {wl wr wz : Ro → So → (V → So → Prop) → Prop} {wt : Ro → So → (Bool → So → Prop) → Prop}
theorem tv_bin {o : Bop} {op : Operator} (e : op = opB o) (hx : TV X n env nm (eval x env) wl) (hy : TV X n env nm (eval y env) wr) :
    TV X n env nm (eval (.BinOp x op y pos) env) fun ρ σ Q => wl ρ σ fun a σ => wr ρ σ fun b σ => och (binV o a b) fun v => Q v σ := by
  intro A F ρ σ s Q P Eb R k w h
  refine wpAny_BinOp (hx A F ρ σ s _ _ _ R k w fun c v F1 σ1 s1 r1 w1 x1 => ?_)
  have k1 := k.to x1
  refine hy A F1 ρ σ1 s1 _ _ _ R k1 w1 fun c2 v2 F2 σ2 s2 r2 w2 x2 => ?_
  have k2 := k1.to x2
  obtain ⟨u, e1, q⟩ := och_elim w2
  rw [e]
  exact bin_ok e1 (r1.mono x2.sub) r2 fun c3 t r3 => h _ _ _ _ _ r3 q (x1.trans (x2.toks t))
theorem tv_neg (hx : TV X n env nm (eval x env) wl) : TV X n env nm (eval (.UnaryOp .USub x pos) env) fun ρ σ Q => wl ρ σ fun a σ => och (intV a) fun i => Q (.int (-i)) σ := by
  intro A F ρ σ s Q P Eb R k w h
  refine wpAny_UnaryOp (hx A F ρ σ s _ _ _ R k w fun c v F1 σ1 s1 r1 w1 x1 => ?_)
  have k1 := k.to x1
  obtain ⟨u, e1, q⟩ := och_elim w1
  (first | (obtain rfl := iVr r1) | (obtain ⟨_, rfl⟩ := iVi r1) | (obtain rfl := iV0 r1) | (obtain rfl := iVb r1) | (obtain ⟨_, rfl⟩ := iVs r1) | (obtain ⟨_, _, _, rfl, _, _⟩ := iVt r1) | (obtain ⟨_, _, _, rfl, _, _⟩ := iVl r1) | (obtain ⟨_, _, _, rfl, _, _, _, _⟩ := iVd r1) | (obtain ⟨_, _, _, rfl, _, _, _, _⟩ := iVS r1) | (obtain ⟨_, _, _, _, rfl, _, _, _⟩ := iVo r1) | cases r1) <;> first | ((injection e1); done) | skip
  (injection e1)
  exact PyProof.Rows.neg_int (h _ _ _ _ _ (.int _ _) q (x1.toks _))
theorem tv_cmp {o : Cop} {op : CmpOp} (e : op = opC o) (hm : behindInMarks op y = false) (hx : TV X n env nm (eval x env) wl) (hy : TV X n env nm (eval y env) wr) :
    TV X n env nm (eval (.Compare x [op] [y] pos) env) fun ρ σ Q => wl ρ σ fun a σ => wr ρ σ fun b σ => och (cmpV σ o a b) fun v => Q (.bool v) σ := by
  intro A F ρ σ s Q P Eb R k w h
  refine wpAny_Compare1 (hx A F ρ σ s _ _ _ R k w fun c v F1 σ1 s1 r1 w1 x1 => ?_) hm
  have k1 := k.to x1
  refine hy A F1 ρ σ1 s1 _ _ _ R k1 w1 fun c2 v2 F2 σ2 s2 r2 w2 x2 => ?_
  have k2 := k1.to x2
  obtain ⟨u, e1, q⟩ := och_elim w2
  rw [e]
  exact cmp_ok k2.g k2.st R.cmp (r1.mono x2.sub) r2 e1 fun t => h _ _ _ _ _ (.bool _) q (x1.trans (x2.toks t))
theorem tb_cmp {o : Cop} {op : CmpOp} {whole : Sem Value} (e : op = opC o) (hm : behindInMarks op y = false) (hx : TV X n env nm (eval x env) wl) (hy : TV X n env nm (eval y env) wr) :
    TB X n env nm (PySem.isTrue (.Compare x [op] [y] pos) env whole) fun ρ σ Q => wl ρ σ fun a σ => wr ρ σ fun b σ => och (cmpV σ o a b) fun v => Q v σ := by
  intro A F ρ σ s Q P Eb R k w h
  refine wpAny_isTrue_Compare1 (hx A F ρ σ s _ _ _ R k w fun c v F1 σ1 s1 r1 w1 x1 => ?_) hm
  have k1 := k.to x1
  refine hy A F1 ρ σ1 s1 _ _ _ R k1 w1 fun c2 v2 F2 σ2 s2 r2 w2 x2 => ?_
  have k2 := k1.to x2
  obtain ⟨u, e1, q⟩ := och_elim w2
  rw [e]
  exact cmp_ok k2.g k2.st R.cmp (r1.mono x2.sub) r2 e1 fun t => truth_ok (s := { s2 with toks := t }) k2.st (v := .bool u) (F := F2) (.bool u) rfl fun t' => h _ _ _ _ q (x1.trans (x2.toks t'))
theorem tb_value {whole : Sem Value} {w : Ro → So → (V → So → Prop) → Prop} (hx : TV X n env nm whole w) (he : PySem.isTrue x env whole = (do let v ← whole; standAt x.pos; holding [v] (truthy v))) :
    TB X n env nm (PySem.isTrue x env whole) fun ρ σ Q => w ρ σ fun v σ => och (truthV σ v) fun b => Q b σ := by
  intro A F ρ σ s Q P Eb R k w h
  refine wpAny_isTrue_value (hx A F ρ σ s _ _ _ R k w fun c v F1 σ1 s1 r1 w1 x1 => ?_) he
  have k1 := k.to x1
  obtain ⟨u, e1, q⟩ := och_elim w1
  exact truth_ok k1.st r1 e1 fun t => h _ _ _ _ q (x1.toks t)
theorem tb_not {whole : Sem Value} (hx : TB X n env nm (PySem.isTrue x env (eval x env)) wt) : TB X n env nm (PySem.isTrue (.UnaryOp .Not x pos) env whole) fun ρ σ Q => wt ρ σ fun b σ => Q (!b) σ := by
  intro A F ρ σ s Q P Eb R k w h
  exact wpAny_isTrue_Not (hx A F ρ σ s _ _ _ R k w fun c F1 σ1 s1 w1 x1 => h _ _ _ _ w1 x1)
theorem tv_ite (ht : TB X n env nm (PySem.isTrue x env (eval x env)) wt) (ha : TV X n env nm (eval y env) wl) (hb : TV X n env nm (eval z env) wr) :
    TV X n env nm (eval (.IfExp x y z pos) env) fun ρ σ Q => wt ρ σ fun c σ => (c = true → wl ρ σ Q) ∧ (c = false → wr ρ σ Q) := by
  intro A F ρ σ s Q P Eb R k w h
  refine wpAny_IfExp (ht A F ρ σ s _ _ _ R k w fun c F1 σ1 s1 w1 x1 => ?_)
  have k1 := k.to x1
  cases c with
  | true => exact ha A F1 ρ σ1 s1 Q P _ R k1 (w1.1 rfl) fun c v F2 σ2 s2 r2 w2 x2 => h _ _ _ _ _ r2 w2 (x1.trans x2)
  | false => exact hb A F1 ρ σ1 s1 Q P _ R k1 (w1.2 rfl) fun c v F2 σ2 s2 r2 w2 x2 => h _ _ _ _ _ r2 w2 (x1.trans x2)
theorem attrBase {o : Expr} (a : Str) (h : noSup o = true) (whole : Sem Value) : attributeBase o a env whole = whole := by
  cases o with
  | Call => exact nD h
  | _ => rfl
theorem tv_attr {m : Nm} (co : CxOk X) (hm : attN.contains m = true) (hs : noSup x = true) (hx : TV X n env nm (eval x env) wl) :
    TV X n env nm (eval (.Attribute x m.str pos) env) fun ρ σ Q => wl ρ σ fun a σ => och (fieldsV σ a) fun p => och (look p.2 m) fun v => Q v σ := by
  intro A F ρ σ s Q P Eb R k w h
  refine Attribute_any_ (hx A F ρ σ s _ _ _ R k w fun c v F1 σ1 s1 r1 w1 x1 => ?_) (by rw [arm_eval_Attribute, attrBase _ hs])
  have k1 := k.to x1
  obtain ⟨p, e1, w1⟩ := och_elim w1
  obtain ⟨u, e2, q⟩ := och_elim w1
  exact attr_ok co k1.g k1.st (C := p.1) (fs := p.2) r1 e1 hm e2 fun c t r => h _ _ _ _ _ r q (x1.toks t)
theorem notSl_sub (hy : notSl y = true) (o i : Value) : subscripted y false o i = operate [o, i] (getItem o i) := by
  cases y with
  | Slice => exact nD hy
  | _ => rfl
theorem tv_sub (hs : notSl y = true) (hx : TV X n env nm (eval x env) wl) (hy : TV X n env nm (eval y env) wr) :
    TV X n env nm (eval (.Subscript x y pos) env) fun ρ σ Q => wl ρ σ fun a σ => wr ρ σ fun b σ => och (idxV σ a b) fun v => Q v σ := by
  intro A F ρ σ s Q P Eb R k w h
  refine Subscript_ (hx A F ρ σ s _ _ _ R k w fun c v F1 σ1 s1 r1 w1 x1 => ?_)
  have k1 := k.to x1
  refine hy A F1 ρ σ1 s1 _ _ _ R k1 w1 fun c2 v2 F2 σ2 s2 r2 w2 x2 => ?_
  have k2 := k1.to x2
  obtain ⟨u, e1, q⟩ := och_elim w2
  obtain ⟨T, id, h1, h2, h3⟩ := idx_ok k2.g k2.st (A := A) (Eb := Eb) (P := P) (r1.mono x2.sub) r2 e1 fun c t r => h _ _ _ _ _ r q (x1.trans (x2.toks t))
  exact tail_any h1 h2 h3 (notSl_sub hs _ _)
theorem new_list {F : Fz} {ρ : Ro} {σ : So} {s : Shared} {m : Bool} {cs : List Value} {vs : List V} {Q : V → So → Prop} (k : Fo X env nm F ρ σ s) (r : RelVs X F cs vs) (w : newL m vs σ Q) :
    ∃ v F' σ', RelV X F' (.ref s.heap.objs.size) v ∧ Q v σ' ∧ Nxt X F σ s F' σ' { s with heap := s.heap.push { cls := .type "list", data := .seq cs.toArray } } ∧ vs.length < lid := by
  obtain ⟨lt, w⟩ := w
  cases m with
  | true =>
    have nx := Nx.own k.st (RelM.lst (n := 0) r)
    exact ⟨_, _, _, .ref _, w _ (k.st.fresh (get_size _)).2, Nxt.of nx _, lt⟩
  | false =>
    have nx := Nx.fz k.st (seqObj "list" cs 0)
    exact ⟨_, _, _, .lst (upd_self ..) (r.mono nx.p.mono), w, Nxt.of nx _, lt⟩
theorem fit_lid {cs : List Value} {vs : List V} {F : Fz} (r : RelVs X F cs vs) (h : vs.length < lid) : cs.length ≤ sizeLine := by
  rw [r.length]; unfold lid at h; unfold sizeLine; lia
theorem tv_cat (hx : TV X n env nm (eval x env) wl) (hy : TV X n env nm (eval y env) wr) :
    TV X n env nm (eval (.BinOp x .Add y pos) env) fun ρ σ Q => wl ρ σ fun a σ => wr ρ σ fun b σ => och (listV σ a) fun xs => och (listV σ b) fun ys => newL false (xs ++ ys) σ Q := by
  intro A F ρ σ s Q P Eb R k w h
  refine wpAny_BinOp (hx A F ρ σ s _ _ _ R k w fun c v F1 σ1 s1 r1 w1 x1 => ?_)
  have k1 := k.to x1
  refine hy A F1 ρ σ1 s1 _ _ _ R k1 w1 fun c2 v2 F2 σ2 s2 r2 w2 x2 => ?_
  have k2 := k1.to x2
  obtain ⟨xs, e1, w2⟩ := och_elim w2
  obtain ⟨ys, e2, w2⟩ := och_elim w2
  obtain ⟨a1, cs1, n1, rfl, h1, q1⟩ := list_at k2.st (r1.mono x2.sub) e1
  obtain ⟨a2, cs2, n2, rfl, h2, q2⟩ := list_at k2.st r2 e2
  have rr := RelVs.append q1 q2
  obtain ⟨u, F3, σ3, r3, w3, x3, lt⟩ := new_list k2 rr w2
  have sz := fit_lid rr lt
  refine PySem.P.add_list h1 h2 ?_ (by rw [List.length_append] at sz; simpa using sz)
  have := h _ _ _ _ _ r3 w3 ((x1.trans x2).trans x3)
  rw [List.append_toArray]; exact this
end
theorem tl_nil {pos : Pos} : TL X n env nm (spliced (backTo pos (starEach [] env))) fun ι σ Q => Q [] σ :=
  fun ι ι ι ι ι ι ι ι ι k w h => spliced_none (h _ _ _ _ _ .nil w (.refl k.st))
noncomputable def noStar (e : Expr) : Bool := !(Nat.beq e.ctorIdx 22)
theorem star_cons {e : Expr} {rest : List Expr} (h : noStar e = true) : starEach (e :: rest) env = (false, eval e env) :: starEach rest env := by
  cases e with
  | Starred => exact nD h
  | _ => rfl
theorem tl_cons {pos : Pos} {x : Expr} {xs : List Expr} {wl : Ro → So → (V → So → Prop) → Prop} {wr : Ro → So → (List V → So → Prop) → Prop} (hn : noStar x = true) (hx : TV X n env nm (eval x env) wl) (hy : TL X n env nm (spliced (backTo pos (starEach xs env))) wr) :
    TL X n env nm (spliced (backTo pos (starEach (x :: xs) env))) fun ρ σ Q => wl ρ σ fun v σ => wr ρ σ fun vs σ => Q (v :: vs) σ := by
  intro A F ρ σ s Q P Eb R k w h
  refine spliced_more (hx A F ρ σ s _ _ _ R k w fun c v F1 σ1 s1 r1 w1 x1 => ?_) (star_cons hn)
  have k1 := k.to x1
  exact hy A F1 ρ σ1 s1 _ _ _ R k1 w1 fun c2 v2 F2 σ2 s2 r2 w2 x2 => h _ _ _ _ _ (.cons (r1.mono x2.sub) r2) w2 (x1.trans x2)
section
variable {xs : List Expr} {pos : Pos} {ws : Ro → So → (List V → So → Prop) → Prop} {wo : Ro → So → (V → So → Prop) → Prop}
theorem tv_lst {m : Bool} (hx : TL X n env nm (spliced (backTo pos (starEach xs env))) ws) : TV X n env nm (eval (.List xs pos) env) fun ρ σ Q => ws ρ σ fun vs σ => newL m vs σ Q := by
  intro A F ρ σ s Q P Eb R k w h
  refine wpAny_List_spliced (hx A F ρ σ s _ _ _ R k w fun c v F1 σ1 s1 r1 w1 x1 => ?_)
  have k1 := k.to x1
  obtain ⟨u, F3, σ3, r3, w3, x3, lt⟩ := new_list k1 r1 w1
  exact ⟨fit_lid r1 lt, h _ _ _ _ _ r3 w3 (x1.trans x3)⟩
theorem tv_tup {j : Nat} (hx : TL X n env nm (spliced (backTo pos (starEach xs env))) ws) : TV X n env nm (eval (.Tuple xs j pos) env) fun ρ σ Q => ws ρ σ fun vs σ => vs.length < lid ∧ Q (.tup vs) σ := by
  intro A F ρ σ s Q P Eb R k w h
  refine wpAny_Tuple_spliced (hx A F ρ σ s _ _ _ R k w fun c v F1 σ1 s1 r1 w1 x1 => ?_)
  have nx := Nx.fz x1.st (seqObj "tuple" c 0)
  exact ⟨fit_lid r1 w1.1, h _ _ _ _ _ (.tup (upd_self ..) (r1.mono nx.p.mono)) w1.2 (x1.trans (Nxt.of nx _))⟩
theorem kept_looks {M : Model} {f : Value} (hk : keptV X.K f = true) (h : Heap) (K : X.K.In h) : ∃ k, (k = Keeper.frame ∨ k = Keeper.machine ∨ k = Keeper.boundFrame) ∧ Looks M h (keeperOf f) k := by
  cases f with
  | ref a => exact keeps_K (M := M) (f := .ref a) hk h K
  | builtin id => exact ⟨.machine, .inr (.inl rfl), .now⟩
  | type T => exact ⟨.machine, .inr (.inl rfl), .now⟩
  | _ => (injection hk)
theorem plain_trees {fit : Prop} (_ : fit) (hs : xs.all noStar = true) : (backTo pos (starEach xs env)).any (·.1) = false := by
  induction xs with
  | nil => rfl
  | cons x xs ih =>
    rw [List.all_cons, Bool.and_eq_true] at hs
    rw [star_cons hs.1]
    show (false || (backTo pos (starEach xs env)).any (·.1)) = false
    rw [ih hs.2]; rfl
theorem args_none {M : Model} {A : Around} {E : Value → Shared → Prop} {s : Shared} {f : Value} {Q : Args → Shared → Prop} (h : wpAny M A (spliced []) (fun vs s' => Q ⟨vs, []⟩ s') E s) : wpAny M A (evalArgs f true [] []) Q E s := by
  unfold evalArgs
  show wpAny M A (spliced [] >>= _) Q E s
  refine wpAny_bind (wpAny_mono h (fun vs s' h' => ?_) fun ι ι x => x)
  refine wpAny_holding ?_
  exact wpAny_bind (wpAny_pure (wpAny_bind (wpAny_pure (wpAny_pure h'))))
theorem call_args {f : Value} {first : List Value} {A : Around} {F : Fz} {ρ : Ro} {σ : So} {s : Shared} {Q : List V → So → Prop} {P : Value → Shared → Prop} {Eb : Value → Shared → Prop} (hk : ∀ h, X.K.In h → ∃ k, (k = Keeper.frame ∨ k = Keeper.machine ∨ k = Keeper.boundFrame) ∧ Looks (model X.prog X.w) h (keeperOf f) k)
    (hs : xs.all noStar = true) (hx : TL X n env nm (spliced (backTo pos (starEach xs env))) ws) (R : Room n A) (k : Fo X env nm F ρ σ s) (w : ws ρ σ Q)
    (h : ∀ cs vs F' σ' s', RelVs X F' cs vs → Q vs σ' → Nxt X F σ s F' σ' s' → wpAny (model X.prog X.w) A (call f (first ++ cs) []) P Eb s') :
    wpAny (model X.prog X.w) A (callWith pos f first (backTo pos (starEach xs env)) []) P Eb s := by
  refine callWith_of (P := X.K.In) (by rw [plain_trees trivial hs]; rfl) hk ?_
  cases xs with
  | nil =>
    exact args_none (hx A F ρ σ s Q _ Eb R k w fun cs vs F' σ' s' r q x1 => ⟨x1.st.inK (k.to x1).g, h _ _ _ _ _ r q x1⟩)
  | cons x xs =>
    rw [List.all_cons, Bool.and_eq_true] at hs
    have e : backTo pos (starEach (x :: xs) env) = (false, eval x env) :: backTo pos (starEach xs env) := by rw [star_cons hs.1]; rfl
    rw [e] at hx ⊢
    exact evalArgs_plain (hx A F ρ σ s Q _ Eb R k w fun cs vs F' σ' s' r q x1 => ⟨x1.st.inK (k.to x1).g, h _ _ _ _ _ r q x1⟩)
end
end
end
section
variable {X : Cx}
section
variable {n : Nat} {env : Env} {nm : List Str} {names : Nms} {xs : List Expr} {x y z o : Expr} {pos apos : Pos} {ws : Ro → So → (List V → So → Prop) → Prop} {wl wr wz wo : Ro → So → (V → So → Prop) → Prop} {wt : Ro → So → (Bool → So → Prop) → Prop}
theorem Nxt.call {F F' : Fz} {σ σ' : So} {s s' : Shared} (a : St X F' σ' s'.heap) (p : Stp (fun ι => False) F σ s.heap F' σ' s'.heap) (h : Shd s s') : Nxt X F σ s F' σ' s' := ⟨⟨a, p⟩, h⟩
theorem tv_call {f : Fn} {p : Pos} (co : CxOk X) (eo : EnvOk X env names nm) (hg : gloK names f.str = true) (hf : callFn f = true) (hs : xs.all noStar = true) (hx : TL X n env nm (spliced (backTo pos (starEach xs env))) ws) :
    TV X n env nm (eval (.Call (.Name f.str p) xs [] pos) env) fun ρ σ Q => ws ρ σ fun vs σ => Call X n f vs σ Q := by
  intro A F ρ σ s Q P Eb R k w h
  refine Call_ (load_fn eo hg hf k (call_args (kept_looks (co.kept f hf)) hs hx R k w fun cs vs F1 σ1 s1 r1 w1 x1 => ?_))
  have k1 := k.to x1
  exact w1 A F1 s1 cs P Eb R k1.g k1.st r1 fun c v F2 σ2 s2 r2 q2 st p sh => h _ _ _ _ _ r2 q2 (x1.trans (.call st p sh))
theorem not_star {args : List Expr} (hs : args.all noStar = true) : (backTo pos (starEach args env)).all (fun x => !x.1) = true := by
  induction args with
  | nil => rfl
  | cons x xs ih =>
    rw [List.all_cons, Bool.and_eq_true] at hs
    rw [star_cons hs.1]
    show (true && (backTo pos (starEach xs env)).all (fun x => !x.1)) = true
    rw [ih hs.2]; rfl
theorem meth_call {M : Model} {A : Around} {E : Value → Shared → Prop} {s : Shared} {name : Str} {Q : Value → Shared → Prop} (hn : noSup o = true) (hs : xs.all noStar = true) (hl : sameLine apos pos = true) (few : xs.length < 30)
    (h : wpAny M A (eval o env) (fun ov s₁ => ∀ pl, wpAny M A (getMethod ov name pl) (fun fx s₂ => wpAny M A (callWith pos fx.1 fx.2 (backTo pos (starEach xs env)) []) Q E s₂) E s₁) E s) :
    wpAny M A (eval (.Call (.Attribute o name apos) xs [] pos) env) Q E s := by
  rw [arm_eval_Call, attrBase _ hn]
  refine wpAny_bind (wpAny_mono h (fun ov s₁ h₁ => wpAny_bind (wpAny_standAt ?_)) fun ι ι e => e)
  have hform : methodCallForm (xs.length + ([] : List Keyword).length) (backTo pos (starEach xs env)) (backToKw pos (keywordEach [] env)) = true := by
    unfold methodCallForm
    rw [not_star hs]
    show (true && true && decide (xs.length + 0 + 0 < 30)) = true
    rw [decide_eq_true (by omega)]; rfl
  have hl' : (apos.endLine == pos.line) = true := hl
  have hpos : methodCallPos true o env apos pos = pure pos := by unfold methodCallPos; simp [hl']
  unfold methodCall
  rw [hform]
  exact wpAny_bind (wpAny_holding (wpAny_mono (h₁ _) (fun fx s₂ h₂ => wpAny_bind (wpAny_of_eq hpos h₂)) fun ι ι e => e))
theorem meth_mem {f : Fn} {m : Nm} (h : f.meth = some m) : (f, m) ∈ methN := by
  cases f with
  | holds => cases h; exact .head _
  | best => cases h; exact .tail _ (.head _)
  | shape => cases h; exact .tail _ (.tail _ (.head _))
  | learn => cases h; exact .tail _ (.tail _ (.tail _ (.head _)))
  | passStep => cases h; exact .tail _ (.tail _ (.tail _ (.tail _ (.head _))))
  | _ => exact nA h
theorem isMeth_ok {f : Fn} {a : Str} (h : isMeth f a = true) : ∃ m, (f, m) ∈ methN ∧ a = m.str := by
  unfold isMeth at h
  cases e : f.meth with
  | none => rw [e] at h; exact nD h
  | some m => rw [e] at h; exact ⟨m, meth_mem e, beq_iff_eq.mp h⟩
inductive MethAt (X : Cx) (f : Fn) (m : Nm) : Prop
  | mk (a : Addr) (e : X.fa f = .ref a) (h : findIn X.K (.ref (X.ca .Facts)) m.str = some (some (.ref a))) (hf : isFn X.K (.ref a) = true) (hk : fnIn X.K a = true)
theorem CxOk.meth (c : CxOk X) {f : Fn} {m : Nm} (h : (f, m) ∈ methN) : MethAt X f m := by
  have := c.look
  unfold cxLook at this
  simp only [Bool.and_eq_true] at this
  have t := List.all_eq_true.mp this.1.2 _ h
  dsimp only at t
  cases e : X.fa f with
  | ref a =>
    rw [e] at t
    simp only [Bool.and_eq_true, beq_iff_eq] at t
    exact ⟨a, e, t.1.1, t.1.2, t.2⟩
  | _ => rw [e] at t; exact nD t
theorem noMeth_none {fs : List (Nm × V)} (h : noMeth fs = true) {f : Fn} {m : Nm} (hm : (f, m) ∈ methN) : look fs m = none := by
  have hm' : m ∈ methNm := List.mem_map_of_mem (f := Prod.snd) hm
  exact Option.isNone_iff_eq_none.mp (List.all_eq_true.mp h m hm')
theorem fnIn_keep {K : Frag} {a : Addr} (h : fnIn K a = true) : keepIn K (.ref a) = true := by
  delta fnIn at h
  delta keepIn
  dsimp only at h ⊢
  cases e : K.lookup a with
  | none => rw [e] at h; exact nD h
  | some o =>
    rw [e] at h
    obtain ⟨c, d, t, x⟩ := o
    cases t with
    | func => rfl
    | _ => exact nD h
theorem tv_meth {f : Fn} {a : Str} (co : CxOk X) (hm : isMeth f a = true) (hn : noSup o = true) (hs : xs.all noStar = true) (hl : sameLine apos pos = true) (few : xs.length < 30) (ho : TV X n env nm (eval o env) wo) (hx : TL X n env nm (spliced (backTo pos (starEach xs env))) ws) :
    TV X n env nm (eval (.Call (.Attribute o a apos) xs [] pos) env) fun ρ σ Q => wo ρ σ fun a σ => och (fieldsV σ a) fun p => p.1 = .Facts ∧ noMeth p.2 = true ∧ ws ρ σ fun vs σ => Call X n f (a :: vs) σ Q := by
  intro A F ρ σ s Q P Eb R k w h
  refine meth_call hn hs hl few (ho A F ρ σ s _ _ _ R k w fun c v F1 σ1 s1 r1 w1 x1 => ?_)
  have k1 := k.to x1
  intro pl
  obtain ⟨⟨C, fs⟩, e1, rfl, hnone, w1⟩ := och_elim w1
  obtain ⟨m, hm', rfl⟩ := isMeth_ok hm
  obtain ⟨f', e2, e3, e4, e5⟩ := co.meth hm'
  obtain ⟨l, dx, es, k', rfl, h1, h2, h3⟩ := obj_at k1.st r1 e1
  obtain ⟨p1, -, -⟩ := co.att .Facts (n := .now) (by decide)
  have I : W.InstAt s1.heap l (instObj (X.ca .Facts) dx) (X.ca .Facts) (some (dictOf es k')) := ⟨h1, rfl, rfl, h2⟩
  refine method_fn (k1.st.inK k1.g) I (plainGet_of p1).1 (plainGet_of p1).2 e3 (beq_iff_eq.mp e4) (by show (lookIn m.str (dictOf es k')).map _ = _; rw [lookIn_dict, (relD_get h3 m).2 (noMeth_none hnone hm')]; rfl) ?_
  refine call_args (kept_looks (f := .ref f') (fnIn_keep e5)) hs hx R k1 w1 fun cs vs F2 σ2 s2 r2 w2 x2 => ?_
  have k2 := k1.to x2
  rw [← e2]
  exact w2 A F2 s2 _ P Eb R k2.g k2.st (.cons (r1.mono x2.sub) r2) fun c v F3 σ3 s3 r3 q3 st p sh => h _ _ _ _ _ r3 q3 ((x1.trans x2).trans (.call st p sh))
theorem bi_call {A : Around} {F : Fz} {ρ : Ro} {σ : So} {s : Shared} {T id : String} {name : Str} {Q : V → So → Prop} {P : Value → Shared → Prop} {Eb : Value → Shared → Prop} {Q2 : V → List V → So → Prop} (pa : PlainAttrs T) (slot : Slot T name id) (hty : typeOf (.builtin id) = pure (.type "method_descriptor"))
    (hn : noSup o = true) (hs : xs.all noStar = true) (hl : sameLine apos pos = true) (few : xs.length < 30) (ho : TV X n env nm (eval o env) wo) (hx : TL X n env nm (spliced (backTo pos (starEach xs env))) ws) (R : Room n A) (k : Fo X env nm F ρ σ s)
    (w : wo ρ σ Q) (h1 : ∀ c v F' σ' s', RelV X F' c v → Q v σ' → Nxt X F σ s F' σ' s' → s'.TypeIs c T ∧ (∀ a, c = .ref a → ∃ o, s'.heap.get? a = some o ∧ o.dict = none) ∧ ws ρ σ' (Q2 v))
    (h : ∀ c v cs vs F' σ' s', RelV X F' c v → RelVs X F' cs vs → Q2 v vs σ' → Nxt X F σ s F' σ' s' → wpAny (model X.prog X.w) A (call (.builtin id) (c :: cs) []) P Eb s') :
    wpAny (model X.prog X.w) A (eval (.Call (.Attribute o name apos) xs [] pos) env) P Eb s := by
  refine meth_call hn hs hl few (ho A F ρ σ s _ _ _ R k w fun c v F1 σ1 s1 r1 w1 x1 => ?_)
  have k1 := k.to x1
  intro pl
  obtain ⟨hT, hd, w1⟩ := h1 _ _ _ _ _ r1 w1 x1
  refine getMethod_builtin hT pa slot hty hd ?_
  exact call_args (first := [c]) (kept_looks (f := .builtin id) rfl) hs hx R k1 w1 fun cs vs F2 σ2 s2 r2 w2 x2 => h _ _ _ _ _ _ _ (r1.mono x2.sub) r2 w2 (x1.trans x2)
theorem own_list {F : Fz} {σ : So} {h : Heap} {a : Addr} {vs : List V} (S : St X F σ h) (e : σ a = some (.lst vs)) : ∃ cs k, h.get? a = some (seqObj "list" cs k) ∧ RelVs X F cs vs := by
  obtain ⟨f, o, ho, r⟩ := S.own a _ e
  cases r with
  | lst r => exact ⟨_, _, ho, r⟩
theorem own_dict {F : Fz} {σ : So} {h : Heap} {a : Addr} {es : List (Int × V)} (S : St X F σ h) (e : σ a = some (.dI es)) : ∃ kvs, h.DictOf (intKind X.prog X.w) a kvs ∧ RelI X F kvs es := by
  obtain ⟨f, o, ho, r⟩ := S.own a _ e
  cases r with
  | dI d r => exact ⟨_, Heap.dictOf_iff.mpr ⟨o, ho, d⟩, r⟩
theorem SameBut.keep {D : Addr} {h h' : Heap} (x : Heap.SameBut D h h') : ∀ b o, b ≠ D → h.get? b = some o → h'.get? b = some o := fun b ι n e => (x.2 b n).trans e
theorem own_push {F : Fz} {σ : So} {s : Shared} {l : Addr} {vs : List V} {cs : List Value} {k : Nat} {c : Value} {v : V} {h' : Heap} (S : St X F σ s.heap) (e : σ l = some (.lst vs)) (r : RelVs X F cs vs) (rc : RelV X F c v)
    (hs : Heap.SameBut l s.heap h') (ho : h'.get? l = some { cls := .type "list", data := .seq (cs.toArray.push c) k }) : Nx X F σ s.heap F (upd σ l (.lst (vs ++ [v]))) h' := by
  refine Nx.chg S e (o' := seqObj "list" (cs ++ [c]) k) ?_ (.lst (r.append (.cons rc .nil))) (SameBut.keep hs)
  rw [ho]; simp
theorem fits {vs : List V} {cs : List Value} {F : Fz} (r : RelVs X F cs vs) (h : vs.length < lid) : cs.toArray.size ≤ sizeLine := by
  rw [List.size_toArray]; exact fit_lid r h
theorem list_type {F : Fz} {σ : So} {s : Shared} {c : Value} {v : V} (S : St X F σ s.heap) (r : RelV X F c v) (h : (listV σ v).isSome = true) : s.TypeIs c "list" ∧ ∀ a, c = .ref a → ∃ o, s.heap.get? a = some o ∧ o.dict = none := by
  obtain ⟨vs, e⟩ := Option.isSome_iff_exists.mp h
  obtain ⟨a, cs, k, rfl, ho, -⟩ := list_at S r e
  exact ⟨⟨_, ho, rfl⟩, fun b e => by (injection e); exact ⟨_, ho, rfl⟩⟩
theorem dict_type {F : Fz} {σ : So} {s : Shared} {c : Value} {v : V} (G : Grd X F) (S : St X F σ s.heap) (r : RelV X F c v) (h : (dictV σ v).isSome = true) : s.TypeIs c "dict" ∧ ∀ a, c = .ref a → ∃ o, s.heap.get? a = some o ∧ o.dict = none := by
  obtain ⟨vs, e⟩ := Option.isSome_iff_exists.mp h
  obtain ⟨a, kvs, rfl, -, hd, -⟩ := dict_at G S r e
  exact ⟨hd.typeIs, hd.mapOf.noDict⟩
theorem tl_one (hst : noStar x = true) (hx : TV X n env nm (eval x env) wl) : TL X n env nm (spliced (backTo pos (starEach [x] env))) fun ρ σ Q => wl ρ σ fun v σ => Q [v] σ := tl_cons hst hx tl_nil
theorem tl_two (h1 : noStar x = true) (h2 : noStar y = true) (hx : TV X n env nm (eval x env) wl) (hy : TV X n env nm (eval y env) wr) : TL X n env nm (spliced (backTo pos (starEach [x, y] env))) fun ρ σ Q => wl ρ σ fun v σ => wr ρ σ fun u σ => Q [v, u] σ := tl_cons h1 hx (tl_one h2 hy)
inductive Rel1 (X : Cx) (F : Fz) (cs : List Value) (v : V) : Prop
  | mk (c : Value) (e : cs = [c]) (r : RelV X F c v)
inductive Rel2 (X : Cx) (F : Fz) (cs : List Value) (v u : V) : Prop
  | mk (c d : Value) (e : cs = [c, d]) (r : RelV X F c v) (r2 : RelV X F d u)
inductive One (X : Cx) (F : Fz) (P : V → So → Prop) (vs : List V) (σ : So) (cs : List Value) : Prop
  | mk (v : V) (c : Value) (ev : vs = [v]) (e : cs = [c]) (r : RelV X F c v) (q : P v σ)
inductive Two (X : Cx) (F : Fz) (P : V → V → So → Prop) (vs : List V) (σ : So) (cs : List Value) : Prop
  | mk (v u : V) (c d : Value) (ev : vs = [v, u]) (e : cs = [c, d]) (r : RelV X F c v) (r2 : RelV X F d u) (q : P v u σ)
theorem relVs_one {F : Fz} {cs : List Value} {v : V} (r : RelVs X F cs [v]) : Rel1 X F cs v := by
  cases r with | cons a b => (injection b); exact ⟨_, rfl, a⟩
theorem relVs_two {F : Fz} {cs : List Value} {v u : V} (r : RelVs X F cs [v, u]) : Rel2 X F cs v u := by
  cases r with | cons a b => obtain ⟨d, rfl, q⟩ := relVs_one b; exact ⟨_, _, rfl, a, q⟩
noncomputable def one (P : V → So → Prop) (vs : List V) (σ : So) : Prop := match vs with | [v] => P v σ | _ => False
noncomputable def two (P : V → V → So → Prop) (vs : List V) (σ : So) : Prop := match vs with | [v, u] => P v u σ | _ => False
theorem one_ok {P : V → So → Prop} {vs : List V} {σ : So} {F : Fz} {cs : List Value} (h : one P vs σ) (r : RelVs X F cs vs) : One X F P vs σ cs := by
  match vs, h with
  | [v], h => obtain ⟨c, rfl, q⟩ := relVs_one r; exact ⟨v, c, rfl, rfl, q, h⟩
theorem two_ok {P : V → V → So → Prop} {vs : List V} {σ : So} {F : Fz} {cs : List Value} (h : two P vs σ) (r : RelVs X F cs vs) : Two X F P vs σ cs := by
  match vs, h with
  | [v, u], h => obtain ⟨c, d, rfl, q, q'⟩ := relVs_two r; exact ⟨v, u, c, d, rfl, rfl, q, q', h⟩
theorem tv_append (hn : noSup o = true) (hl : sameLine apos pos = true) (hst : noStar x = true) (ho : TV X n env nm (eval o env) wo) (hx : TV X n env nm (eval x env) wl) :
    TV X n env nm (eval (.Call (.Attribute o Nm.append.str apos) [x] [] pos) env) fun ρ σ Q => wo ρ σ fun a σ => (listV σ a).isSome = true ∧ wl ρ σ fun v σ => AppQ σ a v Q := by
  intro A F ρ σ s Q P Eb R k w h
  refine bi_call PySem.F.plainAttrs_list PySem.F.slot_list_append PySem.F.type_list_append hn (by simp [hst]) hl (by show 1 < 30; lia) ho (tl_one hst hx) R k w (Q2 := fun a => one fun v σ => AppQ σ a v Q) (fun c v F1 σ1 s1 r1 w1 x1 => ?_) fun c v cs vs F1 σ1 s1 r1 rs w1 x1 => ?_
  · obtain ⟨a, b⟩ := list_type x1.st r1 w1.1
    exact ⟨a, b, w1.2⟩
  · obtain ⟨u, d, rfl, rfl, rd, l, ys, rfl, e, lt, q⟩ := one_ok w1 rs
    (first | (obtain rfl := iVr r1) | (obtain ⟨_, rfl⟩ := iVi r1) | (obtain rfl := iV0 r1) | (obtain rfl := iVb r1) | (obtain ⟨_, rfl⟩ := iVs r1) | (obtain ⟨_, _, _, rfl, _, _⟩ := iVt r1) | (obtain ⟨_, _, _, rfl, _, _⟩ := iVl r1) | (obtain ⟨_, _, _, rfl, _, _, _, _⟩ := iVd r1) | (obtain ⟨_, _, _, rfl, _, _, _, _⟩ := iVS r1) | (obtain ⟨_, _, _, _, rfl, _, _, _⟩ := iVo r1) | cases r1)
    obtain ⟨cs, j, hh, rr⟩ := own_list x1.st e
    exact append_at hh (fun h' hs ho' => h _ _ _ _ { s1 with heap := h' } .none q (x1.trans (Nxt.of (own_push x1.st e rr rd hs ho') _))) (fits rr lt)
theorem tv_pop (hn : noSup o = true) (hl : sameLine apos pos = true) (ho : TV X n env nm (eval o env) wo) :
    TV X n env nm (eval (.Call (.Attribute o Nm.pop.str apos) [] [] pos) env) fun ρ σ Q => wo ρ σ fun a σ => PopQ σ a Q := by
  intro A F ρ σ s Q P Eb R k w h
  refine bi_call PySem.F.plainAttrs_list PySem.F.slot_list_pop PySem.F.type_list_pop hn rfl hl (by show 0 < 30; lia) ho tl_nil R k w (Q2 := fun a vs σ => vs = [] ∧ PopQ σ a Q) (fun c v F1 σ1 s1 r1 w1 x1 => ?_) fun c v cs vs F1 σ1 s1 r1 rs w1 x1 => ?_
  · have w2 := w1
    obtain ⟨l, ys, y, rfl, e, lt, q⟩ := w2
    obtain ⟨a, b⟩ := list_type x1.st r1 (isL e)
    exact ⟨a, b, rfl, w1⟩
  · obtain ⟨rfl, l, ys, y, rfl, e, lt, q⟩ := w1
    (first | (obtain rfl := iVr r1) | (obtain ⟨_, rfl⟩ := iVi r1) | (obtain rfl := iV0 r1) | (obtain rfl := iVb r1) | (obtain ⟨_, rfl⟩ := iVs r1) | (obtain ⟨_, _, _, rfl, _, _⟩ := iVt r1) | (obtain ⟨_, _, _, rfl, _, _⟩ := iVl r1) | (obtain ⟨_, _, _, rfl, _, _, _, _⟩ := iVd r1) | (obtain ⟨_, _, _, rfl, _, _, _, _⟩ := iVS r1) | (obtain ⟨_, _, _, _, rfl, _, _, _⟩ := iVo r1) | cases r1); (first | (obtain rfl := iVr rs) | (obtain ⟨_, rfl⟩ := iVi rs) | (obtain rfl := iV0 rs) | (obtain rfl := iVb rs) | (obtain ⟨_, rfl⟩ := iVs rs) | (obtain ⟨_, _, _, rfl, _, _⟩ := iVt rs) | (obtain ⟨_, _, _, rfl, _, _⟩ := iVl rs) | (obtain ⟨_, _, _, rfl, _, _, _, _⟩ := iVd rs) | (obtain ⟨_, _, _, rfl, _, _, _, _⟩ := iVS rs) | (obtain ⟨_, _, _, _, rfl, _, _, _⟩ := iVo rs) | cases rs)
    obtain ⟨cs, j, hh, rr⟩ := own_list x1.st e
    obtain ⟨cs', c', rfl, r1, r2⟩ := rr.split
    have hz : (cs' ++ [c']).toArray.size ≤ sizeLine := by
      have l1 := r1.length
      rw [List.size_toArray, List.length_append, List.length_singleton, l1]
      unfold lid at lt; unfold sizeLine; lia
    have hk : (cs' ++ [c']).toArray.size - 1 = cs'.length := by rw [List.size_toArray, List.length_append]; rfl
    have hy : (cs' ++ [c']).toArray[(cs' ++ [c']).toArray.size - 1]? = some c' := by rw [hk]; simp
    refine call_meets PySem.F.slot_list_pop ⟨_, hh, rfl⟩ PySem.F.entry_list_pop (PySem.F.args_list_pop_1 _) (PySem.MeetsSeq.list_pop_last l _ j c' hy hz) ⟨hh, h _ _ _ _ { s1 with heap := _ } r2 q (x1.trans (Nxt.of (Nx.chg x1.st e (o' := seqObj "list" cs' (j + 1)) ?_ (.lst r1) (SameBut.keep (Heap.SameBut.update ..))) _))⟩
    have q1 := PySem.IsL.update hh fun x => x.eraseIdxIfInBounds ((cs' ++ [c']).toArray.size - 1)
    have e1 : (cs' ++ [c']).toArray.eraseIdxIfInBounds ((cs' ++ [c']).toArray.size - 1) = cs'.toArray := by rw [hk, kl_erase, List.append_nil]
    rw [e1, if_neg (by simp)] at q1
    exact q1
theorem relI_without {F : Fz} {kvs : List (Int × Value)} {es : List (Int × V)} (r : RelI X F kvs es) (nd : (kvs.map (·.1)).Nodup) (i : Int) : RelI X F (without kvs i) (del es i) := by
  induction kvs generalizing es with
  | nil => (first | (obtain rfl := iVr r) | (obtain ⟨_, rfl⟩ := iVi r) | (obtain rfl := iV0 r) | (obtain rfl := iVb r) | (obtain ⟨_, rfl⟩ := iVs r) | (obtain ⟨_, _, _, rfl, _, _⟩ := iVt r) | (obtain ⟨_, _, _, rfl, _, _⟩ := iVl r) | (obtain ⟨_, _, _, rfl, _, _, _, _⟩ := iVd r) | (obtain ⟨_, _, _, rfl, _, _, _, _⟩ := iVS r) | (obtain ⟨_, _, _, _, rfl, _, _, _⟩ := iVo r) | cases r); exact .nil
  | cons p kvs ih =>
    cases r with
    | @cons j c v _ es h1 h2 =>
      rw [List.map_cons, List.nodup_cons] at nd
      by_cases q : j = i
      · subst q
        have e : without ((j, c) :: kvs) j = kvs := by
          have := without_of_not_mem kvs j nd.1
          unfold without at this ⊢
          rw [List.filter_cons_of_neg (by simp), this]
        rw [e]
        simp only [del, if_true]; exact h2
      · have e : without ((j, c) :: kvs) i = (j, c) :: without kvs i := by
          unfold without
          rw [List.filter_cons_of_pos (by simp [q])]
        rw [e]
        simp only [del, if_neg q]; exact .cons h1 (ih h2 nd.2)
theorem relI_length {F : Fz} {kvs : List (Int × Value)} {es : List (Int × V)} (r : RelI X F kvs es) : kvs.length = es.length := by
  have := congrArg List.length (relI_keys r); simpa using this
theorem fitsD {F : Fz} {kvs : List (Int × Value)} {es : List (Int × V)} (r : RelI X F kvs es) (h : es.length < lid) : kvs.length ≤ sizeLine := by
  rw [relI_length r]; unfold lid at h; unfold sizeLine; lia
theorem dict_nd {K : Type} [DecidableEq K] {knd : KeyKind X.prog X.w K} {h : Heap} {a : Addr} {kvs : List (K × Value)} (d : h.DictOf knd a kvs) : (kvs.map (·.1)).Nodup := by
  obtain ⟨o, -, h⟩ := Heap.dictOf_iff.mp d
  obtain ⟨es, ep, -, -, -, -, nd⟩ := h
  exact nd
theorem tv_dpop (hn : noSup o = true) (hl : sameLine apos pos = true) (hst : noStar x = true) (ho : TV X n env nm (eval o env) wo) (hx : TV X n env nm (eval x env) wl) :
    TV X n env nm (eval (.Call (.Attribute o Nm.pop.str apos) [x] [] pos) env) fun ρ σ Q => wo ρ σ fun a σ => (dictV σ a).isSome = true ∧ wl ρ σ fun k σ => DpopQ σ a k Q := by
  intro A F ρ σ s Q P Eb R k w h
  refine bi_call PySem.F.plainAttrs_dict PySem.F.slot_dict_pop PySem.F.type_dict_pop hn (by simp [hst]) hl (by show 1 < 30; lia) ho (tl_one hst hx) R k w (Q2 := fun a => one fun k σ => DpopQ σ a k Q) (fun c v F1 σ1 s1 r1 w1 x1 => ?_) fun c v cs vs F1 σ1 s1 r1 rs w1 x1 => ?_
  · obtain ⟨a, b⟩ := dict_type (k.to x1).g x1.st r1 w1.1
    exact ⟨a, b, w1.2⟩
  · obtain ⟨u, d, rfl, rfl, rd, l, es, i, v, rfl, e, rfl, lt, hv, q⟩ := one_ok w1 rs
    (first | (obtain rfl := iVr r1) | (obtain ⟨_, rfl⟩ := iVi r1) | (obtain rfl := iV0 r1) | (obtain rfl := iVb r1) | (obtain ⟨_, rfl⟩ := iVs r1) | (obtain ⟨_, _, _, rfl, _, _⟩ := iVt r1) | (obtain ⟨_, _, _, rfl, _, _⟩ := iVl r1) | (obtain ⟨_, _, _, rfl, _, _, _, _⟩ := iVd r1) | (obtain ⟨_, _, _, rfl, _, _, _, _⟩ := iVS r1) | (obtain ⟨_, _, _, _, rfl, _, _, _⟩ := iVo r1) | cases r1); (first | (obtain rfl := iVr rd) | (obtain ⟨_, rfl⟩ := iVi rd) | (obtain rfl := iV0 rd) | (obtain rfl := iVb rd) | (obtain ⟨_, rfl⟩ := iVs rd) | (obtain ⟨_, _, _, rfl, _, _⟩ := iVt rd) | (obtain ⟨_, _, _, rfl, _, _⟩ := iVl rd) | (obtain ⟨_, _, _, rfl, _, _, _, _⟩ := iVd rd) | (obtain ⟨_, _, _, rfl, _, _, _, _⟩ := iVS rd) | (obtain ⟨_, _, _, _, rfl, _, _, _⟩ := iVo rd) | cases rd)
    obtain ⟨kvs, hd, rr⟩ := own_dict x1.st e
    obtain ⟨c, hc, rc⟩ := (relI_look rr i).1 v hv
    refine call_meetsIn PySem.F.slot_dict_pop hd.typeIs PySem.F.entry_dict_pop (PySem.F.args_dict_pop_2 _ _) (meets_dict_pop_there (intKind X.prog X.w) l (intKind_is ..) [] (.inl rfl) rfl) ⟨kvs, c, hd, fitsD rr lt, hc, fun h' hd' hs => ?_⟩
    obtain ⟨o', ho', hdo⟩ := Heap.dictOf_iff.mp hd'
    exact h _ _ _ _ { s1 with heap := h', toks := s1.toks + 1 } rc q (x1.trans (Nxt.of (Nx.chg x1.st e ho' (.dI hdo (relI_without rr (dict_nd hd) i)) (SameBut.keep hs)) _))
theorem intV_some {v : V} {i : Int} (h : intV v = some i) : v = .int i := by
  cases v with
  | int j => exact congrArg V.int (Option.some.inj h)
  | _ => exact nA h
theorem tv_dget (hn : noSup o = true) (hl : sameLine apos pos = true) (h1 : noStar x = true) (h2 : noStar y = true) (ho : TV X n env nm (eval o env) wo) (hx : TV X n env nm (eval x env) wl) (hy : TV X n env nm (eval y env) wr) :
    TV X n env nm (eval (.Call (.Attribute o Nm.get.str apos) [x, y] [] pos) env) fun ρ σ Q => wo ρ σ fun a σ => (dictV σ a).isSome = true ∧ wl ρ σ fun k σ => wr ρ σ fun d σ => och (dictV σ a) fun es => och (intV k) fun i => Q ((look es i).getD d) σ := by
  intro A F ρ σ s Q P Eb R k w h
  refine bi_call PySem.F.plainAttrs_dict PySem.F.slot_dict_get PySem.F.type_dict_get hn (by simp [h1, h2]) hl (by show 2 < 30; lia) ho (tl_two h1 h2 hx hy) R k w (Q2 := fun a => two fun k d σ => och (dictV σ a) fun es => och (intV k) fun i => Q ((look es i).getD d) σ) (fun c v F1 σ1 s1 r1 w1 x1 => ?_) fun c v cs vs F1 σ1 s1 r1 rs w1 x1 => ?_
  · obtain ⟨a, b⟩ := dict_type (k.to x1).g x1.st r1 w1.1
    exact ⟨a, b, w1.2⟩
  · obtain ⟨u, u2, d, d2, rfl, rfl, rd, rd2, w1⟩ := two_ok w1 rs
    obtain ⟨es, e1, w1⟩ := och_elim w1
    obtain ⟨i, e2, q⟩ := och_elim w1
    obtain ⟨a, kvs, rfl, hm, hd, rr⟩ := dict_at (k.to x1).g x1.st r1 e1
    obtain rfl := intV_some e2
    (first | (obtain rfl := iVr rd) | (obtain ⟨_, rfl⟩ := iVi rd) | (obtain rfl := iV0 rd) | (obtain rfl := iVb rd) | (obtain ⟨_, rfl⟩ := iVs rd) | (obtain ⟨_, _, _, rfl, _, _⟩ := iVt rd) | (obtain ⟨_, _, _, rfl, _, _⟩ := iVl rd) | (obtain ⟨_, _, _, rfl, _, _, _, _⟩ := iVd rd) | (obtain ⟨_, _, _, rfl, _, _, _, _⟩ := iVS rd) | (obtain ⟨_, _, _, _, rfl, _, _, _⟩ := iVo rd) | cases rd)
    refine call_meetsIn PySem.F.slot_dict_get hd.typeIs PySem.F.entry_dict_get (PySem.F.args_dict_get_3 _ _ _) (meets_dict_get_default (intKind X.prog X.w) a (intKind_is ..) hm _) ⟨_, hd.mapOf, ?_⟩
    refine h _ _ _ _ { s1 with toks := s1.toks + 1 } ?_ q (x1.toks _)
    cases e3 : look es i with
    | none => rw [(relI_look rr i).2 e3]; exact rd2
    | some v => obtain ⟨c, hc, rc⟩ := (relI_look rr i).1 v e3; rw [hc]; exact rc
inductive L1At (F : Fz) (c : Value) (i : Int) : Prop
  | mk (a : Addr) (t : Tok) (j : Nat) (e : c = .ref a) (h : F a = some (seqObj "list" [.int i t] j))
theorem lst_one {F : Fz} {c : Value} {i : Int} (r : RelV X F c (.lst [.int i])) : L1At F c i := by
  cases r with
  | lst h r => obtain ⟨d, rfl, q⟩ := relVs_one r; (injection q); exact ⟨_, _, _, rfl, h⟩
theorem oneInt_some {v : V} {i : Int} (h : oneInt v = some i) : v = .lst [.int i] := by
  cases v with
  | lst vs =>
    cases vs with
    | nil => exact nA h
    | cons x r => cases r with
      | nil => cases intV_some h; rfl
      | cons => exact nA h
  | _ => exact nA h
theorem one_eqAt (A : Around) (s : Shared) (i j : Int) (t u : Tok) : ∀ y, y ∈ [Value.int i t].toArray → SeqAt.EqAt A s y (.int j u) (intIs j y) := fun y hy => by
  have : y = .int i t := by simpa using hy
  subst this
  exact SeqAt.EqAt.int_int i t j u
theorem tv_count (hn : noSup o = true) (hl : sameLine apos pos = true) (hst : noStar x = true) (ho : TV X n env nm (eval o env) wo) (hx : TV X n env nm (eval x env) wl) :
    TV X n env nm (eval (.Call (.Attribute o Nm.count.str apos) [x] [] pos) env) fun ρ σ Q => wo ρ σ fun a σ => och (oneInt a) fun i => wl ρ σ fun v σ => och (intV v) fun j => Q (.int (if i = j then 1 else 0)) σ := by
  intro A F ρ σ s Q P Eb R k w h
  refine bi_call PySem.F.plainAttrs_list PySem.F.slot_list_count PySem.F.type_list_count hn (by simp [hst]) hl (by show 1 < 30; omega) ho (tl_one hst hx) R k w (Q2 := fun a => one fun v σ => och (oneInt a) fun i => och (intV v) fun j => Q (.int (if i = j then 1 else 0)) σ) (fun c v F1 σ1 s1 r1 w1 x1 => ?_) fun c v cs vs F1 σ1 s1 r1 rs w1 x1 => ?_
  · obtain ⟨i, e, w1⟩ := och_elim w1
    obtain rfl := oneInt_some e
    obtain ⟨a, b⟩ := list_type x1.st r1 rfl
    exact ⟨a, b, w1⟩
  · obtain ⟨u, d, rfl, rfl, rd, w1⟩ := one_ok w1 rs
    obtain ⟨i, e, w2⟩ := och_elim w1
    obtain ⟨j, e2, q⟩ := och_elim w2
    clear w1 w2
    obtain rfl := oneInt_some e
    obtain ⟨a, t, m, rfl, ha⟩ := lst_one r1
    obtain rfl := intV_some e2
    (first | (obtain rfl := iVr rd) | (obtain ⟨_, rfl⟩ := iVi rd) | (obtain rfl := iV0 rd) | (obtain rfl := iVb rd) | (obtain ⟨_, rfl⟩ := iVs rd) | (obtain ⟨_, _, _, rfl, _, _⟩ := iVt rd) | (obtain ⟨_, _, _, rfl, _, _⟩ := iVl rd) | (obtain ⟨_, _, _, rfl, _, _, _, _⟩ := iVd rd) | (obtain ⟨_, _, _, rfl, _, _, _, _⟩ := iVS rd) | (obtain ⟨_, _, _, _, rfl, _, _, _⟩ := iVo rd) | cases rd)
    have hc := x1.st.fro _ _ ha
    refine call_meets PySem.F.slot_list_count ⟨_, hc, rfl⟩ PySem.F.entry_list_count (PySem.F.args_list_count_2 _ _) (SeqAt.list_countAt a [Value.int i t].toArray m none #[] _ (intIs j)) ⟨hc, one_eqAt _ _ _ _ _ _, ?_⟩
    have e3 : (([Value.int i t].toArray.toList.countP (intIs j) : Nat) : Int) = if i = j then 1 else 0 := by
      by_cases q : i = j
      · subst q; simp [intIs, List.countP_cons]
      · rw [if_neg q]; simp [intIs, List.countP_cons, q]
    rw [e3]
    exact h _ _ _ _ { s1 with toks := s1.toks + 1 } (.int _ _) q (x1.toks _)
theorem tv_index (hn : noSup o = true) (hl : sameLine apos pos = true) (hst : noStar x = true) (ho : TV X n env nm (eval o env) wo) (hx : TV X n env nm (eval x env) wl) :
    TV X n env nm (eval (.Call (.Attribute o Nm.index.str apos) [x] [] pos) env) fun ρ σ Q => wo ρ σ fun a σ => och (oneInt a) fun i => wl ρ σ fun v σ => v = .int i ∧ Q (.int 0) σ := by
  intro A F ρ σ s Q P Eb R k w h
  refine bi_call PySem.F.plainAttrs_list PySem.F.slot_list_index PySem.F.type_list_index hn (by simp [hst]) hl (by show 1 < 30; omega) ho (tl_one hst hx) R k w (Q2 := fun a => one fun v σ => och (oneInt a) fun i => v = .int i ∧ Q (.int 0) σ) (fun c v F1 σ1 s1 r1 w1 x1 => ?_) fun c v cs vs F1 σ1 s1 r1 rs w1 x1 => ?_
  · obtain ⟨i, e, w1⟩ := och_elim w1
    obtain rfl := oneInt_some e
    obtain ⟨a, b⟩ := list_type x1.st r1 rfl
    exact ⟨a, b, w1⟩
  · obtain ⟨u, d, rfl, rfl, rd, w1⟩ := one_ok w1 rs
    obtain ⟨i, e, rfl, q⟩ := och_elim w1
    obtain rfl := oneInt_some e
    obtain ⟨a, t, m, rfl, ha⟩ := lst_one r1
    (first | (obtain rfl := iVr rd) | (obtain ⟨_, rfl⟩ := iVi rd) | (obtain rfl := iV0 rd) | (obtain rfl := iVb rd) | (obtain ⟨_, rfl⟩ := iVs rd) | (obtain ⟨_, _, _, rfl, _, _⟩ := iVt rd) | (obtain ⟨_, _, _, rfl, _, _⟩ := iVl rd) | (obtain ⟨_, _, _, rfl, _, _, _, _⟩ := iVd rd) | (obtain ⟨_, _, _, rfl, _, _, _, _⟩ := iVS rd) | (obtain ⟨_, _, _, _, rfl, _, _, _⟩ := iVo rd) | cases rd)
    have hc := x1.st.fro _ _ ha
    refine call_meets PySem.F.slot_list_index ⟨_, hc, rfl⟩ PySem.F.entry_list_index (PySem.F.args_list_index_2 _ _) (SeqAt.list_indexAt a [Value.int i t].toArray m none #[] _ (intIs i) 0 (by simp) (by decide) (by simp [intIs]) (fun m ι h => absurd h (Nat.not_lt_zero m))) ⟨hc, one_eqAt _ _ _ _ _ _, ?_⟩
    exact h _ _ _ _ { s1 with toks := s1.toks + 1 } (.int 0 _) q (x1.toks _)
theorem tv_sadd (hn : noSup o = true) (hl : sameLine apos pos = true) (hst : noStar x = true) (ho : TV X n env nm (eval o env) wo) (hx : TV X n env nm (eval x env) wl) :
    TV X n env nm (eval (.Call (.Attribute o Nm.add.str apos) [x] [] pos) env) fun ρ σ Q => wo ρ σ fun a σ => isSetV σ a = true ∧ wl ρ σ fun v σ => SaddQ σ a v Q := by
  intro A F ρ σ s Q P Eb R k w h
  refine bi_call PySem.F.plainAttrs_set PySem.F.slot_set_add PySem.F.type_set_add hn (by simp [hst]) hl (by show 1 < 30; omega) ho (tl_one hst hx) R k w (Q2 := fun a => one fun v σ => SaddQ σ a v Q) (fun c v F1 σ1 s1 r1 w1 x1 => ?_) fun c v cs vs F1 σ1 s1 r1 rs w1 x1 => ?_
  · obtain ⟨e, w1⟩ := w1
    obtain ⟨l, is, rfl, e1⟩ := isSetV_inv e
    (first | (obtain rfl := iVr r1) | (obtain ⟨_, rfl⟩ := iVi r1) | (obtain rfl := iV0 r1) | (obtain rfl := iVb r1) | (obtain ⟨_, rfl⟩ := iVs r1) | (obtain ⟨_, _, _, rfl, _, _⟩ := iVt r1) | (obtain ⟨_, _, _, rfl, _, _⟩ := iVl r1) | (obtain ⟨_, _, _, rfl, _, _, _, _⟩ := iVd r1) | (obtain ⟨_, _, _, rfl, _, _, _, _⟩ := iVS r1) | (obtain ⟨_, _, _, _, rfl, _, _, _⟩ := iVo r1) | cases r1)
    obtain ⟨f, o, ho, r⟩ := x1.st.own l _ e1
    obtain ⟨d, lt⟩ := r.iSet
    · have S := d.setOf ho (by unfold scanBound; omega)
      exact ⟨S.typeIs, S.noDict, w1⟩
  · obtain ⟨u, d, rfl, rfl, rd, l, is, i, rfl, e, rfl, lt, q⟩ := one_ok w1 rs
    (first | (obtain rfl := iVr r1) | (obtain ⟨_, rfl⟩ := iVi r1) | (obtain rfl := iV0 r1) | (obtain rfl := iVb r1) | (obtain ⟨_, rfl⟩ := iVs r1) | (obtain ⟨_, _, _, rfl, _, _⟩ := iVt r1) | (obtain ⟨_, _, _, rfl, _, _⟩ := iVl r1) | (obtain ⟨_, _, _, rfl, _, _, _, _⟩ := iVd r1) | (obtain ⟨_, _, _, rfl, _, _, _, _⟩ := iVS r1) | (obtain ⟨_, _, _, _, rfl, _, _, _⟩ := iVo r1) | cases r1); (first | (obtain rfl := iVr rd) | (obtain ⟨_, rfl⟩ := iVi rd) | (obtain rfl := iV0 rd) | (obtain rfl := iVb rd) | (obtain ⟨_, rfl⟩ := iVs rd) | (obtain ⟨_, _, _, rfl, _, _⟩ := iVt rd) | (obtain ⟨_, _, _, rfl, _, _⟩ := iVl rd) | (obtain ⟨_, _, _, rfl, _, _, _, _⟩ := iVd rd) | (obtain ⟨_, _, _, rfl, _, _, _, _⟩ := iVS rd) | (obtain ⟨_, _, _, _, rfl, _, _, _⟩ := iVo rd) | cases rd)
    obtain ⟨f, o, ho, r⟩ := x1.st.own l _ e
    obtain ⟨d, lt'⟩ := r.iSet
    · have S := d.setOf ho (by unfold scanBound; omega)
      refine call_set_add (k := i) (intKind_is ..) rfl S (by unfold scanBound; omega) fun h' hs hS' => ?_
      obtain ⟨o', ho', hso'⟩ := hS'.objOf
      refine h _ _ _ _ { s1 with heap := h', toks := s1.toks + 1 } .none q (x1.trans (Nxt.of (Nx.chg x1.st e ho' ?_ (SameBut.keep hs)) _))
      by_cases q : i ∈ is
      · rw [if_pos q]
        rw [decide_eq_true q, if_pos rfl] at hso'
        refine .set ?_ (by omega)
        have : (fun k' => decide (k' ∈ is) || decide (k' = i)) = fun k => decide (k ∈ is) := by
          funext k'
          by_cases q' : k' = i
          · subst q'; simp [q]
          · simp [q']
        rw [this] at hso'; exact hso'
      · rw [if_neg q]
        rw [decide_eq_false q, if_neg Bool.false_ne_true] at hso'
        refine .set ?_ (by simp; omega)
        have : (fun k' => decide (k' ∈ is) || decide (k' = i)) = fun k => decide (k ∈ is ++ [i]) := by
          funext k'; simp
        rw [this] at hso'; simpa using hso'
end
end
section
variable {X : Cx}
section
variable {n : Nat} {env : Env} {nm : List Str} {names : Nms} {xs : List Expr} {x y z o : Expr} {pos apos p : Pos} {ws : Ro → So → (List V → So → Prop) → Prop} {wl wr wz wo : Ro → So → (V → So → Prop) → Prop} {wt wu : Ro → So → (Bool → So → Prop) → Prop}
theorem eqv_nil (vs : List V) : PyData.eqv (.list (pyVs vs)) (.list []) = vs.isEmpty := by
  (injection vs) <;> simp [pyVs, PyData.eqv, PyData.eqvAll]
theorem tb_neNil {whole : Sem Value} (hx : TV X n env nm (eval x env) wl) :
    TB X n env nm (PySem.isTrue (.Compare x [.NotEq] [.List [] p] pos) env whole) fun ρ σ Q => wl ρ σ fun a σ => och (listV σ a) fun xs => okVs xs 7 = true ∧ Q (!xs.isEmpty) σ := by
  intro A F ρ σ s Q P Eb R k w h
  refine wpAny_isTrue_Compare1 (hx A F ρ σ s _ _ _ R k w fun c v F1 σ1 s1 r1 w1 x1 => ?_) rfl
  refine wpAny_List_spliced (spliced_none ⟨by show 0 ≤ sizeLine; exact Nat.zero_le _, ?_⟩)
  obtain ⟨vs, e, hv, q⟩ := och_elim w1
  obtain ⟨a, cs, m, rfl, ha, rr⟩ := list_at x1.st r1 e
  have nx := Nx.fz x1.st (seqObj "list" [] 0)
  have x2 := x1.trans (Nxt.of nx s1.toks)
  have ha' := push_keeps s1.heap (seqObj "list" [] 0) _ _ ha
  obtain ⟨as, xa⟩ := reads_all (X := X) (s := { s1 with heap := s1.heap.push (seqObj "list" [] 0) }) nx.st.fro (rr.mono nx.p.mono) hv
  have ok : okV (.lst vs) 8 = true := hv
  refine ne_dataH (da := .list (pyVs vs)) (db := .list []) (reads_list_at ha' rfl rfl (by simpa using xa)) (reads_list_at (o := seqObj "list" [] 0) (Heap.get?_push_size _ rfl) rfl rfl .nil) (shaped_of ok) (shaped_of (v := .lst []) rfl) R.cmp ?_
  refine truth_ok nx.st (v := .bool (!vs.isEmpty)) (by rw [eqv_nil]; exact .bool _) rfl fun t => ?_
  exact h _ _ _ _ q (x2.toks t)
theorem tb_all_nil {and : Bool} {op : BoolOp} (ho : (op = .And ∧ and = true) ∨ (op = .Or ∧ and = false)) : TB X n env nm (allTrue op [] env) fun ι σ Q => Q and σ := by
  intro A F ρ σ s Q P Eb R k w h
  rcases ho with ⟨rfl, rfl⟩ | ⟨rfl, rfl⟩
  · exact wpAny_allTrue_And_nil (h _ _ _ _ w (.refl k.st))
  · exact wpAny_allTrue_Or_nil (h _ _ _ _ w (.refl k.st))
theorem tb_all_cons {and : Bool} {op : BoolOp} (ho : (op = .And ∧ and = true) ∨ (op = .Or ∧ and = false)) (hx : TB X n env nm (PySem.isTrue x env (eval x env)) wt) (hy : TB X n env nm (allTrue op xs env) wu) :
    TB X n env nm (allTrue op (x :: xs) env) fun ρ σ Q => wt ρ σ fun b σ => (b = and → wu ρ σ Q) ∧ (b ≠ and → Q b σ) := by
  intro A F ρ σ s Q P Eb R k w h
  rcases ho with ⟨rfl, rfl⟩ | ⟨rfl, rfl⟩
  · refine wpAny_allTrue_And_cons (hx A F ρ σ s _ _ _ R k w fun c F1 σ1 s1 w1 x1 => ?_)
    cases c with
    | true => exact hy A F1 ρ σ1 s1 Q P Eb R (k.to x1) (w1.1 rfl) fun c F2 σ2 s2 w2 x2 => h _ _ _ _ w2 (x1.trans x2)
    | false => exact h _ _ _ _ (w1.2 (by decide)) x1
  · refine wpAny_allTrue_Or_cons (hx A F ρ σ s _ _ _ R k w fun c F1 σ1 s1 w1 x1 => ?_)
    cases c with
    | true => exact h _ _ _ _ (w1.2 (by decide)) x1
    | false => exact hy A F1 ρ σ1 s1 Q P Eb R (k.to x1) (w1.1 rfl) fun c F2 σ2 s2 w2 x2 => h _ _ _ _ w2 (x1.trans x2)
theorem tb_bop {op : BoolOp} {whole : Sem Value} (hx : TB X n env nm (allTrue op xs env) wt) : TB X n env nm (PySem.isTrue (.BoolOp op xs pos) env whole) wt := by
  intro A F ρ σ s Q P Eb R k w h
  exact wpAny_isTrue_BoolOp (hx A F ρ σ s Q P Eb R k w h)
theorem tv_bop_one {op : BoolOp} (hx : TV X n env nm (eval x env) wl) : TV X n env nm (eval (.BoolOp op [x] pos) env) wl := by
  intro A F ρ σ s Q P Eb R k w h
  exact BoolOp_one (hx A F ρ σ s Q P Eb R k w h)
theorem tv_bop_more {and : Bool} {op : BoolOp} (ho : (op = .And ∧ and = true) ∨ (op = .Or ∧ and = false)) (hx : TV X n env nm (eval x env) wl) (hy : TV X n env nm (eval (.BoolOp op (y :: xs) pos) env) wr) :
    TV X n env nm (eval (.BoolOp op (x :: y :: xs) pos) env) fun ρ σ Q => wl ρ σ fun v σ => och (truthV σ v) fun b => (b = and → wr ρ σ Q) ∧ (b ≠ and → Q v σ) := by
  intro A F ρ σ s Q P Eb R k w h
  rcases ho with ⟨rfl, rfl⟩ | ⟨rfl, rfl⟩
  · refine BoolOp_and (hx A F ρ σ s _ _ _ R k w fun c v F1 σ1 s1 r1 w1 x1 => ?_)
    obtain ⟨b, e, w1⟩ := och_elim w1
    refine truth_ok x1.st r1 e fun t => ?_
    cases b with
    | true => exact hy A F1 ρ σ1 _ Q P Eb R (k.to (x1.toks t)) (w1.1 rfl) fun c v F2 σ2 s2 r2 w2 x2 => h _ _ _ _ _ r2 w2 ((x1.toks t).trans x2)
    | false => exact h _ _ _ _ _ r1 (w1.2 (by decide)) (x1.toks t)
  · refine BoolOp_or (hx A F ρ σ s _ _ _ R k w fun c v F1 σ1 s1 r1 w1 x1 => ?_)
    obtain ⟨b, e, w1⟩ := och_elim w1
    refine truth_ok x1.st r1 e fun t => ?_
    cases b with
    | true => exact h _ _ _ _ _ r1 (w1.2 (by decide)) (x1.toks t)
    | false => exact hy A F1 ρ σ1 _ Q P Eb R (k.to (x1.toks t)) (w1.1 rfl) fun c v F2 σ2 s2 r2 w2 x2 => h _ _ _ _ _ r2 w2 ((x1.toks t).trans x2)
theorem pick_take {cs : List Value} {m : Nat} : slicePick cs.toArray none (some (m : Int)) none = (cs.take m).toArray := by
  have e : sliceBounds none (some (m : Int)) none cs.toArray.size = (((0 : Nat) : Int), ((min m cs.toArray.size : Nat) : Int), 1) := by
    simp only [sliceBounds, Option.getD_none, show (1 : Int) > 0 by decide, if_true, if_neg (show ¬ ((m : Int) < 0) by omega)]
    congr 1
    congr 1
    omega
  rw [kmk_pick_nat _ e]
  show ((cs.drop 0).take (min m cs.toArray.size - 0)).toArray = _
  rw [List.drop_zero, Nat.sub_zero, List.size_toArray, kmk_take_min]
theorem constI_ok {i : Int} {e : Expr} (h : constI i e = true) : ∃ k p, e = .Constant (.int i) k p := by
  cases e with
  | Constant c k p =>
    cases c with
    | int j => cases beq_iff_eq.mp (show (i == j) = true from h); exact ⟨_, _, rfl⟩
    | _ => exact nD h
  | _ => exact nD h
theorem tv_take {m : Nat} {u : Expr} (hu : constI (m : Int) u = true) (hx : TV X n env nm (eval x env) wl) :
    TV X n env nm (eval (.Subscript x (.Slice none (some u) none p) pos) env) fun ρ σ Q => wl ρ σ fun a σ => och (listV σ a) fun xs => xs.length ≤ sizeLine ∧ newL false (xs.take m) σ Q := by
  intro A F ρ σ s Q P Eb R k w h
  obtain ⟨_, _, rfl⟩ := constI_ok hu
  refine Subscript_ (hx A F ρ σ s _ _ _ R k w fun c v F1 σ1 s1 r1 w1 x1 => ?_)
  refine wpAny_Slice (evalPart_none_step (evalPart_some_step (const_int (evalPart_none_step ?_))))
  obtain ⟨vs, e, sz, w1⟩ := och_elim w1
  obtain ⟨a, cs, j, rfl, ha, rr⟩ := list_at x1.st r1 e
  have nj := Nx.junk x1.st { cls := .type "slice", data := .fields #[.none, .int (m : Int) s1.toks, .none] }
  have x2 := x1.trans (Nxt.of nj (s1.toks + 1))
  have hl := isList_of (push_keeps s1.heap { cls := .type "slice", data := .fields #[.none, .int (m : Int) s1.toks, .none] } _ _ ha)
  obtain ⟨u, F3, σ3, r3, w3, x3, lt⟩ := new_list (k.to x2) (rr.take m) w1
  refine tail_any hl.typeIs slot_list_getitem.lookup (wpAny_getItem_list_slice hl (Heap.IsSliceOf.new ..) .none (.int _ _) .none (by simp) ?_ ?_) rfl
  · have := h _ _ _ _ _ r3 w3 (x2.trans x3)
    rw [pick_take]; exact this
  · rw [List.size_toArray, rr.length]; exact sz
theorem tv_rev {u : Expr} {up : Pos} (hu : constI 1 u = true) (hx : TV X n env nm (eval x env) wl) :
    TV X n env nm (eval (.Subscript x (.Slice none none (some (.UnaryOp .USub u up)) p) pos) env) fun ρ σ Q => wl ρ σ fun a σ => och (listV σ a) fun xs => xs.length ≤ sizeLine ∧ newL false xs.reverse σ Q := by
  intro A F ρ σ s Q P Eb R k w h
  obtain ⟨_, _, rfl⟩ := constI_ok hu
  refine Subscript_ (hx A F ρ σ s _ _ _ R k w fun c v F1 σ1 s1 r1 w1 x1 => ?_)
  refine wpAny_Slice (evalPart_none_step (evalPart_none_step (evalPart_some_step (wpAny_UnaryOp (const_int (PyProof.Rows.neg_int ?_))))))
  obtain ⟨vs, e, sz, w1⟩ := och_elim w1
  obtain ⟨a, cs, j, rfl, ha, rr⟩ := list_at x1.st r1 e
  have nj := Nx.junk x1.st { cls := .type "slice", data := .fields #[.none, .none, .int (-1) (s1.toks + 1)] }
  have x2 := x1.trans (Nxt.of nj (s1.toks + 1 + 1))
  have hl := isList_of (push_keeps s1.heap { cls := .type "slice", data := .fields #[.none, .none, .int (-1) (s1.toks + 1)] } _ _ ha)
  obtain ⟨u, F3, σ3, r3, w3, x3, lt⟩ := new_list (k.to x2) rr.reverse w1
  refine tail_any hl.typeIs slot_list_getitem.lookup (wpAny_getItem_list_slice hl (Heap.IsSliceOf.new ..) .none .none (.int _ _) (by decide) ?_ ?_) rfl
  · have := h _ _ _ _ _ r3 w3 (x2.trans x3)
    rw [krv_pick]; exact this
  · rw [List.size_toArray, rr.length]; exact sz
theorem Stp.out {Pv : Addr → Prop} {F F' : Fz} {σ σ' : So} {h h' : Heap} (p : Stp Pv F σ h F' σ' h') {a : Addr} (lt : h.get? a ≠ none) (f1 : F a = none) (f2 : σ a = none) : F' a = none ∧ σ' a = none := by
  have no : ¬ ((F' a).isSome = true ∨ (σ' a).isSome = true) := fun q => by
    rcases p.foot a q with f | f | f
    · rw [f1] at f; (injection f)
    · rw [f2] at f; (injection f)
    · exact lt f
  rw [not_or] at no
  exact ⟨Option.not_isSome_iff_eq_none.mp no.1, Option.not_isSome_iff_eq_none.mp no.2⟩
theorem Nxt.adopt {F F' : Fz} {σ σ' : So} {s s' : Shared} {D : Addr} {o : Obj} {m : M} {h' : Heap} (a : Nxt X F σ s F' σ' s') (hn : s.heap.get? D = none) (f1 : F' D = none) (f2 : σ' D = none)
    (hk : ∀ b o, b ≠ D → s'.heap.get? b = some o → h'.get? b = some o) (ho : h'.get? D = some o) (r : RelM X F' o m) (t : Nat) : Nxt X F σ s F' (upd σ' D m) { s' with heap := h', toks := t } := by
  refine ⟨⟨⟨fun b o' e => hk b o' (by rintro rfl; rw [f1] at e; (injection e)) (a.st.fro b o' e), fun b m' e => ?_⟩, a.sub, fun b o' e q np => ?_, fun b q => ?_, fun b q => ?_⟩, a.sh.trans ⟨h', t, rfl⟩⟩
  · by_cases q : b = D
    · subst q; rw [upd_self] at e; (injection e); exact ⟨f1, o, ho, r⟩
    · rw [upd_ne _ _ q] at e
      obtain ⟨f, o', ho', r'⟩ := a.st.own b m' e
      exact ⟨f, o', hk b o' q ho', r'⟩
  · exact hk b o' (by rintro rfl; rw [hn] at e; (injection e)) (a.n.p.keep b o' e q np)
  · by_cases q' : b = D
    · subst q'; exact .inr (.inr hn)
    · rw [upd_ne _ _ q'] at q; exact a.n.p.foot b q
  · have := a.n.p.live b q
    obtain ⟨o', ho'⟩ := Option.isSome_iff_exists.mp this
    by_cases q' : b = D
    · subst q'; show (h'.get? b).isSome = true; rw [ho]; rfl
    · show (h'.get? b).isSome = true; rw [hk b o' q' ho']; rfl
theorem Nxt.adoptF {F F' : Fz} {σ σ' : So} {s s' : Shared} {D : Addr} {o : Obj} (a : Nxt X F σ s F' σ' s') (hn : s.heap.get? D = none) (f1 : F' D = none) (f2 : σ' D = none) (ho : s'.heap.get? D = some o) (t : Nat) : Nxt X F σ s (upd F' D o) σ' { s' with toks := t } := by
  have hs : Sub F' (upd F' D o) := .upd f1
  refine ⟨⟨⟨fun b o' e => ?_, fun b m' e => ?_⟩, a.sub.trans hs, a.n.p.keep, fun b q => ?_, a.n.p.live⟩, a.sh.trans ⟨s'.heap, t, rfl⟩⟩
  · by_cases q : b = D
    · subst q; rw [upd_self] at e; (injection e); exact ho
    · rw [upd_ne _ _ q] at e; exact a.st.fro b o' e
  · obtain ⟨f, o', ho', r'⟩ := a.st.own b m' e
    refine ⟨?_, o', ho', r'.mono hs⟩
    rw [upd_ne _ _ (by rintro rfl; rw [f2] at e; (injection e))]; exact f
  · by_cases q' : b = D
    · subst q'; exact .inr (.inr hn)
    · rw [upd_ne _ _ q'] at q; exact a.n.p.foot b q
noncomputable def TP (X : Cx) (n : Nat) (env : Env) (nm : List Str) (ks : List Int) (t : Sem (List (Value × Value))) (w : Ro → So → (List V → So → Prop) → Prop) : Prop :=
  ∀ (A : Around) (F : Fz) (ρ : Ro) (σ : So) (s : Shared) (Q : List V → So → Prop) (P : List (Value × Value) → Shared → Prop) (Eb : Value → Shared → Prop), Room n A → Fo X env nm F ρ σ s → w ρ σ Q →
    (∀ cs kvs vs F' σ' s', Carries (intKind X.prog X.w) cs kvs → RelI X F' kvs (ks.zip vs) → kvs.map (·.1) = ks → Q vs σ' → Nxt X F σ s F' σ' s' → P cs s') → wpAny (model X.prog X.w) A t P Eb s
theorem tp_nil : TP X n env nm [] (evalPairs (pairTrees [] [] env pos)) fun ι σ Q => Q [] σ := by
  intro A F ρ σ s Q P Eb R k w h
  exact pairTrees_nil_walk (h [] [] [] _ _ _ (show Carries (intKind X.prog X.w) [] [] from trivial) .nil rfl w (.refl k.st))
theorem tp_cons {i : Int} {is : List Int} {ks : List (Option Expr)} (hi : constI i y = true) (hx : TV X n env nm (eval x env) wl) (hy : TP X n env nm is (evalPairs (pairTrees ks xs env pos)) ws) :
    TP X n env nm (i :: is) (evalPairs (pairTrees (some y :: ks) (x :: xs) env pos)) fun ρ σ Q => wl ρ σ fun v σ => ws ρ σ fun vs σ => Q (v :: vs) σ := by
  intro A F ρ σ s Q P Eb R k w h
  obtain ⟨j, q, rfl⟩ := constI_ok hi
  have x0 : Nxt X F σ s F σ { s with toks := s.toks + 1 } := (Nxt.refl k.st).toks _
  refine pairTrees_cons_walk (const_int ?_)
  refine hx A F ρ σ _ _ _ Eb R (k.to x0) w fun c v F1 σ1 s1 r1 w1 x1 => ?_
  refine hy A F1 ρ σ1 s1 _ _ _ R (k.to (x0.trans x1)) w1 fun cs kvs vs F2 σ2 s2 hc hr hm w2 x2 => ?_
  exact h _ ((i, c) :: kvs) _ _ _ _ ⟨intKind_is .., rfl, hc⟩ (.cons (r1.mono x2.sub) hr) (by rw [List.map_cons, hm]) w2 ((x0.trans x1).trans x2)
theorem merged_nd {more : List (Int × Value)} : ∀ {acc : List (Int × Value)}, (more.map (·.1)).Nodup → (∀ k ∈ more.map (·.1), k ∉ acc.map (·.1)) → merged acc more = acc ++ more := by
  induction more with
  | nil => intro acc _ _; simp [merged]
  | cons p more ih =>
    intro acc nd hd
    rw [List.map_cons, List.nodup_cons] at nd
    have e : stored acc p.1 p.2 = acc ++ [p] := by
      unfold stored
      rw [if_neg]
      intro q
      rw [List.any_eq_true] at q
      obtain ⟨kv, hkv, e⟩ := q
      exact hd p.1 (by simp) (List.mem_map.mpr ⟨kv, hkv, by simpa using e⟩)
    show merged (stored acc p.1 p.2) more = _
    rw [e, ih nd.2 (fun k hk hk' => ?_)]
    · simp
    · rw [List.map_append, List.mem_append] at hk'
      rcases hk' with q | q
      · exact hd k (by rw [List.map_cons]; exact .tail _ hk) q
      · have : k = p.1 := by simpa using q
        subst this; exact nd.1 hk
theorem constIs_ok {is : List Int} {ks : List (Option Expr)} (h : constIs is ks = true) : ks.all (·.isSome) = true ∧ ks.length = is.length := by
  induction is generalizing ks with
  | nil => cases ks with
    | nil => exact ⟨rfl, rfl⟩
    | cons => exact nD h
  | cons i is ih => cases ks with
    | nil => exact nD h
    | cons k es =>
      have h := Bool.and_eq_true_iff.mp (show (constO i k && constIs is es) = true from h)
      cases k with
      | none => exact nD h.1
      | some e => have := ih h.2; exact ⟨by rw [List.all_cons, this.1]; rfl, congrArg Nat.succ this.2⟩
theorem dict_fresh (prog : Program) (w : World) : Obj.IsDictOf (intKind prog w) { cls := .type "dict", data := .dict #[] } [] := by
  obtain ⟨o, ho, d⟩ := Heap.dictOf_iff.mp (Heap.DictOf.new (knd := intKind prog w) {})
  rw [Heap.get?_push_size _ rfl] at ho
  (injection ho); exact d
theorem tv_dict0 : TV X n env nm (eval (.Dict [] [] pos) env) fun ι σ Q => ∀ a, σ a = none → Q (.ref a) (upd σ a (.dI [])) := by
  intro A F ρ σ s Q P Eb R k w h
  refine wpAny_Dict_empty ?_
  have hD := get_size s.heap
  exact h _ _ _ _ _ (.ref _) (w _ (k.st.fresh hD).2) (Nxt.of (Nx.own k.st (.dI (dict_fresh ..) .nil)) s.toks)
theorem tv_dict {is : List Int} {ks : List (Option Expr)} (hk : constIs is ks = true) (hl : xs.length = is.length) (h0 : is ≠ []) (nd : is.Nodup) (lt : is.length < 8) (hx : TP X n env nm is (evalPairs (pairTrees ks xs env pos)) ws) :
    TV X n env nm (eval (.Dict ks xs pos) env) fun ρ σ Q => ws ρ σ fun vs σ => ∀ a, σ a = none → Q (.ref a) (upd σ a (.dI (is.zip vs))) := by
  intro A F ρ σ s Q P Eb R k w h
  obtain ⟨h1, h2⟩ := constIs_ok hk
  have nj := Nx.junk k.st { cls := .type "dict", data := .dict #[] }
  have hD : s.heap.get? s.heap.objs.size = none := get_size _
  obtain ⟨g1, g2⟩ := k.st.fresh hD
  have lv : (s.heap.push { cls := .type "dict", data := .dict #[] }).get? s.heap.objs.size = some { cls := .type "dict", data := .dict #[] } := Heap.get?_push_size _ rfl
  have x0 : Nxt X F σ s F σ { s with heap := s.heap.push { cls := .type "dict", data := .dict #[] } } := Nxt.of nj s.toks
  refine wpAny_Dict_walk (knd := intKind X.prog X.w) h1 (by rw [h2, hl]) (fun e => h0 (List.eq_nil_of_length_eq_zero (by rw [← h2, e]; rfl))) ?_ ?_
  · lia
  · refine hx A F ρ σ _ _ _ Eb R (k.to x0) w fun cs kvs vs F1 σ1 s1 hc hr hm w1 x1 => ?_
    obtain ⟨o1, o2⟩ := x1.n.p.out (a := s.heap.objs.size) (by rw [lv]; exact fun q => nomatch q) g1 g2
    have lv1 := x1.n.p.keep _ _ lv g2 id
    refine ⟨kvs, hc, Heap.dictOf_iff.mpr ⟨_, lv1, dict_fresh ..⟩, fun h' hd hs => ?_⟩
    rw [merged_nd (by rw [hm]; exact nd) (by simp)] at hd
    obtain ⟨o', ho', hdo⟩ := Heap.dictOf_iff.mp hd
    exact h _ _ _ _ { s1 with heap := h', toks := s1.toks + cs.length } (.ref _) (w1 _ o2) (Nxt.adopt (x0.trans x1) hD o1 o2 (SameBut.keep hs) ho' (.dI hdo hr) _)
theorem tv_set1 {i : Int} (eo : EnvOk X env names nm) (hi : constI i x = true) : TV X n env nm (eval (.Set [x] 0 pos) env) fun ι σ Q => ∀ a, σ a = none → Q (.ref a) (upd σ a (.set [i])) := by
  intro A F ρ σ s Q P Eb R k w h
  obtain ⟨j, q, rfl⟩ := constI_ok hi
  have hD : s.heap.get? s.heap.objs.size = none := get_size _
  obtain ⟨g1, g2⟩ := k.st.fresh hD
  rw [arm_eval_Set]
  refine wpAny_bind (wpAny_standAt ?_)
  refine wpAny_bind (kds_main (k.st.inK k.g) eo.code fun b => ?_)
  refine kds_core rfl rfl (by show 1 ≤ 30; lia) rfl fun led => ?_
  refine kds_all pos [.Constant (.int i) j q] _ _ (const_int ?_)
  refine kds_fill_cons ?_
  have lv : (s.heap.push { cls := .type "set", dict := none, data := .set #[] 0 (.fresh 0 0 led) }).get? s.heap.objs.size = some { cls := .type "set", dict := none, data := .set #[] 0 (.fresh 0 0 led) } := Heap.get?_push_size _ rfl
  have S := (setObjOf_fresh (knd := intKind X.prog X.w) led).setOf lv (by unfold scanBound; lia)
  unfold setAdd
  refine wpAny_holding (wpAny_bind ((intKind X.prog X.w).pyHash (k := i) (intKind_is ..) ?_))
  refine wpAny_setAddHashed_of (k := i) (intKind_is ..) rfl S (by unfold scanBound; lia) fun h' hs hS' => ?_
  refine kds_fill_nil rfl ?_
  obtain ⟨o', ho', hso'⟩ := hS'.objOf
  have x0 : Nxt X F σ s F σ { s with heap := s.heap.push { cls := .type "set", dict := none, data := .set #[] 0 (.fresh 0 0 led) } } := Nxt.of (Nx.junk k.st _) s.toks
  refine h _ _ _ _ _ (.ref _) (w _ g2) (Nxt.adopt x0 hD g1 g2 (SameBut.keep hs) ho' (.set (is := [i]) ?_ (by show 1 < 200; lia)) _)
  have : (fun k' : Int => false || decide (k' = i)) = fun k => decide (k ∈ [i]) := by funext k'; simp
  rw [this] at hso'
  simpa using hso'
end
end
section
variable {X : Cx}
theorem St.priv {P : Addr → Prop} {F : Fz} {σ : So} {h h' : Heap} (S : St X F σ h) (hP : ∀ a, P a → F a = none ∧ σ a = none) (keep : ∀ b o, ¬ P b → h.get? b = some o → h'.get? b = some o) (live : ∀ b, P b → (h.get? b).isSome = true → (h'.get? b).isSome = true) :
    St X F σ h' ∧ Stp P F σ h F σ h' := by
  refine ⟨⟨fun a o e => keep a o (fun q => by rw [(hP a q).1] at e; (injection e)) (S.fro a o e), fun a m e => ?_⟩, .refl F, fun b o e ι n => keep b o n e, fun a q => q.elim .inl fun q => .inr (.inl q), fun b q => ?_⟩
  · obtain ⟨f, o, ho, r⟩ := S.own a m e
    exact ⟨f, o, keep a o (fun q => by rw [(hP a q).2] at e; (injection e)) ho, r⟩
  · by_cases q' : P b
    · exact live b q' q
    · obtain ⟨o, ho⟩ := Option.isSome_iff_exists.mp q
      rw [keep b o q' ho]; rfl
theorem St.but {P : Addr → Prop} {F : Fz} {σ : So} {h h' : Heap} {D : Addr} (S : St X F σ h) (hD : P D) (hP : F D = none ∧ σ D = none) (hs : ∀ b o, b ≠ D → h.get? b = some o → h'.get? b = some o) (live : (h'.get? D).isSome = true) :
    St X F σ h' ∧ Stp P F σ h F σ h' := by
  obtain ⟨a, b⟩ := St.priv (P := fun x => x = D) S (fun x e => e ▸ hP) hs (fun x e ι => e ▸ live)
  exact ⟨a, b.weaken fun x e => e ▸ hD⟩
theorem Stp.new {P : Addr → Prop} {F F' : Fz} {σ σ' : So} {h h' : Heap} (p : Stp P F σ h F' σ' h') (n : ∀ a, P a → h.get? a = none) : Stp (fun ι => False) F σ h F' σ' h' :=
  ⟨p.mono, fun b o e q ι => p.keep b o e q fun hb => (by rw [n b hb] at e; (injection e)), p.foot, p.live⟩
section
variable {env : Env} {names : Nms} {nm : List Str}
theorem Fo.stepP {P : Addr → Prop} {F F' : Fz} {ρ : Ro} {σ σ' : So} {s s' : Shared} (k : Fo X env nm F ρ σ s) (p : Stp P F σ s.heap F' σ' s'.heap) (S : St X F' σ' s'.heap) (ap : ∀ a, Prv env a → ¬ P a) : Fo X env nm F' ρ σ' s' :=
  ⟨k.g.mono p.mono, S, k.fr.stepP p ap⟩
noncomputable def closL (env : Env) : List (Str × NameKind) → List (Str × Addr) → List (Str × Addr)
  | [], cs => cs
  | (x, k) :: r, cs => closL env r (if k == .free then (match env.cells.lookup x with | some a => (x, a) :: cs | none => cs) else cs)
theorem closureFor_ok {sc : Scope} (h : ∀ x, (x, NameKind.free) ∈ sc.names → (env.cells.lookup x).isSome = true) : closureFor sc env = pure (closL env sc.names []) := by
  unfold closureFor
  dsimp only
  generalize sc.names = l at h
  generalize ([] : List (Str × Addr)) = cs
  induction l generalizing cs with
  | nil => rfl
  | cons p l ih =>
    obtain ⟨x, k⟩ := p
    rw [List.forIn_cons]
    unfold closL
    by_cases q : (k == .free) = true
    · obtain rfl := beq_iff_eq.mp q
      obtain ⟨a, ha⟩ := Option.isSome_iff_exists.mp (h x (by simp))
      have hc : cellOf env x = pure a := by unfold cellOf; rw [ha]
      simp only [hc, ha, beq_self_eq_true, if_true]
      exact ih (fun y hy => h y (.tail _ hy)) _
    · simp only [q]
      exact ih (fun y hy => h y (.tail _ hy)) _
set_option tactic.hygienic true in
theorem closL_some : ∀ {l : List (Str × NameKind)} {cs : List (Str × Addr)} {x : Str} {a : Addr}, (closL env l cs).lookup x = some a → env.cells.lookup x = some a ∨ cs.lookup x = some a
  | [], _, _, _, h => .inr h
  | (y, k) :: l, cs, x, a, h => by
    unfold closL at h
    rcases closL_some (l := l) h with h | h
    · exact .inl h
    · split at h
      · split at h
        · rename_i b hb
          rw [List.lookup_cons] at h
          split at h
          · rename_i e; (injection h); rw [beq_iff_eq.mp e]; exact .inl hb
          · exact .inr h
        · exact .inr h
      · exact .inr h
theorem closL_keep : ∀ {l : List (Str × NameKind)} {cs : List (Str × Addr)} {x : Str}, (cs.lookup x).isSome = true → ((closL env l cs).lookup x).isSome = true
  | [], _, _, h => h
  | (y, k) :: l, cs, x, h => by
    unfold closL
    refine closL_keep (l := l) ?_
    split
    · split
      · rw [List.lookup_cons]; split <;> first | rfl | exact h
      · exact h
    · exact h
theorem closL_mem : ∀ {l : List (Str × NameKind)} {cs : List (Str × Addr)} {x : Str}, (x, NameKind.free) ∈ l → (env.cells.lookup x).isSome = true → ((closL env l cs).lookup x).isSome = true
  | (y, k) :: l, cs, x, h, e => by
    unfold closL
    rcases List.mem_cons.mp h with h | h
    · (injection h)
      refine closL_keep ?_
      obtain ⟨a, ha⟩ := Option.isSome_iff_exists.mp e
      simp [ha]
    · exact closL_mem h e
set_option tactic.hygienic true in
theorem lookup_mem {α : Type} : ∀ {l : List (Str × α)} {x : Str} {k : α}, l.lookup x = some k → (x, k) ∈ l
  | (y, j) :: l, x, k, h => by
    rw [List.lookup_cons] at h
    split at h
    · rename_i e; (injection h); rw [beq_iff_eq.mp e]; exact .head _
    · exact .tail _ (lookup_mem h)
theorem relab_lookup {outer : Nms} : ∀ {inner : Nms} {x : Str}, (relab outer inner).lookup x = (inner.lookup x).map fun k => if k == .free && outer.lookup x == some .cell then .cell else k
  | [], _ => rfl
  | (y, k) :: l, x => by
    have ih := relab_lookup (outer := outer) (inner := l) (x := x)
    unfold relab at ih ⊢
    rw [List.map_cons, List.lookup_cons, List.lookup_cons]
    cases q : (x == y) with
    | true => obtain rfl := beq_iff_eq.mp q; rfl
    | false => exact ih
noncomputable abbrev cenvOf (env : Env) (sc : Scope) (C : Addr) : Env :=
  { scope := relabel sc env, locals := C, globals := env.globals, cells := closL env sc.names [], qual := env.qual, func := none, code := env.code, frame := env.frame, builtins := env.builtins }
theorem relabel_names {sc : Scope} (eo : EnvOk X env names nm) : (relabel sc env).names = relab names sc.names := by
  unfold relabel relab
  refine List.map_congr_left fun p ι => ?_
  obtain ⟨x, k⟩ := p
  dsimp only
  rw [eo.kind, eo.kindOf]
  by_cases q : (k == NameKind.free && names.lookup x == some NameKind.cell) = true
  · have : (k == NameKind.free && ScopeKind.function == ScopeKind.function && names.lookup x == some NameKind.cell) = true := by simpa using q
    rw [if_pos this, if_pos q]
  · have : ¬ (k == NameKind.free && ScopeKind.function == ScopeKind.function && names.lookup x == some NameKind.cell) = true := by simpa using q
    rw [if_neg this, if_neg q]
theorem freeOk_mem {sc : Scope} (hf : freeOk names sc.names = true) {x : Str} {k : NameKind} (h : (x, k) ∈ sc.names) : k ≠ .cell ∧ (k = .free → names.lookup x = some .cell ∨ names.lookup x = some .free) ∧ (k = .local → sc.names.lookup x = some .local) := by
  have := List.all_eq_true.mp hf _ h
  simp only [Bool.and_eq_true, bne_iff_ne, ne_eq, Bool.or_eq_true, beq_iff_eq] at this
  obtain ⟨⟨h1, h2⟩, h3⟩ := this
  refine ⟨h1, fun e => ?_, fun e => ?_⟩
  · rcases h2 with (h2 | h2) | h2
    · exact absurd e h2
    · exact .inl h2
    · exact .inr h2
  · rcases h3 with h3 | h3
    · exact absurd e h3
    · exact h3
theorem free_cells {sc : Scope} (eo : EnvOk X env names nm) (hf : freeOk names sc.names = true) {x : Str} (h : (x, NameKind.free) ∈ sc.names) : (env.cells.lookup x).isSome = true := eo.cells x ((freeOk_mem hf h).2.1 rfl)
set_option tactic.hygienic true in
theorem cenv_ok {sc : Scope} {C : Addr} {inm : List Str} (eo : EnvOk X env names nm) (hk : sc.kind = .function) (hf : freeOk names sc.names = true) (nd : inm.Nodup) : EnvOk X (cenvOf env sc C) (relab names sc.names) inm := by
  refine ⟨relabel_names eo, hk, eo.globals, eo.builtins, fun x h => ?_, eo.code, nd⟩
  rw [relab_lookup] at h
  have : (x, NameKind.free) ∈ sc.names := by
    rcases h with h | h
    · obtain ⟨k, h1, h2⟩ := Option.map_eq_some_iff.mp h
      split at h2
      · rename_i q
        simp only [Bool.and_eq_true, beq_iff_eq] at q
        obtain ⟨rfl, -⟩ := q
        exact lookup_mem h1
      · subst h2; exact absurd rfl (freeOk_mem hf (lookup_mem h1)).1
    · obtain ⟨k, h1, h2⟩ := Option.map_eq_some_iff.mp h
      split at h2
      · (injection h2)
      · subst h2; exact lookup_mem h1
  exact closL_mem this (free_cells eo hf this)
inductive CapAt (names : Nms) (nm : List Str) (sc : Scope) (x : Str) (j : Nat) : Prop
  | mk (h : sc.names.lookup x = some .free) (e : nm[j]? = some x) (o : names.lookup x = some .cell ∨ names.lookup x = some .free)
theorem caps_at {sc : Scope} {inm : List Str} {caps : List (Option Nat)} (h : capsOk names nm sc.names inm caps = true) {i j : Nat} {x : Str} (e1 : inm[i]? = some x) (e2 : caps[i]? = some (some j)) : CapAt names nm sc x j := by
  induction inm generalizing caps i with
  | nil => exact nA e1
  | cons y ys ih => cases caps with
    | nil => exact nD h
    | cons c cs =>
      have h := Bool.and_eq_true_iff.mp (show (capO names nm sc.names y c && capsOk names nm sc.names ys cs) = true from h)
      cases i with
      | zero =>
        cases e1; cases e2
        have a := Bool.and_eq_true_iff.mp h.1
        have b := Bool.and_eq_true_iff.mp a.1
        exact ⟨beq_iff_eq.mp b.1, beq_iff_eq.mp b.2, (Bool.or_eq_true_iff.mp a.2).imp beq_iff_eq.mp beq_iff_eq.mp⟩
      | succ i => exact ih h.2 e1 e2
inductive CapR (names : Nms) (nm : List Str) (sc : Scope) (ρ : Ro) (x : Str) (v : V) : Prop
  | mk (j : Nat) (r : ρ[j]? = some (some v)) (h : sc.names.lookup x = some .free) (e : nm[j]? = some x) (o : names.lookup x = some .cell ∨ names.lookup x = some .free)
theorem capR_at {inm : List Str} {caps : List (Option Nat)} {sc : Scope} {ρ : Ro} (hc : capsOk names nm sc.names inm caps = true) {i : Nat} {x : Str} {v : V} (h1 : inm[i]? = some x) (h2 : (capR ρ caps)[i]? = some (some v)) : CapR names nm sc ρ x v := by
  unfold capR at h2
  rw [List.getElem?_map] at h2
  obtain ⟨c, hc1, hc2⟩ := Option.map_eq_some_iff.mp h2
  cases c with
  | none => (injection hc2)
  | some j =>
    obtain ⟨a, b, c⟩ := caps_at hc h1 hc1
    dsimp only at hc2
    cases q : ρ[j]? with
    | none => rw [q] at hc2; exact nA hc2
    | some o => rw [q] at hc2; exact ⟨j, q.trans (congrArg some hc2), a, b, c⟩
theorem cenv_fo {sc : Scope} {C : Addr} {inm : List Str} {caps : List (Option Nat)} {F : Fz} {ρ : Ro} {σ : So} {s : Shared} {m : Str → Option Value} (eo : EnvOk X env names nm) (hf : freeOk names sc.names = true) (hc : capsOk names nm sc.names inm caps = true)
    (k : Fo X env nm F ρ σ s) (hn : s.heap.Ns C m) (f1 : F C = none) (f2 : σ C = none) : Fo X (cenvOf env sc C) inm F (capR ρ caps) σ s := by
  have kd : ∀ x, (cenvOf env sc C).kindOf x = (relab names sc.names).lookup x := fun x => by
    unfold Env.kindOf
    show (relabel sc env).names.lookup x = _
    rw [relabel_names eo]
  refine ⟨k.g, k.st, ⟨⟨m, hn, fun i x v h1 h2 h3 => ?_⟩, fun i x v h1 h2 ι => ?_, fun x a hx => ?_, fun x y a hx hy => ?_, fun a ha => ?_⟩⟩
  · obtain ⟨j, h4, h5, h6, h7⟩ := capR_at hc h1 h2
    rw [kd, relab_lookup, h5] at h3
    simp only [Option.map_some, Option.some.injEq] at h3
    split at h3 <;> (injection h3)
  · obtain ⟨j, h4, h5, h6, h7⟩ := capR_at hc h1 h2
    obtain ⟨a, c, ha, hc', r⟩ := k.fr.cel j x v h6 h4 (by rw [eo.kindOf]; rcases h7 with h7 | h7 <;> rw [h7] <;> exact fun q => nomatch q)
    refine ⟨a, c, ?_, hc', r⟩
    obtain ⟨a', ha'⟩ := Option.isSome_iff_exists.mp (closL_mem (env := env) (cs := []) (lookup_mem h5) (by rw [ha]; rfl))
    rcases closL_some ha' with q | q
    · rw [ha] at q; (injection q); exact ha'
    · (injection q)
  · rcases closL_some hx with q | q
    · exact k.fr.cells x a q
    · (injection q)
  · rcases closL_some hx with q | q
    · rcases closL_some hy with q' | q'
      · exact k.fr.dist x y a q q'
      · (injection q')
    · (injection q)
  · rcases ha with rfl | ⟨x, hx⟩
    · exact ⟨f1, f2⟩
    · rcases closL_some hx with q | q
      · exact k.fr.prv a (.inr ⟨x, q⟩)
      · (injection q)
end
end
section
variable {X : Cx}
section
variable {env : Env} {names names₀ : Nms} {nm : List Str} {A : Around} {Eb : Value → Shared → Prop} {F : Fz} {σ : So} {ρ ρ' : Ro} {s : Shared} {b : Bs} {Pv : Addr → Prop}
theorem size_ne {h : Heap} {b : Addr} {o : Obj} (e : h.get? b = some o) : b ≠ h.objs.size := Nat.ne_of_lt (Heap.lt_size e)
theorem unpack_ok {c : Value} {v : V} {vs : List V} {P : List Value → Shared → Prop} (hh : A.handled = none) (S : St X F σ s.heap) (r : RelV X F c v) (e : itemsV σ v = some vs)
    (h : ∀ cs h', RelVs X F cs vs → (∀ b o, s.heap.get? b = some o → h'.get? b = some o) → P cs { s with heap := h' }) : wpAny (model X.prog X.w) A (unpackItems c vs.length none) P Eb s := by
  have lst : ∀ {v}, listV σ v = some vs → RelV X F c v → wpAny (model X.prog X.w) A (unpackItems c vs.length none) P Eb s := fun e r => by
    obtain ⟨a, cs, n, rfl, ha, rr⟩ := list_at S r e
    have hz : vs.length = cs.toArray.size := by rw [List.size_toArray, rr.length]
    rw [hz]
    exact kun_itemsOf hh (isList_of ha) fun h' he => h cs h' rr fun b o q => he b o (size_ne q) q
  cases v with
  | tup ws =>
    cases e
    cases r with
    | @tup a cs n _ h1 h2 =>
      have hz : vs.length = cs.toArray.size := by rw [List.size_toArray, h2.length]
      rw [hz]
      exact wpAny_unpackItems_tuple hh (isTuple_of (S.fro _ _ h1)) fun h' he => h cs h' h2 fun b o q => he b o (size_ne q) q
  | _ => exact lst (by simpa only [itemsV] using e) r
theorem setT_length : ∀ {ρ ρ' : Ro} {is : List Nat} {vs : List V}, setT ρ is vs = some ρ' → is.length = vs.length
  | _, _, [], [], _ => rfl
  | _, _, i :: is, v :: vs, h => by rw [List.length_cons, List.length_cons, setT_length (is := is) (vs := vs) h]
  | _, _, [], _ :: _, h => by (injection h)
  | _, _, _ :: _, [], h => by (injection h)
noncomputable def StoAll (env : Env) (names names₀ : Nms) (Pv : Addr → Prop) : Prop := ∀ x, stoK names₀ x = true → (names.lookup x = some .local ∧ Pv env.locals) ∨ (names.lookup x = some .cell ∧ ∀ a, env.cells.lookup x = some a → Pv a)
theorem Ok.keeps (k : Ok X env nm Pv b F ρ σ s) {h' : Heap} (hk : ∀ a o, s.heap.get? a = some o → h'.get? a = some o) (t : Nat) : Ok X env nm Pv b F ρ σ { s with heap := h', toks := t } := k.to (Nxt.of (.same k.fo.st hk) t)
theorem store_nm {i : Nat} {x : Str} {p : Pos} {c : Value} {v : V} {P : Unit → Shared → Prop} (eo : EnvOk X env names nm) (hp : StoAll env names names₀ Pv) (hf : stoIs names₀ nm i x = true) (k : Ok X env nm Pv b F ρ σ s) (r : RelV X F c v)
    (h : ∀ s', Ok X env nm Pv b F (setR ρ i v) σ s' → P () s') : wpAny (model X.prog X.w) A (assign (.Name x p) env c) P Eb s := by
  simp only [stoIs, Bool.and_eq_true, beq_iff_eq] at hf
  exact assign_Name (store_var eo k hf.1 (hp x hf.2) r fun h' t k' => h _ k')
theorem store_nms (eo : EnvOk X env names nm) (hp : StoAll env names names₀ Pv) : ∀ {is : List Nat} {es : List Expr}, FitNs names₀ nm is es → (assignEach es env).length = is.length ∧ (assignEach es env).findIdx? (·.1) = none ∧
    ∀ {ρ ρ' : Ro} {s : Shared} {cs : List Value} {vs : List V} {P : Unit → Shared → Prop}, Ok X env nm Pv b F ρ σ s → RelVs X F cs vs → setT ρ is vs = some ρ' → (∀ s', Ok X env nm Pv b F ρ' σ s' → P () s') → wpAny (model X.prog X.w) A (assignInOrder ((assignEach es env).map (·.2)) cs) P Eb s := by
  intro is es hf
  induction hf with
  | nil => exact ⟨rfl, rfl, fun {ρ ρ' s cs vs P} k r e h => by
      cases vs with
      | nil => (injection e); (first | (obtain rfl := iVr r) | (obtain ⟨_, rfl⟩ := iVi r) | (obtain rfl := iV0 r) | (obtain rfl := iVb r) | (obtain ⟨_, rfl⟩ := iVs r) | (obtain ⟨_, _, _, rfl, _, _⟩ := iVt r) | (obtain ⟨_, _, _, rfl, _, _⟩ := iVl r) | (obtain ⟨_, _, _, rfl, _, _, _, _⟩ := iVd r) | (obtain ⟨_, _, _, rfl, _, _, _, _⟩ := iVS r) | (obtain ⟨_, _, _, _, rfl, _, _, _⟩ := iVo r) | cases r); exact assignInOrder_nil (h _ k)
      | cons v vs => (injection e)⟩
  | @cons i x p is es hf _ ih =>
    obtain ⟨h1, h2, h3⟩ := ih
    have e0 : assignEach (.Name x p :: es) env = (false, assign (.Name x p) env) :: assignEach es env := rfl
    refine ⟨by rw [e0, List.length_cons, h1, List.length_cons], by rw [e0, List.findIdx?_cons, h2]; rfl, fun {ρ ρ' s cs vs P} k r e h => ?_⟩
    cases vs with
    | nil => (injection e)
    | cons v vs =>
      cases r with
      | cons r1 r2 =>
        rw [e0, List.map_cons]
        exact assignInOrder_cons (store_nm eo hp hf k r1 fun s' k' => h3 k' r2 e h)
set_option tactic.hygienic true in
theorem assign_tg {tg : Tg} {e : Expr} {c : Value} {v : V} {P : Unit → Shared → Prop} (eo : EnvOk X env names nm) (hp : StoAll env names names₀ Pv) (hf : FitTg names₀ nm tg e) (hh : A.handled = none) (k : Ok X env nm Pv b F ρ σ s) (r : RelV X F c v)
    (w : bindTg σ ρ tg v = some ρ') (h : ∀ s', Ok X env nm Pv b F ρ' σ s' → P () s') : wpAny (model X.prog X.w) A (assign e env c) P Eb s := by
  cases hf with
  | v hf =>
    (injection w)
    exact store_nm eo hp hf k r h
  | @t is es j p hf =>
    simp only [bindTg] at w
    split at w
    · rename_i vs e1
      obtain ⟨h1, h2, h3⟩ := store_nms (A := A) (Eb := Eb) (b := b) (F := F) (σ := σ) eo hp hf
      have hl : is.length = vs.length := setT_length w
      rw [assign_Tuple]
      refine wpAny_bind (wpAny_standAt ?_)
      unfold unpack
      rw [h1, h2, hl]
      exact wpAny_bind (wpAny_holding (unpack_ok hh k.fo.st r e1 fun cs h' rr hk => h3 (k.keeps hk s.toks) rr w h))
    · (injection w)
end
end
section
variable {X : Cx}
noncomputable def Tst (M : Model) (A : Around) (E : Value → Shared → Prop) (env : Env) : List Expr → (Bool → Shared → Prop) → Shared → Prop
  | [c], Q, s => wpAny M A (PySem.isTrue c env (eval c env)) Q E s
  | _, Q, s => Q true s
theorem comp_rule {A : Around} {s : Shared} {elt target iter : Expr} {cs : List Expr} {sc : Scope} {pos : Pos} {it acc : Value} {env : Env} {R : Result → Shared → Prop} (I : Nat → Shared → Prop) (hcs : cs.length ≤ 1)
    (turn : ∀ n s Eb, I n s → wpAny (model X.prog X.w) A (pyNext it) (fun r s₁ => match r with
      | none => R (.ok .next) s₁
      | some v => wpAny (model X.prog X.w) A (letOwnedTupleGo target it v) (fun ι s₀ => wpAny (model X.prog X.w) A (assign target env v) (fun ι s₂ =>
          Tst (model X.prog X.w) A Eb env cs (fun ok s₃ => if ok = true then wpAny (model X.prog X.w) A (eval elt env) (fun x s₄ =>
            wpAny (model X.prog X.w) A (call (.builtin "list.append") [acc, x]) (fun ι s₅ => ∃ m, m < n ∧ I m s₅) Eb s₄) Eb s₃ else ∃ m, m < n ∧ I m s₃) s₂) Eb s₀) Eb s₁) Eb s)
    (n : Nat) (h : I n s) : codeAny (model X.prog X.w) A (.compLoop (.ListComp elt [⟨target, iter, cs, 0⟩] sc pos) 0 it acc env) R s := by
  match cs, hcs with
  | [], _ => exact kcp_loop I (fun n s hI => by
      refine wpAny_mono (turn n s _ hI) (fun r s₁ h₁ => ?_) fun ι ι h => h
      cases r with
      | none => exact h₁
      | some v => exact wpAny_mono h₁ (fun ι s₀ h₀ => wpAny_mono h₀ (fun ι s₂ h₂ => by
          simp only [Tst, if_true] at h₂
          exact h₂) fun ι ι h => h) fun ι ι h => h) n h
  | [c], _ => exact kct_loop I (fun n s hI => turn n s _ hI) n h
theorem go_list {A : Around} {Eb : Value → Shared → Prop} {s : Shared} {names : Nms} {nm : List Str} {tg : Tg} {t : Expr} {I l : Addr} {i : Nat} {v : Value} {Q : Unit → Shared → Prop} (hf : FitTg names nm tg t) (hit : s.heap.IsListIter I l i) (h : Q () s) :
    wpAny (model X.prog X.w) A (letOwnedTupleGo t (.ref I) v) Q Eb s := by
  cases hf with
  | v => exact wpAny_pure h
  | t =>
    cases v with
    | ref T => exact wpAny_letOwnedTupleGo_listiter hit h
    | _ => exact wpAny_pure h
noncomputable def TstW (wc : Option (Ro → So → (Bool → So → Prop) → Prop)) (ρ : Ro) (σ : So) (U V : So → Prop) : Prop := match wc with
  | some c => c ρ σ fun b σ => (b = true → U σ) ∧ (b = false → V σ)
  | none => U σ
noncomputable def turnW (caps : List (Option Nat)) (tg : Tg) (wc : Option (Ro → So → (Bool → So → Prop) → Prop)) (we : Ro → So → (V → So → Prop) → Prop) (ρ : Ro) (x : V) (σ : So) (k : Option V → So → Prop) : Prop :=
  och (bindTg σ (capR ρ caps) tg x) fun ρ' => TstW wc ρ' σ (fun σ => we ρ' σ fun y σ => k (some y) σ) fun σ => k none σ
noncomputable def Tests (X : Cx) (n : Nat) (env : Env) (nm : List Str) (cs : List Expr) (wc : Option (Ro → So → (Bool → So → Prop) → Prop)) : Prop := match cs, wc with
  | [], none => True
  | [c], some w => TB X n env nm (PySem.isTrue c env (eval c env)) w
  | _, _ => False
theorem Tests.length {n : Nat} {env : Env} {nm : List Str} {cs : List Expr} {wc : Option (Ro → So → (Bool → So → Prop) → Prop)} (h : Tests X n env nm cs wc) : cs.length ≤ 1 := by
  match cs, wc, h with
  | [], none, _ => exact Nat.zero_le _
  | [_], some _, _ => exact Nat.le_refl _
structure Lp (X : Cx) (P : Addr → Prop) (F1 : Fz) (σ1 : So) (s1 : Shared) (F : Fz) (σ : So) (s : Shared) : Prop where
  st : St X F σ s.heap
  p : Stp P F1 σ1 s1.heap F σ s.heap
  sh : Shd s1 s
  out : ∀ a, P a → F a = none ∧ σ a = none
  live : ∀ a, P a → s.heap.get? a ≠ none
  fresh : ∀ a, P a → s1.heap.get? a = none
section
variable {P : Addr → Prop} {F1 F F' : Fz} {σ1 σ σ' : So} {s1 s s' : Shared}
theorem Lp.to (L : Lp X P F1 σ1 s1 F σ s) (x : Nxt X F σ s F' σ' s') : Lp X P F1 σ1 s1 F' σ' s' :=
  ⟨x.st, L.p.trans (x.n.p.weaken fun ι f => f.elim) L.st, L.sh.trans x.sh, fun a h => x.n.p.out (L.live a h) (L.out a h).1 (L.out a h).2, fun a h q => (by
    have := x.n.p.live a (by cases e : s.heap.get? a with | none => exact absurd e (L.live a h) | some o => rfl)
    rw [q] at this; (injection this)), L.fresh⟩
theorem Lp.but {D : Addr} {h' : Heap} (L : Lp X P F1 σ1 s1 F σ s) (hD : P D) (hs : ∀ b o, b ≠ D → s.heap.get? b = some o → h'.get? b = some o) (lv : (h'.get? D).isSome = true) (t : Nat) : Lp X P F1 σ1 s1 F σ { s with heap := h', toks := t } := by
  obtain ⟨a, b⟩ := L.st.but hD (L.out D hD) hs lv
  refine ⟨a, L.p.trans b L.st, L.sh.trans ⟨h', t, rfl⟩, L.out, fun c hc q => ?_, L.fresh⟩
  by_cases e : c = D
  · subst e; rw [show h'.get? c = none from q] at lv; (injection lv)
  · cases e' : s.heap.get? c with
    | none => exact L.live c hc e'
    | some o => rw [hs c o e e'] at q; (injection q)
theorem Lp.fo {env : Env} {nm : List Str} {ρ : Ro} (L : Lp X P F1 σ1 s1 F σ s) (k : Fo X env nm F1 ρ σ1 s1) : Fo X env nm F ρ σ s :=
  k.stepP L.p L.st fun a ha hp => k.fr.prvLive ha (L.fresh a hp)
theorem Lp.nxt (L : Lp X P F1 σ1 s1 F σ s) : Nxt X F1 σ1 s1 F σ s := ⟨⟨L.st, L.p.new L.fresh⟩, L.sh⟩
theorem Lp.same (L : Lp X P F1 σ1 s1 F σ s) (S : St X F σ s'.heap) (p : Stp P F σ s.heap F σ s'.heap) (sh : Shd s s') : Lp X P F1 σ1 s1 F σ s' :=
  ⟨S, L.p.trans p L.st, L.sh.trans sh, L.out, fun a h q => (by
    have := p.live a (by cases e : s.heap.get? a with | none => exact absurd e (L.live a h) | some o => rfl)
    rw [q] at this; (injection this)), L.fresh⟩
theorem Lp.last {D : Addr} {h' : Heap} (L : Lp X P F1 σ1 s1 F σ s) (hD : P D) (hs : ∀ b o, b ≠ D → s.heap.get? b = some o → h'.get? b = some o) (t : Nat) : Nxt X F1 σ1 s1 F σ { s with heap := h', toks := t } := by
  have hO := L.out D hD
  refine ⟨⟨⟨fun a o e => hs a o (by rintro rfl; rw [hO.1] at e; (injection e)) (L.st.fro a o e), fun a m e => ?_⟩, L.p.mono, fun b o e q ι => ?_, L.p.foot, fun b q => ?_⟩, L.sh.trans ⟨h', t, rfl⟩⟩
  · obtain ⟨f, o, ho, r⟩ := L.st.own a m e
    exact ⟨f, o, hs a o (by rintro rfl; rw [hO.2] at e; (injection e)) ho, r⟩
  · have nb : ¬ P b := fun hb => by rw [L.fresh b hb] at e; (injection e)
    exact hs b o (fun q => nb (q ▸ hD)) (L.p.keep b o e q nb)
  · have nb : ¬ P b := fun hb => by rw [L.fresh b hb] at q; (injection q)
    obtain ⟨o, ho⟩ := Option.isSome_iff_exists.mp (L.p.live b q)
    show (h'.get? b).isSome = true
    rw [hs b o (fun q => nb (q ▸ hD)) ho]; rfl
theorem Lp.keep (L : Lp X P F1 σ1 s1 F σ s) (x : Nxt X F σ s F' σ' s') {a : Addr} {o : Obj} (h : P a) (e : s.heap.get? a = some o) : s'.heap.get? a = some o := x.n.p.keep a o e (L.out a h).2 id
end
theorem tst_ok {n : Nat} {env : Env} {nm : List Str} {cs : List Expr} {wc : Option (Ro → So → (Bool → So → Prop) → Prop)} {A : Around} {F : Fz} {ρ : Ro} {σ : So} {s : Shared} {U V : So → Prop} {Q : Bool → Shared → Prop} {Eb : Value → Shared → Prop} (ht : Tests X n env nm cs wc) (R : Room n A) (k : Fo X env nm F ρ σ s)
    (w : TstW wc ρ σ U V) (h1 : ∀ F' σ' s', Nxt X F σ s F' σ' s' → U σ' → Q true s') (h2 : ∀ F' σ' s', Nxt X F σ s F' σ' s' → V σ' → Q false s') : Tst (model X.prog X.w) A Eb env cs Q s := by
  match cs, wc, ht with
  | [], none, _ => exact h1 _ _ _ (.refl k.st) w
  | [c], some w', ht =>
    refine ht A F ρ σ s _ _ Eb R k w fun b F' σ' s' w1 x1 => ?_
    cases b with
    | true => exact h1 _ _ _ x1 (w1.1 rfl)
    | false => exact h2 _ _ _ x1 (w1.2 rfl)
theorem get_ge {h : Heap} {a : Addr} (e : h.objs.size ≤ a) : h.get? a = none := by
  cases q : h.get? a with
  | none => rfl
  | some o => exact absurd (Heap.lt_size q) (Nat.not_lt.mpr e)
theorem ns_live {h : Heap} {C : Addr} {m : Str → Option Value} (x : h.Ns C m) : (h.get? C).isSome = true := by
  obtain ⟨o, _, _, ho, _⟩ := x; rw [ho]; rfl
theorem li_live {h : Heap} {I l : Addr} {i : Nat} (x : h.IsListIter I l i) : (h.get? I).isSome = true := by
  obtain ⟨o, ho, _⟩ := x; rw [ho]; rfl
inductive CTurn (X : Cx) (Pr : Addr → Prop) (F1 : Fz) (σ1 : So) (s1 : Shared) (I l D C : Addr) (vs : List V) (K : List V → List V → So → Prop) (q : Nat) (s' : Shared) : Prop
  | mk (i : Nat) (F' : Fz) (σ' : So) (acc : List V) (acs : List Value) (j : Nat) (m : Str → Option Value) (hle : i ≤ vs.length) (eq : q = vs.length + 1 - i) (L : Lp X Pr F1 σ1 s1 F' σ' s') (hit : s'.heap.IsListIter I l i)
    (hacc : s'.heap.get? D = some (seqObj "list" acs j)) (hrel : RelVs X F' acs acc) (hns : s'.heap.Ns C m) (hal : acc.length ≤ i) (w : K (vs.drop i) acc σ')
theorem comp_core {n : Nat} {env : Env} {names : Nms} {nm inm : List Str} {caps : List (Option Nat)} {sc : Scope} {elt t i : Expr} {cs : List Expr} {tg : Tg} {pos p : Pos} {wi we : Ro → So → (V → So → Prop) → Prop} {wc : Option (Ro → So → (Bool → So → Prop) → Prop)}
    {A : Around} {F : Fz} {ρ : Ro} {σ : So} {s : Shared} {Q : List V → So → Prop} {P : Value → Shared → Prop} {Eb : Value → Shared → Prop} {use : Option (Value → Sem Unit)}
    (eo : EnvOk X env names nm) (hk : sc.kind = .function) (hf : freeOk names sc.names = true) (hc : capsOk names nm sc.names inm caps = true) (nd : inm.Nodup) (ht : FitTg sc.names inm tg t) (hset : notSet i = true)
    (hcs : ∀ C, Tests X n (cenvOf env sc C) inm cs wc) (he : ∀ C, TV X n (cenvOf env sc C) inm (eval elt (cenvOf env sc C)) we) (hi : TV X n env nm (eval i env) wi) (R : Room n A) (k : Fo X env nm F ρ σ s)
    (w : wi ρ σ fun a σ => och (lstV a) fun xs => xs.length < lid ∧ compL (turnW caps tg wc we ρ) xs [] σ Q)
    (fin : ∀ D C m acs j ys F' σ' s', Nxt X F σ s F' σ' s' → s'.heap.get? D = some (seqObj "list" acs j) → RelVs X F' acs ys → s.heap.get? D = none → F' D = none → σ' D = none → s'.heap.Ns C m → s.heap.get? C = none → F' C = none → σ' C = none → D ≠ C → Q ys σ' →
      compPost (model X.prog X.w) A Eb use P (.ref D) C (.ok .next) s') :
    wpAny (model X.prog X.w) A (comprehension (.ListComp elt [⟨t, i, cs, 0⟩] sc pos) sc env p (newList []) false (eval i env) use) P Eb s := by
  have hset' : ∀ x, foldedSetIterable i env x = pure x := fun x => by
    unfold foldedSetIterable
    (injection i) <;> first | rfl | (injection hset)
  refine wpAny_comprehension_free (use := use) rfl hset' (closureFor_ok fun x hx => free_cells eo hf hx) hk (fun x hx e => (freeOk_mem hf (k := x.2) (x := x.1) hx).2.2 e) (hi A F ρ σ s _ _ Eb R k w fun c v F1 σ1 s1 r1 w1 x1 => ?_)
  obtain ⟨vs, e1, lt, w2⟩ := och_elim w1
  have e1 : v = .lst vs := by
    unfold lstV at e1
    split at e1
    · (injection e1); rfl
    · (injection e1)
  subst e1
  cases r1 with
  | @lst l lcs jl _ hl hr =>
  have k1 := k.to x1
  refine wpAny_pyIter_list (isList_of (x1.st.fro _ _ hl)) ?_
  refine wpAny_newObj_type (wpAny_newFunctionEnv (fun x hx => (freeOk_mem hf (k := x.2) (x := x.1) hx).1) (by intro y hy; simp at hy) (fun h₁ hns hsb => ?_) hk)
  dsimp only at hns hsb ⊢
  generalize hH1 : s1.heap.push { cls := .type "list_iterator", data := .fields #[.ref l, .int 0 0] } = H1 at hns hsb ⊢
  have hD : H1.objs.size = s1.heap.objs.size + 1 := by rw [← hH1, Heap.size_push]
  generalize hH2 : H1.push { cls := .type "list", data := .seq ([] : List Value).toArray } = H2 at hns hsb ⊢
  have hC : H2.objs.size = s1.heap.objs.size + 2 := by rw [← hH2, Heap.size_push, hD]
  generalize eI : s1.heap.objs.size = I at hD hC ⊢
  generalize eD : H1.objs.size = D at hD ⊢
  generalize eC : H2.objs.size = C at hC hns hsb ⊢
  have keep1 : ∀ b o, s1.heap.get? b = some o → H1.get? b = some o := fun b o e => hH1 ▸ Heap.get?_push_of_some _ e
  have keep2 : ∀ b o, H1.get? b = some o → H2.get? b = some o := fun b o e => hH2 ▸ Heap.get?_push_of_some _ e
  have keep3 : ∀ b o, H2.get? b = some o → h₁.get? b = some o := fun b o e => SameBut.keep hsb b o (Nat.ne_of_lt (eC ▸ Heap.lt_size e)) (Heap.get?_push_of_some _ e)
  have itI : h₁.get? I = some { cls := .type "list_iterator", data := .fields #[.ref l, .int 0 0] } := keep3 _ _ (keep2 _ _ (by rw [← hH1, ← eI]; exact Heap.get?_push_size _ rfl))
  have atD : h₁.get? D = some (seqObj "list" [] 0) := keep3 _ _ (by rw [← hH2, ← eD]; exact Heap.get?_push_size _ rfl)
  have fresh : ∀ a, (a = I ∨ a = D ∨ a = C) → s1.heap.get? a = none := fun a h => get_ge (by lia)
  have L0 : Lp X (fun a => a = I ∨ a = D ∨ a = C) F1 σ1 s1 F1 σ1 { s1 with heap := h₁, toks := s1.toks + ([] : List (Str × Value)).length } := by
    have nx := Nx.same x1.st (h' := h₁) fun b o e => keep3 _ _ (keep2 _ _ (keep1 b o e))
    refine ⟨nx.st, nx.p.weaken fun ι f => f.elim, ⟨_, _, rfl⟩, fun a h => x1.st.fresh (fresh a h), fun a h => ?_, fresh⟩
    show h₁.get? a ≠ none
    rcases h with rfl | rfl | rfl
    · rw [itI]; exact fun q => nomatch q
    · rw [atD]; exact fun q => nomatch q
    · intro q; have := ns_live hns; rw [q] at this; (injection this)
  have nID : I ≠ D := by lia
  have nIC : I ≠ C := by lia
  have nDC : D ≠ C := by lia
  have loop : codeAny (model X.prog X.w) A (.compLoop (.ListComp elt [⟨t, i, cs, 0⟩] sc pos) 0 (.ref I) (.ref D) (cenvOf env sc C)) (compPost (model X.prog X.w) A Eb use P (.ref D) C) { s1 with heap := h₁, toks := s1.toks + ([] : List (Str × Value)).length } := by
    refine comp_rule (CTurn X (fun a => a = I ∨ a = D ∨ a = C) F1 σ1 s1 I l D C vs fun xs acc σ' => compL (turnW caps tg wc we ρ) xs acc σ' Q) (hcs C).length ?_ (vs.length + 1) ⟨0, F1, σ1, [], [], 0, _, Nat.zero_le _, rfl, L0, ⟨_, itI, rfl, rfl⟩, atD, .nil, hns, Nat.le_refl _, by rw [List.drop_zero]; exact w2⟩
    rintro q s' Eb' ⟨i, F', σ', acc, acs, j, m, hle, rfl, L, hit, hacc, hrel, hnsC, hal, w3⟩
    have lAt := L.st.fro _ _ (L.p.mono _ _ hl)
    by_cases hlt : i < vs.length
    · have hdrop : vs.drop i = vs[i] :: vs.drop (i + 1) := List.drop_eq_getElem_cons hlt
      rw [hdrop] at w3
      obtain ⟨ρ', eρ, w4⟩ := och_elim (show och (bindTg σ' (capR ρ caps) tg vs[i]) _ from w3)
      obtain ⟨ci, hci, rci⟩ := hr.get (i := i) (v := vs[i]) (by simp [hlt])
      refine wpAny_pyNext_list_item hit (isList_of lAt) (x := ci) (by simpa using hci) fun h₂ hit₂ hs₂ => ?_
      have L2 := L.but (h' := h₂) (.inl rfl) (SameBut.keep hs₂) (li_live hit₂) s'.toks
      refine go_list (i := i + 1) ht hit₂ ?_
      have nsC2 : h₂.Ns C m := hnsC.at' fun o e => SameBut.keep hs₂ C o (Ne.symm nIC) e
      have accD2 : h₂.get? D = some (seqObj "list" acs j) := SameBut.keep hs₂ D _ (Ne.symm nID) hacc
      have k2 : Fo X (cenvOf env sc C) inm F' (capR ρ caps) σ' { s' with heap := h₂ } := cenv_fo eo hf hc (L2.fo k1) nsC2 (L2.out C (.inr (.inr rfl))).1 (L2.out C (.inr (.inr rfl))).2
      have sto : StoAll (cenvOf env sc C) (relab names sc.names) sc.names (fun a => a = C) := fun x hx => by
        simp only [stoK, Bool.or_eq_true, beq_iff_eq] at hx
        rcases hx with hx | hx
        · refine .inl ⟨?_, rfl⟩
          rw [relab_lookup, hx]; rfl
        · exact absurd rfl (freeOk_mem hf (lookup_mem hx)).1
      refine assign_tg (cenv_ok eo hk hf nd) sto ht R.1 (b := ⟨F', σ', { s' with heap := h₂ }⟩) (Pv := fun a => a = C) ⟨k2, .refl .., .refl _⟩ (rci.mono L2.p.mono) eρ fun s3 k3 => ?_
      have L3 := L2.same k3.fo.st (k3.stp.weaken fun a e => .inr (.inr e)) k3.shd
      have kI : ∀ o, h₂.get? I = some o → s3.heap.get? I = some o := fun o e => k3.stp.keep I o e (L2.out I (.inl rfl)).2 nIC
      have hit3 : s3.heap.IsListIter I l (i + 1) := by
        obtain ⟨o, ho, r⟩ := hit₂
        exact ⟨o, kI o ho, r⟩
      have accD3 : s3.heap.get? D = some (seqObj "list" acs j) := k3.stp.keep D _ accD2 (L2.out D (.inr (.inl rfl))).2 nDC
      obtain ⟨m3, nsC3, -⟩ := k3.fo.fr.loc
      refine tst_ok (hcs C) R k3.fo w4 (fun F4 σ4 s4 x4 w5 => ?_) (fun F4 σ4 s4 x4 w5 => ?_)
      · rw [if_pos rfl]
        refine he C A F4 ρ' σ4 s4 _ _ Eb' R (k3.fo.to x4) w5 fun c5 y F5 σ5 s5 r5 w6 x5 => ?_
        have L5 := (L3.to x4).to x5
        have x45 := x4.trans x5
        have accD5 := L3.keep x45 (.inr (.inl rfl)) accD3
        have hit5 : s5.heap.IsListIter I l (i + 1) := by
          obtain ⟨o, ho, r⟩ := hit3
          exact ⟨o, L3.keep x45 (.inl rfl) ho, r⟩
        have nsC5 : s5.heap.Ns C m3 := nsC3.at' fun o e => L3.keep x45 (.inr (.inr rfl)) e
        have hsz : acs.toArray.size ≤ sizeLine := fits hrel (by unfold lid at lt ⊢; lia)
        refine append_at accD5 (fun h₆ hs₆ hD₆ => ?_) hsz
        refine ⟨vs.length + 1 - (i + 1), by lia, i + 1, F5, σ5, acc ++ [y], acs ++ [c5], j + 1, m3, hlt, rfl, L5.but (.inr (.inl rfl)) (SameBut.keep hs₆) (by rw [hD₆]; rfl) s5.toks, ?_, ?_, (hrel.mono (x45.sub)).append (.cons r5 .nil), ?_, by rw [List.length_append, List.length_singleton]; lia, w6⟩
        · obtain ⟨o, ho, r⟩ := hit5
          exact ⟨o, SameBut.keep hs₆ I o nID ho, r⟩
        · show h₆.get? D = _
          rw [hD₆]; simp
        · exact nsC5.at' fun o e => SameBut.keep hs₆ C o (Ne.symm nDC) e
      · rw [if_neg Bool.false_ne_true]
        have L4 := L3.to x4
        refine ⟨vs.length + 1 - (i + 1), by lia, i + 1, F4, σ4, acc, acs, j, m3, hlt, rfl, L4, ?_, L3.keep x4 (.inr (.inl rfl)) accD3, hrel.mono x4.sub, nsC3.at' fun o e => L3.keep x4 (.inr (.inr rfl)) e, by lia, w5⟩
        obtain ⟨o, ho, r⟩ := hit3
        exact ⟨o, L3.keep x4 (.inl rfl) ho, r⟩
    · have hin : i = vs.length := Nat.le_antisymm hle (Nat.not_lt.mp hlt)
      subst hin
      refine wpAny_pyNext_list_end R.1 hit (isList_of lAt) (by simp [hr.length]) fun h₂ hs₂ => ?_
      have xl := L.last (h' := h₂) (.inl rfl) hs₂ s'.toks
      rw [List.drop_length] at w3
      have o1 := L.out D (.inr (.inl rfl))
      have o2 := L.out C (.inr (.inr rfl))
      exact fin D C m acs j acc F' σ' { s' with heap := h₂ } (x1.trans xl) (hs₂ D _ (Ne.symm nID) hacc) hrel (none_of_live x1.n.p.live (fresh D (.inr (.inl rfl)))) o1.1 o1.2 (hnsC.at' fun o e => hs₂ C o (Ne.symm nIC) e)
        (none_of_live x1.n.p.live (fresh C (.inr (.inr rfl)))) o2.1 o2.2 nDC w3
  exact codeAny_compStart_list loop (wpAny_pyIter_listiter ⟨_, itI, rfl, rfl⟩ loop)
end
section
variable {X : Cx}
theorem Nxt.but {F F' : Fz} {σ σ' : So} {s s' : Shared} {D : Addr} {h' : Heap} (a : Nxt X F σ s F' σ' s') (hn : s.heap.get? D = none) (f1 : F' D = none) (f2 : σ' D = none)
    (hk : ∀ b o, b ≠ D → s'.heap.get? b = some o → h'.get? b = some o) (t : Nat) : Nxt X F σ s F' σ' { s' with heap := h', toks := t } := by
  refine ⟨⟨⟨fun b o' e => hk b o' (by rintro rfl; rw [f1] at e; (injection e)) (a.st.fro b o' e), fun b m' e => ?_⟩, a.sub, fun b o' e q np => ?_, a.n.p.foot, fun b q => ?_⟩, a.sh.trans ⟨h', t, rfl⟩⟩
  · obtain ⟨f, o', ho', r'⟩ := a.st.own b m' e
    exact ⟨f, o', hk b o' (by rintro rfl; rw [f2] at e; (injection e)) ho', r'⟩
  · exact hk b o' (by rintro rfl; rw [hn] at e; (injection e)) (a.n.p.keep b o' e q np)
  · have ne : b ≠ D := by rintro rfl; rw [hn] at q; (injection q)
    obtain ⟨o', ho'⟩ := Option.isSome_iff_exists.mp (a.n.p.live b q)
    show (h'.get? b).isSome = true
    rw [hk b o' ne ho']; rfl
inductive Took (X : Cx) (F F' : Fz) (σ σ' : So) (s s' : Shared) (D : Addr) (Q : V → So → Prop) : Prop
  | mk (v : V) (F'' : Fz) (σ'' : So) (n : Nxt X F σ s F'' σ'' s') (q : Q v σ'') (r : RelV X F'' (.ref D) v) (k : ∀ a, a ≠ D → F'' a = F' a ∧ σ'' a = σ' a)
theorem Nxt.take {F F' : Fz} {σ σ' : So} {s s' : Shared} {D : Addr} {acs : List Value} {j : Nat} {ys : List V} {m : Bool} {Q : V → So → Prop} (a : Nxt X F σ s F' σ' s') (hn : s.heap.get? D = none) (f1 : F' D = none) (f2 : σ' D = none) (ho : s'.heap.get? D = some (seqObj "list" acs j))
    (r : RelVs X F' acs ys) (w : newL m ys σ' Q) : Took X F F' σ σ' s s' D Q := by
  obtain ⟨lt, w⟩ := w
  cases m with
  | true => exact ⟨_, F', _, Nxt.adopt a hn f1 f2 (fun b o ι e => e) ho (.lst r) s'.toks, w D f2, .ref _, fun b ne => ⟨rfl, upd_ne _ _ ne⟩⟩
  | false => exact ⟨_, _, σ', Nxt.adoptF a hn f1 f2 ho s'.toks, w, .lst (upd_self ..) (r.mono (.upd f1)), fun b ne => ⟨upd_ne _ _ ne, rfl⟩⟩
section
variable {n : Nat} {env : Env} {names : Nms} {nm inm : List Str} {caps : List (Option Nat)} {sc : Scope} {elt t i : Expr} {cs : List Expr} {tg : Tg} {pos p spos : Pos} {wi we : Ro → So → (V → So → Prop) → Prop} {wc : Option (Ro → So → (Bool → So → Prop) → Prop)}
theorem tv_comp {m : Bool} (eo : EnvOk X env names nm) (hk : sc.kind = .function) (hf : freeOk names sc.names = true) (hc : capsOk names nm sc.names inm caps = true) (nd : inm.Nodup) (ht : FitTg sc.names inm tg t) (hset : notSet i = true)
    (hcs : ∀ C, Tests X n (cenvOf env sc C) inm cs wc) (he : ∀ C, TV X n (cenvOf env sc C) inm (eval elt (cenvOf env sc C)) we) (hi : TV X n env nm (eval i env) wi) :
    TV X n env nm (eval (.ListComp elt [⟨t, i, cs, 0⟩] sc pos) env) fun ρ σ Q => wi ρ σ fun a σ => och (lstV a) fun xs => xs.length < lid ∧ compL (turnW caps tg wc we ρ) xs [] σ fun ys σ => newL m ys σ Q := by
  intro A F ρ σ s Q P Eb R k w h
  rw [arm_eval_ListComp]
  refine comp_core eo hk hf hc nd ht hset hcs he hi R k w fun D C mC acs j ys F' σ' s' x hD hr d1 d2 d3 hC c1 c2 c3 ne w' => ?_
  refine ⟨mC, hC, fun h' hs => ?_⟩
  have x2 := Nxt.but x c1 c2 c3 (SameBut.keep hs) s'.toks
  obtain ⟨v, F2, σ2, x3, q, r, -⟩ := Nxt.take x2 d1 d2 d3 (SameBut.keep hs D _ ne hD) hr w'
  exact h _ _ _ _ _ r q x3
noncomputable def TF (X : Cx) (n : Nat) (env : Env) (nm : List Str) (t : Sem Flow) (w : Ro → So → (Fl → Ro → So → Prop) → Prop) : Prop :=
  ∀ (A : Around) (b : Bs) (F : Fz) (ρ : Ro) (σ : So) (s : Shared) (Q : Fl → Ro → So → Prop) (P : Flow → Shared → Prop) (Eb : Value → Shared → Prop), Room n A → Ok X env nm (Prv env) b F ρ σ s → w ρ σ Q →
    (∀ F' ρ' σ' s', Ok X env nm (Prv env) b F' ρ' σ' s' → (Q .next ρ' σ' → P .next s') ∧ (Q .cont ρ' σ' → P .cont s') ∧ ∀ c v, RelV X F' c v → Q (.ret v) ρ' σ' → P (.ret c) s') → wpAny (model X.prog X.w) A t P Eb s
theorem sto_all {names₀ : Nms} (eo : EnvOk X env names nm) (h : names₀ = names) : StoAll env names names₀ (Prv env) := fun x hx => by
  subst h
  simp only [stoK, Bool.or_eq_true, beq_iff_eq] at hx
  rcases hx with hx | hx
  · exact .inl ⟨hx, .inl rfl⟩
  · exact .inr ⟨hx, fun a ha => .inr ⟨x, ha⟩⟩
theorem Ok.but {b : Bs} {F : Fz} {ρ : Ro} {σ : So} {s : Shared} {D : Addr} {h' : Heap} (k : Ok X env nm (Prv env) b F ρ σ s) (hn : b.s.heap.get? D = none) (f1 : F D = none) (f2 : σ D = none) (np : ¬ Prv env D)
    (hk : ∀ b o, b ≠ D → s.heap.get? b = some o → h'.get? b = some o) (t : Nat) : Ok X env nm (Prv env) b F ρ σ { s with heap := h', toks := t } := by
  have S : St X F σ h' := ⟨fun b o' e => hk b o' (by rintro rfl; rw [f1] at e; (injection e)) (k.fo.st.fro b o' e), fun b m' e => by
    obtain ⟨f, o', ho', r'⟩ := k.fo.st.own b m' e
    exact ⟨f, o', hk b o' (by rintro rfl; rw [f2] at e; (injection e)) ho', r'⟩⟩
  refine ⟨⟨k.fo.g, S, ?_⟩, ⟨k.stp.mono, fun b o' e q np' => ?_, k.stp.foot, fun b q => ?_⟩, k.shd.trans ⟨h', t, rfl⟩⟩
  · obtain ⟨m, hm, hl⟩ := k.fo.fr.loc
    have kp : ∀ a, Prv env a → ∀ o, s.heap.get? a = some o → h'.get? a = some o := fun a ha o e => hk a o (by rintro rfl; exact np ha) e
    refine ⟨⟨m, hm.at' (kp _ (.inl rfl)), hl⟩, fun i x v h1 h2 h3 => ?_, fun x a hx => ?_, k.fo.fr.dist, k.fo.fr.prv⟩
    · obtain ⟨a, c, ha, hc, r⟩ := k.fo.fr.cel i x v h1 h2 h3
      exact ⟨a, c, ha, isCell_keep hc (kp a (.inr ⟨x, ha⟩)), r⟩
    · obtain ⟨v, hv⟩ := k.fo.fr.cells x a hx
      exact ⟨v, isCell_keep hv (kp a (.inr ⟨x, hx⟩))⟩
  · exact hk b o' (by rintro rfl; rw [hn] at e; (injection e)) (k.stp.keep b o' e q np')
  · have ne : b ≠ D := by rintro rfl; rw [hn] at q; (injection q)
    obtain ⟨o', ho'⟩ := Option.isSome_iff_exists.mp (k.stp.live b q)
    show (h'.get? b).isSome = true
    rw [hk b o' ne ho']; rfl
theorem swap_off {v : Expr} {tg : Option Expr} {l : Nat} (h : isComp v = false) : swapsWith v tg l env = pure false := by
  unfold swapsWith
  (injection v) <;> first | rfl | (injection h)
theorem tf_asg {j : Nat} {x : Str} {v : Expr} (eo : EnvOk X env names nm) (hs : stoIs names nm j x = true) (hv : isComp v = false) (hx : TV X n env nm (eval v env) wi) :
    TF X n env nm (exec (.Assign [.Name x p] v spos) env) fun ρ σ Q => wi ρ σ fun v σ => Q .next (setR ρ j v) σ := by
  intro A b F ρ σ s Q P Eb R k w h
  refine wpAny_Assign_Name (hx A F ρ σ s _ _ Eb R k.fo w fun c v F1 σ1 s1 r1 w1 x1 => ?_) (swap_off hv)
  simp only [stoIs, Bool.and_eq_true, beq_iff_eq] at hs
  exact store_var eo (k.to x1) hs.1 (sto_all eo rfl x hs.2) r1 fun h' t k' => (h _ _ _ _ k').1 w1
theorem tf_asgComp {j : Nat} {x : Str} {m : Bool} (eo : EnvOk X env names nm) (hs : stoIs names nm j x = true) (hsw : swapsWith (.ListComp elt [⟨t, i, cs, 0⟩] sc pos) (some (.Name x p)) spos.line env = pure true)
    (hk : sc.kind = .function) (hf : freeOk names sc.names = true) (hc : capsOk names nm sc.names inm caps = true) (nd : inm.Nodup) (ht : FitTg sc.names inm tg t) (hset : notSet i = true)
    (hcs : ∀ C, Tests X n (cenvOf env sc C) inm cs wc) (he : ∀ C, TV X n (cenvOf env sc C) inm (eval elt (cenvOf env sc C)) we) (hi : TV X n env nm (eval i env) wi) :
    TF X n env nm (exec (.Assign [.Name x p] (.ListComp elt [⟨t, i, cs, 0⟩] sc pos) spos) env) fun ρ σ Q => wi ρ σ fun a σ => och (lstV a) fun xs => xs.length < lid ∧ compL (turnW caps tg wc we ρ) xs [] σ fun ys σ => newL m ys σ fun v σ => Q .next (setR ρ j v) σ := by
  intro A b F ρ σ s Q P Eb R k w h
  rw [exec_Assign_Name_used _ _ _ _ hsw]
  refine wpAny_bind (wpAny_standAt (wpAny_bind ?_))
  show wpAny _ A (do let _ ← comprehension (.ListComp elt [⟨t, i, cs, 0⟩] sc pos) sc env _ (newList []) false (eval i env) (some (assign (.Name x p) env))) _ _ s
  refine wpAny_bind (wpAny_mono (comp_core (P := fun ι s' => P .next s') (use := some (assign (.Name x p) env)) eo hk hf hc nd ht hset hcs he hi R k.fo w fun D C mC acs l ys F' σ' s' x1 hD hr d1 d2 d3 hC c1 c2 c3 ne w' => ?_) (fun ι s' hq => wpAny_pure (wpAny_pure hq)) fun ι ι e => e)
  obtain ⟨v, F2, σ2, x3, q, r, oth⟩ := Nxt.take x1 d1 d2 d3 hD hr w'
  have k3 := k.to x3
  have npC : ¬ Prv env C := fun hp => k.fo.fr.prvLive hp c1
  obtain ⟨g1, g2⟩ := oth C (Ne.symm ne)
  refine store_nm (b := ⟨F2, σ2, s'⟩) eo (sto_all eo rfl) hs ⟨k3.fo, .refl .., .refl _⟩ r fun s'' k'' => ?_
  refine ⟨mC, hC.at' fun o e => k''.stp.keep C o e (g2.trans c3) npC, fun h' hs' => ?_⟩
  have k4 : Ok X env nm (Prv env) b F2 (setR ρ j v) σ2 s'' := ⟨k''.fo, k3.stp.trans k''.stp k3.fo.st, k3.shd.trans k''.shd⟩
  exact (h _ _ _ _ (k4.but (none_of_live k.stp.live c1) (g1.trans c2) (g2.trans c3) npC (SameBut.keep hs') s''.toks)).1 q
end
end
section
variable {X : Cx}
noncomputable def NextOf (X : Cx) (A : Around) (t : Expr) (I : Addr) (N : Shared → Prop) (G : Value → Shared → Prop) (E' E : Value → Shared → Prop) (s : Shared) : Prop :=
  wpAny (model X.prog X.w) A (pyNext (.ref I)) (fun r s1 => match r with
    | none => N s1
    | some v => wpAny (model X.prog X.w) A (letOwnedTupleGo t (.ref I) v) (fun ι s2 => G v s2) E' s1) E s
structure Its (X : Cx) (A : Around) (t : Expr) (I : Addr) (Pi : Addr → Prop) (xs : List V) (SI : Fz → Nat → Heap → Prop) : Prop where
  frame : ∀ F F' i h h', SI F i h → Sub F F' → Sub F' h'.get? → (∀ a o, Pi a → h.get? a = some o → h'.get? a = some o) → SI F' i h'
  item : ∀ F σ i s N G E' E (lt : i < xs.length), SI F i s.heap → St X F σ s.heap → (∀ a, Pi a → F a = none ∧ σ a = none ∧ s.heap.get? a ≠ none) →
    (∀ c F' s', RelV X F' c xs[i] → SI F' (i + 1) s'.heap → St X F' σ s'.heap → Stp Pi F σ s.heap F' σ s'.heap → Shd s s' → (∀ a, Pi a → F' a = none ∧ s'.heap.get? a ≠ none) → G c s') → NextOf X A t I N G E' E s
  done : ∀ F σ s N G E' E, SI F xs.length s.heap → St X F σ s.heap → (∀ a, Pi a → F a = none ∧ σ a = none ∧ s.heap.get? a ≠ none) → (∀ h', (∀ b o, ¬ Pi b → s.heap.get? b = some o → h'.get? b = some o) → N { s with heap := h' }) → NextOf X A t I N G E' E s
theorem live_of {h : Heap} {a : Addr} (h' : h.get? a ≠ none) : (h.get? a).isSome = true := by cases e : h.get? a with | none => exact absurd e h' | some o => rfl
theorem ne_of_live {h : Heap} {a : Addr} (h' : (h.get? a).isSome = true) : h.get? a ≠ none := by intro q; rw [q] at h'; (injection h')
theorem go_name {A : Around} {E : Value → Shared → Prop} {s : Shared} {x : Str} {p : Pos} {it v : Value} {Q : Unit → Shared → Prop} (h : Q () s) : wpAny (model X.prog X.w) A (letOwnedTupleGo (.Name x p) it v) Q E s := wpAny_pure h
noncomputable def isTg (e : Expr) : Bool := Nat.beq e.ctorIdx 23 || Nat.beq e.ctorIdx 25
theorem isTg_of {names : Nms} {nm : List Str} {tg : Tg} {t : Expr} (h : FitTg names nm tg t) : isTg t = true := by
  (injection h) <;> rfl
theorem go_val {A : Around} {E : Value → Shared → Prop} {s : Shared} {t : Expr} {I : Addr} {v : Value} {Q : Unit → Shared → Prop} (ht : isTg t = true) (hT : ∃ o, s.heap.get? I = some o ∧ (o.cls = .type "list_iterator" ∨ o.cls = .type "tuple_iterator" ∨ o.cls = .type "range_iterator") ∧ ∃ vs, o.data = .fields vs) (h : Q () s) :
    wpAny (model X.prog X.w) A (letOwnedTupleGo t (.ref I) v) Q E s := by
  cases t with
  | Name x p => exact wpAny_pure h
  | Tuple es j p =>
    cases v with
    | ref T =>
      obtain ⟨o, ho, hc, vs, hd⟩ := hT
      unfold letOwnedTupleGo
      refine wpAny_bind (wpAny_load ho ?_)
      rcases hc with hc | hc | hc <;> rw [hc, hd] <;> exact wpAny_pure h
    | _ => exact wpAny_pure h
  | _ => (injection ht)
theorem its_list {A : Around} {t : Expr} {I l : Addr} {lcs : List Value} {j : Nat} {xs : List V} (hh : A.handled = none) (ht : isTg t = true) (_ne : l ≠ I) :
    Its X A t I (fun a => a = I) xs (fun F i h => h.IsListIter I l i ∧ F l = some (seqObj "list" lcs j) ∧ RelVs X F lcs xs) where
  frame := fun F F' i h h' ⟨a, b, c⟩ hs ι hk => ⟨by obtain ⟨o, ho, r⟩ := a; exact ⟨o, hk I o rfl ho, r⟩, hs _ _ b, c.mono hs⟩
  item := fun F σ i s N G E' E lt ⟨a, b, c⟩ S out hQ => by
    obtain ⟨ci, hci, rci⟩ := c.get (i := i) (v := xs[i]) (by simp [lt])
    refine wpAny_pyNext_list_item a (isList_of (S.fro _ _ b)) (x := ci) (by simpa using hci) fun h' a' hs => ?_
    have lv := li_live a'
    refine go_val ht (by obtain ⟨o, ho, hc, hd⟩ := a'; exact ⟨o, ho, .inl hc, _, hd⟩) ?_
    obtain ⟨S', p⟩ := S.but (P := fun a => a = I) rfl ⟨(out I rfl).1, (out I rfl).2.1⟩ (SameBut.keep hs) lv
    exact hQ ci F { s with heap := h' } rci ⟨a', b, c⟩ S' p ⟨_, _, rfl⟩ fun a e => e ▸ ⟨(out I rfl).1, ne_of_live lv⟩
  done := fun F σ s N G E' E ⟨a, b, c⟩ S ι hN => wpAny_pyNext_list_end hh a (isList_of (S.fro _ _ b)) (by simp [c.length]) fun h' hs => hN h' fun b o nb e => hs b o nb e
theorem its_tuple {A : Around} {t : Expr} {I l : Addr} {lcs : List Value} {j : Nat} {xs : List V} (hh : A.handled = none) (ht : isTg t = true) (_ne : l ≠ I) :
    Its X A t I (fun a => a = I) xs (fun F i h => h.IsTupleIter I l i ∧ F l = some (seqObj "tuple" lcs j) ∧ RelVs X F lcs xs) where
  frame := fun F F' i h h' ⟨a, b, c⟩ hs ι hk => ⟨by obtain ⟨o, ho, r⟩ := a; exact ⟨o, hk I o rfl ho, r⟩, hs _ _ b, c.mono hs⟩
  item := fun F σ i s N G E' E lt ⟨a, b, c⟩ S out hQ => by
    obtain ⟨ci, hci, rci⟩ := c.get (i := i) (v := xs[i]) (by simp [lt])
    refine wpAny_pyNext_tuple_item a (isTuple_of (S.fro _ _ b)) (x := ci) (by simpa using hci) fun h' a' hs => ?_
    have lv : (h'.get? I).isSome = true := by obtain ⟨o, ho, _⟩ := a'; rw [ho]; rfl
    refine go_val ht (by obtain ⟨o, ho, hc, hd⟩ := a'; exact ⟨o, ho, .inr (.inl hc), _, hd⟩) ?_
    obtain ⟨S', p⟩ := S.but (P := fun a => a = I) rfl ⟨(out I rfl).1, (out I rfl).2.1⟩ (SameBut.keep hs) lv
    exact hQ ci F { s with heap := h' } rci ⟨a', b, c⟩ S' p ⟨_, _, rfl⟩ fun a e => e ▸ ⟨(out I rfl).1, ne_of_live lv⟩
  done := fun F σ s N G E' E ⟨a, b, c⟩ S ι hN => wpAny_pyNext_tuple_end hh a (isTuple_of (S.fro _ _ b)) (by simp [c.length]) fun h' hs => hN h' fun b o nb e => hs b o nb e
theorem its_range {A : Around} {t : Expr} {I : Addr} {m : Nat} (hh : A.handled = none) (ht : isTg t = true) :
    Its X A t I (fun a => a = I) ((List.range m).map fun (j : Nat) => V.int (j : Int)) (fun ι i h => IsRangeIter h I (i : Int) ((m : Int) - i) 1) where
  frame := fun F F' i h h' a ι ι hk => hk I _ rfl a
  item := fun F σ i s N G E' E lt a S out hQ => by
    have lt' : i < m := by simpa using lt
    refine wpAny_pyNext_range_item a (by lia) fun h' a' hs => ?_
    have e1 : ((i : Int) + 1) = ((i + 1 : Nat) : Int) := by push_cast; rfl
    have e2 : ((m : Int) - i - 1) = (m : Int) - ((i + 1 : Nat) : Int) := by push_cast; lia
    rw [e1, e2] at a'
    have lv : (h'.get? I).isSome = true := by rw [show h'.get? I = some _ from a']; rfl
    refine go_val ht ⟨_, a', .inr (.inr rfl), _, rfl⟩ ?_
    obtain ⟨S', p⟩ := S.but (P := fun a => a = I) rfl ⟨(out I rfl).1, (out I rfl).2.1⟩ (SameBut.keep hs) lv
    refine hQ (.int i s.toks) F { s with heap := h', toks := s.toks + 1 } ?_ a' S' p ⟨_, _, rfl⟩ fun a e => e ▸ ⟨(out I rfl).1, ne_of_live lv⟩
    have e3 : ((List.range m).map fun (j : Nat) => V.int (j : Int))[i] = .int (i : Int) := by simp
    rw [e3]; exact .int _ _
  done := fun F σ s N G E' E a S ι hN => wpAny_pyNext_range_end hh a (by simp) fun h' hs => hN h' fun b o nb e => hs b o nb e
end
section
variable {X : Cx}
theorem int_key {k : Int} {key : Value} (h : (intKind X.prog X.w).is k key = true) : ∃ t, key = .int k t := by
  (injection key) <;> simp [intKind, Value.isInt] at h
  subst h; exact ⟨_, rfl⟩
theorem St.tup {P : Addr → Prop} {F : Fz} {σ : So} {h h' : Heap} {T : Addr} {o : Obj} (S : St X F σ h') (p : Stp P F σ h F σ h') (hn : h.get? T = none) (f1 : F T = none) (f2 : σ T = none) (ho : h'.get? T = some o) : St X (upd F T o) σ h' ∧ Stp P F σ h (upd F T o) σ h' := by
  have hs : Sub F (upd F T o) := .upd f1
  refine ⟨⟨fun b o' e => ?_, fun b m' e => ?_⟩, hs, p.keep, fun b q => ?_, p.live⟩
  · by_cases q : b = T
    · subst q; rw [upd_self] at e; (injection e); exact ho
    · rw [upd_ne _ _ q] at e; exact S.fro b o' e
  · obtain ⟨f, o', ho', r'⟩ := S.own b m' e
    refine ⟨?_, o', ho', r'.mono hs⟩
    rw [upd_ne _ _ (by rintro rfl; rw [f2] at e; (injection e))]; exact f
  · by_cases q' : b = T
    · subst q'; exact .inr (.inr hn)
    · rw [upd_ne _ _ q'] at q; exact p.foot b q
theorem enumL_length : ∀ {i : Nat} {xs : List V}, (enumL i xs).length = xs.length
  | _, [] => rfl
  | i, x :: xs => by rw [enumL, List.length_cons, List.length_cons, enumL_length]
theorem enumL_at : ∀ {xs : List V} {i j : Nat} (h : j < xs.length) (h' : j < (enumL i xs).length), (enumL i xs)[j] = .tup [.int ((i + j : Nat) : Int), xs[j]]
  | x :: xs, i, 0, _, _ => by simp [enumL]
  | x :: xs, i, j + 1, h, h' => by
    have := enumL_at (xs := xs) (i := i + 1) (j := j) (by simpa using h) (by rw [enumL_length]; simpa using h)
    simp only [enumL, List.getElem_cons_succ]
    rw [this]
    congr 4
    lia
theorem enumL_get {xs : List V} {j : Nat} (h : j < xs.length) {h' : j < (enumL 0 xs).length} : (enumL 0 xs)[j] = .tup [.int (j : Int), xs[j]] := by
  rw [enumL_at h h']; simp
theorem relI_at {F : Fz} : ∀ {kvs : List (Int × Value)} {es : List (Int × V)} {i : Nat}, RelI X F kvs es → (h : i < es.length) → ∃ k x, kvs[i]? = some (k, x) ∧ k = es[i].1 ∧ RelV X F x es[i].2
  | _, _, i, .nil, h => by simp at h
  | _, _, 0, .cons r _, _ => ⟨_, _, rfl, rfl, r⟩
  | _, _, i + 1, .cons _ r, h => by
    obtain ⟨k, x, a, b, c⟩ := relI_at (i := i) r (by simpa using h)
    exact ⟨k, x, by simpa using a, by simpa using b, by simpa using c⟩
theorem its_items {A : Around} {t : Expr} {I d : Addr} {od : Obj} {kvs : List (Int × Value)} {es : List (Int × V)} {ep : Nat} (hh : A.handled = none) (ht : isTup t = true) (hat : KdkAt (intKind X.prog X.w) od kvs ep) :
    Its X A t I (fun a => a = I) (es.map fun p => .tup [.int p.1, p.2]) (fun F i h => (∃ ok ov, IsItemIter h I d i kvs.length ep ok ov) ∧ F d = some od ∧ RelI X F kvs es) where
  frame := fun F F' i h h' ⟨⟨ok, ov, a⟩, b, c⟩ hs ι hk => ⟨⟨ok, ov, hk I _ rfl a⟩, hs _ _ b, c.mono hs⟩
  item := fun F σ i s N G E' E lt ⟨⟨ok, ov, a⟩, b, c⟩ S out hQ => by
    have lt' : i < es.length := by simpa using lt
    obtain ⟨k, x, hx, ek, rx⟩ := relI_at c lt'
    refine wpAny_pyNext_items_item a (hat.dictAt (S.fro _ _ b)) hx fun key h' hkey ho hT hsz hk => ?_
    obtain ⟨tk, rfl⟩ := int_key hkey
    (injection t) <;> first | ((injection ht); done) | skip
    refine wpAny_letOwnedTupleGo_items ho fun h'' he hs => ?_
    have nI : s.heap.objs.size ≠ I := Nat.ne_of_gt (Heap.lt_size a)
    have lv : (h''.get? I).isSome = true := by rw [show h''.get? I = some _ from he]; rfl
    obtain ⟨S1, p1⟩ := S.but (P := fun a => a = I) (h' := h'') rfl ⟨(out I rfl).1, (out I rfl).2.1⟩ (fun b o nb e => SameBut.keep hs b o nb (hk b o nb e)) lv
    have hT' : h''.get? s.heap.objs.size = some (seqObj "tuple" [.int k tk, x] 0) := SameBut.keep hs _ _ nI hT
    obtain ⟨f1, f2⟩ := S.fresh (get_size s.heap)
    obtain ⟨S2, p2⟩ := S1.tup p1 (get_size s.heap) f1 f2 hT'
    refine hQ (.ref s.heap.objs.size) _ { s with heap := h'' } ?_ ⟨⟨_, _, he⟩, p2.mono _ _ b, c.mono p2.mono⟩ S2 p2 ⟨_, _, rfl⟩ fun a e => e ▸ ⟨?_, ne_of_live lv⟩
    · rw [List.getElem_map]
      exact .tup (upd_self ..) (.cons (by rw [← ek]; exact .int _ _) (.cons (rx.mono p2.mono) .nil))
    · rw [upd_ne _ _ (Ne.symm nI)]; exact (out I rfl).1
  done := fun F σ s N G E' E ⟨⟨ok, ov, a⟩, b, c⟩ S ι hN => by
    have e1 := relI_length c
    rw [List.length_map, ← e1] at a
    exact wpAny_pyNext_items_end hh a (hat.dictAt (S.fro _ _ b)) (by simp) fun h' hs => hN h' fun b o nb e => hs b o nb e
theorem its_enum {A : Around} {t : Expr} {I J l : Addr} {lcs : List Value} {j : Nat} {xs : List V} (hh : A.handled = none) (ht : isTup t = true) (hIJ : I ≠ J) :
    Its X A t I (fun a => a = I ∨ a = J) (enumL 0 xs) (fun F i h => (∃ old, IsEnum h I J (i : Int) old) ∧ h.IsListIter J l i ∧ F l = some (seqObj "list" lcs j) ∧ RelVs X F lcs xs) where
  frame := fun F F' i h h' ⟨⟨old, a⟩, a2, b, c⟩ hs ι hk => ⟨⟨old, hk I _ (.inl rfl) a⟩, by obtain ⟨o, ho, r⟩ := a2; exact ⟨o, hk J o (.inr rfl) ho, r⟩, hs _ _ b, c.mono hs⟩
  item := fun F σ i s N G E' E lt ⟨⟨old, a⟩, a2, b, c⟩ S out hQ => by
    have lt' : i < xs.length := by rw [enumL_length] at lt; exact lt
    obtain ⟨ci, hci, rci⟩ := c.get (i := i) (v := xs[i]) (by simp [lt'])
    refine wpAny_pyNext_enum_item a a2 (isList_of (S.fro _ _ b)) (x := ci) (by simpa using hci) hIJ fun h' ho a2' hT hsz hk => ?_
    (injection t) <;> first | ((injection ht); done) | skip
    refine wpAny_letOwnedTupleGo_enum ho fun h'' he hs => ?_
    have nI : s.heap.objs.size ≠ I := Nat.ne_of_gt (Heap.lt_size a)
    have nJ : s.heap.objs.size ≠ J := Nat.ne_of_gt (by obtain ⟨o, ho, _⟩ := a2; exact Heap.lt_size ho)
    have lvI : (h''.get? I).isSome = true := by rw [show h''.get? I = some _ from he]; rfl
    have a3 : h''.IsListIter J l (i + 1) := by obtain ⟨o, ho, r⟩ := a2'; exact ⟨o, SameBut.keep hs J o (Ne.symm hIJ) ho, r⟩
    have lvJ := li_live a3
    obtain ⟨S1, p1⟩ := S.priv (P := fun a => a = I ∨ a = J) (h' := h'') (fun a e => ⟨(out a e).1, (out a e).2.1⟩) (fun b o nb e => SameBut.keep hs b o (fun q => nb (.inl q)) (hk b o (fun q => nb (.inl q)) (fun q => nb (.inr q)) e)) (fun b e ι => by rcases e with rfl | rfl; exact lvI; exact lvJ)
    have hT' : h''.get? s.heap.objs.size = some (seqObj "tuple" [.int i s.toks, ci] 0) := SameBut.keep hs _ _ nI hT
    obtain ⟨f1, f2⟩ := S.fresh (get_size s.heap)
    obtain ⟨S2, p2⟩ := S1.tup p1 (get_size s.heap) f1 f2 hT'
    have e1 : ((i : Int) + 1) = ((i + 1 : Nat) : Int) := by push_cast; rfl
    rw [e1] at he
    refine hQ (.ref s.heap.objs.size) _ { s with heap := h'', toks := s.toks + 1 } ?_ ⟨⟨_, he⟩, a3, p2.mono _ _ b, c.mono p2.mono⟩ S2 p2 ⟨_, _, rfl⟩ fun a e => ?_
    · rw [enumL_get lt']
      exact .tup (upd_self ..) (.cons (.int _ _) (.cons (rci.mono p2.mono) .nil))
    · rcases e with rfl | rfl
      · exact ⟨by rw [upd_ne _ _ (Ne.symm nI)]; exact (out _ (.inl rfl)).1, ne_of_live lvI⟩
      · exact ⟨by rw [upd_ne _ _ (Ne.symm nJ)]; exact (out _ (.inr rfl)).1, ne_of_live lvJ⟩
  done := fun F σ s N G E' E ⟨⟨old, a⟩, a2, b, c⟩ S ι hN => by
    rw [enumL_length] at a a2
    exact wpAny_pyNext_enum_end hh a a2 (isList_of (S.fro _ _ b)) (by simp [c.length]) fun h' hs => hN h' fun b o nb e => hs b o (fun q => nb (.inr q)) e
end
section
variable {X : Cx}
theorem Stp.drop {Pv Pi : Addr → Prop} {F F' F'' : Fz} {σ σ' σ'' : So} {h h' h'' : Heap} (a : Stp Pv F σ h F' σ' h') (b : Stp Pi F' σ' h' F'' σ'' h'') (S : St X F' σ' h') (n : ∀ x, Pi x → h.get? x = none) : Stp Pv F σ h F'' σ'' h'' := by
  have c := (a.weaken (Pv' := fun x => Pv x ∨ Pi x) fun ι q => .inl q).trans (b.weaken fun ι q => .inr q) S
  exact ⟨c.mono, fun x o e q np => c.keep x o e q fun q' => q'.elim np fun q' => (by rw [n x q'] at e; (injection e)), c.foot, c.live⟩
section
variable {n : Nat} {env : Env} {names : Nms} {nm : List Str} {A : Around} {b : Bs} {F : Fz} {ρ : Ro} {σ : So} {s : Shared}
noncomputable def Aside (env : Env) (b : Bs) (F : Fz) (σ : So) (s : Shared) (Pi : Addr → Prop) : Prop := ∀ a, Pi a → F a = none ∧ σ a = none ∧ s.heap.get? a ≠ none ∧ ¬ Prv env a ∧ b.s.heap.get? a = none
theorem Ok.butP {Pi : Addr → Prop} {h' : Heap} (k : Ok X env nm (Prv env) b F ρ σ s) (ha : Aside env b F σ s Pi) (hk : ∀ b o, ¬ Pi b → s.heap.get? b = some o → h'.get? b = some o) (t : Nat) : Ok X env nm (Prv env) b F ρ σ { s with heap := h', toks := t } := by
  have S : St X F σ h' := ⟨fun c o' e => hk c o' (fun q => by rw [(ha c q).1] at e; (injection e)) (k.fo.st.fro c o' e), fun c m' e => by
    obtain ⟨f, o', ho', r'⟩ := k.fo.st.own c m' e
    exact ⟨f, o', hk c o' (fun q => by rw [(ha c q).2.1] at e; (injection e)) ho', r'⟩⟩
  refine ⟨⟨k.fo.g, S, ?_⟩, ⟨k.stp.mono, fun c o' e q np' => ?_, k.stp.foot, fun c q => ?_⟩, k.shd.trans ⟨h', t, rfl⟩⟩
  · obtain ⟨m, hm, hl⟩ := k.fo.fr.loc
    have kp : ∀ a, Prv env a → ∀ o, s.heap.get? a = some o → h'.get? a = some o := fun a hp o e => hk a o (fun q => (ha a q).2.2.2.1 hp) e
    refine ⟨⟨m, hm.at' (kp _ (.inl rfl)), hl⟩, fun i x v h1 h2 h3 => ?_, fun x a hx => ?_, k.fo.fr.dist, k.fo.fr.prv⟩
    · obtain ⟨a, c, hc0, hc, r⟩ := k.fo.fr.cel i x v h1 h2 h3
      exact ⟨a, c, hc0, isCell_keep hc (kp a (.inr ⟨x, hc0⟩)), r⟩
    · obtain ⟨v, hv⟩ := k.fo.fr.cells x a hx
      exact ⟨v, isCell_keep hv (kp a (.inr ⟨x, hx⟩))⟩
  · exact hk c o' (fun q' => by rw [(ha c q').2.2.2.2] at e; (injection e)) (k.stp.keep c o' e q np')
  · have ne : ¬ Pi c := fun q' => by rw [(ha c q').2.2.2.2] at q; (injection q)
    obtain ⟨o', ho'⟩ := Option.isSome_iff_exists.mp (k.stp.live c q)
    show (h'.get? c).isSome = true
    rw [hk c o' ne ho']; rfl
noncomputable def forW (tg : Tg) (wb : Ro → So → (Fl → Ro → So → Prop) → Prop) (x : V) (ρ : Ro) (σ : So) (k : Fl → Ro → So → Prop) : Prop := och (bindTg σ ρ tg x) fun ρ' => wb ρ' σ k
theorem for_loop {t : Expr} {tg : Tg} {body : List Stmt} {I : Addr} {Pi : Addr → Prop} {xs : List V} {SI : Fz → Nat → Heap → Prop} {wb : Ro → So → (Fl → Ro → So → Prop) → Prop} {Q : Fl → Ro → So → Prop} {P : Flow → Shared → Prop} {Eb : Value → Shared → Prop} {RE : Value → Shared → Prop}
    (eo : EnvOk X env names nm) (ht : FitTg names nm tg t) (hb : TF X n env nm (execs body env) wb) (R : Room n A) (its : Its X A t I Pi xs SI) (k : Ok X env nm (Prv env) b F ρ σ s) (h0 : SI F 0 s.heap) (hp : Aside env b F σ s Pi)
    (w : forL (forW tg wb) xs ρ σ Q)
    (h : ∀ F' ρ' σ' s', Ok X env nm (Prv env) b F' ρ' σ' s' → (Q .next ρ' σ' → P .next s') ∧ (Q .cont ρ' σ' → P .cont s') ∧ ∀ c v, RelV X F' c v → Q (.ret v) ρ' σ' → P (.ret c) s') :
    codeAny (model X.prog X.w) A (.forLoop t (.ref I) body [] env) (fun r s' => match r with | .ok f => P f s' | .error e => RE e s') s := by
  refine codeAny_forLoop_any (fun q s' => ∃ i F' ρ' σ', i ≤ xs.length ∧ q = xs.length + 1 - i ∧ Ok X env nm (Prv env) b F' ρ' σ' s' ∧ SI F' i s'.heap ∧ Aside env b F' σ' s' Pi ∧ forL (forW tg wb) (xs.drop i) ρ' σ' Q) ?_ (xs.length + 1) ⟨0, F, ρ, σ, Nat.zero_le _, rfl, k, h0, hp, by rw [List.drop_zero]; exact w⟩
  rintro q s1 ⟨i, F1, ρ1, σ1, hle, rfl, k1, hs, ha, w1⟩
  have out : ∀ a, Pi a → F1 a = none ∧ σ1 a = none ∧ s1.heap.get? a ≠ none := fun a q => ⟨(ha a q).1, (ha a q).2.1, (ha a q).2.2.1⟩
  by_cases hlt : i < xs.length
  · have hdrop : xs.drop i = xs[i] :: xs.drop (i + 1) := List.drop_eq_getElem_cons hlt
    rw [hdrop] at w1
    obtain ⟨ρ', eρ, w2⟩ := och_elim (show och (bindTg σ1 ρ1 tg xs[i]) _ from w1)
    refine its.item F1 σ1 i s1 _ _ _ _ hlt hs k1.fo.st out fun c F2 s2 r2 hs2 S2 p2 sh2 lv2 => ?_
    have f2 : Fo X env nm F2 ρ1 σ1 s2 := k1.fo.stepP p2 S2 fun a hp' hi => (ha a hi).2.2.2.1 hp'
    have k2 : Ok X env nm (Prv env) b F2 ρ1 σ1 s2 := ⟨f2, k1.stp.drop p2 k1.fo.st fun a hi => (ha a hi).2.2.2.2, k1.shd.trans sh2⟩
    have a2 : Aside env b F2 σ1 s2 Pi := fun a hi => ⟨(lv2 a hi).1, (ha a hi).2.1, (lv2 a hi).2, (ha a hi).2.2.2⟩
    refine assign_tg (b := ⟨F2, σ1, s2⟩) eo (sto_all eo rfl) ht R.1 ⟨f2, .refl .., .refl _⟩ r2 eρ fun s3 k3 => ?_
    refine hb A ⟨F2, σ1, s2⟩ F2 ρ' σ1 s3 _ _ _ R k3 w2 fun F4 ρ4 σ4 s4 k4 => ?_
    have k5 : Ok X env nm (Prv env) b F4 ρ4 σ4 s4 := ⟨k4.fo, k2.stp.trans k4.stp k2.fo.st, k2.shd.trans k4.shd⟩
    have keep : ∀ a o, Pi a → s2.heap.get? a = some o → s4.heap.get? a = some o := fun a o hi e => k4.stp.keep a o e (a2 a hi).2.1 (a2 a hi).2.2.2.1
    have a4 : Aside env b F4 σ4 s4 Pi := fun a hi => by
      obtain ⟨q1, q2, q3, q4, q5⟩ := a2 a hi
      obtain ⟨z1, z2⟩ := k4.stp.out q3 q1 q2
      obtain ⟨o, ho⟩ := Option.isSome_iff_exists.mp (live_of q3)
      exact ⟨z1, z2, ne_of_live (by rw [keep a o hi ho]; rfl), q4, q5⟩
    have hs4 : SI F4 (i + 1) s4.heap := its.frame F2 F4 (i + 1) _ _ hs2 k4.stp.mono k4.fo.st.fro keep
    refine ⟨fun q => ?_, fun q => ?_, fun c v r q => (h _ _ _ _ k5).2.2 c v r q⟩
    · exact ⟨xs.length + 1 - (i + 1), by omega, i + 1, F4, ρ4, σ4, hlt, rfl, k5, hs4, a4, q⟩
    · exact ⟨xs.length + 1 - (i + 1), by omega, i + 1, F4, ρ4, σ4, hlt, rfl, k5, hs4, a4, q⟩
  · have hin : i = xs.length := Nat.le_antisymm hle (Nat.not_lt.mp hlt)
    subst hin
    rw [List.drop_length] at w1
    refine its.done F1 σ1 s1 _ _ _ _ hs k1.fo.st out fun h' hk => wpAny_execs_nil ?_
    have k2 := k1.butP (h' := h') ha hk s1.toks
    exact (h _ _ _ _ k2).1 w1
end
end
section
variable {X : Cx}
section
variable {n : Nat} {env : Env} {names : Nms} {nm : List Str} {t x o : Expr} {pos p apos : Pos} {wi wo : Ro → So → (V → So → Prop) → Prop}
noncomputable def IterOk (X : Cx) (n : Nat) (env : Env) (nm : List Str) (kd : It) (t iter : Expr) (wi : Ro → So → (V → So → Prop) → Prop) : Prop :=
  ∀ (A : Around) (F : Fz) (ρ : Ro) (σ : So) (s : Shared) (Q : List V → So → Prop) (P : Value → Shared → Prop) (Eb : Value → Shared → Prop), Room n A → Fo X env nm F ρ σ s → (wi ρ σ fun v σ => och (itV σ kd v) fun xs => Q xs σ) →
    (∀ I xs Pi SI F' σ' s', Its X A t I Pi xs SI → SI F' 0 s'.heap → Q xs σ' → Nxt X F σ s F' σ' s' → (∀ a, Pi a → s.heap.get? a = none ∧ F' a = none ∧ σ' a = none ∧ s'.heap.get? a ≠ none) → P (.ref I) s') →
    wpAny (model X.prog X.w) A (eval iter env) (fun x s1 => wpAny (model X.prog X.w) A (pyIter x) P Eb s1) Eb s
theorem fresh_one {F F' : Fz} {σ σ' : So} {s s' : Shared} {o : Obj} (x : Nxt X F σ s F' σ' s') (hf : o.isFreed = false := by rfl) : ∀ a, a = s'.heap.objs.size → s.heap.get? a = none ∧ F' a = none ∧ σ' a = none ∧ (s'.heap.push o).get? a ≠ none := fun a e => by
  subst e
  have hn := get_size s'.heap
  obtain ⟨f1, f2⟩ := x.st.fresh hn
  exact ⟨none_of_live x.n.p.live hn, f1, f2, by rw [Heap.get?_push_size _ hf]; exact fun q => nomatch q⟩
theorem iter_seq (ht : isTg t = true) (hx : TV X n env nm (eval x env) wi) : IterOk X n env nm .seq t x wi := by
  intro A F ρ σ s Q P Eb R k w h
  refine hx A F ρ σ s _ _ Eb R k w fun c v F1 σ1 s1 r1 w1 x1 => ?_
  obtain ⟨xs, e, q⟩ := och_elim w1
  rcases seqV_inv e with rfl | rfl
  · cases r1 with
    | @tup a cs j _ h1 h2 =>
      have ha := x1.st.fro _ _ h1
      refine wpAny_pyIter_tuple (isTuple_of ha) ?_
      have x2 := x1.trans (Nxt.of (Nx.junk x1.st { cls := .type "tuple_iterator", data := .fields #[.ref a, .int 0 0] }) s1.toks)
      exact h s1.heap.objs.size xs _ _ F1 σ1 _ (its_tuple R.1 ht (size_ne ha)) ⟨⟨_, Heap.get?_push_size _ rfl, rfl, rfl⟩, h1, h2⟩ q x2 (fresh_one x1)
  · cases r1 with
    | @lst a cs j _ h1 h2 =>
      have ha := x1.st.fro _ _ h1
      refine wpAny_pyIter_list (isList_of ha) ?_
      have x2 := x1.trans (Nxt.of (Nx.junk x1.st { cls := .type "list_iterator", data := .fields #[.ref a, .int 0 0] }) s1.toks)
      exact h s1.heap.objs.size xs _ _ F1 σ1 _ (its_list R.1 ht (size_ne ha)) ⟨⟨_, Heap.get?_push_size _ rfl, rfl, rfl⟩, h1, h2⟩ q x2 (fresh_one x1)
theorem load_bi {f T : String} {A : Around} {F : Fz} {ρ : Ro} {σ : So} {s : Shared} {P : Value → Shared → Prop} {Eb : Value → Shared → Prop} (eo : EnvOk X env names nm) (h : gloK names (Str.ofString f) = true)
    (hm : ∀ B, GB X B → ∃ mg mb, B.Ns mainGlobals mg ∧ B.Ns builtinsNs mb ∧ mg (Str.ofString f) = none ∧ mb (Str.ofString f) = some (.type T)) (k : Fo X env nm F ρ σ s) (c : P (.type T) s) : wpAny (model X.prog X.w) A (eval (.Name (Str.ofString f) p) env) P Eb s := by
  obtain ⟨B, gb, q, q'⟩ := k.gr
  obtain ⟨mg, mb, hg, hb, h1, h2⟩ := hm B gb
  refine Name_function_global eo.kind ((eo.kindOf _).trans (gloK_ok h).1) ?_ (gloK_ok h).2
  have hg' : s.heap.Ns env.globals mg := by rw [eo.globals]; exact hg.keeps q
  have hb' : s.heap.Ns env.builtins mb := by rw [eo.builtins]; exact hb.keeps q
  exact loadGlobal_builtin hg' h1 hb' h2 c
theorem iter_range {fp : Pos} (eo : EnvOk X env names nm) (hg : gloK names ("range" : Str) = true) (ht : isTg t = true) (hst : noStar x = true) (hx : TV X n env nm (eval x env) wi) : IterOk X n env nm .range t (.Call (.Name "range" fp) [x] [] pos) wi := by
  intro A F ρ σ s Q P Eb R k w h
  refine Call_ (load_bi eo hg (fun B gb => by
    obtain ⟨mg, mb, a, b, -, -, -, c, d, -⟩ := gb.names
    exact ⟨mg, mb, a, b, c, d⟩) k ?_)
  refine call_args (first := []) (kept_looks (f := .type "range") rfl) (by simp [hst]) (tl_one hst hx) R k (Q := one fun v σ => och (itV σ .range v) fun xs => Q xs σ) w fun cs vs F1 σ1 s1 rs w1 x1 => ?_
  obtain ⟨v, c, rfl, rfl, r1, w1⟩ := one_ok w1 rs
  obtain ⟨xs, e, q⟩ := och_elim w1
  obtain ⟨i, rfl, lt, rfl⟩ := rngV_inv e
  cases r1 with
  | int _ tk =>
    refine call_range_1 ?_
    have x2 := x1.trans (Nxt.of (Nx.junk x1.st { cls := .type "range", data := .fields #[.int 0 s1.toks, .int i tk, .int 1 (s1.toks + 1)] }) (s1.toks + 1 + 1))
    have lt2 : i < 1000000 := by have := lt.2; unfold lid at this; lia
    refine wpAny_pyIter_range (IsRange.new ..) (small_one (by decide) (by decide) (by lia) (by lia)) ?_
    have e1 : Builtin.Range.rangeSize 0 i 1 = (i.toNat : Int) := by rw [rangeSize_one]; split <;> lia
    rw [e1]
    have x3 := x2.trans (Nxt.of (Nx.junk x2.st { cls := .type "range_iterator", data := .fields #[rawInt 0, rawInt (i.toNat : Int), rawInt 1] }) (s1.toks + 1 + 1))
    refine h _ _ _ _ F1 σ1 _ (its_range (m := i.toNat) R.1 ht) ?_ q x3 (fresh_one x2)
    show IsRangeIter _ _ ((0 : Nat) : Int) ((i.toNat : Int) - ((0 : Nat) : Int)) 1
    rw [show ((0 : Nat) : Int) = 0 from rfl, Int.sub_zero]
    exact Heap.get?_push_size _ rfl
theorem iter_items (ht : isTup t = true) (hn : noSup o = true) (hl : sameLine apos pos = true) (ho : TV X n env nm (eval o env) wi) : IterOk X n env nm .items t (.Call (.Attribute o Nm.items.str apos) [] [] pos) wi := by
  intro A F ρ σ s Q P Eb R k w h
  refine bi_call PySem.F.plainAttrs_dict PySem.F.slot_dict_items PySem.F.type_dict_items hn rfl hl (by show 0 < 30; lia) ho tl_nil R k w (Q2 := fun v vs σ => vs = [] ∧ och (itV σ .items v) fun xs => Q xs σ) (fun c v F1 σ1 s1 r1 w1 x1 => ?_) fun c v cs vs F1 σ1 s1 r1 rs w1 x1 => ?_
  · obtain ⟨xs, e, q⟩ := och_elim w1
    obtain ⟨es, rfl, rfl⟩ := itmV_inv e
    obtain ⟨a, b⟩ := dict_type (k.to x1).g x1.st r1 rfl
    exact ⟨a, b, rfl, w1⟩
  · obtain ⟨rfl, w1⟩ := w1
    (first | (obtain rfl := iVr rs) | (obtain ⟨_, rfl⟩ := iVi rs) | (obtain rfl := iV0 rs) | (obtain rfl := iVb rs) | (obtain ⟨_, rfl⟩ := iVs rs) | (obtain ⟨_, _, _, rfl, _, _⟩ := iVt rs) | (obtain ⟨_, _, _, rfl, _, _⟩ := iVl rs) | (obtain ⟨_, _, _, rfl, _, _, _, _⟩ := iVd rs) | (obtain ⟨_, _, _, rfl, _, _, _, _⟩ := iVS rs) | (obtain ⟨_, _, _, _, rfl, _, _, _⟩ := iVo rs) | cases rs)
    obtain ⟨xs, e, q⟩ := och_elim w1
    obtain ⟨es, rfl, rfl⟩ := itmV_inv e
    cases r1 with
    | @dI a od kvs es h1 hm hd hr =>
      have ha := x1.st.fro _ _ h1
      have hD : s1.heap.DictOf (intKind X.prog X.w) a kvs := Heap.dictOf_iff.mpr ⟨_, ha, hd⟩
      obtain ⟨ep, hat⟩ := KdkAt.of hd
      refine call_meetsIn PySem.F.slot_dict_items hD.typeIs PySem.F.entry_dict_items (PySem.F.args_dict_items_1 _) (meets_dict_items (intKind X.prog X.w) a hm) ⟨⟨kvs, hD⟩, ?_⟩
      have x2 := x1.trans (Nxt.of (Nx.junk x1.st { cls := .type "dict_items", data := .fields #[.ref a] }) s1.toks)
      refine wpAny_pyIter_items ⟨_, Heap.get?_push_size _ rfl, rfl, rfl⟩ (hat.dictAt (x2.st.fro _ _ h1)) ?_
      have x3 := x2.trans (Nxt.of (Nx.junk x2.st { cls := .type "dict_itemiterator", data := .fields #[.none, .bool false, .ref a, .int 0 0, .int (kvs.length : Int) 0, .int (ep : Int) 0, .none, .none] }) s1.toks)
      exact h _ _ _ _ F1 σ1 _ (its_items R.1 ht hat) ⟨⟨_, _, Heap.get?_push_size _ rfl⟩, h1, hr⟩ q x3 (fresh_one x2)
theorem iter_enum {fp : Pos} (eo : EnvOk X env names nm) (hg : gloK names ("enumerate" : Str) = true) (ht : isTup t = true) (hst : noStar x = true) (hx : TV X n env nm (eval x env) wi) : IterOk X n env nm .enum t (.Call (.Name "enumerate" fp) [x] [] pos) wi := by
  intro A F ρ σ s Q P Eb R k w h
  refine Call_ (load_bi eo hg (fun B gb => by
    obtain ⟨mg, mb, a, b, -, -, -, -, -, c, d⟩ := gb.names
    exact ⟨mg, mb, a, b, c, d⟩) k ?_)
  refine call_args (first := []) (kept_looks (f := .type "enumerate") rfl) (by simp [hst]) (tl_one hst hx) R k (Q := one fun v σ => och (itV σ .enum v) fun xs => Q xs σ) w fun cs vs F1 σ1 s1 rs w1 x1 => ?_
  obtain ⟨v, c, rfl, rfl, r1, w1⟩ := one_ok w1 rs
  obtain ⟨xs, e, q⟩ := och_elim w1
  obtain ⟨vs, e', rfl⟩ := Option.map_eq_some_iff.mp e
  cases lstV_inv e'
  cases r1 with
  | @lst a cs j _ h1 h2 =>
    have ha := x1.st.fro _ _ h1
    refine call_enumerate_list (isList_of ha) fun h' he hit hsz hk => ?_
    refine wpAny_pyIter_enum he ?_
    have x2 : Nxt X F1 σ1 s1 F1 σ1 { s1 with heap := h' } := Nxt.of (Nx.same x1.st hk) s1.toks
    refine h _ _ _ _ F1 σ1 _ (its_enum (J := s1.heap.objs.size) R.1 ht (Nat.succ_ne_self _)) ⟨⟨_, he⟩, hit, h1, h2⟩ q (x1.trans x2) fun a e => ?_
    have hn : s1.heap.get? a = none := get_ge (by rcases e with rfl | rfl; exact Nat.le_succ _; exact Nat.le_refl _)
    obtain ⟨f1, f2⟩ := x1.st.fresh hn
    refine ⟨none_of_live x1.n.p.live hn, f1, f2, ?_⟩
    rcases e with rfl | rfl
    · show h'.get? _ ≠ none
      rw [show h'.get? (s1.heap.objs.size + 1) = some _ from he]; exact fun q => nomatch q
    · exact ne_of_live (li_live hit)
end
end
section
variable {X : Cx}
section
variable {n : Nat} {env : Env} {names : Nms} {nm : List Str} {t x y z o : Expr} {pos p apos : Pos} {wi wo wr : Ro → So → (V → So → Prop) → Prop} {wt : Ro → So → (Bool → So → Prop) → Prop} {wb wc : Ro → So → (Fl → Ro → So → Prop) → Prop} {body other : List Stmt}
theorem interact_no (eo : EnvOk X env names nm) : interactive env = false := by
  unfold interactive; rw [eo.kind]; rfl
theorem tf_expr (eo : EnvOk X env names nm) (hv : isComp x = false) (hx : TV X n env nm (eval x env) wi) : TF X n env nm (exec (.Expr x pos) env) fun ρ σ Q => wi ρ σ fun ι σ => Q .next ρ σ := by
  intro A b F ρ σ s Q P Eb R k w h
  exact wpAny_Expr_any (hx A F ρ σ s _ _ Eb R k.fo w fun c v F1 σ1 s1 r1 w1 x1 => (h _ _ _ _ (k.to x1)).1 w1) (interact_no eo) (swap_off hv)
theorem tf_ret (hx : TV X n env nm (eval x env) wi) : TF X n env nm (exec (.Return (some x) pos) env) fun ρ σ Q => wi ρ σ fun v σ => Q (.ret v) ρ σ := by
  intro A b F ρ σ s Q P Eb R k w h
  exact wpAny_Return_some (hx A F ρ σ s _ _ Eb R k.fo w fun c v F1 σ1 s1 r1 w1 x1 => (h _ _ _ _ (k.to x1)).2.2 c v r1 w1)
theorem tf_retN : TF X n env nm (exec (.Return none pos) env) fun ρ σ Q => Q (.ret .none) ρ σ := by
  intro A b F ρ σ s Q P Eb R k w h
  exact wpAny_Return_none ((h _ _ _ _ k).2.2 .none .none .none w)
theorem tf_cont : TF X n env nm (exec (.Continue pos) env) fun ρ σ Q => Q .cont ρ σ := by
  intro A b F ρ σ s Q P Eb R k w h
  rw [arm_exec_Continue]
  exact wpAny_bind (wpAny_standAt (wpAny_pure ((h _ _ _ _ k).2.1 w)))
theorem tf_if (ht : TB X n env nm (PySem.isTrue t env (eval t env)) wt) (ha : TF X n env nm (execs body env) wb) (hb : TF X n env nm (execs other env) wc) :
    TF X n env nm (exec (.If t body other pos) env) fun ρ σ Q => wt ρ σ fun c σ => (c = true → wb ρ σ Q) ∧ (c = false → wc ρ σ Q) := by
  intro A b F ρ σ s Q P Eb R k w h
  refine wpAny_If (ht A F ρ σ s _ _ Eb R k.fo w fun c F1 σ1 s1 w1 x1 => ?_)
  cases c with
  | true => exact ha A b F1 ρ σ1 s1 Q P Eb R (k.to x1) (w1.1 rfl) h
  | false => exact hb A b F1 ρ σ1 s1 Q P Eb R (k.to x1) (w1.2 rfl) h
theorem tf_nil : TF X n env nm (execs [] env) fun ρ σ Q => Q .next ρ σ := by
  intro A b F ρ σ s Q P Eb R k w h
  exact wpAny_execs_nil ((h _ _ _ _ k).1 w)
theorem tf_cons {st : Stmt} {rest : List Stmt} (hs : TF X n env nm (exec st env) wb) (hr : TF X n env nm (execs rest env) wc) :
    TF X n env nm (execs (st :: rest) env) fun ρ σ Q => wb ρ σ (Kn (fun ρ σ => wc ρ σ Q) (fun ρ σ => Q .cont ρ σ) fun v ρ σ => Q (.ret v) ρ σ) := by
  intro A b F ρ σ s Q P Eb R k w h
  refine wpAny_execs_cons (hs A b F ρ σ s _ _ Eb R k w fun F1 ρ1 σ1 s1 k1 => ⟨fun q => ?_, fun q => ?_, fun c v r q => ?_⟩)
  · exact hr A b F1 ρ1 σ1 s1 Q P Eb R k1 q h
  · exact (h _ _ _ _ k1).2.1 q
  · exact (h _ _ _ _ k1).2.2 c v r q
theorem tf_for {tg : Tg} {kd : It} (eo : EnvOk X env names nm) (ht : FitTg names nm tg t) (hset : notSet x = true) (hi : IterOk X n env nm kd t x wi) (hb : TF X n env nm (execs body env) wb) :
    TF X n env nm (exec (.For t x body [] pos) env) fun ρ σ Q => wi ρ σ fun v σ => och (itV σ kd v) fun xs => forL (forW tg wb) xs ρ σ Q := by
  intro A b F ρ σ s Q P Eb R k w h
  have hset' : ∀ v, foldedSetIterable x env v = pure v := fun v => by
    unfold foldedSetIterable
    (injection x) <;> first | rfl | (injection hset)
  refine wpAny_For (hi A F ρ σ s (fun xs σ => forL (forW tg wb) xs ρ σ Q) _ Eb R k.fo w fun I xs Pi SI F' σ' s' its h0 w1 x1 fr => ?_) hset'
  exact for_loop (Eb := Eb) eo ht hb R its (k.to x1) h0 (fun a hp => ⟨(fr a hp).2.1, (fr a hp).2.2.1, (fr a hp).2.2.2, fun q => k.fo.fr.prvLive q (fr a hp).1, none_of_live k.stp.live (fr a hp).1⟩) w1 h
theorem tf_while (ht : TB X n env nm (PySem.isTrue t env (eval t env)) wt) (hb : TF X n env nm (execs body env) wb) :
    TF X n env nm (exec (.While t body [] pos) env) fun ρ σ Q => ∃ k, whileL wt wb k ρ σ Q := by
  intro A b F ρ σ s Q P Eb R k w h
  obtain ⟨m, w⟩ := w
  refine wpAny_While (codeAny_whileLoop (fun m s => ∃ F ρ σ, Ok X env nm (Prv env) b F ρ σ s ∧ whileL wt wb m ρ σ Q) ?_ m ⟨F, ρ, σ, k, w⟩)
  rintro m s1 ⟨F1, ρ1, σ1, k1, w1⟩
  cases m with
  | zero => exact w1.elim
  | succ m =>
    refine ht A F1 ρ1 σ1 s1 _ _ _ R k1.fo w1 fun c F2 σ2 s2 w2 x2 => ?_
    have k2 := k1.to x2
    cases c with
    | false => exact wpAny_execs_nil ((h _ _ _ _ k2).1 (w2.2 rfl))
    | true =>
      refine hb A b F2 ρ1 σ2 s2 _ _ _ R k2 (w2.1 rfl) fun F3 ρ3 σ3 s3 k3 => ⟨fun q => ?_, fun q => ?_, fun c v r q => ?_⟩
      · exact ⟨m, Nat.lt_succ_self m, F3, ρ3, σ3, k3, q⟩
      · exact ⟨m, Nat.lt_succ_self m, F3, ρ3, σ3, k3, q⟩
      · exact (h _ _ _ _ k3).2.2 c v r q
theorem sw_none {r : Option (List Str)} {t : Sem (Option (List Str))} (ht : t = pure none) (h : some none = some r) : t = pure r := ht.trans (congrArg pure (Option.some.inj h))
theorem sw_chain {b0 b1 b2 c2 b4 b5 : Bool} {b3 : List Str → Bool} {ms ns : List Str} {r : Option (List Str)} {y : Sem (Option (List Str))} (h0 : b0 = false)
    (h : (if b1 = true then some none else if b2 = true then some none else if b3 ns = true then some none else if b4 = true then some none else if b5 = true then none else some (some ns)) = some r) (h2 : c2 = b2) (hn : ms = ns) :
    (if (b1 || b0) = true then pure none else if c2 = true then pure none else if b3 ms = true then pure none else if b4 = true then pure none else if b5 = true then y else pure (some ms)) = (pure r : Sem (Option (List Str))) := by
  subst h0; subst hn; subst h2
  cases b1 with
  | true => exact sw_none rfl h
  | false => cases c2 with
    | true => exact sw_none rfl h
    | false =>
      generalize b3 ms = c3 at h ⊢
      cases c3 with
      | true => exact sw_none rfl h
      | false => cases b4 with
        | true => exact sw_none rfl h
        | false => cases b5 with
          | true => exact nA h
          | false => exact congrArg pure (Option.some.inj h)
theorem swap_stores {ts : List Expr} {k : Nat} {tp : Pos} {v : Expr} {r : Option (List Str)} (eo : EnvOk X env names nm) (h : swOk names ts v = some r) : swappedStores [.Tuple ts k tp] v env = pure r := by
  have hb : (env.blockKind != .function) = false := by unfold Env.blockKind; rw [eo.kind]; rfl
  cases v with
  | Tuple vs k' p' =>
    refine sw_chain (b3 := fun ns => ns.length != ts.length || ns.eraseDups.length != ns.length) hb h (congrArg vs.any (funext fun e => ?_)) (congrArg (fun f => ts.filterMap f) (funext fun e => ?_))
    · cases e <;> rfl
    · cases e with
      | Name x p => dsimp only; rw [eo.kindOf]; rfl
      | _ => rfl
  | _ => exact sw_none rfl h
end
end
section
variable {X : Cx}
theorem setR_comm {ρ : Ro} {i j : Nat} {v u : V} (h : i ≠ j) : setR (setR ρ i v) j u = setR (setR ρ j u) i v := List.set_comm _ _ h
theorem setT_map {i : Nat} {v : V} : ∀ {is : List Nat} {vs : List V} {ρ : Ro}, i ∉ is → setT (setR ρ i v) is vs = (setT ρ is vs).map fun r => setR r i v
  | [], [], _, _ => rfl
  | [], _ :: _, _, _ => rfl
  | _ :: _, [], _, _ => rfl
  | j :: is, u :: vs, ρ, h => by
    rw [List.mem_cons, not_or] at h
    show setT (setR (setR ρ i v) j u) is vs = (setT (setR ρ j u) is vs).map fun r => setR r i v
    rw [setR_comm h.1, setT_map h.2]
set_option tactic.hygienic true in
theorem setT_snoc {i : Nat} {v : V} : ∀ {is : List Nat} {vs : List V} {ρ : Ro}, setT ρ (is ++ [i]) (vs ++ [v]) = if is.length = vs.length then (setT ρ is vs).map fun r => setR r i v else setT ρ (is ++ [i]) (vs ++ [v])
  | is, vs, ρ => by
    split
    · rename_i h
      induction is generalizing vs ρ with
      | nil =>
        cases vs with
        | nil => rfl
        | cons v vs => (injection h)
      | cons j is ih =>
        cases vs with
        | nil => (injection h)
        | cons u vs => exact ih (vs := vs) (ρ := setR ρ j u) (by simpa using h)
    · rfl
theorem setT_rev : ∀ {is : List Nat} {vs : List V} {ρ ρ' : Ro}, is.Nodup → setT ρ is vs = some ρ' → setT ρ is.reverse vs.reverse = some ρ'
  | [], [], _, _, _, h => h
  | [], _ :: _, _, _, _, h => by (injection h)
  | _ :: _, [], _, _, _, h => by (injection h)
  | i :: is, v :: vs, ρ, ρ', nd, h => by
    rw [List.nodup_cons] at nd
    have hl : is.length = vs.length := setT_length (show setT (setR ρ i v) is vs = some ρ' from h)
    rw [List.reverse_cons, List.reverse_cons, setT_snoc, if_pos (by simp [hl])]
    have h2 : setT (setR ρ i v) is vs = some ρ' := h
    rw [setT_map nd.1] at h2
    obtain ⟨r, hr, e⟩ := Option.map_eq_some_iff.mp h2
    rw [setT_rev nd.2 hr, ← e]; rfl
section
variable {n : Nat} {env : Env} {names : Nms} {nm : List Str} {t x y z o : Expr} {pos p apos : Pos} {wi wo wr wv : Ro → So → (V → So → Prop) → Prop}
theorem bind_nms {A : Around} {Eb : Value → Shared → Prop} {b : Bs} {F : Fz} {σ : So} (eo : EnvOk X env names nm) : ∀ {is : List Nat} {xs : List Str}, bindOk names nm is xs = true → ∀ {ρ ρ' : Ro} {s : Shared} {cs : List Value} {vs : List V} {P : Unit → Shared → Prop}, Ok X env nm (Prv env) b F ρ σ s → RelVs X F cs vs → setT ρ is vs = some ρ' →
    (∀ s', Ok X env nm (Prv env) b F ρ' σ s' → P () s') → wpAny (model X.prog X.w) A (assignInOrder (xs.map fun x => bindName env x) cs) P Eb s
  | [], [], _, ρ, ρ', s, cs, vs, P, k, r, e, h => by
      cases vs with
      | nil => (injection e); (first | (obtain rfl := iVr r) | (obtain ⟨_, rfl⟩ := iVi r) | (obtain rfl := iV0 r) | (obtain rfl := iVb r) | (obtain ⟨_, rfl⟩ := iVs r) | (obtain ⟨_, _, _, rfl, _, _⟩ := iVt r) | (obtain ⟨_, _, _, rfl, _, _⟩ := iVl r) | (obtain ⟨_, _, _, rfl, _, _, _, _⟩ := iVd r) | (obtain ⟨_, _, _, rfl, _, _, _, _⟩ := iVS r) | (obtain ⟨_, _, _, _, rfl, _, _, _⟩ := iVo r) | cases r); exact assignInOrder_nil (h _ k)
      | cons v vs => (injection e)
  | i :: is, x :: xs, hf, ρ, ρ', s, cs, vs, P, k, r, e, h => by
    simp only [bindOk, Bool.and_eq_true] at hf
    cases vs with
    | nil => (injection e)
    | cons v vs =>
      cases r with
      | cons r1 r2 =>
        rw [List.map_cons]
        have hs := hf.1
        simp only [stoIs, Bool.and_eq_true, beq_iff_eq] at hs
        exact assignInOrder_cons (bindName_ (store_var eo k hs.1 (sto_all eo rfl x hs.2) r1 fun h' t k' => bind_nms eo hf.2 k' r2 e h))
  | [], _ :: _, h, _, _, _, _, _, _, _, _, _, _ => by (injection h)
  | _ :: _, [], h, _, _, _, _, _, _, _, _, _, _ => by (injection h)
theorem tf_asgT {is : List Nat} {ts : List Expr} {j : Nat} {tp : Pos} (eo : EnvOk X env names nm) (hv : isComp x = false) (hf : FitNs names nm is ts) (hx : TV X n env nm (eval x env) wi)
    (hw : swOk names ts x = some none ∨ ∃ ns, swOk names ts x = some (some ns) ∧ is.Nodup ∧ is.length = ns.length ∧ bindOk names nm is.reverse ns.reverse = true) :
    TF X n env nm (exec (.Assign [.Tuple ts j tp] x pos) env) fun ρ σ Q => wi ρ σ fun v σ => och (itemsV σ v) fun vs => och (setT ρ is vs) fun ρ' => Q .next ρ' σ := by
  intro A b F ρ σ s Q P Eb R k w h
  have hsw : swapsWithSole [.Tuple ts j tp] x pos.line env = pure false := by unfold swapsWithSole; exact swap_off hv
  rcases hw with hw | ⟨ns, hw, nd, hl, hb⟩
  · refine Assign_Tuple (hx A F ρ σ s _ _ Eb R k.fo w fun c v F1 σ1 s1 r1 w1 x1 => ?_) hsw (swap_stores eo hw)
    obtain ⟨vs, e, w2⟩ := och_elim w1
    obtain ⟨ρ', e', q⟩ := och_elim w2
    obtain ⟨h1, h2, h3⟩ := store_nms (A := A) (Eb := Eb) (b := b) (F := F1) (σ := σ1) eo (sto_all eo rfl) hf
    have hl : is.length = vs.length := setT_length e'
    have k1 := k.to x1
    rw [assign_Tuple]
    refine wpAny_bind (wpAny_standAt ?_)
    unfold unpack
    rw [h1, h2, hl]
    exact wpAny_bind (wpAny_holding (unpack_ok R.1 k1.fo.st r1 e fun cs h' rr hk => h3 (k1.keeps hk s1.toks) rr e' fun s' k' => (h _ _ _ _ k').1 q))
  · refine Assign_Tuple_swapped (hx A F ρ σ s _ _ Eb R k.fo w fun c v F1 σ1 s1 r1 w1 x1 => ?_) hsw (swap_stores eo hw)
    obtain ⟨vs, e, w2⟩ := och_elim w1
    obtain ⟨ρ', e', q⟩ := och_elim w2
    have hl' : is.length = vs.length := setT_length e'
    have k1 := k.to x1
    rw [← hl, hl']
    refine unpack_ok R.1 k1.fo.st r1 e fun cs h' rr hk => ?_
    exact bind_nms (P := fun ι s' => P .next s') eo hb (k1.keeps hk s1.toks) rr.reverse (setT_rev nd e') fun s' k' => (h _ _ _ _ k').1 q
theorem tf_asgA {a : Nm} {ap : Pos} (co : CxOk X) (hv : isComp x = false) (ha : attN.contains a = true) (hx : TV X n env nm (eval x env) wi) (ho : TV X n env nm (eval o env) wo) :
    TF X n env nm (exec (.Assign [.Attribute o a.str ap] x pos) env) fun ρ σ Q => wi ρ σ fun v σ => wo ρ σ fun ov σ => StoA σ ov a v fun σ => Q .next ρ σ := by
  intro A b F ρ σ s Q P Eb R k w h
  refine plainObj_wpAny_Assign_Attribute (hx A F ρ σ s _ _ Eb R k.fo w fun c v F1 σ1 s1 r1 w1 x1 => ?_) (swap_off hv)
  refine ho A F1 ρ σ1 s1 _ _ Eb R (k.fo.to x1) w1 fun c2 v2 F2 σ2 s2 r2 w2 x2 => ?_
  obtain ⟨l, C, dx, fs, rfl, e1, e2, lt, q⟩ := w2
  (first | (obtain rfl := iVr r2) | (obtain ⟨_, rfl⟩ := iVi r2) | (obtain rfl := iV0 r2) | (obtain rfl := iVb r2) | (obtain ⟨_, rfl⟩ := iVs r2) | (obtain ⟨_, _, _, rfl, _, _⟩ := iVt r2) | (obtain ⟨_, _, _, rfl, _, _⟩ := iVl r2) | (obtain ⟨_, _, _, rfl, _, _, _, _⟩ := iVd r2) | (obtain ⟨_, _, _, rfl, _, _, _, _⟩ := iVS r2) | (obtain ⟨_, _, _, _, rfl, _, _, _⟩ := iVo r2) | cases r2)
  have k2 := (k.to x1).to x2
  exact setattr_ok co k2.fo.g k2.fo.st e1 e2 lt ha (r1.mono x2.sub) fun h' t nx => (h _ _ _ _ (k2.to (Nxt.of nx t))).1 q
theorem set_at {A : Around} {Eb : Value → Shared → Prop} {s : Shared} {l : Addr} {its : Array Value} {m j : Nat} {i : Int} {tk : Tok} {c : Value} {P : Unit → Shared → Prop} (ho : s.heap.get? l = some { cls := .type "list", data := .seq its m }) (h0 : 0 ≤ i) (hfit : i < 2 ^ 63) (ei : i = (j : Int)) (hj : j < its.size)
    (h : ∀ h', Heap.SameBut l s.heap h' → h'.get? l = some { cls := .type "list", data := .seq (its.setIfInBounds j c) m } → P () { s with heap := h' }) : wpAny (model X.prog X.w) A (setItem (.ref l) (.int i tk) c) P Eb s := by
  have hl : s.heap.IsList l its := ⟨_, ho, rfl, m, rfl⟩
  have up := PySem.IsL.update ho (·.setIfInBounds j c)
  rw [Array.size_setIfInBounds, beq_self_eq_true, if_pos rfl] at up
  have fin := h _ (Heap.SameBut.update ..) up
  unfold setItem
  refine wpAny_holding (wpAny_bind (wpAny_sequenceKey hl.typeIs (by decide) ?_))
  refine wpAny_bind (wpAny_callSpecial?_slot (name := Str.ofString "__setitem__") hl.typeIs slot_list_setitem (wpAny_call_entry slot_list_setitem hl.typeIs entry_list_setitem ?_ (args_list_setitem _ _ _)))
  show wpAny _ _ (Builtin.List.listSubscript? (.int i tk) >>= _) _ _ s
  refine wpAny_bind (wpAny_listSubscript_int (fitsIndex_of h0 hfit) ?_)
  clear hfit
  subst ei
  show wpAny _ _ ((seqItemAt l j >>= fun r => pure (r.map (j, ·))) >>= _) _ _ s
  refine wpAny_bind (wpAny_bind (wpAny_seqItemAt ho rfl (wpAny_pure ?_)))
  rw [Array.getElem?_eq_getElem hj]
  show wpAny _ _ (setSeqItemAt l j c >>= _) _ _ s
  refine wpAny_bind (wpAny_setSeqItemAt ho rfl ?_)
  first
    | exact wpAny_pure ⟨.none, rfl, wpAny_pure fin⟩
    | exact wpAny_bind (wpAny_pure (wpAny_pure ⟨.none, rfl, wpAny_pure fin⟩))
theorem set_own {A : Around} {Eb : Value → Shared → Prop} {F : Fz} {σ : So} {s : Shared} {l : Addr} {i : Int} {it : Tok} {c : Value} {v : V} {P : Unit → Shared → Prop} {Q : So → Prop} (S : St X F σ s.heap) (r : RelV X F c v)
    (w : StoD σ l i v Q ∨ StoL σ l i v Q)
    (h : ∀ σ' s', Nxt X F σ s F σ' s' → Q σ' → P () s') : wpAny (model X.prog X.w) A (setItem (.ref l) (.int i it) c) P Eb s := by
  rcases w with ⟨es, e, lt, q⟩ | ⟨vs, e, lt, h0, h1, q⟩
  · obtain ⟨kvs, hd, rr⟩ := own_dict S e
    refine wpAny_setItem_pairs (k := i) (intKind_is ..) hd (fun h' hd' hs => ?_) (fitsD rr lt)
    obtain ⟨o', ho', hdo⟩ := Heap.dictOf_iff.mp hd'
    exact h _ _ (Nxt.of (Nx.chg S e ho' (.dI hdo (relI_stored rr (dict_nd hd) r i)) (SameBut.keep hs)) _) q
  · obtain ⟨cs, j, hh, rr⟩ := own_list S e
    have hz : (cs.toArray.size : Int) = vs.length := by rw [List.size_toArray, rr.length]
    obtain ⟨m, rfl⟩ := Int.eq_ofNat_of_zero_le h0
    refine set_at hh h0 (by unfold lid at lt; lia) rfl (by lia) fun h' hs ho => ?_
    refine h _ _ (Nxt.of (Nx.chg S e (o' := seqObj "list" (cs.set m c) j) ?_ (.lst (rr.set r m)) (SameBut.keep hs)) _) q
    rw [ho]; simp
theorem tf_asgS {ip : Pos} (hv : isComp x = false) (hx : TV X n env nm (eval x env) wi) (ho : TV X n env nm (eval o env) wo) (hi : TV X n env nm (eval y env) wr) :
    TF X n env nm (exec (.Assign [.Subscript o y ip] x pos) env) fun ρ σ Q => wi ρ σ fun v σ => wo ρ σ fun ov σ => wr ρ σ fun iv σ => StoS σ ov iv v fun σ => Q .next ρ σ := by
  intro A b F ρ σ s Q P Eb R k w h
  refine wpAny_Assign_Subscript (hx A F ρ σ s _ _ Eb R k.fo w fun c v F1 σ1 s1 r1 w1 x1 => ?_) (swap_off hv)
  refine ho A F1 ρ σ1 s1 _ _ Eb R (k.fo.to x1) w1 fun c2 v2 F2 σ2 s2 r2 w2 x2 => ?_
  refine hi A F2 ρ σ2 s2 _ _ Eb R ((k.fo.to x1).to x2) w2 fun c3 v3 F3 σ3 s3 r3 w3 x3 => ?_
  obtain ⟨l, i, rfl, rfl, w3⟩ := w3
  (first | (obtain rfl := iVr r2) | (obtain ⟨_, rfl⟩ := iVi r2) | (obtain rfl := iV0 r2) | (obtain rfl := iVb r2) | (obtain ⟨_, rfl⟩ := iVs r2) | (obtain ⟨_, _, _, rfl, _, _⟩ := iVt r2) | (obtain ⟨_, _, _, rfl, _, _⟩ := iVl r2) | (obtain ⟨_, _, _, rfl, _, _, _, _⟩ := iVd r2) | (obtain ⟨_, _, _, rfl, _, _, _, _⟩ := iVS r2) | (obtain ⟨_, _, _, _, rfl, _, _, _⟩ := iVo r2) | cases r2); (first | (obtain rfl := iVr r3) | (obtain ⟨_, rfl⟩ := iVi r3) | (obtain rfl := iV0 r3) | (obtain rfl := iVb r3) | (obtain ⟨_, rfl⟩ := iVs r3) | (obtain ⟨_, _, _, rfl, _, _⟩ := iVt r3) | (obtain ⟨_, _, _, rfl, _, _⟩ := iVl r3) | (obtain ⟨_, _, _, rfl, _, _, _, _⟩ := iVd r3) | (obtain ⟨_, _, _, rfl, _, _, _, _⟩ := iVS r3) | (obtain ⟨_, _, _, _, rfl, _, _, _⟩ := iVo r3) | cases r3)
  have k3 := ((k.to x1).to x2).to x3
  exact set_own (P := fun ι s' => P .next s') (Q := fun σ => Q .next ρ σ) k3.fo.st (r1.mono (x2.trans x3).sub) w3 fun σ' s' x4 q => (h _ _ _ _ (k3.to x4)).1 q
theorem tf_augA {a : Nm} {ap : Pos} (co : CxOk X) (ha : attN.contains a = true) (ho : TV X n env nm (eval o env) wo) (hx : TV X n env nm (eval x env) wi) :
    TF X n env nm (exec (.AugAssign (.Attribute o a.str ap) .Add x pos) env) fun ρ σ Q => wo ρ σ fun ov σ => och (fieldsV σ ov) fun p => och (look p.2 a) fun u => wi ρ σ fun v σ => och (binV .add u v) fun r =>
      StoA σ ov a r fun σ => Q .next ρ σ := by
  intro A b F ρ σ s Q P Eb R k w h
  refine wpAny_AugAssign_AttributeAny (ho A F ρ σ s _ _ Eb R k.fo w fun c v F1 σ1 s1 r1 w1 x1 => ?_)
  obtain ⟨fp, e1, w1⟩ := och_elim w1
  obtain ⟨u, e2, w1⟩ := och_elim w1
  have k1 := k.to x1
  refine attr_ok co k1.fo.g k1.fo.st (C := fp.1) (fs := fp.2) r1 e1 ha e2 fun cu tk ru => ?_
  refine hx A F1 ρ σ1 _ _ _ Eb R (k1.fo.to ((Nxt.refl k1.fo.st).toks tk)) w1 fun c2 v2 F2 σ2 s2 r2 w2 x2 => ?_
  obtain ⟨r, e3, l, C, dx, fs, rfl, e4, e5, lt, q⟩ := och_elim w2
  (first | (obtain rfl := iVr r1) | (obtain ⟨_, rfl⟩ := iVi r1) | (obtain rfl := iV0 r1) | (obtain rfl := iVb r1) | (obtain ⟨_, rfl⟩ := iVs r1) | (obtain ⟨_, _, _, rfl, _, _⟩ := iVt r1) | (obtain ⟨_, _, _, rfl, _, _⟩ := iVl r1) | (obtain ⟨_, _, _, rfl, _, _, _, _⟩ := iVd r1) | (obtain ⟨_, _, _, rfl, _, _, _, _⟩ := iVS r1) | (obtain ⟨_, _, _, _, rfl, _, _, _⟩ := iVo r1) | cases r1)
  have k2 := (k1.to ((Nxt.refl k1.fo.st).toks tk)).to x2
  refine add_ok e3 (ru.mono x2.sub) r2 fun c3 t3 r3 => ?_
  have k3 := k2.to ((Nxt.refl k2.fo.st).toks t3)
  exact setattr_ok co k3.fo.g k3.fo.st e4 e5 lt ha r3 fun h' t nx => (h _ _ _ _ (k3.to (Nxt.of nx t))).1 q
theorem get_ok {A : Around} {Eb : Value → Shared → Prop} {s : Shared} {F : Fz} {σ : So} (G : Grd X F) (S : St X F σ s.heap) {cc ci : Value} {c i v : V} {P : Value → Shared → Prop} (rc : RelV X F cc c) (ri : RelV X F ci i) (h : idxV σ c i = some v) (hP : ∀ c t, RelV X F c v → P c { s with toks := t }) :
    wpAny (model X.prog X.w) A (getItem cc ci) P Eb s := by
  obtain ⟨_, _, _, _, h⟩ := idx_ok (A := A) (Eb := Eb) G S rc ri h hP
  exact h
theorem aug_store (hs : notSl y = true) (ov iv new : Value) : augStore y ov iv new = (do holding [new, ov, iv] (setItem ov iv new); release [new, ov, iv] []; pure .next) := by
  (injection y) <;> first | rfl | (injection hs)
theorem tf_augS {ip : Pos} (hs : notSl y = true) (ho : TV X n env nm (eval o env) wo) (hi : TV X n env nm (eval y env) wr) (hx : TV X n env nm (eval x env) wi) :
    TF X n env nm (exec (.AugAssign (.Subscript o y ip) .Add x pos) env) fun ρ σ Q => wo ρ σ fun ov σ => wr ρ σ fun iv σ => och (idxV σ ov iv) fun u => wi ρ σ fun v σ => och (binV .add u v) fun r =>
      AugS σ ov iv r fun σ => Q .next ρ σ := by
  intro A b F ρ σ s Q P Eb R k w h
  refine wpAny_AugAssign_SubscriptAny (ho A F ρ σ s _ _ Eb R k.fo w fun c v F1 σ1 s1 r1 w1 x1 => ?_) (aug_store hs)
  have k1 := k.to x1
  refine hi A F1 ρ σ1 s1 _ _ Eb R k1.fo w1 fun c2 v2 F2 σ2 s2 r2 w2 x2 => ?_
  have k2 := k1.to x2
  obtain ⟨u, e1, w2⟩ := och_elim w2
  refine get_ok k2.fo.g k2.fo.st (r1.mono x2.sub) r2 e1 fun cu tk ru => ?_
  refine hx A F2 ρ σ2 _ _ _ Eb R (k2.fo.to ((Nxt.refl k2.fo.st).toks tk)) w2 fun c3 v3 F3 σ3 s3 r3 w3 x3 => ?_
  obtain ⟨r, e3, l, i, vs, rfl, rfl, e4, lt, h0, h1, q⟩ := och_elim w3
  (first | (obtain rfl := iVr r1) | (obtain ⟨_, rfl⟩ := iVi r1) | (obtain rfl := iV0 r1) | (obtain rfl := iVb r1) | (obtain ⟨_, rfl⟩ := iVs r1) | (obtain ⟨_, _, _, rfl, _, _⟩ := iVt r1) | (obtain ⟨_, _, _, rfl, _, _⟩ := iVl r1) | (obtain ⟨_, _, _, rfl, _, _, _, _⟩ := iVd r1) | (obtain ⟨_, _, _, rfl, _, _, _, _⟩ := iVS r1) | (obtain ⟨_, _, _, _, rfl, _, _, _⟩ := iVo r1) | cases r1); (first | (obtain rfl := iVr r2) | (obtain ⟨_, rfl⟩ := iVi r2) | (obtain rfl := iV0 r2) | (obtain rfl := iVb r2) | (obtain ⟨_, rfl⟩ := iVs r2) | (obtain ⟨_, _, _, rfl, _, _⟩ := iVt r2) | (obtain ⟨_, _, _, rfl, _, _⟩ := iVl r2) | (obtain ⟨_, _, _, rfl, _, _, _, _⟩ := iVd r2) | (obtain ⟨_, _, _, rfl, _, _, _, _⟩ := iVS r2) | (obtain ⟨_, _, _, _, rfl, _, _, _⟩ := iVo r2) | cases r2)
  have k3 := (k2.to ((Nxt.refl k2.fo.st).toks tk)).to x3
  refine add_ok e3 (ru.mono x3.sub) r3 fun c4 t4 r4 => ?_
  have k4 := k3.to ((Nxt.refl k3.fo.st).toks t4)
  exact set_own (P := fun ι s' => P .next s') (Q := fun σ => Q .next ρ σ) k4.fo.st r4 (.inr ⟨vs, e4, lt, h0, h1, q⟩) fun σ' s' x4 q => (h _ _ _ _ (k4.to x4)).1 q
end
end
section
section
variable {X : Cx} {n : Nat}
theorem frz_all {F : Fz} {σ σ' : So} {h : Heap} {v u : V} (S : St X F σ h) (G : Grd X F) (z : Frzs σ v u σ') : ∃ F', Nx X F σ h F' σ' h ∧ ∀ c, RelV X F c v → RelV X F' c u := by
  cases z with
  | id => exact ⟨F, .refl S, fun c r => r⟩
  | @lst a vs e =>
    obtain ⟨F', a1, a2⟩ := frz_ok S G (.lst e) (.ref a)
    exact ⟨F', a1, fun c r => by (first | (obtain rfl := iVr r) | (obtain ⟨_, rfl⟩ := iVi r) | (obtain rfl := iV0 r) | (obtain rfl := iVb r) | (obtain ⟨_, rfl⟩ := iVs r) | (obtain ⟨_, _, _, rfl, _, _⟩ := iVt r) | (obtain ⟨_, _, _, rfl, _, _⟩ := iVl r) | (obtain ⟨_, _, _, rfl, _, _, _, _⟩ := iVd r) | (obtain ⟨_, _, _, rfl, _, _, _, _⟩ := iVS r) | (obtain ⟨_, _, _, _, rfl, _, _, _⟩ := iVo r) | cases r); exact a2⟩
  | @dI a vs e =>
    obtain ⟨F', a1, a2⟩ := frz_ok S G (.dI e) (.ref a)
    exact ⟨F', a1, fun c r => by (first | (obtain rfl := iVr r) | (obtain ⟨_, rfl⟩ := iVi r) | (obtain rfl := iV0 r) | (obtain rfl := iVb r) | (obtain ⟨_, rfl⟩ := iVs r) | (obtain ⟨_, _, _, rfl, _, _⟩ := iVt r) | (obtain ⟨_, _, _, rfl, _, _⟩ := iVl r) | (obtain ⟨_, _, _, rfl, _, _, _, _⟩ := iVd r) | (obtain ⟨_, _, _, rfl, _, _, _, _⟩ := iVS r) | (obtain ⟨_, _, _, _, rfl, _, _, _⟩ := iVo r) | cases r); exact a2⟩
  | @obj a dx C fs e e' =>
    obtain ⟨F', a1, a2⟩ := frz_ok S G (.obj e e') (.ref a)
    exact ⟨F', a1, fun c r => by (first | (obtain rfl := iVr r) | (obtain ⟨_, rfl⟩ := iVi r) | (obtain rfl := iV0 r) | (obtain rfl := iVb r) | (obtain ⟨_, rfl⟩ := iVs r) | (obtain ⟨_, _, _, rfl, _, _⟩ := iVt r) | (obtain ⟨_, _, _, rfl, _, _⟩ := iVl r) | (obtain ⟨_, _, _, rfl, _, _, _, _⟩ := iVd r) | (obtain ⟨_, _, _, rfl, _, _, _, _⟩ := iVS r) | (obtain ⟨_, _, _, _, rfl, _, _, _⟩ := iVo r) | cases r); exact a2⟩
theorem tv_fz {env : Env} {nm : List Str} {t : Sem Value} {w : Ro → So → (V → So → Prop) → Prop} (hx : TV X n env nm t w) : TV X n env nm t fun ρ σ Q => w ρ σ fun v σ => FzQ σ v Q := by
  intro A F ρ σ s Q P Eb R k w h
  refine hx A F ρ σ s _ _ _ R k w fun c v F1 σ1 s1 r1 w1 x1 => ?_
  obtain ⟨u, σ', z, q⟩ := w1
  have k1 := k.to x1
  obtain ⟨F', nx, f⟩ := frz_all x1.st k1.g z
  exact h _ _ _ _ _ (f _ r1) q (x1.trans (Nxt.of nx s1.toks))
end
noncomputable def Ops (and : Bool) (op : BoolOp) : Prop := (op = .And ∧ and = true) ∨ (op = .Or ∧ and = false)
structure SE (names : Nms) (nm : List Str) (ir : E) (e : Expr) : Prop where
  ns : noStar e = true
  v : ∀ {X : Cx}, CxOk X → ∀ {n : Nat} {env : Env}, EnvOk X env names nm → TV X n env nm (eval e env) (W X n ir)
  t : ∀ {X : Cx}, CxOk X → ∀ {n : Nat} {env : Env}, EnvOk X env names nm → TB X n env nm (PySem.isTrue e env (eval e env)) (Wt X n ir)
noncomputable def Es.len : Es → Nat
  | .nil => 0
  | .cons _ es => es.len + 1
structure SEs (names : Nms) (nm : List Str) (es : Es) (xs : List Expr) : Prop where
  len : es.len = xs.length
  ns : xs.all noStar = true
  l : ∀ {X : Cx}, CxOk X → ∀ {n : Nat} {env : Env} {pos : Pos}, EnvOk X env names nm → TL X n env nm (spliced (backTo pos (starEach xs env))) (Ws X n es)
  b : ∀ {X : Cx}, CxOk X → ∀ {n : Nat} {env : Env} {and : Bool} {op : BoolOp} {pos : Pos}, Ops and op → EnvOk X env names nm → TV X n env nm (eval (.BoolOp op xs pos) env) (Wb X n and es)
  bt : ∀ {X : Cx}, CxOk X → ∀ {n : Nat} {env : Env} {and : Bool} {op : BoolOp}, Ops and op → EnvOk X env names nm → TB X n env nm (allTrue op xs env) (Wbt X n and es)
  p : ∀ {X : Cx}, CxOk X → ∀ {n : Nat} {env : Env} {is : List Int} {ks : List (Option Expr)} {pos : Pos}, EnvOk X env names nm → constIs is ks = true → xs.length = is.length → TP X n env nm is (evalPairs (pairTrees ks xs env pos)) (Ws X n es)
section
variable {names : Nms} {nm : List Str} {x y z l r : Expr} {a b c : E} {es : Es} {xs : List Expr} {p q ap : Pos} {k : Nat}
theorem SE.mk0 {ir : E} {e : Expr} (ns : noStar e = true) (no : ∀ X n, Wt X n ir = fun ι ι ι => False) (v : ∀ {X : Cx}, CxOk X → ∀ {n : Nat} {env : Env}, EnvOk X env names nm → TV X n env nm (eval e env) (W X n ir)) : SE names nm ir e :=
  ⟨ns, v, fun ι ι ι ι => by rw [no]; exact fun ι ι ι ι ι ι ι ι ι ι w ι => w.elim⟩
theorem SE.mkV {ir : E} {e : Expr} (ns : noStar e = true) (v : ∀ {X : Cx}, CxOk X → ∀ {n : Nat} {env : Env}, EnvOk X env names nm → TV X n env nm (eval e env) (W X n ir))
    (w : ∀ X n, Wt X n ir = fun ρ σ Q => W X n ir ρ σ fun v σ => och (truthV σ v) fun b => Q b σ) (he : ∀ (env : Env) (whole : Sem Value), PySem.isTrue e env whole = (do let v ← whole; standAt e.pos; holding [v] (truthy v))) : SE names nm ir e :=
  ⟨ns, v, fun co ι ι eo => by rw [w]; exact tb_value (v co eo) (he _ _)⟩
theorem se_none : SE names nm .none (.Constant .none k p) := .mk0 rfl (fun ι ι => rfl) fun ι ι ι ι => tv_none
theorem se_bool {t : Bool} : SE names nm (.bool t) (.Constant (.bool t) k p) := .mk0 rfl (fun ι ι => rfl) fun ι ι ι ι => tv_bool
theorem se_int {i : Int} : SE names nm (.int i) (.Constant (.int i) k p) := .mk0 rfl (fun ι ι => rfl) fun ι ι ι ι => tv_int
theorem se_str {m : Nm} {s : Str} (h : (m.str == s) = true) : SE names nm (.str m) (.Constant (.str s) k p) := by
  obtain rfl := beq_iff_eq.mp h
  exact .mk0 rfl (fun ι ι => rfl) fun ι ι ι ι => tv_str
theorem se_var {i : Nat} {s : Str} (h : varIs names nm i s = true) : SE names nm (.var i) (.Name s p) := .mkV rfl (fun ι ι ι eo => tv_var eo h) (fun ι ι => by
  funext ρ σ Q
  show (och _ fun v => och _ _) = och _ fun v => _
  rfl) fun ι ι => rfl
theorem se_glob {g : Gn} {s : Str} (h : (g.str == s && gloK names s) = true) : SE names nm (.glob g) (.Name s p) := by
  rw [Bool.and_eq_true, beq_iff_eq] at h
  obtain ⟨rfl, h⟩ := h
  exact .mk0 rfl (fun ι ι => rfl) fun ι ι ι eo => tv_glob eo h
theorem se_tup (h : SEs names nm es xs) : SE names nm (.tup es) (.Tuple xs k p) := .mk0 rfl (fun ι ι => rfl) fun co ι ι eo => tv_tup (h.l co eo)
theorem se_lst {m : Bool} (h : SEs names nm es xs) : SE names nm (.lst m es) (.List xs p) := .mk0 rfl (fun ι ι => rfl) fun co ι ι eo => tv_lst (h.l co eo)
theorem se_dict0 : SE names nm (.dict [] .nil) (.Dict [] [] p) := .mk0 rfl (fun ι ι => rfl) fun ι ι ι ι => tv_dict0
theorem se_dict {is : List Int} {ks : List (Option Expr)} (h1 : (constIs is ks && decide (xs.length = is.length) && decide (is ≠ []) && decide is.Nodup && decide (is.length < 8)) = true) (h : SEs names nm es xs) : SE names nm (.dict is es) (.Dict ks xs p) := by
  simp only [Bool.and_eq_true, decide_eq_true_eq] at h1
  obtain ⟨⟨⟨⟨h1, h2⟩, h3⟩, h4⟩, h5⟩ := h1
  exact .mk0 rfl (fun ι ι => rfl) fun co ι ι eo => tv_dict h1 h2 h3 h4 h5 (h.p co eo h1 h2)
theorem se_set1 {i : Int} (h : constI i x = true) : SE names nm (.set1 i) (.Set [x] 0 p) := .mk0 rfl (fun ι ι => rfl) fun ι ι ι eo => tv_set1 eo h
theorem se_bin {o : Bop} {op : Operator} (h : op = opB o) (h1 : SE names nm a x) (h2 : SE names nm b y) : SE names nm (.bin o a b) (.BinOp x op y p) := .mk0 rfl (fun ι ι => rfl) fun co ι ι eo => tv_bin h (h1.v co eo) (h2.v co eo)
theorem se_cat (h1 : SE names nm a x) (h2 : SE names nm b y) : SE names nm (.cat a b) (.BinOp x .Add y p) := .mk0 rfl (fun ι ι => rfl) fun co ι ι eo => tv_cat (h1.v co eo) (h2.v co eo)
theorem se_neg (h1 : SE names nm a x) : SE names nm (.neg a) (.UnaryOp .USub x p) := .mk0 rfl (fun ι ι => rfl) fun co ι ι eo => tv_neg (h1.v co eo)
theorem se_not (h1 : SE names nm a x) : SE names nm (.not a) (.UnaryOp .Not x p) := ⟨rfl, fun ι ι ι ι => fun ι ι ι ι ι ι ι ι ι ι w ι => w.elim, fun co ι ι eo => tb_not (h1.t co eo)⟩
theorem se_cmp {o : Cop} {op : CmpOp} (h0 : op = opC o) (h : behindInMarks op y = false) (h1 : SE names nm a x) (h2 : SE names nm b y) : SE names nm (.cmp o a b) (.Compare x [op] [y] p) := by
  exact ⟨rfl, fun co ι ι eo => tv_cmp h0 h (h1.v co eo) (h2.v co eo), fun co ι ι eo => tb_cmp h0 h (h1.v co eo) (h2.v co eo)⟩
theorem se_neNil (h1 : SE names nm a x) : SE names nm (.neNil a) (.Compare x [.NotEq] [.List [] q] p) := ⟨rfl, fun ι ι ι ι => fun ι ι ι ι ι ι ι ι ι ι w ι => w.elim, fun co ι ι eo => tb_neNil (h1.v co eo)⟩
theorem se_and (h : SEs names nm es xs) : SE names nm (.bop true es) (.BoolOp .And xs p) := ⟨rfl, fun co ι ι eo => h.b co (.inl ⟨rfl, rfl⟩) eo, fun co ι ι eo => tb_bop (h.bt co (.inl ⟨rfl, rfl⟩) eo)⟩
theorem se_or (h : SEs names nm es xs) : SE names nm (.bop false es) (.BoolOp .Or xs p) := ⟨rfl, fun co ι ι eo => h.b co (.inr ⟨rfl, rfl⟩) eo, fun co ι ι eo => tb_bop (h.bt co (.inr ⟨rfl, rfl⟩) eo)⟩
theorem se_ite (h1 : SE names nm a x) (h2 : SE names nm b y) (h3 : SE names nm c z) : SE names nm (.ite a b c) (.IfExp x y z p) := .mk0 rfl (fun ι ι => rfl) fun co ι ι eo => tv_ite (h1.t co eo) (h2.v co eo) (h3.v co eo)
theorem se_attr {m : Nm} {s : Str} (h : (m.str == s && attN.contains m && noSup x) = true) (h1 : SE names nm a x) : SE names nm (.attr a m) (.Attribute x s p) := by
  rw [Bool.and_eq_true, Bool.and_eq_true, beq_iff_eq] at h
  obtain ⟨⟨rfl, h2⟩, h3⟩ := h
  exact .mk0 rfl (fun ι ι => rfl) fun co ι ι eo => tv_attr co h2 h3 (h1.v co eo)
theorem se_sub (h : notSl y = true) (h1 : SE names nm a x) (h2 : SE names nm b y) : SE names nm (.sub a b) (.Subscript x y p) := .mkV rfl (fun co ι ι eo => tv_sub h (h1.v co eo) (h2.v co eo)) (fun ι ι => rfl) fun ι ι => rfl
theorem se_take (h : constI (k : Int) y = true) (h1 : SE names nm a x) : SE names nm (.take a k) (.Subscript x (.Slice none (some y) none q) p) := .mk0 rfl (fun ι ι => rfl) fun co ι ι eo => tv_take h (h1.v co eo)
theorem se_rev (h : constI 1 y = true) (h1 : SE names nm a x) : SE names nm (.rev a) (.Subscript x (.Slice none none (some (.UnaryOp .USub y ap)) q) p) := .mk0 rfl (fun ι ι => rfl) fun co ι ι eo => tv_rev h (h1.v co eo)
theorem se_call {f : Fn} {s : Str} (h : (f.str == s && callFn f && gloK names s) = true) (h1 : SEs names nm es xs) : SE names nm (.call f es) (.Call (.Name s q) xs [] p) := by
  rw [Bool.and_eq_true, Bool.and_eq_true, beq_iff_eq] at h
  obtain ⟨⟨rfl, h2⟩, h3⟩ := h
  exact .mkV rfl (fun co ι ι eo => tv_call co eo h3 h2 h1.ns (h1.l co eo)) (fun ι ι => rfl) fun ι ι => rfl
theorem se_meth {f : Fn} {s : Str} (h : (isMeth f s && noSup x && sameLine ap p && decide (xs.length < 30)) = true) (h1 : SE names nm a x) (h2 : SEs names nm es xs) : SE names nm (.meth f a es) (.Call (.Attribute x s ap) xs [] p) := by
  simp only [Bool.and_eq_true, decide_eq_true_eq] at h
  obtain ⟨⟨⟨k1, k2⟩, k3⟩, k4⟩ := h
  exact .mkV rfl (fun co ι ι eo => tv_meth co k1 k2 h2.ns k3 k4 (h1.v co eo) (h2.l co eo)) (fun ι ι => rfl) fun ι ι => rfl
noncomputable def mOk (m : Nm) (s : Str) (x : Expr) (ap p : Pos) : Bool := s == m.str && noSup x && sameLine ap p
theorem mOk_iff {m : Nm} {s : Str} (h : mOk m s x ap p = true) : s = m.str ∧ noSup x = true ∧ sameLine ap p = true := by
  simp only [mOk, Bool.and_eq_true, beq_iff_eq] at h
  exact ⟨h.1.1, h.1.2, h.2⟩
theorem se_append {s : Str} (h : mOk .append s x ap p = true) (h1 : SE names nm a x) (h2 : SE names nm b y) : SE names nm (.append a b) (.Call (.Attribute x s ap) [y] [] p) := by
  obtain ⟨rfl, k1, k2⟩ := mOk_iff h
  exact .mk0 rfl (fun ι ι => rfl) fun co ι ι eo => tv_append k1 k2 h2.ns (h1.v co eo) (h2.v co eo)
theorem se_pop {s : Str} (h : mOk .pop s x ap p = true) (h1 : SE names nm a x) : SE names nm (.pop a) (.Call (.Attribute x s ap) [] [] p) := by
  obtain ⟨rfl, k1, k2⟩ := mOk_iff h
  exact .mk0 rfl (fun ι ι => rfl) fun co ι ι eo => tv_pop k1 k2 (h1.v co eo)
theorem se_dpop {s : Str} (h : mOk .pop s x ap p = true) (h1 : SE names nm a x) (h2 : SE names nm b y) : SE names nm (.dpop a b) (.Call (.Attribute x s ap) [y] [] p) := by
  obtain ⟨rfl, k1, k2⟩ := mOk_iff h
  exact .mk0 rfl (fun ι ι => rfl) fun co ι ι eo => tv_dpop k1 k2 h2.ns (h1.v co eo) (h2.v co eo)
theorem se_dget {s : Str} (h : mOk .get s x ap p = true) (h1 : SE names nm a x) (h2 : SE names nm b y) (h3 : SE names nm c z) : SE names nm (.dget a b c) (.Call (.Attribute x s ap) [y, z] [] p) := by
  obtain ⟨rfl, k1, k2⟩ := mOk_iff h
  exact .mk0 rfl (fun ι ι => rfl) fun co ι ι eo => tv_dget k1 k2 h2.ns h3.ns (h1.v co eo) (h2.v co eo) (h3.v co eo)
theorem se_count {s : Str} (h : mOk .count s x ap p = true) (h1 : SE names nm a x) (h2 : SE names nm b y) : SE names nm (.count a b) (.Call (.Attribute x s ap) [y] [] p) := by
  obtain ⟨rfl, k1, k2⟩ := mOk_iff h
  exact .mk0 rfl (fun ι ι => rfl) fun co ι ι eo => tv_count k1 k2 h2.ns (h1.v co eo) (h2.v co eo)
theorem se_index {s : Str} (h : mOk .index s x ap p = true) (h1 : SE names nm a x) (h2 : SE names nm b y) : SE names nm (.index a b) (.Call (.Attribute x s ap) [y] [] p) := by
  obtain ⟨rfl, k1, k2⟩ := mOk_iff h
  exact .mk0 rfl (fun ι ι => rfl) fun co ι ι eo => tv_index k1 k2 h2.ns (h1.v co eo) (h2.v co eo)
theorem se_sadd {s : Str} (h : mOk .add s x ap p = true) (h1 : SE names nm a x) (h2 : SE names nm b y) : SE names nm (.sadd a b) (.Call (.Attribute x s ap) [y] [] p) := by
  obtain ⟨rfl, k1, k2⟩ := mOk_iff h
  exact .mk0 rfl (fun ι ι => rfl) fun co ι ι eo => tv_sadd k1 k2 h2.ns (h1.v co eo) (h2.v co eo)
theorem se_fz (h : SE names nm a x) : SE names nm (.fz a) x := .mk0 h.ns (fun ι ι => rfl) fun co ι ι eo => tv_fz (h.v co eo)
noncomputable def cOk (names : Nms) (nm : List Str) (sc : Scope) (inm : List Str) (caps : List (Option Nat)) (i : Expr) : Bool := sc.kind == .function && freeOk names sc.names && capsOk names nm sc.names inm caps && decide inm.Nodup && notSet i
theorem cOk_iff {sc : Scope} {inm : List Str} {caps : List (Option Nat)} {i : Expr} (h : cOk names nm sc inm caps i = true) : sc.kind = .function ∧ freeOk names sc.names = true ∧ capsOk names nm sc.names inm caps = true ∧ inm.Nodup ∧ notSet i = true := by
  simp only [cOk, Bool.and_eq_true, beq_iff_eq, decide_eq_true_eq] at h
  obtain ⟨⟨⟨⟨h1, h2⟩, h3⟩, h4⟩, h5⟩ := h
  exact ⟨h1, h2, h3, h4, h5⟩
theorem se_comp0 {m : Bool} {sc : Scope} {inm : List Str} {caps : List (Option Nat)} {tg : Tg} {t i : Expr} {elt it : E} (h : cOk names nm sc inm caps i = true) (k5 : FitTg sc.names inm tg t) (h1 : SE (relab names sc.names) inm elt x) (h2 : SE names nm it i) :
    SE names nm (.comp m elt tg it none inm caps) (.ListComp x [⟨t, i, [], 0⟩] sc p) := by
  obtain ⟨k1, k2, k3, k4, k6⟩ := cOk_iff h
  exact .mk0 rfl (fun ι ι => rfl) fun co ι ι eo => tv_comp (wc := none) eo k1 k2 k3 k4 k5 k6 (fun C => trivial) (fun C => h1.v co (cenv_ok eo k1 k2 k4)) (h2.v co eo)
theorem se_comp1 {m : Bool} {sc : Scope} {inm : List Str} {caps : List (Option Nat)} {tg : Tg} {t i : Expr} {elt it : E} (h : cOk names nm sc inm caps i = true) (k5 : FitTg sc.names inm tg t) (h1 : SE (relab names sc.names) inm elt x) (h2 : SE names nm it i) (h3 : SE (relab names sc.names) inm c y) :
    SE names nm (.comp m elt tg it (some c) inm caps) (.ListComp x [⟨t, i, [y], 0⟩] sc p) := by
  obtain ⟨k1, k2, k3, k4, k6⟩ := cOk_iff h
  exact .mk0 rfl (fun ι ι => rfl) fun co n ι eo => tv_comp (wc := some (Wt _ n c)) eo k1 k2 k3 k4 k5 k6 (fun C => h3.t co (cenv_ok eo k1 k2 k4)) (fun C => h1.v co (cenv_ok eo k1 k2 k4)) (h2.v co eo)
theorem ses_nil : SEs names nm .nil [] := ⟨rfl, rfl, fun ι ι ι ι ι => tl_nil, fun ι ι ι ι ι ι ι ι => fun ι ι ι ι ι ι ι ι ι ι w ι => w.elim, fun ι ι ι ι ι ho ι => tb_all_nil ho, fun {ι} ι {ι ι is ks ι} ι h1 h2 => by
  cases is with
  | nil => cases ks with
    | nil => exact tp_nil
    | cons _ _ => (injection h1)
  | cons _ _ => (injection h2)⟩
theorem ses_cons (h1 : SE names nm a x) (h2 : SEs names nm es xs) : SEs names nm (.cons a es) (x :: xs) := by
  refine ⟨congrArg (· + 1) h2.len, by rw [List.all_cons, h1.ns, h2.ns]; rfl, fun co ι ι ι eo => tl_cons h1.ns (h1.v co eo) (h2.l co eo), fun {X} co {n env and op pos} ho eo => ?_, fun co ι ι ι ι ho eo => tb_all_cons ho (h1.t co eo) (h2.bt co ho eo), fun {X} co {n env is ks pos} eo k1 k2 => ?_⟩
  · cases es with
    | nil =>
      cases xs with
      | nil => exact tv_bop_one (h1.v co eo)
      | cons y ys => (have := h2.len; simp [Es.len] at this)
    | cons b es =>
      cases xs with
      | nil => (have := h2.len; simp [Es.len] at this)
      | cons y ys => exact tv_bop_more ho (h1.v co eo) (h2.b co ho eo)
  · cases is with
    | nil => (injection k2)
    | cons i is => cases ks with
      | nil => (injection k1)
      | cons o ks => cases o with
        | none => (injection k1)
        | some y =>
          simp only [constIs, Bool.and_eq_true] at k1
          exact tp_cons k1.1 (h1.v co eo) (h2.p co eo k1.2 (by simpa using k2))
end
end
section
variable {X : Cx} {n : Nat}
theorem ns_det {h : Heap} {a : Addr} {m m' : Str → Option Value} (x : h.Ns a m) (y : h.Ns a m') (k : Str) : m k = m' k := by
  obtain ⟨o, es, ep, ho, hd, -, hm⟩ := x
  obtain ⟨o', es', ep', ho', hd', -, hm'⟩ := y
  rw [ho] at ho'; (injection ho')
  rw [hd] at hd'; (injection hd')
  rw [← hm, ← hm']
theorem Frm.refine {F F' : Fz} {σ σ' : So} {env : Env} {nm : List Str} {h : Heap} {ρ : Ro} {i : Nat} {v u : V} (R : Frm X F σ env nm h ρ) (R' : Frm X F' σ' env nm h ρ) (hi : (ρ[i]?).join = some v) (f : ∀ c, RelV X F c v → RelV X F' c u) : Frm X F' σ' env nm h (setR ρ i u) := by
  have hi' : ρ[i]? = some (some v) := by
    cases q : ρ[i]? with
    | none => rw [q] at hi; (injection hi)
    | some o => rw [q] at hi; simpa using hi
  obtain ⟨m, hn, hl⟩ := R.loc
  obtain ⟨m', hn', hl'⟩ := R'.loc
  refine ⟨⟨m', hn', fun j x w h1 h2 h3 => ?_⟩, fun j x w h1 h2 h3 => ?_, R'.cells, R'.dist, R'.prv⟩
  · rcases set_get h2 with ⟨rfl, rfl⟩ | ⟨ne, h2⟩
    · obtain ⟨c, hc, r⟩ := hl j x v h1 hi' h3
      obtain ⟨c', hc', r'⟩ := hl' j x v h1 hi' h3
      have : m x = m' x := ns_det hn hn' x
      rw [hc, hc'] at this; (injection this)
      exact ⟨c, hc', f c r⟩
    · exact hl' j x w h1 h2 h3
  · rcases set_get h2 with ⟨rfl, rfl⟩ | ⟨ne, h2⟩
    · obtain ⟨a, c, ha, hc, r⟩ := R.cel j x v h1 hi' h3
      exact ⟨a, c, ha, hc, f c r⟩
    · exact R'.cel j x w h1 h2 h3
theorem relD_refine {F F' : Fz} {es : List DictEntry} {fs : List (Nm × V)} (r : RelD X F es fs) {a : Nm} {u u' : V} (hl : look fs a = some u) (hs : Sub F F') (f : ∀ c, RelV X F c u → RelV X F' c u') : RelD X F' es (put fs a u') := by
  induction es generalizing fs with
  | nil => (first | (obtain rfl := iVr r) | (obtain ⟨_, rfl⟩ := iVi r) | (obtain rfl := iV0 r) | (obtain rfl := iVb r) | (obtain ⟨_, rfl⟩ := iVs r) | (obtain ⟨_, _, _, rfl, _, _⟩ := iVt r) | (obtain ⟨_, _, _, rfl, _, _⟩ := iVl r) | (obtain ⟨_, _, _, rfl, _, _, _, _⟩ := iVd r) | (obtain ⟨_, _, _, rfl, _, _, _, _⟩ := iVS r) | (obtain ⟨_, _, _, _, rfl, _, _, _⟩ := iVo r) | cases r); (injection hl)
  | cons e es ih =>
    cases r with
    | @cons m h t c v es fs h1 h2 =>
      unfold put
      simp only [look] at hl
      by_cases q : m = a
      · subst q
        simp only [if_true] at hl ⊢
        (injection hl)
        exact .cons (f _ h1) (h2.mono hs)
      · simp only [if_neg q] at hl ⊢
        exact .cons (h1.mono hs) (ih h2 hl)
section
variable {env : Env} {nm : List Str} {wc : Ro → So → (Fl → Ro → So → Prop) → Prop} {xs : List Stmt}
theorem tf_frz {i : Nat} (hr : TF X n env nm (execs xs env) wc) : TF X n env nm (execs xs env) fun ρ σ Q => och (ρ[i]?).join fun v => FzQ σ v fun u σ' => wc (setR ρ i u) σ' Q := by
  intro A b F ρ σ s Q P Eb R k w h
  obtain ⟨v, e, u, σ', z, q⟩ := och_elim w
  obtain ⟨F', nx, f⟩ := frz_all k.fo.st k.fo.g z
  have k1 := k.to (Nxt.of nx s.toks)
  exact hr A b F' (setR ρ i u) σ' s Q P Eb R ⟨⟨k1.fo.g, k1.fo.st, k.fo.fr.refine k1.fo.fr e f⟩, k1.stp, k1.shd⟩ q h
theorem tf_frzF {i : Nat} {a : Nm} (hr : TF X n env nm (execs xs env) wc) : TF X n env nm (execs xs env) fun ρ σ Q => och (ρ[i]?).join fun v => FzF σ v a fun σ => wc ρ σ Q := by
  intro A b F ρ σ s Q P Eb R k w h
  obtain ⟨v, e, l, C, dx, fs, u, u', σ', -, e1, e2, e3, z, e4, q⟩ := och_elim w
  obtain ⟨F', nx, f⟩ := frz_all k.fo.st k.fo.g z
  obtain ⟨f1, o, ho, r⟩ := k.fo.st.own dx _ e2
  have nx2 : Nx X F' σ' s.heap F' (upd σ' dx (.ns (put fs a u'))) s.heap := by
    cases r with
    | ns r => exact Nx.chg nx.st e4 ho (.ns (relD_refine r e3 nx.p.mono f)) fun ι ι ι e => e
  have k2 := k.to (Nxt.of (nx.trans nx2) s.toks)
  exact hr A b F' ρ _ s Q P Eb R k2 q h
end
structure SSt (names : Nms) (nm : List Str) (ir : S) (st : Stmt) : Prop where
  f : ∀ {X : Cx}, CxOk X → ∀ {n : Nat} {env : Env}, EnvOk X env names nm → TF X n env nm (exec st env) (WS X n ir)
structure SSs (names : Nms) (nm : List Str) (ir : Ss) (sts : List Stmt) : Prop where
  f : ∀ {X : Cx}, CxOk X → ∀ {n : Nat} {env : Env}, EnvOk X env names nm → TF X n env nm (execs sts env) (WSs X n ir)
section
variable {names : Nms} {nm : List Str} {x y v t : Expr} {a b c : E} {ss tt : Ss} {s : S} {st : Stmt} {sts rts : List Stmt} {p q ap : Pos} {k : Nat}
theorem sss_nil : SSs names nm .nil [] := ⟨fun ι ι ι ι => tf_nil⟩
theorem sss_cons (h1 : SSt names nm s st) (h2 : SSs names nm ss sts) : SSs names nm (.cons s ss) (st :: sts) := ⟨fun co ι ι eo => tf_cons (h1.f co eo) (h2.f co eo)⟩
theorem sss_frz {i : Nat} (h : SSs names nm ss sts) : SSs names nm (.cons (.frz i) ss) sts := ⟨fun co ι ι eo => tf_frz (h.f co eo)⟩
theorem sss_frzF {i : Nat} {m : Nm} (h : SSs names nm ss sts) : SSs names nm (.cons (.frzF i m) ss) sts := ⟨fun co ι ι eo => tf_frzF (h.f co eo)⟩
theorem ss_expr (h : isComp x = false) (h1 : SE names nm a x) : SSt names nm (.expr a) (.Expr x p) := ⟨fun co ι ι eo => tf_expr eo h (h1.v co eo)⟩
theorem ss_asg {i : Nat} {m : Str} (h : (stoIs names nm i m && !(isComp v)) = true) (h1 : SE names nm a v) : SSt names nm (.asg i a) (.Assign [.Name m p] v q) := by
  rw [Bool.and_eq_true, Bool.not_eq_true'] at h
  exact ⟨fun co ι ι eo => tf_asg eo h.1 h.2 (h1.v co eo)⟩
noncomputable def asgCOk (names : Nms) (nm : List Str) (i : Nat) (m : Str) (p ap : Pos) (sc : Scope) : Bool := stoIs names nm i m && names.lookup m == some .local && p.line == ap.line && !(sc.names.any fun (n, k) => n == m && (k == .local || k == .cell))
theorem asgC_sw {X : Cx} {env : Env} {i : Nat} {m : Str} {sc : Scope} {gens : List Comprehension} (h : asgCOk names nm i m p ap sc = true) (eo : EnvOk X env names nm) : stoIs names nm i m = true ∧ swapsWith (.ListComp x gens sc ap) (some (.Name m p)) q.line env = pure true := by
  simp only [asgCOk, Bool.and_eq_true, beq_iff_eq, Bool.not_eq_true'] at h
  obtain ⟨⟨⟨h0, h1⟩, h2⟩, h3⟩ := h
  refine ⟨h0, ?_⟩
  have hb : env.blockKind = .function := by unfold Env.blockKind; rw [eo.kind]; rfl
  unfold swapsWith
  dsimp only
  rw [eo.kindOf, h1, hb]
  show (pure (_ && _ && _ && _) : Sem Bool) = _
  rw [show (p.line == (Expr.ListComp x gens sc ap).pos.line) = true from beq_iff_eq.mpr h2, h3]
  rfl
theorem ss_asgC0 {i : Nat} {m : Str} {mu : Bool} {sc : Scope} {inm : List Str} {caps : List (Option Nat)} {tg : Tg} {j : Expr} {elt it : E} (h0 : asgCOk names nm i m p ap sc = true) (h : cOk names nm sc inm caps j = true) (k5 : FitTg sc.names inm tg t) (h1 : SE (relab names sc.names) inm elt x) (h2 : SE names nm it j) :
    SSt names nm (.asg i (.comp mu elt tg it none inm caps)) (.Assign [.Name m p] (.ListComp x [⟨t, j, [], 0⟩] sc ap) q) := by
  obtain ⟨k1, k2, k3, k4, k6⟩ := cOk_iff h
  exact ⟨fun co ι ι eo => have z := asgC_sw (q := q) h0 eo; tf_asgComp (wc := none) eo z.1 z.2 k1 k2 k3 k4 k5 k6 (fun C => trivial) (fun C => h1.v co (cenv_ok eo k1 k2 k4)) (h2.v co eo)⟩
theorem ss_asgT0 {is : List Nat} {ts : List Expr} (h : isComp v = false) (ht : FitNs names nm is ts) (h0 : swOk names ts v = some none) (h1 : SE names nm a v) : SSt names nm (.asgT is a) (.Assign [.Tuple ts k p] v q) := by
  exact ⟨fun co ι ι eo => tf_asgT eo h ht (h1.v co eo) (.inl h0)⟩
theorem ss_asgT1 {is : List Nat} {ts : List Expr} (ns : List Str) (h : isComp v = false) (ht : FitNs names nm is ts) (h0 : swOk names ts v = some (some ns)) (h2 : (decide is.Nodup && decide (is.length = ns.length) && bindOk names nm is.reverse ns.reverse) = true) (h1 : SE names nm a v) : SSt names nm (.asgT is a) (.Assign [.Tuple ts k p] v q) := by
  simp only [Bool.and_eq_true, decide_eq_true_eq] at h2
  exact ⟨fun co ι ι eo => tf_asgT eo h ht (h1.v co eo) (.inr ⟨ns, h0, h2.1.1, h2.1.2, h2.2⟩)⟩
theorem ss_asgA {m : Nm} {w : Str} (h : (!(isComp v) && m.str == w && attN.contains m) = true) (h1 : SE names nm a v) (h2 : SE names nm b x) : SSt names nm (.asgA b m a) (.Assign [.Attribute x w ap] v q) := by
  simp only [Bool.and_eq_true, Bool.not_eq_true', beq_iff_eq] at h
  obtain ⟨⟨k1, rfl⟩, k2⟩ := h
  exact ⟨fun co ι ι eo => tf_asgA co k1 k2 (h1.v co eo) (h2.v co eo)⟩
theorem ss_asgS (h : isComp v = false) (h1 : SE names nm a v) (h2 : SE names nm b x) (h3 : SE names nm c y) : SSt names nm (.asgS b c a) (.Assign [.Subscript x y ap] v q) := ⟨fun co ι ι eo => tf_asgS h (h1.v co eo) (h2.v co eo) (h3.v co eo)⟩
theorem ss_augA {m : Nm} {w : Str} (h : (m.str == w && attN.contains m) = true) (h1 : SE names nm b x) (h2 : SE names nm a v) : SSt names nm (.augA b m .add a) (.AugAssign (.Attribute x w ap) .Add v q) := by
  simp only [Bool.and_eq_true, beq_iff_eq] at h
  obtain ⟨rfl, k2⟩ := h
  exact ⟨fun co ι ι eo => tf_augA co k2 (h1.v co eo) (h2.v co eo)⟩
theorem ss_augS (h : notSl y = true) (h1 : SE names nm b x) (h2 : SE names nm c y) (h3 : SE names nm a v) : SSt names nm (.augS b c .add a) (.AugAssign (.Subscript x y ap) .Add v q) := ⟨fun co ι ι eo => tf_augS h (h1.v co eo) (h2.v co eo) (h3.v co eo)⟩
theorem ss_ite (h1 : SE names nm a x) (h2 : SSs names nm ss sts) (h3 : SSs names nm tt rts) : SSt names nm (.ite a ss tt) (.If x sts rts p) := ⟨fun co ι ι eo => tf_if (h1.t co eo) (h2.f co eo) (h3.f co eo)⟩
theorem ss_while (h1 : SE names nm a x) (h2 : SSs names nm ss sts) : SSt names nm (.while_ a ss) (.While x sts [] p) := ⟨fun co ι ι eo => tf_while (h1.t co eo) (h2.f co eo)⟩
theorem ss_ret (h1 : SE names nm a x) : SSt names nm (.ret a) (.Return (some x) p) := ⟨fun co ι ι eo => tf_ret (h1.v co eo)⟩
theorem ss_retN : SSt names nm .retN (.Return none p) := ⟨fun ι ι ι ι => tf_retN⟩
theorem ss_cont : SSt names nm .cont (.Continue p) := ⟨fun ι ι ι ι => tf_cont⟩
theorem ss_forSeq {tg : Tg} (ht : FitTg names nm tg t) (h : notSet x = true) (h1 : SE names nm a x) (h2 : SSs names nm ss sts) : SSt names nm (.for_ tg .seq a ss) (.For t x sts [] p) := by
  exact ⟨fun co ι ι eo => tf_for eo ht h (iter_seq (isTg_of ht) (h1.v co eo)) (h2.f co eo)⟩
theorem ss_forRange {tg : Tg} {w : Str} (h0 : FitTg names nm tg t) (h : (w == ("range" : Str) && gloK names w) = true) (h1 : SE names nm a x) (h2 : SSs names nm ss sts) : SSt names nm (.for_ tg .range a ss) (.For t (.Call (.Name w q) [x] [] ap) sts [] p) := by
  simp only [Bool.and_eq_true, beq_iff_eq] at h
  obtain ⟨rfl, h3⟩ := h
  exact ⟨fun co ι ι eo => tf_for eo h0 rfl (iter_range eo h3 (isTg_of h0) h1.ns (h1.v co eo)) (h2.f co eo)⟩
theorem ss_forEnum {tg : Tg} {w : Str} (h0 : FitTg names nm tg t) (h : (w == ("enumerate" : Str) && gloK names w && isTup t) = true) (h1 : SE names nm a x) (h2 : SSs names nm ss sts) : SSt names nm (.for_ tg .enum a ss) (.For t (.Call (.Name w q) [x] [] ap) sts [] p) := by
  simp only [Bool.and_eq_true, beq_iff_eq] at h
  obtain ⟨⟨rfl, h3⟩, h4⟩ := h
  exact ⟨fun co ι ι eo => tf_for eo h0 rfl (iter_enum eo h3 h4 h1.ns (h1.v co eo)) (h2.f co eo)⟩
theorem ss_forItems {tg : Tg} {w : Str} (h0 : FitTg names nm tg t) (h : (mOk .items w x ap q && isTup t) = true) (h1 : SE names nm a x) (h2 : SSs names nm ss sts) : SSt names nm (.for_ tg .items a ss) (.For t (.Call (.Attribute x w ap) [] [] q) sts [] p) := by
  rw [Bool.and_eq_true] at h
  obtain ⟨h3, h4⟩ := h
  obtain ⟨rfl, k1, k2⟩ := mOk_iff h3
  exact ⟨fun co ι ι eo => tf_for eo h0 rfl (iter_items h4 k1 k2 (h1.v co eo)) (h2.f co eo)⟩
end
end
section
variable {X : Cx} {n : Nat}
noncomputable def fdOk (names : Nms) (nm ps : List Str) : Bool := decide nm.Nodup && decide (nm.take ps.length = ps) && ps.all (stoK names) && names.all (fun p => p.2 != .free)
inductive Fd (X : Cx) (f : Fn) (ps nm : List Str) (ir : Ss) : Prop
  | mk (a : Addr) (o : Obj) (fd : FuncData) (body : List Stmt) (e1 : X.fa f = .ref a) (e2 : X.K.lookup a = some o) (e3 : o.data = .func fd) (e4 : codeIn X.K fd.code fd.qualname = true) (e5 : fd.body = .stmts body) (e6 : fd.closure = [])
    (e7 : ∀ cs : List Value, cs.length = ps.length → bindArgs fd ⟨cs, []⟩ = pure (ps.zip cs)) (e8 : fd.globals = mainGlobals) (e9 : fd.builtins = builtinsNs) (e10 : fd.scope.kind = .function) (e11 : fd.scope.isCoroutine = false) (e12 : fd.scope.isGenerator = false)
    (e13 : kdsCode X.K fd.code = true) (e14 : fdOk fd.scope.names nm ps = true) (e15 : SSs fd.scope.names nm ir body)
noncomputable def rho (nm : List Str) (vs : List V) : Ro := vs.map some ++ List.replicate (nm.length - vs.length) none
theorem rho_at {nm : List Str} {vs : List V} {i : Nat} {v : V} (h : (rho nm vs)[i]? = some (some v)) : vs[i]? = some v := by
  unfold rho at h
  by_cases q : i < vs.length
  · rw [List.getElem?_append_left (by simpa using q), List.getElem?_map] at h
    obtain ⟨u, hu, e⟩ := Option.map_eq_some_iff.mp h
    (injection e); exact hu
  · rw [List.getElem?_append_right (by simpa using Nat.not_lt.mp q), List.getElem?_replicate] at h
    split at h <;> (injection h)
theorem Room.deeper {A : Around} (R : Room (n + 1) A) (env : Env) : Room n (A.deeper env) := by
  obtain ⟨h1, h2, h3⟩ := R
  refine ⟨h1, ?_, ?_⟩
  · rw [depth_deeper]; lia
  · rw [units_deeper]; lia
theorem bindL_off {kd : Str → Option NameKind} : ∀ {ps : List Str} {cs : List Value} {m : Str → Option Value} {x : Str}, x ∉ ps → bindL kd (ps.zip cs) m x = m x
  | [], _, _, _, _ => rfl
  | _ :: _, [], _, _, _ => rfl
  | p :: ps, c :: cs, m, x, h => by
    rw [List.mem_cons, not_or] at h
    rw [List.zip_cons_cons, bindL, bindL_off h.2]
    split
    · exact if_neg h.1
    · rfl
theorem bindC_off {kd : Str → Option NameKind} : ∀ {ps : List Str} {cs : List Value} {m : Str → Option Value} {x : Str}, x ∉ ps → bindC kd (ps.zip cs) m x = m x
  | [], _, _, _, _ => rfl
  | _ :: _, [], _, _, _ => rfl
  | p :: ps, c :: cs, m, x, h => by
    rw [List.mem_cons, not_or] at h
    rw [List.zip_cons_cons, bindC, bindC_off h.2]
    split
    · rfl
    · exact if_neg h.1
theorem bindL_at {kd : Str → Option NameKind} : ∀ {ps : List Str} {cs : List Value} {m : Str → Option Value} {i : Nat} {x : Str} {c : Value}, ps.Nodup → ps[i]? = some x → cs[i]? = some c → kd x = some .local → bindL kd (ps.zip cs) m x = some c
  | p :: ps, d :: cs, m, 0, x, c, nd, h1, h2, hk => by
    simp only [List.getElem?_cons_zero, Option.some.injEq] at h1 h2
    subst h1; subst h2
    rw [List.zip_cons_cons, bindL, bindL_off (List.nodup_cons.mp nd).1, if_pos hk, if_pos rfl]
  | p :: ps, d :: cs, m, i + 1, x, c, nd, h1, h2, hk => by
    rw [List.zip_cons_cons, bindL]
    exact bindL_at (List.nodup_cons.mp nd).2 (by simpa using h1) (by simpa using h2) hk
  | [], _, _, _, _, _, _, h, _, _ => by simp at h
  | _ :: _, [], _, _, _, _, _, _, h, _ => by simp at h
theorem bindC_at {kd : Str → Option NameKind} : ∀ {ps : List Str} {cs : List Value} {m : Str → Option Value} {i : Nat} {x : Str} {c : Value}, ps.Nodup → ps[i]? = some x → cs[i]? = some c → kd x ≠ some .local → bindC kd (ps.zip cs) m x = some c
  | p :: ps, d :: cs, m, 0, x, c, nd, h1, h2, hk => by
    simp only [List.getElem?_cons_zero, Option.some.injEq] at h1 h2
    subst h1; subst h2
    rw [List.zip_cons_cons, bindC, bindC_off (List.nodup_cons.mp nd).1, if_neg hk, if_pos rfl]
  | p :: ps, d :: cs, m, i + 1, x, c, nd, h1, h2, hk => by
    rw [List.zip_cons_cons, bindC]
    exact bindC_at (List.nodup_cons.mp nd).2 (by simpa using h1) (by simpa using h2) hk
  | [], _, _, _, _, _, _, h, _, _ => by simp at h
  | _ :: _, [], _, _, _, _, _, _, h, _ => by simp at h
theorem cellsFrom_keep : ∀ {l : List (Str × NameKind)} {m : Nat} {cs : List (Str × Addr)} {x : Str}, (cs.lookup x).isSome = true → ((cellsFrom m l cs).lookup x).isSome = true
  | [], _, _, _, h => h
  | (y, k) :: l, m, cs, x, h => by
    unfold cellsFrom
    split
    · refine cellsFrom_keep (l := l) ?_
      rw [List.lookup_cons]; split <;> first | rfl | exact h
    · exact cellsFrom_keep (l := l) h
theorem cellsFrom_mem : ∀ {l : List (Str × NameKind)} {m : Nat} {cs : List (Str × Addr)} {x : Str}, (x, NameKind.cell) ∈ l → ((cellsFrom m l cs).lookup x).isSome = true
  | (y, k) :: l, m, cs, x, h => by
    unfold cellsFrom
    rcases List.mem_cons.mp h with h | h
    · (injection h)
      rw [if_pos (by rfl)]
      exact cellsFrom_keep (by simp)
    · split <;> exact cellsFrom_mem h
theorem code_of {f : Fn} {ps nm : List Str} {ir : Ss} {vs : List V} {σ : So} {Q : V → So → Prop} (co : CxOk X) (d : Fd X f ps nm ir) (hl : vs.length = ps.length)
    (w : WSs X n ir (rho nm vs) σ (Kn (fun ι σ => Q .none σ) (fun ι ι => False) fun v ι σ => Q v σ)) :
    ∀ (A : Around) (F : Fz) (s : Shared) (cs : List Value) (R' : Result → Shared → Prop), Room (n + 1) A → Grd X F → St X F σ s.heap → RelVs X F cs vs →
      (∀ c v F' σ' s', RelV X F' c v → Q v σ' → St X F' σ' s'.heap → Stp (fun ι => False) F σ s.heap F' σ' s'.heap → Shd s s' → R' (.ok (.ret c)) s') → codeAny (model X.prog X.w) A (.call (X.fa f) ⟨cs, []⟩) R' s := by
  obtain ⟨a, o, fd, body, e1, e2, e3, e4, e5, e6, e7, e8, e9, e10, e11, e12, e13, e14, e15⟩ := d
  simp only [fdOk, Bool.and_eq_true, decide_eq_true_eq] at e14
  obtain ⟨⟨⟨nd, hps⟩, hsto⟩, hfree⟩ := e14
  have ndp : ps.Nodup := by rw [← hps]; exact (List.take_sublist _ _).nodup nd
  intro A F s cs R' R G S rs h
  rw [e1]
  have K := S.inK G
  have hcs : cs.length = ps.length := by rw [rs.length, hl]
  have stoAt : ∀ x ∈ ps, fd.scope.names.lookup x = some .local ∨ fd.scope.names.lookup x = some .cell := fun x hx => by
    have := List.all_eq_true.mp hsto x hx
    simp only [stoK, Bool.or_eq_true, beq_iff_eq] at this
    exact this
  refine codeAny_call_cells (fd := fd) (body := body) (binds := ps.zip cs) (by have := R.2.1; lia) (K _ _ e2) e3 (S.nolimit G) (codeRec_of K e4) e5 (e7 cs hcs) e6 (fun x hx => ?_) (fun s₁ ic => ?_) e11 e12 e10
  · have hx1 : x.1 ∈ ps := (List.of_mem_zip (a := x.1) (b := x.2) hx).1
    rcases stoAt _ hx1 with q | q
    · exact .inl q
    · exact .inr ⟨q, cellsFrom_mem (lookup_mem q)⟩
  generalize hE : callEnvC fd s.heap.objs.size a = env at ic ⊢
  have eL : env.locals = s.heap.objs.size := by rw [← hE]; rfl
  have eC : env.cells = cellsFrom (s.heap.objs.size + 1) fd.scope.names [] := by rw [← hE]; rfl
  have eN : env.scope = fd.scope := by rw [← hE]; rfl
  have eo : EnvOk X env fd.scope.names nm := by
    refine ⟨by rw [eN], by rw [eN]; exact e10, by rw [← hE]; exact e8, by rw [← hE]; exact e9, fun x hx => ?_, by rw [← hE]; exact e13, nd⟩
    rw [eC]
    rcases hx with hx | hx
    · exact cellsFrom_mem (lookup_mem hx)
    · have := List.all_eq_true.mp hfree _ (lookup_mem hx)
      simp at this
  have kd : ∀ x, env.kindOf x = fd.scope.names.lookup x := eo.kindOf
  have nx : Nx X F σ s.heap F σ s₁.heap := .same S ic.toInCall.keep
  have sh : Shd s s₁ := by obtain ⟨h', t, e⟩ := ic.toInCall.same; exact ⟨h', t, e⟩
  have fresh : ∀ x, Prv env x → s.heap.get? x = none := fun x hx => by
    rcases hx with rfl | ⟨y, hy⟩
    · exact get_ge ic.toInCall.fresh
    · have := ic.above y x (mem_of_lookup hy)
      exact get_ge (Nat.le_of_lt (Nat.lt_of_le_of_lt ic.toInCall.fresh this))
  have psAt : ∀ (i : Nat) x v, nm[i]? = some x → (rho nm vs)[i]? = some (some v) → ps[i]? = some x ∧ GetV X F cs i v := fun i x v h1 h2 => by
    have hv := rho_at h2
    have hi : i < ps.length := by rw [← hl]; exact (List.getElem?_eq_some_iff.mp hv).1
    refine ⟨?_, rs.get hv⟩
    rw [← hps, List.getElem?_take_of_lt hi]; exact h1
  have fo : Fo X env nm F (rho nm vs) σ s₁ := by
    refine ⟨G, nx.st, ⟨⟨_, ic.toInCall.ns, fun i x v h1 h2 h3 => ?_⟩, fun i x v h1 h2 h3 => ?_, fun x a hx => ⟨_, ic.cell x a hx⟩, fun x y a hx hy => name_of_addr ic.apart (mem_of_lookup hx) (mem_of_lookup hy), fun x hx => S.fresh (fresh x hx)⟩⟩
    · obtain ⟨hp, c, hc, r⟩ := psAt i x v h1 h2
      exact ⟨c, bindL_at ndp hp hc h3, r⟩
    · obtain ⟨hp, c, hc, r⟩ := psAt i x v h1 h2
      have hxp : x ∈ ps := List.mem_of_getElem? hp
      have hcell : (env.cells.lookup x).isSome = true := by
        rcases stoAt x hxp with q | q
        · exact absurd ((kd x).trans q) h3
        · rw [eC]; exact cellsFrom_mem (lookup_mem q)
      obtain ⟨ca, hca⟩ := Option.isSome_iff_exists.mp hcell
      exact ⟨ca, c, hca, (bindC_at (m := fun ι => none) ndp hp hc h3) ▸ ic.cell x ca hca, r⟩
  refine e15.f co eo (A.deeper env) ⟨F, σ, s₁⟩ F (rho nm vs) σ s₁ _ _ _ (R.deeper env) ⟨fo, .refl .., .refl _⟩ w fun F' ρ' σ' s' k' => ?_
  have p : Stp (fun ι => False) F σ s.heap F' σ' s'.heap := nx.p.drop k'.stp nx.st fresh
  have sh' := sh.trans k'.shd
  exact ⟨fun q => h _ _ _ _ _ .none q k'.fo.st p sh', fun q => q.elim, fun c v r q => h _ _ _ _ _ r q k'.fo.st p sh'⟩
theorem call_of {f : Fn} {ps nm : List Str} {ir : Ss} {vs : List V} {σ : So} {Q : V → So → Prop} (co : CxOk X) (d : Fd X f ps nm ir) (hl : vs.length = ps.length)
    (w : WSs X n ir (rho nm vs) σ (Kn (fun ι σ => Q .none σ) (fun ι ι => False) fun v ι σ => Q v σ)) : Call X (n + 1) f vs σ Q :=
  fun A F s cs ι ι R G S rs h => wpAny_call (code_of co d hl w A F s cs _ R G S rs h)
end
section
variable {X : Cx} {n : Nat}
inductive InitAt (X : Cx) (C : Cl) (f : Fn) : Prop
  | mk (a : Addr) (e : X.fa f = .ref a) (h : findIn X.K (.ref (X.ca C)) "__init__" = some (some (.ref a))) (hf : isFn X.K (.ref a) = true)
set_option tactic.hygienic true in
theorem CxOk.init (c : CxOk X) {C : Cl} {f : Fn} (h : (C, f) ∈ initN) : InitAt X C f := by
  have := c.look
  unfold cxLook at this
  simp only [Bool.and_eq_true] at this
  have t := List.all_eq_true.mp this.2 _ h
  dsimp only at t
  split at t
  · rename_i a e
    simp only [Bool.and_eq_true, beq_iff_eq] at t
    exact ⟨a, e, t.1, t.2⟩
  · (injection t)
theorem Room.made {A : Around} (R : Room (n + 1) A) {C : Addr} {cs : List Value} : Room n (A.under (.builtin "type.__call__" ⟨.ref C :: cs, []⟩)) := by
  obtain ⟨h1, h2, h3⟩ := R
  have hw : (Code.builtin "type.__call__" ⟨.ref C :: cs, []⟩).weight = 1 := rfl
  have hu : (Code.builtin "type.__call__" ⟨.ref C :: cs, []⟩).cUnits = 1 := rfl
  refine ⟨h1, ?_, ?_⟩
  · show A.depth + (Code.builtin "type.__call__" ⟨.ref C :: cs, []⟩).weight + n < _
    rw [hw]; lia
  · show A.units + (Code.builtin "type.__call__" ⟨.ref C :: cs, []⟩).cUnits + 40 * n + 100 < _
    rw [hu]; lia
theorem Room.in1 {A : Around} (R : Room (n + 1) A) : Room n A.in1 := by
  obtain ⟨h1, h2, h3⟩ := R
  refine ⟨h1, ?_, ?_⟩
  · show A.depth + n < _
    lia
  · show A.units + 1 + 40 * n + 100 < _
    lia
theorem Room.less {A : Around} (R : Room (n + 1) A) : Room n A := by
  obtain ⟨h1, h2, h3⟩ := R
  exact ⟨h1, by lia, by lia⟩
theorem ctor_of {C : Cl} {fi : Fn} {ps nm : List Str} {ir : Ss} {vs : List V} {σ : So} {Q : V → So → Prop} (co : CxOk X) (hi : (C, fi) ∈ initN) (d : Fd X fi ps nm ir) (hl : vs.length + 1 = ps.length)
    (w : ∀ l dx, σ l = none → σ dx = none → l ≠ dx → WSs X n ir (rho nm (.ref l :: vs)) (upd (upd σ dx (.ns [])) l (.obj C dx)) (Kn (fun ι σ => V.none = .none ∧ Q (.ref l) σ) (fun ι ι => False) fun v ι σ => v = .none ∧ Q (.ref l) σ)) : Call X (n + 2) (.cls C) vs σ Q := by
  intro A F s cs P E R G S rs h
  rw [co.clsAt]
  obtain ⟨a, e1, e2, e3⟩ := co.init hi
  obtain ⟨-, -, -, b4⟩ := co.base C
  obtain ⟨hh, g, dr, t, os⟩ := s
  have K := S.inK G
  have n1 := Nx.own (o := emptyDict) (m := .ns []) S (.ns (n := 0) .nil)
  have n2 := Nx.own (o := instObj (X.ca C) hh.objs.size) (m := .obj C hh.objs.size) n1.st .obj
  have hz : (hh.push emptyDict).objs.size = hh.objs.size + 1 := Heap.size_push ..
  have nx := n1.trans n2
  have hd := (S.fresh (get_size hh)).2
  have hl' : σ (hh.objs.size + 1) = none := (S.fresh (get_ge (Nat.le_succ _))).2
  have ne : hh.objs.size + 1 ≠ hh.objs.size := Nat.succ_ne_self _
  refine wpAny_call (make_core (makes_of K b4) (looks_findIn K e2) (fun self => bind_fn K self (beq_iff_eq.mp e3)) (.inl rfl) ?_)
  rw [← e1]
  have ww := w (hh.objs.size + 1) hh.objs.size hl' hd ne
  rw [hz] at nx
  refine code_of (Q := fun v σ => v = .none ∧ Q (.ref (hh.objs.size + 1)) σ) co d (vs := .ref (hh.objs.size + 1) :: vs) (by simpa using hl) ww _ F _ (.ref (hh.objs.size + 1) :: cs) _ R.made G nx.st (.cons (.ref _) rs) fun c v F' σ' s' r q S' p sh => ?_
  obtain ⟨rfl, q⟩ := q
  (first | (obtain rfl := iVr r) | (obtain ⟨_, rfl⟩ := iVi r) | (obtain rfl := iV0 r) | (obtain rfl := iVb r) | (obtain ⟨_, rfl⟩ := iVs r) | (obtain ⟨_, _, _, rfl, _, _⟩ := iVt r) | (obtain ⟨_, _, _, rfl, _, _⟩ := iVl r) | (obtain ⟨_, _, _, rfl, _, _, _, _⟩ := iVd r) | (obtain ⟨_, _, _, rfl, _, _, _, _⟩ := iVS r) | (obtain ⟨_, _, _, _, rfl, _, _, _⟩ := iVo r) | cases r)
  refine ⟨rfl, h _ _ _ _ _ (.ref _) q S' (nx.p.trans p nx.st) ?_⟩
  obtain ⟨h', t', rfl⟩ := sh
  exact ⟨h', t', rfl⟩
end
section
variable {X : Cx} {n : Nat}
structure BiOk (X : Cx) : Prop where
  len : X.fa .len = .builtin "len"
  all : X.fa .all = .builtin "all"
  sorted : X.fa .sorted = .builtin "sorted"
  int : X.fa .int = .type "int"
  list : X.fa .list = .type "list"
noncomputable def lenV (σ : So) (v : V) : Option Nat := match listV σ v with
  | some vs => some vs.length
  | none => (dictV σ v).map (·.length)
theorem lenV_l {σ : So} {v : V} {vs : List V} (h : listV σ v = some vs) : lenV σ v = some vs.length := by
  delta lenV; rw [h]
theorem lenV_n {σ : So} {v : V} (h : listV σ v = none) : lenV σ v = (dictV σ v).map (·.length) := by
  delta lenV; rw [h]
theorem lenV_ints {σ : So} {xs : List Int} : lenV σ (.lst (xs.map .int)) = some xs.length := congrArg some (List.length_map ..)
theorem lenV_refI {σ : So} {a : Addr} {xs : List Int} (h : σ a = some (.lst (xs.map .int))) : lenV σ (.ref a) = some xs.length := (lenV_l (listV_at h)).trans (congrArg some (List.length_map ..))
theorem lenV_refD {σ : So} {a : Addr} {es : List (Int × V)} (h : σ a = some (.dI es)) : lenV σ (.ref a) = some es.length := (lenV_n (show listV σ (.ref a) = none from congrArg lstM h)).trans (congrArg (Option.map (·.length)) (dictV_at h))
theorem Nxt.parts {F F' : Fz} {σ σ' : So} {s s' : Shared} (x : Nxt X F σ s F' σ' s') : St X F' σ' s'.heap ∧ Stp (fun ι => False) F σ s.heap F' σ' s'.heap ∧ Shd s s' := ⟨x.st, x.n.p, x.sh⟩
theorem call_len {v : V} {k : Nat} {σ : So} {Q : V → So → Prop} (bi : BiOk X) (h : lenV σ v = some k) (lt : k < lid) (q : Q (.int k) σ) : Call X n .len [v] σ Q := by
  intro A F s cs P E R G S rs hP
  rw [bi.len]
  obtain ⟨c, rfl, r⟩ := relVs_one rs
  have x : Nxt X F σ s F σ { s with toks := s.toks + 1 + 1 } := (Nxt.refl S).toks _
  have fin : P (.int k (s.toks + 1)) { s with toks := s.toks + 1 + 1 } := hP _ _ _ _ _ (.int _ _) q x.parts.1 x.parts.2.1 x.parts.2.2
  cases e : listV σ v with
  | some vs =>
    cases (lenV_l e).symm.trans h
    obtain ⟨a, cs, j, rfl, ha, rr⟩ := list_at S r e
    have e1 : cs.toArray.size = vs.length := by rw [List.size_toArray, rr.length]
    refine call_len_list (isList_of ha) (by rw [e1]; unfold lid at lt; lia) ?_
    rw [e1]; exact fin
  | none =>
    obtain ⟨es, e, rfl⟩ := Option.map_eq_some_iff.mp ((lenV_n e).symm.trans h)
    obtain ⟨a, kvs, rfl, hm, hd, rr⟩ := dict_at G S r e
    have e1 := relI_length rr
    refine call_len_dict hm hd (by rw [e1]; unfold lid at lt; lia) ?_
    rw [e1]; exact fin
theorem call_int {b : Bool} {σ : So} {Q : V → So → Prop} (bi : BiOk X) (q : Q (.int (if b then 1 else 0)) σ) : Call X n .int [.bool b] σ Q := by
  intro A F s cs P E R G S rs hP
  rw [bi.int]
  obtain ⟨c, rfl, r⟩ := relVs_one rs
  (first | (obtain rfl := iVr r) | (obtain ⟨_, rfl⟩ := iVi r) | (obtain rfl := iV0 r) | (obtain rfl := iVb r) | (obtain ⟨_, rfl⟩ := iVs r) | (obtain ⟨_, _, _, rfl, _, _⟩ := iVt r) | (obtain ⟨_, _, _, rfl, _, _⟩ := iVl r) | (obtain ⟨_, _, _, rfl, _, _, _, _⟩ := iVd r) | (obtain ⟨_, _, _, rfl, _, _, _, _⟩ := iVS r) | (obtain ⟨_, _, _, _, rfl, _, _, _⟩ := iVo r) | cases r)
  have x : Nxt X F σ s F σ { s with toks := s.toks + 1 } := (Nxt.refl S).toks _
  exact call_int_bool (hP _ _ _ _ _ (.int _ _) q x.parts.1 x.parts.2.1 x.parts.2.2)
theorem relVs_of {F : Fz} {cs : List Value} {vs : List V} (hl : cs.length = vs.length) (h : ∀ (j : Nat) c v, cs[j]? = some c → vs[j]? = some v → RelV X F c v) : RelVs X F cs vs := by
  induction cs generalizing vs with
  | nil => cases vs with | nil => exact .nil | cons _ _ => (injection hl)
  | cons c cs ih =>
    cases vs with
    | nil => (injection hl)
    | cons v vs => exact .cons (h 0 c v rfl rfl) (ih (by simpa using hl) fun j c v h1 h2 => h (j + 1) c v h1 h2)
theorem call_list {v : V} {ys : List V} {σ : So} {Q : V → So → Prop} (bi : BiOk X) (h : listV σ v = some ys ∨ ∃ es, dictV σ v = some es ∧ ys = es.map fun p => .int p.1) (w : newL false ys σ Q) : Call X n .list [v] σ Q := by
  intro A F s cs P E R G S rs hP
  rw [bi.list]
  obtain ⟨c, rfl, r⟩ := relVs_one rs
  obtain ⟨lt, w⟩ := w
  have fin : ∀ h' tk zs j, (∀ b o, s.heap.get? b = some o → h'.get? b = some o) → h'.get? s.heap.objs.size = some (seqObj "list" zs j) → RelVs X F zs ys → P (.ref s.heap.objs.size) { s with heap := h', toks := tk } := fun h' tk zs j hk ho rr => by
    have x : Nxt X F σ s F σ { s with heap := h', toks := tk } := Nxt.of (Nx.same S hk) tk
    obtain ⟨f1, f2⟩ := S.fresh (get_size s.heap)
    have x2 := Nxt.adoptF x (get_size s.heap) f1 f2 ho tk
    exact hP _ _ _ _ _ (.lst (upd_self ..) (rr.mono (.upd f1))) w x2.parts.1 x2.parts.2.1 x2.parts.2.2
  rcases h with e | ⟨es, e, rfl⟩
  · obtain ⟨a, cs, j, rfl, ha, rr⟩ := list_at S r e
    exact call_list_seq a (.inl rfl) ha rfl rfl (fun h' c' hk hD => fin h' s.toks cs c' hk hD rr) (fits rr lt)
  · obtain ⟨a, kvs, rfl, hm, hd, rr⟩ := dict_at G S r e
    obtain ⟨ep, hat⟩ := hd.dictAt
    have e1 := relI_length rr
    refine kdl_call (kdl_dict (knd := intKind X.prog X.w) (kvs := kvs) (ep := ep) hm) R.1 hat (by rw [e1]; unfold lid at lt; rw [List.length_map] at lt; unfold sizeLine; omega) fun h' tk acc c' hk hD hacc => ?_
    refine fin h' tk acc.toList c' hk (by simpa using hD) (relVs_of (by rw [Array.length_toList, hacc.1, List.length_map, e1]) fun j cj vj h1 h2 => ?_)
    obtain ⟨k, x, hx, hk'⟩ := hacc.2 j cj (by rw [← Array.getElem?_toList]; exact h1)
    obtain ⟨t, rfl⟩ := int_key hk'
    rw [List.getElem?_map] at h2
    obtain ⟨p, hp, rfl⟩ := Option.map_eq_some_iff.mp h2
    have hk2 := congrArg (·[j]?) (relI_keys rr)
    simp only [List.getElem?_map, hx, hp, Option.map_some, Option.some.injEq] at hk2
    rw [← hk2]; exact .int _ _
noncomputable def boolV : V → Option Bool | .bool b => some b | _ => none
theorem call_all {v : V} {bs : List Bool} {σ : So} {Q : V → So → Prop} (bi : BiOk X) (h : listV σ v = some (bs.map .bool)) (q : Q (.bool (bs.all id)) σ) : Call X n .all [v] σ Q := by
  intro A F s cs P E R G S rs hP
  rw [bi.all]
  obtain ⟨c, rfl, r⟩ := relVs_one rs
  obtain ⟨a, cs, j, rfl, ha, rr⟩ := list_at S r h
  have hl := isList_of ha
  have hz : cs.toArray.size = bs.length := by rw [List.size_toArray, rr.length, List.length_map]
  refine call_all_walk (wpAny_pyIter_list hl ⟨s.heap.objs.size, _, _, _, _, _, fun i => (bs[i]?).getD true, rfl, Walks.list (by show A.handled = none; exact R.1) s.heap.objs.size a (size_ne ha) cs.toArray, ⟨⟨_, Heap.get?_push_size _ rfl, rfl, rfl⟩, hl.push _⟩, fun i v s Q E hv hq => ?_, fun h' tk hk => ?_⟩)
  · have hv' : cs[i]? = some v := by simpa using hv
    have hi : i < bs.length := by rw [← hz]; simpa using (List.getElem?_eq_some_iff.mp hv').1
    obtain ⟨c', hc', r'⟩ := rr.get (i := i) (v := .bool bs[i]) (by simp [hi])
    rw [hv'] at hc'; (injection hc')
    (first | (obtain rfl := iVr r') | (obtain ⟨_, rfl⟩ := iVi r') | (obtain rfl := iV0 r') | (obtain rfl := iVb r') | (obtain ⟨_, rfl⟩ := iVs r') | (obtain ⟨_, _, _, rfl, _, _⟩ := iVt r') | (obtain ⟨_, _, _, rfl, _, _⟩ := iVl r') | (obtain ⟨_, _, _, rfl, _, _, _, _⟩ := iVd r') | (obtain ⟨_, _, _, rfl, _, _, _, _⟩ := iVS r') | (obtain ⟨_, _, _, _, rfl, _, _, _⟩ := iVo r') | cases r')
    exact wpAny_truthy_bool (by simpa [hi] using hq)
  · have e1 : (List.range cs.toArray.size).all (fun i => (bs[i]?).getD true) = bs.all id := by
      rw [hz]
      rw [Bool.eq_iff_iff, List.all_eq_true, List.all_eq_true]
      constructor
      · intro h b hb
        obtain ⟨i, hi, rfl⟩ := List.getElem_of_mem hb
        have := h i (List.mem_range.mpr hi)
        simpa [hi] using this
      · intro h i hi
        have hi' := List.mem_range.mp hi
        simpa [hi'] using h bs[i] (List.getElem_mem hi')
    rw [e1]
    have x : Nxt X F σ s F σ { s with heap := h', toks := tk } := Nxt.of (Nx.same S fun b o e => hk b o (by simpa using size_ne e) (Heap.get?_push_of_some _ e)) tk
    exact hP _ _ _ _ _ (.bool _) q x.parts.1 x.parts.2.1 x.parts.2.2
theorem ints_of {F : Fz} : ∀ {cs : List Value} {ns : List Int}, RelVs X F cs (ns.map .int) → IntsAre cs ns
  | _, [], .nil => .nil
  | _, n :: ns, .cons r rs => by (first | (obtain rfl := iVr r) | (obtain ⟨_, rfl⟩ := iVi r) | (obtain rfl := iV0 r) | (obtain rfl := iVb r) | (obtain ⟨_, rfl⟩ := iVs r) | (obtain ⟨_, _, _, rfl, _, _⟩ := iVt r) | (obtain ⟨_, _, _, rfl, _, _⟩ := iVl r) | (obtain ⟨_, _, _, rfl, _, _, _, _⟩ := iVd r) | (obtain ⟨_, _, _, rfl, _, _, _, _⟩ := iVS r) | (obtain ⟨_, _, _, _, rfl, _, _, _⟩ := iVo r) | cases r); exact .cons _ _ (ints_of rs)
theorem of_ints {F : Fz} : ∀ {cs : List Value} {ns : List Int}, IntsAre cs ns → RelVs X F cs (ns.map .int)
  | _, _, .nil => .nil
  | _, _, .cons _ _ h => .cons (.int _ _) (of_ints h)
theorem call_sorted {v : V} {es : List (Int × V)} {σ : So} {Q : V → So → Prop} (bi : BiOk X) (h : dictV σ v = some es) (lt : es.length < 64) (q : ∀ ns : List Int, ns.Perm (es.map (·.1)) → ns.Pairwise (· ≤ ·) → Q (.lst (ns.map .int)) σ) : Call X n .sorted [v] σ Q := by
  intro A F s cs P E R G S rs hP
  rw [bi.sorted]
  obtain ⟨c, rfl, r⟩ := relVs_one rs
  obtain ⟨a, kvs, rfl, hm, hd, rr⟩ := dict_at G S r h
  obtain ⟨ep, hat⟩ := hd.dictAt
  have e1 := relI_length rr
  refine call_function_entry kind_sorted plain_sorted entry_sorted (args_sorted1 _) ?_
  unfold Builtin.«sorted»
  refine wpAny_bind (m := checkCount "sorted" 1 1 _) (wpAny_pure ?_)
  refine wpAny_bind (kdu_collect (A := A.in1) (kdl_dict (knd := intKind X.prog X.w) (kvs := kvs) (ep := ep) hm) R.1 hat (by rw [e1]; unfold sizeLine; lia) fun h' tk acc hk hacc => ?_)
  have hl : acc.toList.length = es.length := by rw [Array.length_toList, hacc.1, e1]
  have hI : IntsAre acc.toList (es.map (·.1)) := by
    have : RelVs X F acc.toList ((es.map (·.1)).map .int) := relVs_of (by simp [hl]) fun j cj vj h1 h2 => by
      obtain ⟨k, x, hx, hk'⟩ := hacc.2 j cj (by rw [← Array.getElem?_toList]; exact h1)
      obtain ⟨t, rfl⟩ := int_key hk'
      rw [List.getElem?_map, List.getElem?_map] at h2
      cases hp : es[j]? with
      | none => rw [hp] at h2; (injection h2)
      | some p =>
        rw [hp] at h2; (injection h2)
        have hk2 := congrArg (·[j]?) (relI_keys rr)
        simp only [List.getElem?_map, hx, hp, Option.map_some, Option.some.injEq] at hk2
        show RelV X F (.int k t) (.int p.1)
        rw [← hk2]; exact .int _ _
    exact ints_of this
  refine wpAny_bind (wpAny_newList ?_ (by rw [hl]; unfold sizeLine; lia))
  have hD : (h'.push { cls := .type "list", data := .seq acc.toList.toArray }).get? h'.objs.size = some (PyProof.Rows.seqObj "list" acc.toList.toArray 0) := Heap.get?_push_size _ rfl
  refine wpAny_bind (wpAny_holding (wpAny_call_entry slot_list_sort ⟨_, hD, rfl⟩ entry_list_sort (list_sort_tree hD hI (by rw [hl]; exact lt) fun out ns' a1 a2 a3 => ⟨_, rfl, ?_⟩) (args_list_sort _)))
  refine wpAny_pure ⟨_, rfl, ?_⟩
  have q0 : PySem.IsL (h'.push { cls := .type "list", data := .seq acc.toList.toArray }) h'.objs.size acc.toList.toArray 0 := hD
  have q1 := ((q0.update fun ι => #[]).push (PyProof.Rows.seqObj "tuple" acc.toList.toArray 0)).push (PyProof.Rows.seqObj "list" #[] 0)
  have q2 := q1.update fun ι => out
  have kp : ∀ b o, s.heap.get? b = some o → (sortedHeap (h'.push { cls := .type "list", data := .seq acc.toList.toArray }) h'.objs.size acc.toList out).get? b = some o := fun b o e => by
    have hb := size_ne (hk b o e)
    unfold sortedHeap
    refine (Heap.get?_update_other _ _ (Ne.symm hb)).trans (Heap.get?_push_of_some _ (Heap.get?_push_of_some _ ((Heap.get?_update_other _ _ (Ne.symm hb)).trans (Heap.get?_push_of_some _ (hk b o e)))))
  have x : Nxt X F σ s F σ { s with heap := sortedHeap (h'.push { cls := .type "list", data := .seq acc.toList.toArray }) h'.objs.size acc.toList out, toks := tk } := Nxt.of (Nx.same S kp) tk
  have hn : s.heap.get? h'.objs.size = none := none_of_live (fun b q => by obtain ⟨o, ho⟩ := Option.isSome_iff_exists.mp q; rw [hk b o ho]; rfl) (get_size h')
  obtain ⟨f1, f2⟩ := S.fresh hn
  have x2 := Nxt.adoptF (o := seqObj "list" out.toList _) x hn f1 f2 (by have := q2; unfold PySem.IsL at this; unfold sortedHeap; simpa using this) tk
  exact hP _ _ _ _ _ (.lst (upd_self ..) ((of_ints a1).mono (.upd f1))) (q ns' a2 a3) x2.parts.1 x2.parts.2.1 x2.parts.2.2
end
noncomputable def ps_withNumber : List Str := [("shape" : Str), ("op" : Str)]
noncomputable def nm_withNumber : List Str := [("shape" : Str), ("op" : Str)]
noncomputable def ir_withNumber : Ss := (.cons (.ret (.bop true (.cons (.cmp .isNot (.var 0) .none) (.cons (.cmp .eq (.sub (.var 0) (.int 0)) (.var 1)) (.cons (.cmp .eq (.sub (.sub (.sub (.var 0) (.int 1)) (.int 1)) (.int 0)) (.str .k)) .nil))))) .nil)
noncomputable def ps_num : List Str := [("value" : Str)]
noncomputable def nm_num : List Str := [("value" : Str)]
noncomputable def ir_num : Ss := (.cons (.ret (.tup (.cons (.str .k) (.cons (.bin .and (.var 0) (.glob .MASK)) .nil)))) .nil)
noncomputable def ps_stepInit : List Str := [("self" : Str), ("op" : Str), ("dst" : Str), ("args" : Str), ("more" : Str)]
noncomputable def nm_stepInit : List Str := [("self" : Str), ("op" : Str), ("dst" : Str), ("args" : Str), ("more" : Str)]
noncomputable def ir_stepInit : Ss := (.cons (.asgA (.var 0) .op (.var 1)) (.cons (.asgA (.var 0) .dst (.var 2)) (.cons (.asgA (.var 0) .args (.var 3)) (.cons (.asgA (.var 0) .more (.var 4)) (.cons (.asgA (.var 0) .volat (.bool false)) (.cons (.asgA (.var 0) .line (.int 0)) .nil))))))
noncomputable def ps_blockInit : List Str := [("self" : Str), ("number" : Str)]
noncomputable def nm_blockInit : List Str := [("self" : Str), ("number" : Str)]
noncomputable def ir_blockInit : Ss := (.cons (.asgA (.var 0) .number (.var 1)) (.cons (.asgA (.var 0) .steps (.lst false .nil)) (.cons (.asgA (.var 0) .end_ .none) .nil)))
noncomputable def ps_funcInit : List Str := [("self" : Str), ("name" : Str)]
noncomputable def nm_funcInit : List Str := [("self" : Str), ("name" : Str)]
noncomputable def ir_funcInit : Ss := (.cons (.asgA (.var 0) .name (.var 1)) (.cons (.asgA (.var 0) .params (.lst false .nil)) (.cons (.asgA (.var 0) .static_ (.bool false)) (.cons (.asgA (.var 0) .slots (.lst false .nil)) (.cons (.asgA (.var 0) .blocks (.lst true .nil)) (.cons (.asgA (.var 0) .registers (.int 0)) (.cons (.asgA (.var 0) .hasv (.bool false)) .nil)))))))
noncomputable def ps_followers : List Str := [("block" : Str)]
noncomputable def nm_followers : List Str := [("block" : Str), ("end" : Str)]
noncomputable def ir_followers : Ss := (.cons (.asg 1 (.attr (.var 0) .end_)) (.cons (.ite (.cmp .eq (.attr (.var 1) .op) (.str .jump)) (.cons (.ret (.lst false (.cons (.attr (.var 1) .more) .nil))) .nil) .nil) (.cons (.ite (.cmp .eq (.attr (.var 1) .op) (.str .branch)) (.cons (.ret (.lst false (.cons (.sub (.attr (.var 1) .more) (.int 0)) (.cons (.sub (.attr (.var 1) .more) (.int 1)) .nil)))) .nil) .nil) (.cons (.ite (.cmp .eq (.attr (.var 1) .op) (.str .table)) (.cons (.ret (.cat (.call .list (.cons (.sub (.attr (.var 1) .more) (.int 1)) .nil)) (.lst false (.cons (.sub (.attr (.var 1) .more) (.int 2)) .nil)))) .nil) .nil) (.cons (.ret (.lst false .nil)) .nil)))))
noncomputable def ps_lastingInit : List Str := [("self" : Str), ("operands" : Str), ("shapes" : Str)]
noncomputable def nm_lastingInit : List Str := [("self" : Str), ("operands" : Str), ("shapes" : Str)]
noncomputable def ir_lastingInit : Ss := (.cons (.asgA (.var 0) .operands (.var 1)) (.cons (.asgA (.var 0) .shapes (.var 2)) .nil))
noncomputable def ps_areLasting : List Str := [("args" : Str), ("found" : Str), ("many" : Str)]
noncomputable def nm_areLasting : List Str := [("args" : Str), ("found" : Str), ("many" : Str), ("operand" : Str)]
noncomputable def ir_areLasting : Ss := (.cons (.for_ (.v 3) .seq (.var 0) (.cons (.ite (.bop true (.cons (.cmp .eq (.sub (.var 3) (.int 0)) (.str .r)) (.cons (.bop false (.cons (.cmp .in_ (.sub (.var 3) (.int 1)) (.var 2)) (.cons (.cmp .notIn (.sub (.var 3) (.int 1)) (.var 1)) .nil))) .nil))) (.cons (.ret (.bool false)) .nil) .nil) .nil)) (.cons (.ret (.bool true)) .nil))
noncomputable def ps_endOf : List Str := [("operands" : Str), ("operand" : Str)]
noncomputable def nm_endOf : List Str := [("operands" : Str), ("operand" : Str), ("turn" : Str)]
noncomputable def ir_endOf : Ss := (.cons (.for_ (.v 2) .range (.call .len (.cons (.var 0) .nil)) (.cons (.ite (.bop false (.cons (.cmp .ne (.sub (.var 1) (.int 0)) (.str .r)) (.cons (.cmp .notIn (.sub (.var 1) (.int 1)) (.var 0)) .nil))) (.cons (.ret (.var 1)) .nil) .nil) (.cons (.asg 1 (.sub (.var 0) (.sub (.var 1) (.int 1)))) .nil))) (.cons (.ret (.var 1)) .nil))
noncomputable def ps_lastingOf : List Str := [("func" : Str)]
noncomputable def nm_lastingOf : List Str := [("func" : Str), ("found" : Str), ("many" : Str), ("register" : Str), ("block" : Str), ("step" : Str), ("operands" : Str), ("shapes" : Str)]
noncomputable def ir_lastingOf : Ss := (.cons (.asgT [1, 2] (.tup (.cons (.dict [] .nil) (.cons (.dict [] .nil) .nil)))) (.cons (.for_ (.v 3) .seq (.attr (.var 0) .params) (.cons (.asgS (.var 1) (.var 3) .none) .nil)) (.cons (.for_ (.v 4) .seq (.attr (.var 0) .blocks) (.cons (.for_ (.v 5) .seq (.attr (.var 4) .steps) (.cons (.ite (.cmp .in_ (.attr (.var 5) .dst) (.var 1)) (.cons (.asgS (.var 2) (.attr (.var 5) .dst) (.bool true)) .nil) (.cons (.ite (.cmp .ge (.attr (.var 5) .dst) (.int 0)) (.cons (.asgS (.var 1) (.attr (.var 5) .dst) (.var 5)) .nil) .nil) .nil)) .nil)) .nil)) (.cons (.asgT [6, 7] (.tup (.cons (.dict [] .nil) (.cons (.dict [] .nil) .nil)))) (.cons (.frz 1) (.cons (.for_ (.t [3, 5]) .items (.var 1) (.cons (.ite (.bop false (.cons (.cmp .is_ (.var 5) .none) (.cons (.cmp .in_ (.var 3) (.var 2)) (.cons (.cmp .notIn (.attr (.var 5) .op) (.glob .SHAPED)) .nil)))) (.cons .cont .nil) .nil) (.cons (.ite (.call .areLasting (.cons (.attr (.var 5) .args) (.cons (.var 1) (.cons (.var 2) .nil)))) (.cons (.ite (.cmp .notIn (.attr (.var 5) .op) (.glob .TELLING)) (.cons (.asgS (.var 7) (.var 3) (.tup (.cons (.attr (.var 5) .op) (.cons (.attr (.var 5) .args) (.cons (.attr (.var 5) .more) .nil))))) .nil) (.cons (.ite (.cmp .ne (.sub (.attr (.var 5) .args) (.int 0)) (.tup (.cons (.str .r) (.cons (.var 3) .nil)))) (.cons (.asgS (.var 6) (.var 3) (.sub (.attr (.var 5) .args) (.int 0))) .nil) .nil) .nil)) .nil) .nil) .nil))) (.cons (.for_ (.v 3) .seq (.call .list (.cons (.var 6) .nil)) (.cons (.ite (.cmp .eq (.sub (.sub (.var 6) (.var 3)) (.int 0)) (.str .r)) (.cons (.asgS (.var 6) (.var 3) (.call .endOf (.cons (.var 6) (.cons (.sub (.var 6) (.var 3)) .nil)))) .nil) .nil) .nil)) (.cons (.frz 6) (.cons (.frz 7) (.cons (.ret (.fz (.call (.cls .Lasting) (.cons (.var 6) (.cons (.var 7) .nil))))) .nil))))))))))
noncomputable def ps_factsInit : List Str := [("self" : Str), ("lasting" : Str)]
noncomputable def nm_factsInit : List Str := [("self" : Str), ("lasting" : Str)]
noncomputable def ir_factsInit : Ss := (.cons (.asgA (.var 0) .operands (.attr (.var 1) .operands)) (.cons (.asgA (.var 0) .shapes (.attr (.var 1) .shapes)) (.cons (.asgA (.var 0) .made (.dict [] .nil)) (.cons (.asgA (.var 0) .setAt (.dict [] .nil)) (.cons (.asgA (.var 0) .now (.int 0)) .nil)))))
noncomputable def ps_holds : List Str := [("self" : Str), ("args" : Str), ("time" : Str)]
noncomputable def nm_holds : List Str := [("self" : Str), ("args" : Str), ("time" : Str), ("operand" : Str)]
noncomputable def ir_holds : Ss := (.cons (.for_ (.v 3) .seq (.var 1) (.cons (.ite (.bop true (.cons (.cmp .eq (.sub (.var 3) (.int 0)) (.str .r)) (.cons (.cmp .ge (.dget (.attr (.var 0) .setAt) (.sub (.var 3) (.int 1)) (.glob .NEVER)) (.var 2)) .nil))) (.cons (.ret (.bool false)) .nil) .nil) .nil)) (.cons (.ret (.bool true)) .nil))
noncomputable def ps_best : List Str := [("self" : Str), ("operand" : Str)]
noncomputable def nm_best : List Str := [("self" : Str), ("operand" : Str), ("register" : Str), ("shape" : Str), ("time" : Str)]
noncomputable def ir_best : Ss := (.cons (.ite (.cmp .ne (.sub (.var 1) (.int 0)) (.str .r)) (.cons (.ret (.var 1)) .nil) .nil) (.cons (.asg 2 (.sub (.var 1) (.int 1))) (.cons (.ite (.cmp .in_ (.var 2) (.attr (.var 0) .operands)) (.cons (.ret (.sub (.attr (.var 0) .operands) (.var 2))) .nil) .nil) (.cons (.ite (.cmp .in_ (.var 2) (.attr (.var 0) .made)) (.cons (.asgT [3, 4] (.sub (.attr (.var 0) .made) (.var 2))) (.cons (.ite (.bop true (.cons (.cmp .in_ (.sub (.var 3) (.int 0)) (.glob .TELLING)) (.cons (.meth .holds (.var 0) (.cons (.sub (.var 3) (.int 1)) (.cons (.var 4) .nil))) .nil))) (.cons (.ret (.sub (.sub (.var 3) (.int 1)) (.int 0))) .nil) .nil) .nil)) .nil) (.cons (.ret (.var 1)) .nil)))))
noncomputable def ps_shape : List Str := [("self" : Str), ("operand" : Str)]
noncomputable def nm_shape : List Str := [("self" : Str), ("operand" : Str), ("register" : Str), ("shape" : Str), ("time" : Str)]
noncomputable def ir_shape : Ss := (.cons (.ite (.cmp .ne (.sub (.var 1) (.int 0)) (.str .r)) (.cons (.ret .none) .nil) .nil) (.cons (.asg 2 (.sub (.var 1) (.int 1))) (.cons (.ite (.cmp .in_ (.var 2) (.attr (.var 0) .shapes)) (.cons (.ret (.sub (.attr (.var 0) .shapes) (.var 2))) .nil) .nil) (.cons (.ite (.cmp .in_ (.var 2) (.attr (.var 0) .made)) (.cons (.asgT [3, 4] (.sub (.attr (.var 0) .made) (.var 2))) (.cons (.ite (.meth .holds (.var 0) (.cons (.sub (.var 3) (.int 1)) (.cons (.var 4) .nil))) (.cons (.ret (.var 3)) .nil) .nil) .nil)) .nil) (.cons (.ret .none) .nil)))))
noncomputable def ps_learn : List Str := [("self" : Str), ("register" : Str), ("operand" : Str)]
noncomputable def nm_learn : List Str := [("self" : Str), ("register" : Str), ("operand" : Str)]
noncomputable def ir_learn : Ss := (.cons (.asgS (.attr (.var 0) .made) (.var 1) (.tup (.cons (.tup (.cons (.str .const) (.cons (.lst false (.cons (.var 2) .nil)) (.cons (.int 0) .nil)))) (.cons (.int 0) .nil)))) .nil)
noncomputable def ps_passStep : List Str := [("self" : Str), ("step" : Str)]
noncomputable def nm_passStep : List Str := [("self" : Str), ("step" : Str)]
noncomputable def ir_passStep : Ss := (.cons (.augA (.var 0) .now .add (.int 1)) (.cons (.asgS (.attr (.var 0) .setAt) (.attr (.var 1) .dst) (.attr (.var 0) .now)) (.cons (.ite (.cmp .in_ (.attr (.var 1) .op) (.glob .SHAPED)) (.cons (.asgS (.attr (.var 0) .made) (.attr (.var 1) .dst) (.tup (.cons (.tup (.cons (.attr (.var 1) .op) (.cons (.attr (.var 1) .args) (.cons (.attr (.var 1) .more) .nil)))) (.cons (.attr (.var 0) .now) .nil)))) .nil) (.cons (.ite (.cmp .in_ (.attr (.var 1) .dst) (.attr (.var 0) .made)) (.cons (.expr (.dpop (.attr (.var 0) .made) (.attr (.var 1) .dst))) .nil) .nil) .nil)) .nil)))
noncomputable def ps_learnBranch : List Str := [("end" : Str), ("number" : Str), ("before" : Str), ("facts" : Str)]
noncomputable def nm_learnBranch : List Str := [("end" : Str), ("number" : Str), ("before" : Str), ("facts" : Str), ("then" : Str), ("other" : Str), ("operand" : Str), ("shape" : Str), ("wanted" : Str)]
noncomputable def ir_learnBranch : Ss := (.cons (.asgT [4, 5] (.attr (.var 0) .more)) (.cons (.asg 6 (.sub (.attr (.var 0) .args) (.int 0))) (.cons (.ite (.bop false (.cons (.cmp .eq (.var 4) (.var 5)) (.cons (.cmp .ne (.sub (.var 6) (.int 0)) (.str .r)) .nil))) (.cons .retN .nil) .nil) (.cons (.ite (.cmp .eq (.var 1) (.var 5)) (.cons (.expr (.meth .learn (.var 3) (.cons (.sub (.var 6) (.int 1)) (.cons (.call .num (.cons (.int 0) .nil)) .nil)))) .nil) .nil) (.cons (.asg 7 (.meth .shape (.var 2) (.cons (.var 6) .nil))) (.cons (.asg 8 (.ite (.cmp .eq (.var 1) (.var 4)) (.str .eq) (.str .ne))) (.cons (.ite (.bop true (.cons (.call .withNumber (.cons (.var 7) (.cons (.var 8) .nil))) (.cons (.cmp .eq (.sub (.sub (.sub (.var 7) (.int 1)) (.int 0)) (.int 0)) (.str .r)) .nil))) (.cons (.expr (.meth .learn (.var 3) (.cons (.sub (.sub (.sub (.var 7) (.int 1)) (.int 0)) (.int 1)) (.cons (.sub (.sub (.var 7) (.int 1)) (.int 1)) .nil)))) .nil) .nil) .nil)))))))
noncomputable def ps_learnTable : List Str := [("end" : Str), ("number" : Str), ("facts" : Str)]
noncomputable def nm_learnTable : List Str := [("end" : Str), ("number" : Str), ("facts" : Str), ("low" : Str), ("numbers" : Str), ("other" : Str)]
noncomputable def ir_learnTable : Ss := (.cons (.asgT [3, 4, 5] (.attr (.var 0) .more)) (.cons (.ite (.bop true (.cons (.cmp .ne (.var 1) (.var 5)) (.cons (.cmp .eq (.count (.var 4) (.var 1)) (.int 1)) (.cons (.cmp .eq (.sub (.sub (.attr (.var 0) .args) (.int 0)) (.int 0)) (.str .r)) .nil)))) (.cons (.expr (.meth .learn (.var 2) (.cons (.sub (.sub (.attr (.var 0) .args) (.int 0)) (.int 1)) (.cons (.call .num (.cons (.bin .add (.var 3) (.index (.var 4) (.var 1))) .nil)) .nil)))) .nil) .nil) .nil))
noncomputable def ps_factsAt : List Str := [("func" : Str), ("number" : Str), ("ways" : Str), ("known" : Str), ("lasting" : Str)]
noncomputable def nm_factsAt : List Str := [("func" : Str), ("number" : Str), ("ways" : Str), ("known" : Str), ("lasting" : Str), ("facts" : Str), ("before" : Str), ("end" : Str)]
noncomputable def ir_factsAt : Ss := (.cons (.asg 5 (.call (.cls .Facts) (.cons (.var 4) .nil))) (.cons (.ite (.bop false (.cons (.cmp .eq (.var 1) (.int 0)) (.cons (.cmp .ne (.call .len (.cons (.sub (.var 2) (.var 1)) .nil)) (.int 1)) (.cons (.cmp .notIn (.sub (.sub (.var 2) (.var 1)) (.int 0)) (.var 3)) .nil)))) (.cons (.ret (.var 5)) .nil) .nil) (.cons (.asg 6 (.sub (.sub (.var 2) (.var 1)) (.int 0))) (.cons (.asg 7 (.attr (.sub (.attr (.var 0) .blocks) (.var 6)) .end_)) (.cons (.ite (.cmp .eq (.attr (.var 7) .op) (.str .branch)) (.cons (.expr (.call .learnBranch (.cons (.var 7) (.cons (.var 1) (.cons (.sub (.var 3) (.var 6)) (.cons (.var 5) .nil)))))) .nil) (.cons (.ite (.cmp .eq (.attr (.var 7) .op) (.str .table)) (.cons (.expr (.call .learnTable (.cons (.var 7) (.cons (.var 1) (.cons (.var 5) .nil))))) .nil) .nil) .nil)) (.cons (.ret (.var 5)) .nil))))))
noncomputable def ps_preds : List Str := [("func" : Str)]
noncomputable def nm_preds : List Str := [("func" : Str), ("found" : Str), ("block" : Str), ("number" : Str)]
noncomputable def ir_preds : Ss := (.cons (.asg 1 (.comp false (.lst true .nil) (.v 0) (.attr (.var 0) .blocks) none [("block" : Str)] [none])) (.cons (.for_ (.v 2) .seq (.attr (.var 0) .blocks) (.cons (.for_ (.v 3) .seq (.call .followers (.cons (.var 2) .nil)) (.cons (.ite (.cmp .notIn (.attr (.var 2) .number) (.sub (.var 1) (.var 3))) (.cons (.expr (.append (.sub (.var 1) (.var 3)) (.attr (.var 2) .number))) .nil) .nil) .nil)) .nil)) (.cons (.ret (.var 1)) .nil)))
noncomputable def ps_postorder : List Str := [("func" : Str)]
noncomputable def nm_postorder : List Str := [("func" : Str), ("found" : Str), ("seen" : Str), ("stack" : Str), ("top" : Str), ("number" : Str)]
noncomputable def ir_postorder : Ss := (.cons (.asg 1 (.lst true .nil)) (.cons (.asg 2 (.set1 0)) (.cons (.asg 3 (.lst true (.cons (.lst true (.cons (.int 0) (.cons (.call .followers (.cons (.sub (.attr (.var 0) .blocks) (.int 0)) .nil)) (.cons (.int 0) .nil)))) .nil))) (.cons (.while_ (.var 3) (.cons (.asg 4 (.sub (.var 3) (.neg (.int 1)))) (.cons (.ite (.cmp .eq (.sub (.var 4) (.int 2)) (.call .len (.cons (.sub (.var 4) (.int 1)) .nil))) (.cons (.expr (.append (.var 1) (.sub (.var 4) (.int 0)))) (.cons (.expr (.pop (.var 3))) (.cons .cont .nil))) .nil) (.cons (.asg 5 (.sub (.sub (.var 4) (.int 1)) (.sub (.var 4) (.int 2)))) (.cons (.augS (.var 4) (.int 2) .add (.int 1)) (.cons (.ite (.cmp .notIn (.var 5) (.var 2)) (.cons (.expr (.sadd (.var 2) (.var 5))) (.cons (.expr (.append (.var 3) (.lst true (.cons (.var 5) (.cons (.call .followers (.cons (.sub (.attr (.var 0) .blocks) (.var 5)) .nil)) (.cons (.int 0) .nil)))))) .nil)) .nil) .nil)))))) (.cons (.ret (.var 1)) .nil)))))
noncomputable def ps_order : List Str := [("func" : Str)]
noncomputable def nm_order : List Str := [("func" : Str)]
noncomputable def ir_order : Ss := (.cons (.ret (.rev (.call .postorder (.cons (.var 0) .nil)))) .nil)
noncomputable def ps_draw : List Str := [("well" : Str), ("size" : Str)]
noncomputable def nm_draw : List Str := [("well" : Str), ("size" : Str), ("numbers" : Str), ("place" : Str), ("last" : Str)]
noncomputable def ir_draw : Ss := (.cons (.asgT [2, 3] (.var 0)) (.cons (.asgS (.var 0) (.int 1) (.bin .add (.var 3) (.int 1))) (.cons (.ite (.cmp .eq (.var 3) (.call .len (.cons (.var 2) .nil))) (.cons (.asg 4 (.ite (.neNil (.var 2)) (.sub (.var 2) (.neg (.int 1))) (.int 7))) (.cons (.expr (.append (.var 2) (.bin .mod (.bin .add (.bin .add (.bin .mul (.var 4) (.int 48271)) (.bin .mul (.int 30011) (.var 3))) (.int 13)) (.int 2147483647)))) (.cons (.ret (.bin .mod (.bin .fdiv (.sub (.var 2) (.var 3)) (.int 32)) (.var 1))) .nil))) .nil) (.cons (.ret (.bin .mod (.sub (.var 2) (.var 3)) (.var 1))) .nil))))
noncomputable def ps_operand : List Str := [("well" : Str), ("some" : Str)]
noncomputable def nm_operand : List Str := [("well" : Str), ("some" : Str), ("way" : Str)]
noncomputable def ir_operand : Ss := (.cons (.asg 2 (.call .draw (.cons (.var 0) (.cons (.int 8) .nil)))) (.cons (.ite (.cmp .eq (.var 2) (.int 0)) (.cons (.ret (.tup (.cons (.str .k) (.cons (.sub (.tup (.cons (.int 0) (.cons (.int 1) (.cons (.int 2) (.cons (.int 3) (.cons (.int 8) (.cons (.int 255) (.cons (.int 65535) (.cons (.int 4294967295) .nil))))))))) (.call .draw (.cons (.var 0) (.cons (.int 8) .nil)))) .nil)))) .nil) .nil) (.cons (.ite (.bop true (.cons (.cmp .lt (.var 2) (.int 4)) (.cons (.cmp .gt (.call .len (.cons (.var 1) .nil)) (.int 6)) .nil))) (.cons (.ret (.tup (.cons (.str .r) (.cons (.sub (.var 1) (.bin .sub (.neg (.int 1)) (.call .draw (.cons (.var 0) (.cons (.int 3) .nil))))) .nil)))) .nil) .nil) (.cons (.ret (.tup (.cons (.str .r) (.cons (.sub (.var 1) (.call .draw (.cons (.var 0) (.cons (.call .len (.cons (.var 1) .nil)) .nil)))) .nil)))) .nil))))
noncomputable def ps_made : List Str := [("well" : Str), ("goal" : Str), ("some" : Str)]
noncomputable def nm_made : List Str := [("well" : Str), ("goal" : Str), ("some" : Str), ("kind" : Str), ("verb" : Str), ("wide" : Str)]
noncomputable def ir_made : Ss := (.cons (.asg 3 (.call .draw (.cons (.var 0) (.cons (.int 9) .nil)))) (.cons (.ite (.cmp .lt (.var 3) (.int 4)) (.cons (.asg 4 (.sub (.glob .TWO) (.call .draw (.cons (.var 0) (.cons (.int 13) .nil))))) (.cons (.ite (.cmp .in_ (.var 4) (.tup (.cons (.str .shl) (.cons (.str .shr) (.cons (.str .sar) .nil))))) (.cons (.ret (.fz (.call (.cls .Step) (.cons (.var 4) (.cons (.var 1) (.cons (.lst false (.cons (.call .operand (.cons (.var 0) (.cons (.var 2) .nil))) (.cons (.tup (.cons (.str .k) (.cons (.call .draw (.cons (.var 0) (.cons (.int 32) .nil))) .nil))) .nil))) (.cons (.int 0) .nil))))))) .nil) .nil) (.cons (.ret (.fz (.call (.cls .Step) (.cons (.var 4) (.cons (.var 1) (.cons (.lst false (.cons (.call .operand (.cons (.var 0) (.cons (.var 2) .nil))) (.cons (.call .operand (.cons (.var 0) (.cons (.var 2) .nil))) .nil))) (.cons (.int 0) .nil))))))) .nil))) .nil) (.cons (.ite (.cmp .eq (.var 3) (.int 4)) (.cons (.ret (.fz (.call (.cls .Step) (.cons (.sub (.glob .ONE) (.call .draw (.cons (.var 0) (.cons (.int 6) .nil)))) (.cons (.var 1) (.cons (.lst false (.cons (.call .operand (.cons (.var 0) (.cons (.var 2) .nil))) .nil)) (.cons (.int 0) .nil))))))) .nil) .nil) (.cons (.ite (.cmp .lt (.var 3) (.int 7)) (.cons (.ret (.fz (.call (.cls .Step) (.cons (.str .copy) (.cons (.var 1) (.cons (.lst false (.cons (.call .operand (.cons (.var 0) (.cons (.var 2) .nil))) .nil)) (.cons (.int 0) .nil))))))) .nil) .nil) (.cons (.ite (.cmp .eq (.var 3) (.int 7)) (.cons (.asg 5 (.sub (.tup (.cons (.int 1) (.cons (.int 2) (.cons (.int 4) .nil)))) (.call .draw (.cons (.var 0) (.cons (.int 3) .nil))))) (.cons (.ret (.fz (.call (.cls .Step) (.cons (.str .load) (.cons (.var 1) (.cons (.lst false (.cons (.tup (.cons (.str .k) (.cons (.bin .add (.glob .PLACE) (.bin .mul (.int 4) (.call .draw (.cons (.var 0) (.cons (.int 2) .nil))))) .nil))) .nil)) (.cons (.tup (.cons (.var 5) (.cons (.cmp .eq (.call .draw (.cons (.var 0) (.cons (.int 2) .nil))) (.int 1)) .nil))) .nil))))))) .nil)) .nil) (.cons (.ite (.cmp .eq (.call .draw (.cons (.var 0) (.cons (.int 2) .nil))) (.int 0)) (.cons (.ret (.fz (.call (.cls .Step) (.cons (.str .const) (.cons (.var 1) (.cons (.lst false (.cons (.tup (.cons (.str .k) (.cons (.call .draw (.cons (.var 0) (.cons (.int 300) .nil))) .nil))) .nil)) (.cons (.int 0) .nil))))))) .nil) .nil) (.cons (.ret (.fz (.call (.cls .Step) (.cons (.str .name) (.cons (.var 1) (.cons (.lst false .nil) (.cons (.tup (.cons (.str .g) (.cons (.bin .mul (.int 4) (.call .draw (.cons (.var 0) (.cons (.int 2) .nil)))) .nil))) .nil))))))) .nil)))))))
noncomputable def ps_acts : List Str := [("well" : Str), ("at" : Str), ("many" : Str), ("lots" : Str), ("first" : Str)]
noncomputable def nm_acts : List Str := [("well" : Str), ("at" : Str), ("many" : Str), ("lots" : Str), ("first" : Str), ("some" : Str), ("other" : Str), ("acts" : Str), ("turn" : Str), ("way" : Str)]
noncomputable def ir_acts : Ss := (.cons (.asg 5 (.lst false (.cons (.int 0) (.cons (.int 1) (.cons (.int 2) (.cons (.int 3) (.cons (.int 4) .nil))))))) (.cons (.for_ (.v 6) .seq (.sub (.glob .SEEN) (.var 1)) (.cons (.asg 5 (.cat (.var 5) (.sub (.var 3) (.var 6)))) .nil)) (.cons (.asg 7 (.lst true .nil)) (.cons (.for_ (.v 8) .range (.var 2) (.cons (.asg 9 (.call .draw (.cons (.var 0) (.cons (.int 6) .nil)))) (.cons (.ite (.cmp .eq (.var 9) (.int 0)) (.cons (.expr (.append (.var 7) (.fz (.call (.cls .Step) (.cons (.str .store) (.cons (.neg (.int 1)) (.cons (.lst false (.cons (.tup (.cons (.str .k) (.cons (.bin .add (.glob .PLACE) (.bin .mul (.int 4) (.call .draw (.cons (.var 0) (.cons (.int 2) .nil))))) .nil))) (.cons (.call .operand (.cons (.var 0) (.cons (.var 5) .nil))) .nil))) (.cons (.int 2) .nil)))))))) .nil) (.cons (.ite (.cmp .eq (.var 9) (.int 1)) (.cons (.expr (.append (.var 7) (.call .made (.cons (.var 0) (.cons (.bin .add (.int 2) (.call .draw (.cons (.var 0) (.cons (.int 2) .nil)))) (.cons (.var 5) .nil)))))) .nil) (.cons (.expr (.append (.var 7) (.call .made (.cons (.var 0) (.cons (.var 4) (.cons (.var 5) .nil)))))) (.cons (.asg 5 (.cat (.var 5) (.lst false (.cons (.var 4) .nil)))) (.cons (.expr (.append (.sub (.var 3) (.var 1)) (.var 4))) (.cons (.asg 4 (.bin .add (.var 4) (.int 1))) .nil))))) .nil)) .nil))) (.cons (.ret (.tup (.cons (.var 7) (.cons (.var 5) (.cons (.var 4) .nil))))) .nil)))))
noncomputable def ps_way : List Str := [("well" : Str), ("acts" : Str), ("some" : Str), ("first" : Str)]
noncomputable def nm_way : List Str := [("well" : Str), ("acts" : Str), ("some" : Str), ("first" : Str), ("kind" : Str), ("verb" : Str), ("asked" : Str)]
noncomputable def ir_way : Ss := (.cons (.asg 4 (.call .draw (.cons (.var 0) (.cons (.int 4) .nil)))) (.cons (.ite (.cmp .lt (.var 4) (.int 2)) (.cons (.asg 5 (.sub (.tup (.cons (.str .eq) (.cons (.str .ne) (.cons (.str .lt) (.cons (.str .ltu) .nil))))) (.call .draw (.cons (.var 0) (.cons (.int 4) .nil))))) (.cons (.expr (.append (.var 1) (.fz (.call (.cls .Step) (.cons (.var 5) (.cons (.var 3) (.cons (.lst false (.cons (.tup (.cons (.str .r) (.cons (.sub (.var 2) (.call .draw (.cons (.var 0) (.cons (.call .len (.cons (.var 2) .nil)) .nil)))) .nil))) (.cons (.tup (.cons (.str .k) (.cons (.call .draw (.cons (.var 0) (.cons (.int 3) .nil))) .nil))) .nil))) (.cons (.int 0) .nil)))))))) (.cons (.ret (.fz (.call (.cls .Step) (.cons (.str .branch) (.cons (.neg (.int 1)) (.cons (.lst false (.cons (.tup (.cons (.str .r) (.cons (.var 3) .nil))) .nil)) (.cons (.tup (.cons (.int 2) (.cons (.int 3) .nil))) .nil))))))) .nil))) .nil) (.cons (.asg 6 (.tup (.cons (.str .r) (.cons (.sub (.var 2) (.call .draw (.cons (.var 0) (.cons (.call .len (.cons (.var 2) .nil)) .nil)))) .nil)))) (.cons (.ite (.cmp .eq (.var 4) (.int 2)) (.cons (.ret (.fz (.call (.cls .Step) (.cons (.str .branch) (.cons (.neg (.int 1)) (.cons (.lst false (.cons (.var 6) .nil)) (.cons (.tup (.cons (.int 3) (.cons (.int 2) .nil))) .nil))))))) .nil) .nil) (.cons (.ret (.fz (.call (.cls .Step) (.cons (.str .table) (.cons (.neg (.int 1)) (.cons (.lst false (.cons (.var 6) .nil)) (.cons (.tup (.cons (.call .draw (.cons (.var 0) (.cons (.int 2) .nil))) (.cons (.lst false (.cons (.int 2) .nil)) (.cons (.int 3) .nil)))) .nil))))))) .nil)))))
noncomputable def ps_func : List Str := [("well" : Str)]
noncomputable def nm_func : List Str := [("well" : Str), ("drawn" : Str), ("lots" : Str), ("first" : Str), ("at" : Str), ("here" : Str), ("acts" : Str), ("some" : Str), ("ahead" : Str)]
noncomputable def ir_func : Ss := (.cons (.asg 1 (.call (.cls .Func) (.cons (.str .drawn) .nil))) (.cons (.asgA (.var 1) .params (.lst false (.cons (.int 0) (.cons (.int 1) .nil)))) (.cons (.asgA (.var 1) .hasv (.bool true)) (.cons (.asgT [2, 3] (.tup (.cons (.lst false (.cons (.lst true .nil) (.cons (.lst true .nil) (.cons (.lst true .nil) (.cons (.lst true .nil) (.cons (.lst true .nil) (.cons (.lst true .nil) .nil))))))) (.cons (.int 5) .nil)))) (.cons (.for_ (.v 4) .range (.int 6) (.cons (.asg 5 (.call (.cls .Block) (.cons (.var 4) .nil))) (.cons (.asgT [6, 7, 3] (.call .acts (.cons (.var 0) (.cons (.var 4) (.cons (.sub (.tup (.cons (.int 2) (.cons (.int 3) (.cons (.int 2) (.cons (.int 2) (.cons (.int 2) (.cons (.int 1) .nil))))))) (.var 4)) (.cons (.var 2) (.cons (.var 3) .nil))))))) (.cons (.ite (.cmp .eq (.var 4) (.int 0)) (.cons (.asg 8 (.lst false (.cons (.fz (.call (.cls .Step) (.cons (.str .copy) (.cons (.int 2) (.cons (.lst false (.cons (.tup (.cons (.str .r) (.cons (.int 0) .nil))) .nil)) (.cons (.int 0) .nil)))))) (.cons (.fz (.call (.cls .Step) (.cons (.str .const) (.cons (.int 3) (.cons (.lst false (.cons (.tup (.cons (.str .k) (.cons (.int 1) .nil))) .nil)) (.cons (.int 0) .nil)))))) .nil)))) (.cons (.asg 6 (.cat (.cat (.var 8) (.lst false (.cons (.fz (.call (.cls .Step) (.cons (.str .const) (.cons (.int 4) (.cons (.lst false (.cons (.tup (.cons (.str .k) (.cons (.int 5) .nil))) .nil)) (.cons (.int 0) .nil)))))) .nil))) (.var 6))) .nil)) .nil) (.cons (.asgA (.var 5) .end_ (.fz (.call (.cls .Step) (.cons (.str .jump) (.cons (.neg (.int 1)) (.cons (.lst false .nil) (.cons (.ite (.cmp .eq (.var 4) (.int 0)) (.int 1) (.int 4)) .nil))))))) (.cons (.ite (.cmp .eq (.var 4) (.int 1)) (.cons (.asgA (.var 5) .end_ (.call .way (.cons (.var 0) (.cons (.var 6) (.cons (.var 7) (.cons (.var 3) .nil)))))) (.cons (.asg 3 (.bin .add (.var 3) (.int 1))) .nil)) .nil) (.cons (.ite (.cmp .eq (.var 4) (.int 4)) (.cons (.expr (.append (.var 6) (.fz (.call (.cls .Step) (.cons (.str .add) (.cons (.int 2) (.cons (.lst false (.cons (.tup (.cons (.str .r) (.cons (.int 2) .nil))) (.cons (.tup (.cons (.str .k) (.cons (.int 3) .nil))) .nil))) (.cons (.int 0) .nil)))))))) (.cons (.expr (.append (.var 6) (.fz (.call (.cls .Step) (.cons (.str .shr) (.cons (.int 4) (.cons (.lst false (.cons (.tup (.cons (.str .r) (.cons (.int 4) .nil))) (.cons (.tup (.cons (.str .k) (.cons (.int 1) .nil))) .nil))) (.cons (.int 0) .nil)))))))) (.cons (.asgA (.var 5) .end_ (.fz (.call (.cls .Step) (.cons (.str .branch) (.cons (.neg (.int 1)) (.cons (.lst false (.cons (.tup (.cons (.str .r) (.cons (.int 4) .nil))) .nil)) (.cons (.tup (.cons (.int 1) (.cons (.int 5) .nil))) .nil))))))) .nil))) .nil) (.cons (.ite (.cmp .eq (.var 4) (.int 5)) (.cons (.asgA (.var 5) .end_ (.fz (.call (.cls .Step) (.cons (.str .give) (.cons (.neg (.int 1)) (.cons (.lst false (.cons (.tup (.cons (.str .r) (.cons (.sub (.var 7) (.call .draw (.cons (.var 0) (.cons (.call .len (.cons (.var 7) .nil)) .nil)))) .nil))) .nil)) (.cons (.int 0) .nil))))))) .nil) .nil) (.cons (.frz 6) (.cons (.asgA (.var 5) .steps (.var 6)) (.cons (.frz 5) (.cons (.expr (.append (.attr (.var 1) .blocks) (.var 5))) .nil)))))))))))) (.cons (.asgA (.var 1) .registers (.var 3)) (.cons (.frzF 1 .blocks) (.cons (.frz 1) (.cons (.ret (.var 1)) .nil)))))))))
noncomputable def ps_said : List Str := [("facts" : Str), ("act" : Str)]
noncomputable def nm_said : List Str := [("facts" : Str), ("act" : Str)]
noncomputable def ir_said : Ss := (.cons (.ret (.comp false (.tup (.cons (.var 1) (.cons (.meth .best (.var 2) (.cons (.tup (.cons (.var 0) (.cons (.var 1) .nil))) .nil)) (.cons (.meth .shape (.var 2) (.cons (.tup (.cons (.var 0) (.cons (.var 1) .nil))) .nil)) .nil)))) (.t [0, 1]) (.attr (.var 1) .args) (some (.cmp .eq (.var 0) (.str .r))) [("kind" : Str), ("which" : Str), ("facts" : Str)] [none, none, some 0])) .nil)
noncomputable def ps_allSaid : List Str := [("drawn" : Str)]
noncomputable def nm_allSaid : List Str := [("drawn" : Str), ("lasting" : Str), ("ways" : Str), ("known" : Str), ("found" : Str), ("number" : Str), ("facts" : Str), ("rows" : Str), ("act" : Str)]
noncomputable def ir_allSaid : Ss := (.cons (.asgT [1, 2, 3, 4] (.tup (.cons (.call .lastingOf (.cons (.var 0) .nil)) (.cons (.call .preds (.cons (.var 0) .nil)) (.cons (.dict [] .nil) (.cons (.dict [] .nil) .nil)))))) (.cons (.for_ (.v 5) .seq (.call .order (.cons (.var 0) .nil)) (.cons (.asg 6 (.call .factsAt (.cons (.var 0) (.cons (.var 5) (.cons (.var 2) (.cons (.var 3) (.cons (.var 1) .nil))))))) (.cons (.asg 7 (.lst true .nil)) (.cons (.for_ (.v 8) .seq (.attr (.sub (.attr (.var 0) .blocks) (.var 5)) .steps) (.cons (.expr (.append (.var 7) (.call .said (.cons (.var 6) (.cons (.var 8) .nil))))) (.cons (.ite (.cmp .ge (.attr (.var 8) .dst) (.int 0)) (.cons (.expr (.meth .passStep (.var 6) (.cons (.var 8) .nil))) .nil) .nil) .nil))) (.cons (.expr (.append (.var 7) (.call .said (.cons (.var 6) (.cons (.attr (.sub (.attr (.var 0) .blocks) (.var 5)) .end_) .nil))))) (.cons (.asgS (.var 3) (.var 5) (.var 6)) (.cons (.frz 7) (.cons (.asgS (.var 4) (.var 5) (.var 7)) .nil)))))))) (.cons (.frz 4) (.cons (.ret (.var 4)) .nil))))
noncomputable def ps_signed : List Str := [("value" : Str)]
noncomputable def nm_signed : List Str := [("value" : Str)]
noncomputable def ir_signed : Ss := (.cons (.ret (.ite (.cmp .ge (.var 0) (.int 2147483648)) (.bin .sub (.var 0) (.glob .SIZE)) (.var 0))) .nil)
noncomputable def ps_word : List Str := [("verb" : Str), ("one" : Str), ("two" : Str)]
noncomputable def nm_word : List Str := [("verb" : Str), ("one" : Str), ("two" : Str)]
noncomputable def ir_word : Ss := (.cons (.ite (.cmp .eq (.var 0) (.str .add)) (.cons (.ret (.bin .add (.var 1) (.var 2))) .nil) .nil) (.cons (.ite (.cmp .eq (.var 0) (.str .sub)) (.cons (.ret (.bin .sub (.var 1) (.var 2))) .nil) .nil) (.cons (.ite (.cmp .eq (.var 0) (.str .mul)) (.cons (.ret (.bin .mul (.var 1) (.var 2))) .nil) .nil) (.cons (.ite (.cmp .eq (.var 0) (.str .and)) (.cons (.ret (.bin .and (.var 1) (.var 2))) .nil) .nil) (.cons (.ite (.cmp .eq (.var 0) (.str .or)) (.cons (.ret (.bin .or (.var 1) (.var 2))) .nil) .nil) (.cons (.ite (.cmp .eq (.var 0) (.str .xor)) (.cons (.ret (.bin .xor (.var 1) (.var 2))) .nil) .nil) (.cons (.ite (.cmp .eq (.var 0) (.str .shl)) (.cons (.ret (.bin .mul (.var 1) (.bin .pow (.int 2) (.bin .mod (.var 2) (.int 32))))) .nil) .nil) (.cons (.ite (.cmp .eq (.var 0) (.str .shr)) (.cons (.ret (.bin .fdiv (.var 1) (.bin .pow (.int 2) (.bin .mod (.var 2) (.int 32))))) .nil) .nil) (.cons (.ite (.cmp .eq (.var 0) (.str .sar)) (.cons (.ret (.bin .fdiv (.call .signed (.cons (.var 1) .nil)) (.bin .pow (.int 2) (.bin .mod (.var 2) (.int 32))))) .nil) .nil) (.cons (.ite (.cmp .eq (.var 0) (.str .lt)) (.cons (.ret (.call .int (.cons (.cmp .lt (.call .signed (.cons (.var 1) .nil)) (.call .signed (.cons (.var 2) .nil))) .nil))) .nil) .nil) (.cons (.ite (.cmp .eq (.var 0) (.str .ltu)) (.cons (.ret (.call .int (.cons (.cmp .lt (.var 1) (.var 2)) .nil))) .nil) .nil) (.cons (.ret (.ite (.cmp .eq (.var 0) (.str .eq)) (.call .int (.cons (.cmp .eq (.var 1) (.var 2)) .nil)) (.call .int (.cons (.cmp .ne (.var 1) (.var 2)) .nil)))) .nil))))))))))))
noncomputable def ps_turned : List Str := [("verb" : Str), ("one" : Str)]
noncomputable def nm_turned : List Str := [("verb" : Str), ("one" : Str)]
noncomputable def ir_turned : Ss := (.cons (.ite (.cmp .eq (.var 0) (.str .neg)) (.cons (.ret (.neg (.var 1))) .nil) .nil) (.cons (.ite (.cmp .eq (.var 0) (.str .not)) (.cons (.ret (.bin .sub (.neg (.int 1)) (.var 1))) .nil) .nil) (.cons (.ite (.cmp .eq (.var 0) (.str .sx8)) (.cons (.ret (.bin .sub (.bin .mod (.bin .add (.var 1) (.int 128)) (.int 256)) (.int 128))) .nil) .nil) (.cons (.ite (.cmp .eq (.var 0) (.str .sx16)) (.cons (.ret (.bin .sub (.bin .mod (.bin .add (.var 1) (.int 32768)) (.int 65536)) (.int 32768))) .nil) .nil) (.cons (.ite (.cmp .eq (.var 0) (.str .zx8)) (.cons (.ret (.bin .mod (.var 1) (.int 256))) .nil) .nil) (.cons (.ret (.ite (.cmp .eq (.var 0) (.str .zx16)) (.bin .mod (.var 1) (.int 65536)) (.var 1))) .nil))))))
noncomputable def ps_worked : List Str := [("verb" : Str), ("sides" : Str), ("more" : Str)]
noncomputable def nm_worked : List Str := [("verb" : Str), ("sides" : Str), ("more" : Str), ("value" : Str)]
noncomputable def ir_worked : Ss := (.cons (.ite (.cmp .eq (.var 0) (.str .name)) (.cons (.ret (.bin .mod (.bin .add (.glob .PLACE) (.sub (.var 2) (.int 1))) (.glob .SIZE))) .nil) .nil) (.cons (.asg 3 (.ite (.cmp .eq (.call .len (.cons (.var 1) .nil)) (.int 2)) (.call .word (.cons (.var 0) (.cons (.sub (.var 1) (.int 0)) (.cons (.sub (.var 1) (.int 1)) .nil)))) (.call .turned (.cons (.var 0) (.cons (.sub (.var 1) (.int 0)) .nil))))) (.cons (.ret (.bin .mod (.var 3) (.glob .SIZE))) .nil)))
noncomputable def ps_loaded : List Str := [("value" : Str), ("more" : Str)]
noncomputable def nm_loaded : List Str := [("value" : Str), ("more" : Str), ("wide" : Str), ("low" : Str)]
noncomputable def ir_loaded : Ss := (.cons (.asg 2 (.bin .pow (.int 256) (.sub (.var 1) (.int 0)))) (.cons (.asg 3 (.bin .mod (.var 0) (.var 2))) (.cons (.ret (.bin .mod (.ite (.bop true (.cons (.sub (.var 1) (.int 1)) (.cons (.cmp .ge (.var 3) (.bin .fdiv (.var 2) (.int 2))) .nil))) (.bin .sub (.var 3) (.var 2)) (.var 3)) (.glob .SIZE))) .nil)))
noncomputable def ps_read : List Str := [("memory" : Str), ("at" : Str)]
noncomputable def nm_read : List Str := [("memory" : Str), ("at" : Str), ("value" : Str), ("place" : Str)]
noncomputable def ir_read : Ss := (.cons (.asg 2 (.int 0)) (.cons (.for_ (.v 3) .range (.int 4) (.cons (.asg 2 (.bin .add (.var 2) (.bin .mul (.bin .mod (.dget (.var 0) (.bin .add (.var 1) (.var 3)) (.bin .add (.bin .mul (.int 17) (.var 3)) (.int 200))) (.int 256)) (.bin .pow (.int 256) (.var 3))))) .nil)) (.cons (.ret (.var 2)) .nil)))
noncomputable def ps_isSo : List Str := [("held" : Str), ("row" : Str)]
noncomputable def nm_isSo : List Str := [("held" : Str), ("row" : Str), ("which" : Str), ("best" : Str), ("shape" : Str), ("verb" : Str), ("args" : Str), ("more" : Str), ("sides" : Str)]
noncomputable def ir_isSo : Ss := (.cons (.asgT [2, 3, 4] (.var 1)) (.cons (.ite (.bop false (.cons (.bop true (.cons (.cmp .eq (.sub (.var 3) (.int 0)) (.str .r)) (.cons (.cmp .notIn (.sub (.var 3) (.int 1)) (.var 0)) .nil))) (.cons (.cmp .notIn (.var 2) (.var 0)) .nil))) (.cons (.ret (.bool false)) .nil) .nil) (.cons (.ite (.cmp .ne (.ite (.cmp .eq (.sub (.var 3) (.int 0)) (.str .r)) (.sub (.var 0) (.sub (.var 3) (.int 1))) (.bin .mod (.sub (.var 3) (.int 1)) (.glob .SIZE))) (.sub (.var 0) (.var 2))) (.cons (.ret (.bool false)) .nil) .nil) (.cons (.ite (.cmp .is_ (.var 4) .none) (.cons (.ret (.bool true)) .nil) .nil) (.cons (.asgT [5, 6, 7] (.var 4)) (.cons (.ite (.cmp .eq (.var 5) (.str .load)) (.cons (.ret (.cmp .eq (.sub (.var 0) (.var 2)) (.call .loaded (.cons (.sub (.var 0) (.var 2)) (.cons (.var 7) .nil))))) .nil) .nil) (.cons (.ite (.neNil (.comp false (.var 1) (.t [0, 1]) (.var 6) (some (.bop true (.cons (.cmp .eq (.var 0) (.str .r)) (.cons (.cmp .notIn (.var 1) (.var 2)) .nil)))) [("kind" : Str), ("value" : Str), ("held" : Str)] [none, none, some 0])) (.cons (.ret (.bool false)) .nil) .nil) (.cons (.asg 8 (.comp false (.ite (.cmp .eq (.var 0) (.str .r)) (.sub (.var 2) (.var 1)) (.var 1)) (.t [0, 1]) (.var 6) none [("kind" : Str), ("value" : Str), ("held" : Str)] [none, none, some 0])) (.cons (.ret (.cmp .eq (.call .worked (.cons (.var 5) (.cons (.var 8) (.cons (.var 7) .nil)))) (.sub (.var 0) (.var 2)))) .nil)))))))))
noncomputable def ps_walk : List Str := [("drawn" : Str), ("said" : Str), ("pair" : Str)]
noncomputable def nm_walk : List Str := [("drawn" : Str), ("said" : Str), ("pair" : Str), ("held" : Str), ("memory" : Str), ("at" : Str), ("lap" : Str), ("here" : Str), ("place" : Str), ("act" : Str), ("sides" : Str), ("end" : Str)]
noncomputable def ir_walk : Ss := (.cons (.asgT [3, 4, 5] (.tup (.cons (.dict [0, 1] (.cons (.sub (.var 2) (.int 0)) (.cons (.sub (.var 2) (.int 1)) .nil))) (.cons (.dict [] .nil) (.cons (.int 0) .nil))))) (.cons (.for_ (.v 6) .range (.int 16) (.cons (.asg 7 (.sub (.attr (.var 0) .blocks) (.var 5))) (.cons (.for_ (.t [8, 9]) .enum (.attr (.var 7) .steps) (.cons (.ite (.not (.call .all (.cons (.comp false (.call .isSo (.cons (.var 1) (.cons (.var 0) .nil))) (.v 0) (.sub (.sub (.var 1) (.var 5)) (.var 8)) none [("row" : Str), ("held" : Str)] [none, some 3]) .nil))) (.cons (.ret (.bool false)) .nil) .nil) (.cons (.asg 10 (.comp false (.ite (.cmp .eq (.var 0) (.str .r)) (.sub (.var 2) (.var 1)) (.var 1)) (.t [0, 1]) (.attr (.var 9) .args) none [("kind" : Str), ("value" : Str), ("held" : Str)] [none, none, some 3])) (.cons (.ite (.cmp .eq (.attr (.var 9) .op) (.str .store)) (.cons (.asgS (.var 4) (.sub (.var 10) (.int 0)) (.bin .mod (.sub (.var 10) (.int 1)) (.int 256))) (.cons (.asgS (.var 4) (.bin .add (.sub (.var 10) (.int 0)) (.int 1)) (.bin .mod (.bin .fdiv (.sub (.var 10) (.int 1)) (.int 256)) (.int 256))) .nil)) (.cons (.ite (.cmp .eq (.attr (.var 9) .op) (.str .load)) (.cons (.asgS (.var 3) (.attr (.var 9) .dst) (.call .loaded (.cons (.call .read (.cons (.var 4) (.cons (.sub (.var 10) (.int 0)) .nil))) (.cons (.attr (.var 9) .more) .nil)))) .nil) (.cons (.asgS (.var 3) (.attr (.var 9) .dst) (.call .worked (.cons (.attr (.var 9) .op) (.cons (.var 10) (.cons (.attr (.var 9) .more) .nil))))) .nil)) .nil)) .nil)))) (.cons (.asg 11 (.attr (.var 7) .end_)) (.cons (.ite (.not (.call .all (.cons (.comp false (.call .isSo (.cons (.var 1) (.cons (.var 0) .nil))) (.v 0) (.sub (.sub (.var 1) (.var 5)) (.neg (.int 1))) none [("row" : Str), ("held" : Str)] [none, some 3]) .nil))) (.cons (.ret (.bool false)) .nil) .nil) (.cons (.ite (.cmp .eq (.attr (.var 11) .op) (.str .give)) (.cons (.ret (.bool true)) .nil) .nil) (.cons (.ite (.cmp .eq (.attr (.var 11) .op) (.str .jump)) (.cons (.asg 5 (.attr (.var 11) .more)) .nil) (.cons (.ite (.cmp .eq (.attr (.var 11) .op) (.str .branch)) (.cons (.asg 5 (.ite (.cmp .ne (.sub (.var 3) (.sub (.sub (.attr (.var 11) .args) (.int 0)) (.int 1))) (.int 0)) (.sub (.attr (.var 11) .more) (.int 0)) (.sub (.attr (.var 11) .more) (.int 1)))) .nil) (.cons (.asg 5 (.ite (.cmp .eq (.sub (.var 3) (.sub (.sub (.attr (.var 11) .args) (.int 0)) (.int 1))) (.sub (.attr (.var 11) .more) (.int 0))) (.int 2) (.int 3))) .nil)) .nil)) .nil))))))) (.cons (.ret (.bool false)) .nil)))
noncomputable def ps_shown : List Str := [("drawn" : Str)]
noncomputable def nm_shown : List Str := [("drawn" : Str)]
noncomputable def ir_shown : Ss := (.cons (.ret (.comp false (.comp false (.tup (.cons (.attr (.var 0) .op) (.cons (.attr (.var 0) .dst) (.cons (.call .list (.cons (.attr (.var 0) .args) .nil)) (.cons (.attr (.var 0) .more) .nil))))) (.v 0) (.cat (.attr (.var 0) .steps) (.lst false (.cons (.attr (.var 0) .end_) .nil))) none [("one" : Str)] [none]) (.v 0) (.attr (.var 0) .blocks) none [("here" : Str)] [none])) .nil)
noncomputable def ps_numbersKnown : List Str := [("drawn" : Str), ("said" : Str)]
noncomputable def nm_numbersKnown : List Str := [("drawn" : Str), ("said" : Str), ("often" : Str), ("number" : Str), ("here" : Str), ("act" : Str), ("at" : Str), ("rows" : Str), ("which" : Str), ("best" : Str), ("shape" : Str)]
noncomputable def ir_numbersKnown : Ss := (.cons (.asgT [2, 3] (.tup (.cons (.dict [0, 1] (.cons (.int 1) (.cons (.int 1) .nil))) (.cons (.dict [] .nil) .nil)))) (.cons (.for_ (.v 4) .seq (.attr (.var 0) .blocks) (.cons (.for_ (.v 5) .seq (.attr (.var 4) .steps) (.cons (.asgS (.var 2) (.attr (.var 5) .dst) (.bin .add (.dget (.var 2) (.attr (.var 5) .dst) (.int 0)) (.int 1))) (.cons (.ite (.bop true (.cons (.cmp .in_ (.attr (.var 5) .op) (.tup (.cons (.str .copy) (.cons (.str .const) .nil)))) (.cons (.cmp .eq (.sub (.sub (.attr (.var 5) .args) (.int 0)) (.int 0)) (.str .k)) .nil))) (.cons (.asgS (.var 3) (.attr (.var 5) .dst) (.sub (.attr (.var 5) .args) (.int 0))) .nil) .nil) .nil))) .nil)) (.cons (.for_ (.v 6) .seq (.call .sorted (.cons (.var 1) .nil)) (.cons (.for_ (.v 7) .seq (.sub (.var 1) (.var 6)) (.cons (.for_ (.t [8, 9, 10]) .seq (.var 7) (.cons (.ite (.bop true (.cons (.cmp .in_ (.var 8) (.var 3)) (.cons (.cmp .eq (.sub (.var 2) (.var 8)) (.int 1)) (.cons (.cmp .ne (.var 9) (.sub (.var 3) (.var 8))) .nil)))) (.cons (.ret (.bool false)) .nil) .nil) .nil)) .nil)) .nil)) (.cons (.ret (.bool true)) .nil))))
noncomputable def ps_law : List Str := [("script" : Str)]
noncomputable def nm_law : List Str := [("script" : Str), ("well" : Str), ("drawn" : Str), ("ahead" : Str), ("said" : Str), ("pairs" : Str)]
noncomputable def ir_law : Ss := (.cons (.asg 1 (.lst true (.cons (.comp true (.bin .mod (.var 0) (.int 2147483647)) (.v 0) (.take (.var 0) 24) none [("number" : Str)] [none]) (.cons (.int 0) .nil)))) (.cons (.asg 2 (.call .func (.cons (.var 1) .nil))) (.cons (.asg 3 (.call .shown (.cons (.var 2) .nil))) (.cons (.asg 4 (.call .allSaid (.cons (.var 2) .nil))) (.cons (.ite (.cmp .ne (.call .shown (.cons (.var 2) .nil)) (.var 3)) (.cons (.ret (.bool false)) .nil) .nil) (.cons (.asg 5 (.lst false (.cons (.tup (.cons (.call .draw (.cons (.var 1) (.cons (.int 4) .nil))) (.cons (.call .draw (.cons (.var 1) (.cons (.int 300) .nil))) .nil))) (.cons (.tup (.cons (.bin .sub (.int 4294967295) (.call .draw (.cons (.var 1) (.cons (.int 2) .nil)))) (.cons (.call .draw (.cons (.var 1) (.cons (.int 3) .nil))) .nil))) .nil)))) (.cons (.ret (.bop true (.cons (.call .numbersKnown (.cons (.var 2) (.cons (.var 4) .nil))) (.cons (.call .all (.cons (.comp false (.call .walk (.cons (.var 2) (.cons (.var 1) (.cons (.var 0) .nil)))) (.v 0) (.var 5) none [("pair" : Str), ("said" : Str), ("drawn" : Str)] [none, some 4, some 2]) .nil)) .nil)))) .nil)))))))
section
variable {X : Cx} {n : Nat}
theorem och_of {α : Type} {o : Option α} {k : α → Prop} {a : α} (e : o = some a) (h : k a) : och o k := by rw [e]; exact h
theorem eq_int {σ : So} (a b : Int) : cmpV σ .eq (.int a) (.int b) = some (decide (a = b)) := rfl
theorem ne_int {σ : So} (a b : Int) : cmpV σ .ne (.int a) (.int b) = some (!decide (a = b)) := rfl
theorem ints_ok (ns : List Int) (k : Nat) : okVs (ns.map .int) k = true := by
  induction ns with
  | nil => rfl
  | cons n ns ih => simp only [List.map_cons, okVs, okV, ih, Bool.and_self]
theorem lt_lid {k : Nat} (h : k < 1000000) : k < lid := h
theorem mul_ok {a b : Int} (ha : a.natAbs < big) (hb : b.natAbs < big) : binV .mul (.int a) (.int b) = some (.int (a * b)) := by
  show (if a.natAbs < big ∧ b.natAbs < big then some (a * b) else none).map V.int = _
  rw [if_pos ⟨ha, hb⟩]; rfl
theorem mod_ok {a b : Int} (h0 : 0 < b) (h1 : b < 18446744073709551616) : binV .mod (.int a) (.int b) = some (.int (a % b)) := by
  show (if 0 < b ∧ b < 18446744073709551616 then some (a % b) else none).map V.int = _
  rw [if_pos ⟨h0, h1⟩]; rfl
theorem fdiv_ok {a b : Int} (h0 : 0 < b) (h1 : b < 18446744073709551616) : binV .fdiv (.int a) (.int b) = some (.int (a / b)) := by
  show (if 0 < b ∧ b < 18446744073709551616 then some (a / b) else none).map V.int = _
  rw [if_pos ⟨h0, h1⟩]; rfl
theorem idx_pos {σ : So} {c : V} {vs : List V} {i : Int} {v : V} (hc : itemsV σ c = some vs) (h : vs.length < lid) (h0 : 0 ≤ i) (e : vs[i.toNat]? = some v) : idxV σ c (.int i) = some v := by
  simp only [idxV, hc, idxL]
  rw [if_neg (Nat.not_le.mpr h), if_pos h0]; exact e
theorem idx_neg {σ : So} {c : V} {vs : List V} {i : Int} {v : V} (hc : itemsV σ c = some vs) (h : vs.length < lid) (h0 : i < 0) (h1 : 0 ≤ (vs.length : Int) + i) (e : vs[((vs.length : Int) + i).toNat]? = some v) : idxV σ c (.int i) = some v := by
  simp only [idxV, hc, idxL]
  rw [if_neg (Nat.not_le.mpr h), if_neg (Int.not_le.mpr h0), if_pos h1]; exact e
noncomputable def Opd.v : Opd → V
  | .k v => .tup [.str .k, .int v]
  | .r x => .tup [.str .r, .int x]
noncomputable def Opd.In (regs : List Int) : Opd → Prop
  | .k v => 0 ≤ v ∧ v < 4294967296
  | .r x => x ∈ regs
structure Sp where
  op : Nm
  dst : Int
  args : List Opd
  more : V
noncomputable def stepFs (a b c d : V) : List (Nm × V) := [(.op, a), (.dst, b), (.args, c), (.more, d), (.volat, .bool false), (.line, .int 0)]
noncomputable def Sp.v (s : Sp) : V := .obj .Step (stepFs (.str s.op) (.int s.dst) (.lst (s.args.map Opd.v)) s.more)
structure Shp where
  op : Nm
  args : List Opd
  more : V
noncomputable def Shp.v (s : Shp) : V := .tup [.str s.op, .lst (s.args.map Opd.v), s.more]
structure Blk where
  number : Int
  steps : List Sp
  end_ : Sp
noncomputable def Blk.v (b : Blk) : V := .obj .Block [(.number, .int b.number), (.steps, .lst (b.steps.map Sp.v)), (.end_, b.end_.v)]
noncomputable def drawnV (bs : List Blk) (r : Int) : V := .obj .Func [(.name, .str .drawn), (.params, .lst [.int 0, .int 1]), (.static_, .bool false), (.slots, .lst []), (.blocks, .lst (bs.map Blk.v)), (.registers, .int r), (.hasv, .bool true)]
noncomputable def turnOf (X : Cx) (n : Nat) (tg : Tg) (body : Ss) : V → Ro → So → (Fl → Ro → So → Prop) → Prop := fun x ρ σ k => och (bindTg σ ρ tg x) fun ρ' => WSs X n body ρ' σ k
noncomputable def turnC (X : Cx) (n : Nat) (caps : Ro) (tg : Tg) (elt : E) (cond : Option E) : V → So → (Option V → So → Prop) → Prop := fun x σ k => och (bindTg σ caps tg x) fun ρ' => match cond with
        | some c => Wt X n c ρ' σ fun b σ => (b = true → W X n elt ρ' σ fun y σ => k (some y) σ) ∧ (b = false → k none σ)
        | none => W X n elt ρ' σ fun y σ => k (some y) σ
inductive RC (X : Cx) (n : Nat) (ρ : Ro) (σ : So) (a c : Ro → So → Prop) (r : V → Ro → So → Prop) : Ss → Prop → Prop
  | ws_nil : RC X n ρ σ a c r .nil (a ρ σ)
  | cs_expr {e : E} {ss : Ss} : RC X n ρ σ a c r (.cons (.expr e) ss) (W X n e ρ σ fun ι σ => WSs X n ss ρ σ (Kn a c r))
  | cs_asg {i : Nat} {e : E} {ss : Ss} : RC X n ρ σ a c r (.cons (.asg i e) ss) (W X n e ρ σ fun v σ => WSs X n ss (setR ρ i v) σ (Kn a c r))
  | cs_asgT {is : List Nat} {e : E} {ss : Ss} : RC X n ρ σ a c r (.cons (.asgT is e) ss) (W X n e ρ σ fun v σ => och (itemsV σ v) fun vs => och (setT ρ is vs) fun ρ' => WSs X n ss ρ' σ (Kn a c r))
  | cs_asgA {m : Nm} {e : E} {o : E} {ss : Ss} : RC X n ρ σ a c r (.cons (.asgA o m e) ss) (W X n e ρ σ fun v σ => W X n o ρ σ fun ov σ => StoA σ ov m v fun σ => WSs X n ss ρ σ (Kn a c r))
  | cs_asgS {e : E} {x : E} {o : E} {ss : Ss} : RC X n ρ σ a c r (.cons (.asgS o x e) ss) (W X n e ρ σ fun v σ => W X n o ρ σ fun ov σ => W X n x ρ σ fun iv σ => StoS σ ov iv v fun σ => WSs X n ss ρ σ (Kn a c r))
  | cs_augA {m : Nm} {op : Bop} {e : E} {o : E} {ss : Ss} : RC X n ρ σ a c r (.cons (.augA o m op e) ss) (W X n o ρ σ fun ov σ => och (fieldsV σ ov) fun p => och (look p.2 m) fun u => W X n e ρ σ fun v σ => och (binV op u v) fun w =>
      StoA σ ov m w fun σ => WSs X n ss ρ σ (Kn a c r))
  | cs_augS {op : Bop} {e : E} {x : E} {o : E} {ss : Ss} : RC X n ρ σ a c r (.cons (.augS o x op e) ss) (W X n o ρ σ fun ov σ => W X n x ρ σ fun iv σ => och (idxV σ ov iv) fun u => W X n e ρ σ fun v σ => och (binV op u v) fun w =>
      AugS σ ov iv w fun σ => WSs X n ss ρ σ (Kn a c r))
  | cs_ret {e : E} {ss : Ss} : RC X n ρ σ a c r (.cons (.ret e) ss) (W X n e ρ σ fun v σ => r v ρ σ)
  | cs_retN {ss : Ss} : RC X n ρ σ a c r (.cons .retN ss) (r .none ρ σ)
  | cs_cont {ss : Ss} : RC X n ρ σ a c r (.cons .cont ss) (c ρ σ)
  | cons {s : S} {ss : Ss} : RC X n ρ σ a c r (.cons s ss) (WS X n s ρ σ (Kn (fun ρ σ => WSs X n ss ρ σ (Kn a c r)) c r))
noncomputable abbrev EC (X : Cx) (n : Nat) (ρ : Ro) (σ : So) (a c : Ro → So → Prop) (r : V → Ro → So → Prop) (e : Ss) (P : Prop) : Prop := RC X n ρ σ a c r e P → P → WSs X n e ρ σ (Kn a c r)
inductive RS (X : Cx) (n : Nat) (ρ : Ro) (σ : So) (a c : Ro → So → Prop) (r : V → Ro → So → Prop) : S → Prop → Prop
  | ws_ite {t : E} {ss : Ss} {tt : Ss} : RS X n ρ σ a c r (.ite t ss tt) (Wt X n t ρ σ fun b σ => (b = true → WSs X n ss ρ σ (Kn a c r)) ∧ (b = false → WSs X n tt ρ σ (Kn a c r)))
  | ws_for {e : E} {body : Ss} {tg : Tg} {kd : It} : RS X n ρ σ a c r (.for_ tg kd e body) (W X n e ρ σ fun v σ => och (itV σ kd v) fun xs => forL (turnOf X n tg body) xs ρ σ (Kn a c r))
  | ws_while {t : E} {body : Ss} : RS X n ρ σ a c r (.while_ t body) (∃ k, whileL (fun ρ σ q => Wt X n t ρ σ q) (fun ρ σ q => WSs X n body ρ σ q) k ρ σ (Kn a c r))
noncomputable abbrev ES (X : Cx) (n : Nat) (ρ : Ro) (σ : So) (a c : Ro → So → Prop) (r : V → Ro → So → Prop) (e : S) (P : Prop) : Prop := RS X n ρ σ a c r e P → P → WS X n e ρ σ (Kn a c r)
inductive RW (X : Cx) (n : Nat) (ρ : Ro) (σ : So) (Q : V → So → Prop) : E → Prop → Prop
  | w_none : RW X n ρ σ Q .none (Q .none σ)
  | w_bool {b : Bool} : RW X n ρ σ Q (.bool b) (Q (.bool b) σ)
  | w_int {i : Int} : RW X n ρ σ Q (.int i) (Q (.int i) σ)
  | w_str {m : Nm} : RW X n ρ σ Q (.str m) (Q (.str m) σ)
  | w_glob {g : Gn} : RW X n ρ σ Q (.glob g) (Q g.val σ)
  | w_tup {es : Es} : RW X n ρ σ Q (.tup es) (Ws X n es ρ σ fun vs σ => vs.length < lid ∧ Q (.tup vs) σ)
  | w_lst {m : Bool} {es : Es} : RW X n ρ σ Q (.lst m es) (Ws X n es ρ σ fun vs σ => newL m vs σ Q)
  | w_dict {ks : List Int} {es : Es} : RW X n ρ σ Q (.dict ks es) (Ws X n es ρ σ fun vs σ => ∀ a, σ a = none → Q (.ref a) (upd σ a (.dI (ks.zip vs))))
  | w_set1 {i : Int} : RW X n ρ σ Q (.set1 i) (∀ a, σ a = none → Q (.ref a) (upd σ a (.set [i])))
  | w_bin {op : Bop} {x : E} {y : E} : RW X n ρ σ Q (.bin op x y) (W X n x ρ σ fun a σ => W X n y ρ σ fun b σ => och (binV op a b) fun v => Q v σ)
  | w_cat {x : E} {y : E} : RW X n ρ σ Q (.cat x y) (W X n x ρ σ fun a σ => W X n y ρ σ fun b σ => och (listV σ a) fun xs => och (listV σ b) fun ys => newL false (xs ++ ys) σ Q)
  | w_neg {x : E} : RW X n ρ σ Q (.neg x) (W X n x ρ σ fun a σ => och (intV a) fun i => Q (.int (-i)) σ)
  | w_cmp {op : Cop} {x : E} {y : E} : RW X n ρ σ Q (.cmp op x y) (W X n x ρ σ fun a σ => W X n y ρ σ fun b σ => och (cmpV σ op a b) fun v => Q (.bool v) σ)
  | w_bop {b : Bool} {es : Es} : RW X n ρ σ Q (.bop b es) (Wb X n b es ρ σ Q)
  | w_ite {x : E} {y : E} {t : E} : RW X n ρ σ Q (.ite t x y) (Wt X n t ρ σ fun b σ => (b = true → W X n x ρ σ Q) ∧ (b = false → W X n y ρ σ Q))
  | w_attr {m : Nm} {x : E} : RW X n ρ σ Q (.attr x m) (W X n x ρ σ fun a σ => och (fieldsV σ a) fun p => och (look p.2 m) fun v => Q v σ)
  | w_sub {x : E} {y : E} : RW X n ρ σ Q (.sub x y) (W X n x ρ σ fun a σ => W X n y ρ σ fun b σ => och (idxV σ a b) fun v => Q v σ)
  | w_take {k : Nat} {x : E} : RW X n ρ σ Q (.take x k) (W X n x ρ σ fun a σ => och (listV σ a) fun xs => xs.length ≤ sizeLine ∧ newL false (xs.take k) σ Q)
  | w_rev {x : E} : RW X n ρ σ Q (.rev x) (W X n x ρ σ fun a σ => och (listV σ a) fun xs => xs.length ≤ sizeLine ∧ newL false xs.reverse σ Q)
  | w_call {f : Fn} {es : Es} : RW X n ρ σ Q (.call f es) (Ws X n es ρ σ fun vs σ => Call X n f vs σ Q)
  | w_meth {f : Fn} {o : E} {es : Es} : RW X n ρ σ Q (.meth f o es) (W X n o ρ σ fun a σ => och (fieldsV σ a) fun p => p.1 = .Facts ∧ noMeth p.2 = true ∧ Ws X n es ρ σ fun vs σ => Call X n f (a :: vs) σ Q)
  | w_append {e : E} {o : E} : RW X n ρ σ Q (.append o e) (W X n o ρ σ fun a σ => (listV σ a).isSome = true ∧ W X n e ρ σ fun v σ => AppQ σ a v Q)
  | w_pop {o : E} : RW X n ρ σ Q (.pop o) (W X n o ρ σ fun a σ => PopQ σ a Q)
  | w_dget {o : E} {k : E} {d : E} : RW X n ρ σ Q (.dget o k d) (W X n o ρ σ fun a σ => (dictV σ a).isSome = true ∧ W X n k ρ σ fun k σ => W X n d ρ σ fun d σ => och (dictV σ a) fun es => och (intV k) fun i => Q ((look es i).getD d) σ)
  | w_fz {e : E} : RW X n ρ σ Q (.fz e) (W X n e ρ σ fun v σ => FzQ σ v Q)
  | w_dpop {o : E} {k : E} : RW X n ρ σ Q (.dpop o k) (W X n o ρ σ fun a σ => (dictV σ a).isSome = true ∧ W X n k ρ σ fun k σ => DpopQ σ a k Q)
  | w_count {e : E} {o : E} : RW X n ρ σ Q (.count o e) (W X n o ρ σ fun a σ => och (oneInt a) fun i => W X n e ρ σ fun v σ => och (intV v) fun j => Q (.int (if i = j then 1 else 0)) σ)
  | w_index {e : E} {o : E} : RW X n ρ σ Q (.index o e) (W X n o ρ σ fun a σ => och (oneInt a) fun i => W X n e ρ σ fun v σ => v = .int i ∧ Q (.int 0) σ)
  | w_sadd {e : E} {o : E} : RW X n ρ σ Q (.sadd o e) (W X n o ρ σ fun a σ => isSetV σ a = true ∧ W X n e ρ σ fun v σ => SaddQ σ a v Q)
  | w_comp {m : Bool} {x elt : E} {tg : Tg} {cond : Option E} {nm : List Str} {caps : List (Option Nat)} : RW X n ρ σ Q (.comp m elt tg x cond nm caps) (W X n x ρ σ fun a σ => och (lstV a) fun xs => xs.length < lid ∧ compL (turnC X n (capR ρ caps) tg elt cond) xs [] σ fun ys σ => newL m ys σ Q)
noncomputable abbrev EW (X : Cx) (n : Nat) (ρ : Ro) (σ : So) (Q : V → So → Prop) (e : E) (P : Prop) : Prop := RW X n ρ σ Q e P → P → W X n e ρ σ Q
inductive RT (X : Cx) (n : Nat) (ρ : Ro) (σ : So) (T : Bool → So → Prop) : E → Prop → Prop
  | wt_not {e : E} : RT X n ρ σ T (.not e) (Wt X n e ρ σ fun b σ => T (!b) σ)
  | wt_bop {b : Bool} {es : Es} : RT X n ρ σ T (.bop b es) (Wbt X n b es ρ σ T)
  | wt_cmp {op : Cop} {x : E} {y : E} : RT X n ρ σ T (.cmp op x y) (W X n x ρ σ fun a σ => W X n y ρ σ fun b σ => och (cmpV σ op a b) fun v => T v σ)
  | wt_neNil {x : E} : RT X n ρ σ T (.neNil x) (W X n x ρ σ fun a σ => och (listV σ a) fun xs => okVs xs 7 = true ∧ T (!xs.isEmpty) σ)
  | wt_sub {x : E} {y : E} : RT X n ρ σ T (.sub x y) (W X n x ρ σ fun a σ => W X n y ρ σ fun b σ => och (idxV σ a b) fun v => och (truthV σ v) fun b => T b σ)
  | wt_call {f : Fn} {es : Es} : RT X n ρ σ T (.call f es) (Ws X n es ρ σ fun vs σ => Call X n f vs σ fun v σ => och (truthV σ v) fun b => T b σ)
  | wt_meth {f : Fn} {o : E} {es : Es} : RT X n ρ σ T (.meth f o es) (W X n o ρ σ fun a σ => och (fieldsV σ a) fun p => p.1 = .Facts ∧ noMeth p.2 = true ∧ Ws X n es ρ σ fun vs σ => Call X n f (a :: vs) σ fun v σ => och (truthV σ v) fun b => T b σ)
noncomputable abbrev ET (X : Cx) (n : Nat) (ρ : Ro) (σ : So) (T : Bool → So → Prop) (e : E) (P : Prop) : Prop := RT X n ρ σ T e P → P → Wt X n e ρ σ T
inductive RL (X : Cx) (n : Nat) (ρ : Ro) (σ : So) (L : List V → So → Prop) : Es → Prop → Prop
  | wl_nil : RL X n ρ σ L .nil (L [] σ)
  | wl_cons {e : E} {es : Es} : RL X n ρ σ L (.cons e es) (W X n e ρ σ fun v σ => Ws X n es ρ σ fun vs σ => L (v :: vs) σ)
noncomputable abbrev EL (X : Cx) (n : Nat) (ρ : Ro) (σ : So) (L : List V → So → Prop) (e : Es) (P : Prop) : Prop := RL X n ρ σ L e P → P → Ws X n e ρ σ L
inductive RB (X : Cx) (n : Nat) (b : Bool) (ρ : Ro) (σ : So) (Q : V → So → Prop) : Es → Prop → Prop
  | wb_one {e : E} : RB X n b ρ σ Q (.cons e .nil) (W X n e ρ σ Q)
  | wb_more {e2 : E} {e : E} {es : Es} : RB X n b ρ σ Q (.cons e (.cons e2 es)) (W X n e ρ σ fun v σ => och (truthV σ v) fun q => (q = b → Wb X n b (.cons e2 es) ρ σ Q) ∧ (q ≠ b → Q v σ))
noncomputable abbrev EB (X : Cx) (n : Nat) (b : Bool) (ρ : Ro) (σ : So) (Q : V → So → Prop) (e : Es) (P : Prop) : Prop := RB X n b ρ σ Q e P → P → Wb X n b e ρ σ Q
inductive RBt (X : Cx) (n : Nat) (b : Bool) (ρ : Ro) (σ : So) (T : Bool → So → Prop) : Es → Prop → Prop
  | wbt_nil : RBt X n b ρ σ T .nil (T b σ)
  | wbt_cons {e : E} {es : Es} : RBt X n b ρ σ T (.cons e es) (Wt X n e ρ σ fun q σ => (q = b → Wbt X n b es ρ σ T) ∧ (q ≠ b → T q σ))
noncomputable abbrev EBt (X : Cx) (n : Nat) (b : Bool) (ρ : Ro) (σ : So) (T : Bool → So → Prop) (e : Es) (P : Prop) : Prop := RBt X n b ρ σ T e P → P → Wbt X n b e ρ σ T
inductive RV (K : V → Prop) : Option V → Prop → Prop
  | o_add {i : Int} {j : Int} : RV K (binV .add (.int i) (.int j)) (K (.int (i + j)))
  | o_subt {i : Int} {j : Int} : RV K (binV .sub (.int i) (.int j)) (K (.int (i - j)))
  | o_sub20 {σ : So} {a : V} {b : V} : RV K (idxV σ (.tup [a, b]) (.int 0)) (K a)
  | o_sub21 {σ : So} {a : V} {b : V} : RV K (idxV σ (.tup [a, b]) (.int 1)) (K b)
  | o_sub30 {σ : So} {a : V} {b : V} {c : V} : RV K (idxV σ (.tup [a, b, c]) (.int 0)) (K a)
  | o_sub31 {σ : So} {a : V} {b : V} {c : V} : RV K (idxV σ (.tup [a, b, c]) (.int 1)) (K b)
  | o_sub32 {σ : So} {a : V} {b : V} {c : V} : RV K (idxV σ (.tup [a, b, c]) (.int 2)) (K c)
  | o_subl10 {σ : So} {a : V} : RV K (idxV σ (.lst [a]) (.int 0)) (K a)
  | o_r0 {σ : So} {i : Int} : RV K (idxV σ (Opd.v (.r i)) (.int 0)) (K (.str .r))
  | o_r1 {σ : So} {i : Int} : RV K (idxV σ (Opd.v (.r i)) (.int 1)) (K (.int i))
  | o_k0 {σ : So} {i : Int} : RV K (idxV σ (Opd.v (.k i)) (.int 0)) (K (.str .k))
  | o_k1 {σ : So} {i : Int} : RV K (idxV σ (Opd.v (.k i)) (.int 1)) (K (.int i))
  | sh_0 {s : Shp} {σ : So} : RV K (idxV σ s.v (.int 0)) (K (.str s.op))
  | sh_1 {s : Shp} {σ : So} : RV K (idxV σ s.v (.int 1)) (K (.lst (s.args.map Opd.v)))
  | sh_2 {s : Shp} {σ : So} : RV K (idxV σ s.v (.int 2)) (K s.more)
noncomputable abbrev EV (K : V → Prop) (e : Option V) (P : Prop) : Prop := RV K e P → P → och e K
inductive RQ (B : Bool → Prop) : Option Bool → Prop → Prop
  | o_eq {σ : So} {i : Int} {j : Int} : RQ B (cmpV σ .eq (.int i) (.int j)) (B (decide (i = j)))
  | o_ne {σ : So} {i : Int} {j : Int} : RQ B (cmpV σ .ne (.int i) (.int j)) (B (!decide (i = j)))
  | o_lt {σ : So} {i : Int} {j : Int} : RQ B (cmpV σ .lt (.int i) (.int j)) (B (decide (i < j)))
  | o_gt {σ : So} {i : Int} {j : Int} : RQ B (cmpV σ .gt (.int i) (.int j)) (B (decide (i > j)))
  | o_ge {σ : So} {i : Int} {j : Int} : RQ B (cmpV σ .ge (.int i) (.int j)) (B (decide (i ≥ j)))
  | o_eqS {a b : Nm} {σ : So} : RQ B (cmpV σ .eq (.str a) (.str b)) (B (decide (a = b)))
  | o_isN {v : V} {σ : So} : RQ B (cmpV σ .is_ v .none) (B (isNoneV v))
  | o_notN {v : V} {σ : So} : RQ B (cmpV σ .isNot v .none) (B (!isNoneV v))
  | o_neS {a b : Nm} {σ : So} : RQ B (cmpV σ .ne (.str a) (.str b)) (B (!decide (a = b)))
  | tr_b {b : Bool} {σ : So} : RQ B (truthV σ (.bool b)) (B b)
noncomputable abbrev EQ (B : Bool → Prop) (e : Option Bool) (P : Prop) : Prop := RQ B e P → P → och e B
inductive RI (L : List V → Prop) : Option (List V) → Prop → Prop
  | sh_t {s : Shp} {σ : So} : RI L (itemsV σ s.v) (L [.str s.op, .lst (s.args.map Opd.v), s.more])
noncomputable abbrev EI (L : List V → Prop) (e : Option (List V)) (P : Prop) : Prop := RI L e P → P → och e L
inductive RN (K : Int → Prop) : Option Int → Prop → Prop
  | o_intV {i : Int} : RN K (intV (.int i)) (K i)
noncomputable abbrev EZ (K : Int → Prop) (e : Option Int) (P : Prop) : Prop := RN K e P → P → och e K
inductive RA (K : V → Prop) (σ : So) : V → Nm → Prop → Prop
  | a_op {s : Sp} : RA K σ s.v .op (K (.str s.op))
  | a_dst {s : Sp} : RA K σ s.v .dst (K (.int s.dst))
  | a_args {s : Sp} : RA K σ s.v .args (K (.lst (s.args.map Opd.v)))
  | a_more {s : Sp} : RA K σ s.v .more (K s.more)
  | a_blkS {b : Blk} : RA K σ b.v .steps (K (.lst (b.steps.map Sp.v)))
  | a_blkE {b : Blk} : RA K σ b.v .end_ (K b.end_.v)
  | a_blkN {b : Blk} : RA K σ b.v .number (K (.int b.number))
  | a_fb {bs : List Blk} {r : Int} : RA K σ (drawnV bs r) .blocks (K (.lst (bs.map Blk.v)))
  | a_fp {bs : List Blk} {r : Int} : RA K σ (drawnV bs r) .params (K (.lst [.int 0, .int 1]))
noncomputable abbrev EA (K : V → Prop) (σ : So) (v : V) (m : Nm) (P : Prop) : Prop := RA K σ v m P → P → och (fieldsV σ v) fun p => och (look p.2 m) K
noncomputable abbrev Ev (X : Cx) (n : Nat) (ρ : Ro) (σ : So) (Q : V → So → Prop) (i : Nat) (v : V) : Prop := (ρ[i]?).join = some v → Q v σ → W X n (.var i) ρ σ Q
noncomputable abbrev Et (X : Cx) (n : Nat) (ρ : Ro) (σ : So) (T : Bool → So → Prop) (i : Nat) (v : V) : Prop := (ρ[i]?).join = some v → (och (truthV σ v) fun b => T b σ) → Wt X n (.var i) ρ σ T
inductive RU (B : Bool → Prop) : Option Bool → Prop → Prop
  | eqt {σ : So} {i j : Int} (e : i = j) : RU B (cmpV σ .eq (.int i) (.int j)) (B true)
  | nef {σ : So} {i j : Int} (e : i = j) : RU B (cmpV σ .ne (.int i) (.int j)) (B false)
  | eqS {σ : So} {i j : Nm} (e : decide (i = j) = true) : RU B (cmpV σ .eq (.str i) (.str j)) (B true)
  | neS {σ : So} {i j : Nm} (e : decide (i = j) = true) : RU B (cmpV σ .ne (.str i) (.str j)) (B false)
noncomputable abbrev EU (B : Bool → Prop) (e : Option Bool) (P : Prop) : Prop := RU B e P → P → och e B
inductive RX (B : Bool → Prop) : Option Bool → Prop → Prop
  | eqt {σ : So} {i j : Int} (e : i ≠ j) : RX B (cmpV σ .eq (.int i) (.int j)) (B false)
  | nef {σ : So} {i j : Int} (e : i ≠ j) : RX B (cmpV σ .ne (.int i) (.int j)) (B true)
  | eqS {σ : So} {i j : Nm} (e : decide (i = j) = false) : RX B (cmpV σ .eq (.str i) (.str j)) (B false)
  | neS {σ : So} {i j : Nm} (e : decide (i = j) = false) : RX B (cmpV σ .ne (.str i) (.str j)) (B true)
noncomputable abbrev EX (B : Bool → Prop) (e : Option Bool) (P : Prop) : Prop := RX B e P → P → och e B
inductive RP : Prop → Prop → Prop
  | it_t {A B : Prop} : RP ((true = true → A) ∧ (true = false → B)) A
  | it_f {A B : Prop} : RP ((false = true → A) ∧ (false = false → B)) B
  | p_tt {A B : Prop} : RP ((true = true → A) ∧ (true ≠ true → B)) A
  | p_ft {A B : Prop} : RP ((false = true → A) ∧ (false ≠ true → B)) B
  | p_tf {A B : Prop} : RP ((true = false → A) ∧ (true ≠ false → B)) B
  | p_ff {A B : Prop} : RP ((false = false → A) ∧ (false ≠ false → B)) A
theorem RP.s {P Q : Prop} (r : RP P Q) (q : Q) : P := by
  cases r with
  | it_t => exact ⟨fun ι => q, fun h => nomatch h⟩
  | it_f => exact ⟨fun h => (nomatch h), fun ι => q⟩
  | p_tt => exact ⟨fun ι => q, fun h => absurd rfl h⟩
  | p_ft => exact ⟨fun h => (nomatch h), fun ι => q⟩
  | p_tf => exact ⟨fun h => (nomatch h), fun ι => q⟩
  | p_ff => exact ⟨fun ι => q, fun h => absurd rfl h⟩
section
variable {ρ : Ro} {σ : So} {Q : V → So → Prop} {T : Bool → So → Prop} {a c : Ro → So → Prop} {r : V → Ro → So → Prop} {e x : E} {tg : Tg} {kd : It} {body ss : Ss} {s : S}
theorem ws_cons (h : WS X n s ρ σ (Kn (fun ρ σ => WSs X n ss ρ σ (Kn a c r)) c r)) : WSs X n (.cons s ss) ρ σ (Kn a c r) := h
theorem ws_frz {i : Nat} {v u : V} {σ' : So} (e : (ρ[i]?).join = some v) (z : Frzs σ v u σ') (h : a (setR ρ i u) σ') : WS X n (.frz i) ρ σ (Kn a c r) := och_of e ⟨u, σ', z, h⟩
theorem ws_for (h : W X n e ρ σ fun v σ => och (itV σ kd v) fun xs => forL (turnOf X n tg body) xs ρ σ (Kn a c r)) : WS X n (.for_ tg kd e body) ρ σ (Kn a c r) := h
theorem for_nil (h : a ρ σ) : forL (turnOf X n tg body) [] ρ σ (Kn a c r) := h
theorem for_cons {x : V} {xs : List V} (h : och (bindTg σ ρ tg x) fun ρ' => WSs X n body ρ' σ (Kn (fun ρ σ => forL (turnOf X n tg body) xs ρ σ (Kn a c r)) (fun ρ σ => forL (turnOf X n tg body) xs ρ σ (Kn a c r)) r)) : forL (turnOf X n tg body) (x :: xs) ρ σ (Kn a c r) := h
theorem wt_var {i : Nat} {v : V} (e : (ρ[i]?).join = some v) (h : och (truthV σ v) fun b => T b σ) : Wt X n (.var i) ρ σ T := och_of e h
theorem comp_nil {turn : V → So → (Option V → So → Prop) → Prop} {acc : List V} {Q : List V → So → Prop} (h : Q acc σ) : compL turn [] acc σ Q := h
end
section
variable {K : V → Prop} {B : Bool → Prop} {σ : So} {i j : Int}
theorem o_add (h : K (.int (i + j))) : och (binV .add (.int i) (.int j)) K := h
theorem o_mul (ha : i.natAbs < big) (hb : j.natAbs < big) (h : K (.int (i * j))) : och (binV .mul (.int i) (.int j)) K := och_of (mul_ok ha hb) h
theorem o_mod (ha : 0 < j) (hb : j < 18446744073709551616) (h : K (.int (i % j))) : och (binV .mod (.int i) (.int j)) K := och_of (mod_ok ha hb) h
theorem o_fdiv (ha : 0 < j) (hb : j < 18446744073709551616) (h : K (.int (i / j))) : och (binV .fdiv (.int i) (.int j)) K := och_of (fdiv_ok ha hb) h
theorem o_eq (h : B (decide (i = j))) : och (cmpV σ .eq (.int i) (.int j)) B := h
theorem o_ne (h : B (!decide (i = j))) : och (cmpV σ .ne (.int i) (.int j)) B := h
theorem o_eqS {a b : Nm} (h : B (decide (a = b))) : och (cmpV σ .eq (.str a) (.str b)) B := h
theorem o_neS {a b : Nm} (h : B (!decide (a = b))) : och (cmpV σ .ne (.str a) (.str b)) B := h
theorem o_newF {vs : List V} {Q : V → So → Prop} (a : vs.length < 1000000) (h : Q (.lst vs) σ) : newL false vs σ Q := ⟨a, h⟩
theorem lid_and {vs : List V} {p : Prop} (a : vs.length < 1000000) (h : p) : vs.length < lid ∧ p := ⟨a, h⟩
theorem a_op {s : Sp} (h : K (.str s.op)) : och (fieldsV σ s.v) fun p => och (look p.2 .op) K := h
theorem a_args {s : Sp} (h : K (.lst (s.args.map Opd.v))) : och (fieldsV σ s.v) fun p => och (look p.2 .args) K := h
theorem a_more {s : Sp} (h : K s.more) : och (fieldsV σ s.v) fun p => och (look p.2 .more) K := h
theorem it_f {A B : Prop} (b : B) : (false = true → A) ∧ (false = false → B) := ⟨fun h => (nomatch h), fun ι => b⟩
end
noncomputable def Same (σ σ' : So) (aw an : Addr) : Prop := ∀ b, b ≠ aw → b ≠ an → σ' b = σ b
theorem Same.refl (σ : So) (aw an : Addr) : Same σ σ aw an := fun ι ι ι => rfl
theorem Same.trans {σ σ' σ'' : So} {aw an : Addr} (a : Same σ σ' aw an) (b : Same σ' σ'' aw an) : Same σ σ'' aw an := fun c h1 h2 => (b c h1 h2).trans (a c h1 h2)
inductive WellAt (σ : So) (aw an : Addr) (k : Nat) : Prop
  | mk (ns : List Int) (place : Nat) (e1 : σ aw = some (.lst [.ref an, .int place])) (e2 : σ an = some (.lst (ns.map .int))) (hp : place ≤ ns.length) (hl : ns.length + k < lid) (hn : ∀ x ∈ ns, 0 ≤ x ∧ x < 2147483647) (ne : an ≠ aw)
theorem call_kn {f : Fn} {ps nm : List Str} {ir : Ss} {vs : List V} {σ : So} {Q : V → So → Prop} (co : CxOk X) (d : Fd X f ps nm ir) (hl : vs.length = ps.length)
    (w : WSs X n ir (rho nm vs) σ (Kn (fun ι σ => Q .none σ) (fun ι ι => False) fun v ι σ => Q v σ)) : Call X (n + 1) f vs σ Q := call_of co d hl w
end
set_option compiler.extract_closed false in
local macro_rules | `(tactic| clear $r:ident) => `(tactic| ((with_reducible refine (?k : $r ..) (by ((with_reducible constructor); (first | done | decide | with_unfolding_all exact rfl))) ?_); (case k => exact fun _ h => h)))
set_option compiler.extract_closed false in
local macro_rules | `(tactic| walk_at "mine") => `(tactic| (repeat' first
    | clear EC | ((first | with_reducible refine (?k : Ev _ _ _ _ _ _ ?_) ?e ?_ | with_reducible refine (?k : Et _ _ _ _ _ _ ?_) ?e ?_); (case e => exact rfl); (case k => exact fun _ h => h)) | clear EW | clear EL | clear ET | clear EV | clear EU | clear EX | clear EQ | clear EA | clear ES | clear EZ | clear EI | clear EB | clear EBt
    | with_reducible refine RP.s (by with_reducible constructor) ?_
    | ((first | with_reducible refine o_newF ?_ ?_ | with_reducible refine lid_and ?_ ?_); (focus (simp; done)))
    | ((first | with_reducible refine o_mod ?_ ?_ ?_ | with_reducible refine o_fdiv ?_ ?_ ?_); decide; decide)))
section
variable {X : Cx} {n : Nat}
theorem upd_same {α : Type} (σ : Addr → Option α) (a : Addr) (m m' : α) : upd (upd σ a m) a m' = upd σ a m' := by
  funext b; unfold upd; split <;> rfl
theorem draw_ok {σ : So} {aw an : Addr} {k : Nat} {size : Int} {Q : V → So → Prop} (co : CxOk X) (bi : BiOk X) (d : Fd X .draw ps_draw nm_draw ir_draw) (wa : WellAt σ aw an (k + 1)) (h0 : 0 < size) (h1 : size < 18446744073709551616)
    (h : ∀ r σ', 0 ≤ r → r < size → WellAt σ' aw an k → Same σ σ' aw an → Q (.int r) σ') : Call X (n + 1) .draw [.ref aw, .int size] σ Q := by
  refine call_kn co d rfl ?_
  obtain ⟨ns, place, e1, e2, hp, hl, hn, ne⟩ := wa
  show WSs X n ir_draw [some (.ref aw), some (.int size), none, none, none] σ _
  have i1 : itemsV σ (.ref aw) = some [.ref an, .int place] := itemsV_at e1
  unfold ir_draw
  walk_at "mine"
  refine och_of i1 (och_of rfl ?_)
  walk_at "mine"
  refine ⟨aw, 1, rfl, rfl, .inr ⟨_, e1, lt_lid (by show 2 < 1000000; lia), (by decide), (by show (1 : Int) < 2; lia), ?_⟩⟩
  show WSs X n _ [some (.ref aw), some (.int size), some (.ref an), some (.int place), none] (upd σ aw (.lst [.ref an, .int ((place : Int) + 1)])) _
  have e3 : upd σ aw (.lst [.ref an, .int ((place : Int) + 1)]) an = some (.lst (ns.map .int)) := by rw [upd_ne _ _ ne]; exact e2
  have e4 : upd σ aw (.lst [.ref an, .int ((place : Int) + 1)]) aw = some (.lst [.ref an, .int ((place : Int) + 1)]) := upd_self ..
  generalize hσ : upd σ aw (.lst [.ref an, .int ((place : Int) + 1)]) = σ1 at e3 e4 ⊢
  have oth1 : ∀ b, b ≠ aw → σ1 b = σ b := fun b hb => by rw [← hσ, upd_ne _ _ hb]
  have it1 : itemsV σ1 (.ref an) = some (ns.map .int) := itemsV_at e3
  have l1 : listV σ1 (.ref an) = some (ns.map .int) := listV_at e3
  have i2 : lenV σ1 (.ref an) = some ns.length := lenV_refI e3
  have hll : (ns.map V.int).length < lid := by rw [List.length_map]; lia
  have hbig : ∀ {x : Int}, 0 ≤ x → x < 2147483647 → x.natAbs < big := fun h0 h1 => by unfold big; lia
  walk_at "mine"
  refine call_len bi i2 (by lia) ?_
  walk_at "mine"
  refine ⟨fun hc => ?_, fun hc => ?_⟩
  · have hpl : place = ns.length := by have := of_decide_eq_true hc; lia
    have rest : ∀ last : Int, 0 ≤ last → last < 2147483647 →
        WSs X n (.cons (.expr (.append (.var 2) (.bin .mod (.bin .add (.bin .add (.bin .mul (.var 4) (.int 48271)) (.bin .mul (.int 30011) (.var 3))) (.int 13)) (.int 2147483647)))) (.cons (.ret (.bin .mod (.bin .fdiv (.sub (.var 2) (.var 3)) (.int 32)) (.var 1))) .nil))
          [some (.ref aw), some (.int size), some (.ref an), some (.int place), some (.int last)] σ1 (Kn (fun ρ σ => WSs X n (.cons (.ret (.bin .mod (.sub (.var 2) (.var 3)) (.var 1))) .nil) ρ σ (Kn (fun ι σ => Q .none σ) (fun ι ι => False) fun v ι σ => Q v σ)) (fun ι ι => False) fun v ι σ => Q v σ) := fun last l0 l1' => by
      walk_at "mine"
      refine ⟨by rw [l1]; rfl, ?_⟩
      walk_at "mine"
      refine o_mul (hbig l0 l1') (by decide) ?_
      walk_at "mine"
      refine o_mul (by decide) (by unfold big; unfold lid at hl; lia) ?_
      walk_at "mine"
      refine ⟨an, _, rfl, e3, hll, ?_⟩
      generalize hx : (last * 48271 + 30011 * (place : Int) + 13) % 2147483647 = x
      have hx0 : 0 ≤ x ∧ x < 2147483647 := by lia
      have e5 : upd σ1 an (.lst (ns.map .int ++ [.int x])) an = some (.lst ((ns ++ [x]).map .int)) := by rw [upd_self, List.map_append]; rfl
      have it2 : itemsV (upd σ1 an (.lst (ns.map .int ++ [.int x]))) (.ref an) = some ((ns ++ [x]).map .int) := itemsV_at e5
      walk_at "mine"
      refine och_of (idx_pos it2 (by simp; lia) (Int.natCast_nonneg _) (v := .int x) (by simp [hpl])) ?_
      walk_at "mine"
      refine o_mod h0 h1 ?_
      refine h _ _ (Int.emod_nonneg _ (by lia)) (Int.emod_lt_of_pos _ h0) ⟨ns ++ [x], place + 1, ?_, e5, by simp; lia, by simp; lia, fun y hy => ?_, ne⟩ fun b hb hb' => ?_
      · rw [upd_ne _ _ (Ne.symm ne), e4]; rfl
      · rcases List.mem_append.mp hy with hy | hy
        · exact hn y hy
        · rw [List.mem_singleton.mp hy]; exact hx0
      · rw [upd_ne _ _ hb', oth1 b hb]
    walk_at "mine"
    refine och_of l1 ⟨ints_ok ns 7, ?_⟩
    refine ⟨fun hb => ?_, fun hb => ?_⟩
    · have hne : 0 < ns.length := by
        cases ns with
        | nil => (injection hb)
        | cons _ _ => simp
      walk_at "mine"
      refine och_of (idx_neg it1 hll (by decide) (v := .int ns[ns.length - 1]) (by rw [List.length_map]; lia) (by
        have : ((ns.map V.int).length : Int) + -1 = ((ns.length - 1 : Nat) : Int) := by rw [List.length_map]; lia
        rw [this, Int.toNat_natCast]; simp [show ns.length - 1 < ns.length by lia])) ?_
      have hm := hn _ (List.getElem_mem (show ns.length - 1 < ns.length by lia))
      exact rest _ hm.1 hm.2
    · walk_at "mine"
      exact rest 7 (by decide) (by decide)
  · have hlt : place < ns.length := by have := of_decide_eq_false hc; lia
    walk_at "mine"
    refine och_of (idx_pos it1 hll (Int.natCast_nonneg _) (v := .int ns[place]) (by simp [hlt])) ?_
    walk_at "mine"
    refine o_mod h0 h1 ?_
    refine h _ _ (Int.emod_nonneg _ (by lia)) (Int.emod_lt_of_pos _ h0) ⟨ns, place + 1, by rw [e4]; rfl, e3, hlt, by lia, hn, ne⟩ fun b hb ι => oth1 b hb
end
section
variable {X : Cx} {n : Nat}
structure Lib (X : Cx) : Prop where
  co : CxOk X
  bi : BiOk X
  stepInit : Fd X .stepInit ps_stepInit nm_stepInit ir_stepInit
  blockInit : Fd X .blockInit ps_blockInit nm_blockInit ir_blockInit
  funcInit : Fd X .funcInit ps_funcInit nm_funcInit ir_funcInit
  lastingInit : Fd X .lastingInit ps_lastingInit nm_lastingInit ir_lastingInit
  factsInit : Fd X .factsInit ps_factsInit nm_factsInit ir_factsInit
  withNumber : Fd X .withNumber ps_withNumber nm_withNumber ir_withNumber
  num : Fd X .num ps_num nm_num ir_num
  followers : Fd X .followers ps_followers nm_followers ir_followers
  areLasting : Fd X .areLasting ps_areLasting nm_areLasting ir_areLasting
  endOf : Fd X .endOf ps_endOf nm_endOf ir_endOf
  lastingOf : Fd X .lastingOf ps_lastingOf nm_lastingOf ir_lastingOf
  holds : Fd X .holds ps_holds nm_holds ir_holds
  best : Fd X .best ps_best nm_best ir_best
  shape : Fd X .shape ps_shape nm_shape ir_shape
  learn : Fd X .learn ps_learn nm_learn ir_learn
  passStep : Fd X .passStep ps_passStep nm_passStep ir_passStep
  learnBranch : Fd X .learnBranch ps_learnBranch nm_learnBranch ir_learnBranch
  learnTable : Fd X .learnTable ps_learnTable nm_learnTable ir_learnTable
  factsAt : Fd X .factsAt ps_factsAt nm_factsAt ir_factsAt
  preds : Fd X .preds ps_preds nm_preds ir_preds
  postorder : Fd X .postorder ps_postorder nm_postorder ir_postorder
  order : Fd X .order ps_order nm_order ir_order
  draw : Fd X .draw ps_draw nm_draw ir_draw
  operand : Fd X .operand ps_operand nm_operand ir_operand
  made : Fd X .made ps_made nm_made ir_made
  acts : Fd X .acts ps_acts nm_acts ir_acts
  way : Fd X .way ps_way nm_way ir_way
  func : Fd X .func ps_func nm_func ir_func
  said : Fd X .said ps_said nm_said ir_said
  allSaid : Fd X .allSaid ps_allSaid nm_allSaid ir_allSaid
  signed : Fd X .signed ps_signed nm_signed ir_signed
  word : Fd X .word ps_word nm_word ir_word
  turned : Fd X .turned ps_turned nm_turned ir_turned
  worked : Fd X .worked ps_worked nm_worked ir_worked
  loaded : Fd X .loaded ps_loaded nm_loaded ir_loaded
  read : Fd X .read ps_read nm_read ir_read
  isSo : Fd X .isSo ps_isSo nm_isSo ir_isSo
  walk : Fd X .walk ps_walk nm_walk ir_walk
  shown : Fd X .shown ps_shown nm_shown ir_shown
  numbersKnown : Fd X .numbersKnown ps_numbersKnown nm_numbersKnown ir_numbersKnown
  law : Fd X .law ps_law nm_law ir_law
set_option tactic.hygienic true in
theorem drp_upd {α : Type} {σ : Addr → Option α} {a : Addr} {m : α} (h : σ a = none) : drp (upd σ a m) a = σ := by
  funext b; unfold drp upd
  split
  · rename_i e; subst e; exact h.symm
  · rfl
set_option tactic.hygienic true in
theorem drp_two {α : Type} {σ : Addr → Option α} {l dx : Addr} {m m' : α} (h1 : σ l = none) (h2 : σ dx = none) (ne : l ≠ dx) : drp (drp (upd (upd σ l m) dx m') l) dx = σ := by
  funext b; unfold drp upd
  split
  · rename_i e; subst e; exact h2.symm
  · rename_i e
    split
    · rename_i e2; subst e2; exact h1.symm
    · rfl
theorem upd_comm {α : Type} {σ : Addr → Option α} {a b : Addr} {m m' : α} (h : a ≠ b) : upd (upd σ a m) b m' = upd (upd σ b m') a m := by
  funext c; unfold upd
  by_cases q : c = a
  · have q' : c ≠ b := fun e => h (q.symm.trans e)
    rw [if_neg q', if_pos q, if_pos q]
  · rw [if_neg q, if_neg q]
theorem step_new {a b c d : V} {σ : So} {Q : V → So → Prop} (L : Lib X) (h : ∀ l dx, σ l = none → σ dx = none → l ≠ dx → Q (.ref l) (upd (upd σ l (.obj .Step dx)) dx (.ns (stepFs a b c d)))) : Call X (n + 2) (.cls .Step) [a, b, c, d] σ Q := by
  refine ctor_of L.co (by simp [initN]) L.stepInit rfl fun l dx h1 h2 ne => ?_
  refine cast (congrArg (WSs X n ir_stepInit (rho nm_stepInit [.ref l, a, b, c, d]) _) (?_ : Kn (fun ι σ => Q (.ref l) σ) (fun ι ι => False) (fun v ι σ => v = .none ∧ Q (.ref l) σ) = _)) ?_
  · funext f ρ σ
    cases f with
    | next => exact propext ⟨fun h => ⟨rfl, h⟩, fun h => h.2⟩
    | cont => rfl
    | ret v => rfl
  show WSs X n ir_stepInit [some (.ref l), some a, some b, some c, some d] _ _
  rw [upd_comm (Ne.symm ne)]
  generalize hs : upd σ l (.obj .Step dx) = σ0
  have e1 : ∀ fs, upd σ0 dx (.ns fs) l = some (.obj .Step dx) := fun fs => by rw [upd_ne _ _ ne, ← hs, upd_self]
  unfold ir_stepInit
  walk_at "mine"
  refine ⟨l, .Step, dx, _, rfl, e1 _, upd_self .., (by decide), ?_⟩
  rw [upd_same]
  walk_at "mine"
  refine ⟨l, .Step, dx, _, rfl, e1 _, upd_self .., (by show 1 < 100; lia), ?_⟩
  rw [upd_same]
  walk_at "mine"
  refine ⟨l, .Step, dx, _, rfl, e1 _, upd_self .., (by show 2 < 100; lia), ?_⟩
  rw [upd_same]
  walk_at "mine"
  refine ⟨l, .Step, dx, _, rfl, e1 _, upd_self .., (by show 3 < 100; lia), ?_⟩
  rw [upd_same]
  walk_at "mine"
  refine ⟨l, .Step, dx, _, rfl, e1 _, upd_self .., (by show 4 < 100; lia), ?_⟩
  rw [upd_same]
  walk_at "mine"
  refine ⟨l, .Step, dx, _, rfl, e1 _, upd_self .., (by show 5 < 100; lia), ?_⟩
  rw [upd_same]
  walk_at "mine"
  rw [← hs]
  exact h l dx h1 h2 ne
theorem step_fz {a b c d : V} {σ : So} {Q : V → So → Prop} (L : Lib X) (h : Q (.obj .Step (stepFs a b c d)) σ) : Call X (n + 2) (.cls .Step) [a, b, c, d] σ fun v σ => FzQ σ v Q := by
  refine step_new L fun l dx h1 h2 ne => ⟨_, _, .obj (by rw [upd_ne _ _ ne, upd_self]) (upd_self ..), ?_⟩
  rw [drp_two h1 h2 ne]; exact h
end
section
variable {X : Cx} {n : Nat}
theorem WellAt.less {σ : So} {aw an : Addr} {k k' : Nat} (w : WellAt σ aw an k) (h : k' ≤ k) : WellAt σ aw an k' := by
  obtain ⟨ns, p, a, b, c, d, e, f⟩ := w
  exact ⟨ns, p, a, b, c, by lia, e, f⟩
theorem idx_some {σ : So} {c : V} {vs : List V} {i : Int} (hc : itemsV σ c = some vs) (lt : vs.length < lid) (h0 : 0 ≤ i) (h1 : i < vs.length) : ∃ v, v ∈ vs ∧ idxV σ c (.int i) = some v := by
  have hi : i.toNat < vs.length := by lia
  exact ⟨vs[i.toNat], List.getElem_mem hi, idx_pos hc lt h0 (by simp [hi])⟩
theorem idx_ints {σ : So} {c : V} {ns : List Int} {i : Int} (hc : itemsV σ c = some (ns.map .int)) (lt : ns.length < lid) (h0 : 0 ≤ i) (h1 : i < ns.length) : ∃ x, x ∈ ns ∧ idxV σ c (.int i) = some (.int x) := by
  obtain ⟨v, hv, e⟩ := idx_some hc (by simpa using lt) h0 (by simpa using h1)
  obtain ⟨x, hx, rfl⟩ := List.mem_map.mp hv
  exact ⟨x, hx, e⟩
theorem idx_ints_neg {σ : So} {c : V} {ns : List Int} {i : Int} (hc : itemsV σ c = some (ns.map .int)) (lt : ns.length < lid) (h0 : i < 0) (h1 : 0 ≤ (ns.length : Int) + i) : ∃ x, x ∈ ns ∧ idxV σ c (.int i) = some (.int x) := by
  have hi : ((ns.length : Int) + i).toNat < ns.length := by omega
  refine ⟨ns[((ns.length : Int) + i).toNat], List.getElem_mem hi, idx_neg hc (by simpa using lt) h0 (by simpa using h1) ?_⟩
  rw [List.length_map]; simp [hi]
theorem operand_ok {σ : So} {aw an : Addr} {k : Nat} {regs : List Int} {Q : V → So → Prop} (L : Lib X) (wa : WellAt σ aw an (k + 2)) (hr : 0 < regs.length) (hr2 : regs.length < 1000)
    (h : ∀ o σ', Opd.In regs o → WellAt σ' aw an k → Same σ σ' aw an → Q o.v σ') : Call X (n + 2) .operand [.ref aw, .lst (regs.map .int)] σ Q := by
  refine call_kn L.co L.operand rfl ?_
  show WSs X (n + 1) ir_operand [some (.ref aw), some (.lst (regs.map .int)), none] σ _
  unfold ir_operand
  walk_at "mine"
  refine draw_ok (size := 8) L.co L.bi L.draw wa (by decide) (by decide) fun way σ1 w0 w1 wa1 s1 => ?_
  walk_at "mine"
  refine ⟨fun hc => ?_, fun hc => ?_⟩
  · walk_at "mine"
    refine draw_ok (size := 8) L.co L.bi L.draw wa1 (by decide) (by decide) fun r σ2 r0 r1 wa2 s2 => ?_
    walk_at "mine"
    obtain ⟨x, hx, e⟩ := idx_ints (σ := σ2) (c := .tup [.int 0, .int 1, .int 2, .int 3, .int 8, .int 255, .int 65535, .int 4294967295]) (ns := [0, 1, 2, 3, 8, 255, 65535, 4294967295]) (i := r) rfl (lt_lid (by simp)) r0 r1
    refine och_of e ?_
    walk_at "mine"
    refine h (.k x) σ2 ?_ wa2 (s1.trans s2)
    simp only [List.mem_cons, List.not_mem_nil, or_false] at hx
    show 0 ≤ x ∧ x < 4294967296
    lia
  · have hl : lenV σ1 (.lst (regs.map .int)) = some regs.length := lenV_ints
    have key : ∀ σ2, WellAt σ2 aw an k → Same σ σ2 aw an → ∀ x ∈ regs, Q (.tup [.str .r, .int x]) σ2 := fun σ2 w s x hx => h (.r x) σ2 hx w s
    have neg : ∀ σ1, WellAt σ1 aw an (k + 1) → Same σ σ1 aw an → WSs X (n + 1) (.cons (.ret (.tup (.cons (.str .r) (.cons (.sub (.var 1) (.call .draw (.cons (.var 0) (.cons (.call .len (.cons (.var 1) .nil)) .nil)))) .nil)))) .nil) [some (.ref aw), some (.lst (regs.map .int)), some (.int way)] σ1 (Kn (fun ι σ => Q .none σ) (fun ι ι => False) fun v ι σ => Q v σ) := fun σ1 wa1 s1 => by
      have hl : lenV σ1 (.lst (regs.map .int)) = some regs.length := lenV_ints
      walk_at "mine"
      refine call_len L.bi hl (lt_lid (by lia)) ?_
      walk_at "mine"
      refine draw_ok (size := regs.length) L.co L.bi L.draw wa1 (by lia) (by lia) fun r σ2 r0 r1 wa2 s2 => ?_
      obtain ⟨x, hx, e⟩ := idx_ints (σ := σ2) (c := .lst (regs.map .int)) (i := r) rfl (lt_lid (by lia)) r0 (by lia)
      refine och_of e ?_
      walk_at "mine"
      exact key σ2 wa2 (s1.trans s2) x hx
    walk_at "mine"
    refine ⟨fun h1 => ?_, fun h1 => ?_⟩
    · walk_at "mine"
      refine call_len L.bi hl (lt_lid (by lia)) ?_
      walk_at "mine"
      refine ⟨fun h2 => ?_, fun h2 => ?_⟩
      · walk_at "mine"
        refine draw_ok (size := 3) L.co L.bi L.draw wa1 (by decide) (by decide) fun r σ2 r0 r1 wa2 s2 => ?_
        walk_at "mine"
        have h2' := of_decide_eq_true h2
        obtain ⟨x, hx, e⟩ := idx_ints_neg (σ := σ2) (c := .lst (regs.map .int)) (i := -1 - r) rfl (lt_lid (by lia)) (by lia) (by lia)
        refine och_of e ?_
        walk_at "mine"
        exact key σ2 wa2 (s1.trans s2) x hx
      · refine ⟨fun h3 => absurd h3 h2, fun h3 => ?_⟩
        walk_at "mine"
        exact neg σ1 wa1 s1
    · refine ⟨fun h3 => absurd h3 h1, fun h3 => ?_⟩
      walk_at "mine"
      exact neg σ1 wa1 s1
end
section
variable {X : Cx} {n : Nat}
noncomputable def twos : List Nm := [.add, .sub, .mul, .and, .or, .xor, .shl, .shr, .sar, .lt, .ltu, .eq, .ne]
noncomputable def ones : List Nm := [.neg, .not, .sx8, .sx16, .zx8, .zx16]
inductive Made (regs : List Int) (goal : Int) : Sp → Prop
  | shift {m : Nm} {o : Opd} {v : Int} : m ∈ [Nm.shl, .shr, .sar] → o.In regs → 0 ≤ v → v < 32 → Made regs goal ⟨m, goal, [o, .k v], .int 0⟩
  | two {m : Nm} {o o' : Opd} : m ∈ twos → m ∉ [Nm.shl, .shr, .sar] → o.In regs → o'.In regs → Made regs goal ⟨m, goal, [o, o'], .int 0⟩
  | one {m : Nm} {o : Opd} : m ∈ ones → o.In regs → Made regs goal ⟨m, goal, [o], .int 0⟩
  | copy {o : Opd} : o.In regs → Made regs goal ⟨.copy, goal, [o], .int 0⟩
  | load {a wide : Int} {b : Bool} : 0 ≤ a → a < 4294967296 → wide ∈ [(1 : Int), 2, 4] → Made regs goal ⟨.load, goal, [.k a], .tup [.int wide, .bool b]⟩
  | const {v : Int} : 0 ≤ v → v < 300 → Made regs goal ⟨.const, goal, [.k v], .int 0⟩
  | name {v : Int} : 0 ≤ v → v < 8 → Made regs goal ⟨.name, goal, [], .tup [.str .g, .int v]⟩
theorem idx_strs {σ : So} {c : V} {ms : List Nm} {i : Int} (hc : itemsV σ c = some (ms.map .str)) (lt : ms.length < lid) (h0 : 0 ≤ i) (h1 : i < ms.length) : ∃ m, m ∈ ms ∧ idxV σ c (.int i) = some (.str m) := by
  obtain ⟨v, hv, e⟩ := idx_some hc (by simpa using lt) h0 (by simpa using h1)
  obtain ⟨x, hx, rfl⟩ := List.mem_map.mp hv
  exact ⟨x, hx, e⟩
theorem any_str {m : Nm} {ms : List Nm} : (ms.map V.str).any (eqStrV m) = decide (m ∈ ms) := by
  induction ms with
  | nil => rfl
  | cons x xs ih => simp only [List.map_cons, List.any_cons, ih, eqStrV, List.mem_cons, Bool.decide_or]
theorem made_ok {σ : So} {aw an : Addr} {k : Nat} {goal : Int} {regs : List Int} {Q : V → So → Prop} (L : Lib X) (wa : WellAt σ aw an (k + 6)) (hr : 0 < regs.length) (hr2 : regs.length < 1000)
    (h : ∀ s σ', Made regs goal s → WellAt σ' aw an k → Same σ σ' aw an → Q s.v σ') : Call X (n + 3) .made [.ref aw, .int goal, .lst (regs.map .int)] σ Q := by
  refine call_kn L.co L.made rfl ?_
  show WSs X (n + 2) ir_made [some (.ref aw), some (.int goal), some (.lst (regs.map .int)), none, none, none] σ _
  unfold ir_made
  walk_at "mine"
  refine draw_ok (size := 9) (k := k + 5) L.co L.bi L.draw wa (by decide) (by decide) fun kind σ1 w0 w1 wa1 s1 => ?_
  walk_at "mine"
  refine ⟨fun h1 => ?_, fun h1 => ?_⟩
  · walk_at "mine"
    refine draw_ok (size := 13) (k := k + 4) L.co L.bi L.draw wa1 (by decide) (by decide) fun r σ2 r0 r1 wa2 s2 => ?_
    obtain ⟨m, hm, e⟩ := idx_strs (σ := σ2) (c := Gn.TWO.val) (ms := twos) (i := r) rfl (lt_lid (by decide)) r0 r1
    refine och_of e ?_
    walk_at "mine"
    refine och_of (show cmpV σ2 .in_ (.str m) (.tup [.str .shl, .str .shr, .str .sar]) = some (decide (m ∈ [Nm.shl, .shr, .sar])) from congrArg some (any_str (ms := [Nm.shl, .shr, .sar]))) ?_
    refine ⟨fun h2 => ?_, fun h2 => ?_⟩
    · walk_at "mine"
      refine operand_ok (k := k + 2) L wa2 hr hr2 fun o σ3 ho wa3 s3 => ?_
      walk_at "mine"
      refine draw_ok (size := 32) (k := k + 1) L.co L.bi L.draw wa3 (by decide) (by decide) fun v σ4 v0 v1 wa4 s4 => ?_
      walk_at "mine"
      refine step_fz L ?_
      walk_at "mine"
      exact h ⟨m, goal, [o, .k v], .int 0⟩ σ4 (.shift (of_decide_eq_true h2) ho v0 v1) (wa4.less (by lia)) (((s1.trans s2).trans s3).trans s4)
    · walk_at "mine"
      refine operand_ok (k := k + 2) L wa2 hr hr2 fun o σ3 ho wa3 s3 => ?_
      walk_at "mine"
      refine operand_ok (k := k) L wa3 hr hr2 fun o' σ4 ho' wa4 s4 => ?_
      walk_at "mine"
      refine step_fz L ?_
      walk_at "mine"
      exact h ⟨m, goal, [o, o'], .int 0⟩ σ4 (.two hm (of_decide_eq_false h2) ho ho') wa4 (((s1.trans s2).trans s3).trans s4)
  · walk_at "mine"
    refine ⟨fun h2 => ?_, fun h2 => ?_⟩
    · walk_at "mine"
      refine draw_ok (size := 6) (k := k + 4) L.co L.bi L.draw wa1 (by decide) (by decide) fun r σ2 r0 r1 wa2 s2 => ?_
      obtain ⟨m, hm, e⟩ := idx_strs (σ := σ2) (c := Gn.ONE.val) (ms := ones) (i := r) rfl (lt_lid (by decide)) r0 r1
      refine och_of e ?_
      walk_at "mine"
      refine operand_ok (k := k + 2) L wa2 hr hr2 fun o σ3 ho wa3 s3 => ?_
      walk_at "mine"
      refine step_fz L ?_
      walk_at "mine"
      exact h ⟨m, goal, [o], .int 0⟩ σ3 (.one hm ho) (wa3.less (by lia)) ((s1.trans s2).trans s3)
    · walk_at "mine"
      refine ⟨fun h3 => ?_, fun h3 => ?_⟩
      · walk_at "mine"
        refine operand_ok (k := k + 3) L wa1 hr hr2 fun o σ3 ho wa3 s3 => ?_
        walk_at "mine"
        refine step_fz L ?_
        walk_at "mine"
        exact h ⟨.copy, goal, [o], .int 0⟩ σ3 (.copy ho) (wa3.less (by lia)) (s1.trans s3)
      · walk_at "mine"
        refine ⟨fun h4 => ?_, fun h4 => ?_⟩
        · walk_at "mine"
          refine draw_ok (size := 3) (k := k + 4) L.co L.bi L.draw wa1 (by decide) (by decide) fun r σ2 r0 r1 wa2 s2 => ?_
          obtain ⟨wide, hw, e⟩ := idx_ints (σ := σ2) (c := .tup [.int 1, .int 2, .int 4]) (ns := [1, 2, 4]) (i := r) rfl (lt_lid (by decide)) r0 r1
          refine och_of e ?_
          walk_at "mine"
          refine draw_ok (size := 2) (k := k + 3) L.co L.bi L.draw wa2 (by decide) (by decide) fun a σ3 a0 a1 wa3 s3 => ?_
          refine o_mul (by decide) (by unfold big; lia) ?_
          refine o_add (i := 8192) ?_
          walk_at "mine"
          refine draw_ok (size := 2) (k := k + 2) L.co L.bi L.draw wa3 (by decide) (by decide) fun b σ4 b0 b1 wa4 s4 => ?_
          walk_at "mine"
          refine step_fz L ?_
          walk_at "mine"
          exact h ⟨.load, goal, [.k (8192 + 4 * a)], .tup [.int wide, .bool (decide (b = 1))]⟩ σ4 (.load (by lia) (by lia) hw) (wa4.less (by lia)) (((s1.trans s2).trans s3).trans s4)
        · walk_at "mine"
          refine draw_ok (size := 2) (k := k + 4) L.co L.bi L.draw wa1 (by decide) (by decide) fun r σ2 r0 r1 wa2 s2 => ?_
          walk_at "mine"
          refine ⟨fun h5 => ?_, fun h5 => ?_⟩
          · walk_at "mine"
            refine draw_ok (size := 300) (k := k + 3) L.co L.bi L.draw wa2 (by decide) (by decide) fun v σ3 v0 v1 wa3 s3 => ?_
            walk_at "mine"
            refine step_fz L ?_
            walk_at "mine"
            exact h ⟨.const, goal, [.k v], .int 0⟩ σ3 (.const v0 v1) (wa3.less (by lia)) ((s1.trans s2).trans s3)
          · walk_at "mine"
            refine draw_ok (size := 2) (k := k + 3) L.co L.bi L.draw wa2 (by decide) (by decide) fun v σ3 v0 v1 wa3 s3 => ?_
            refine o_mul (by decide) (by unfold big; lia) ?_
            walk_at "mine"
            refine step_fz L ?_
            walk_at "mine"
            exact h ⟨.name, goal, [], .tup [.str .g, .int (4 * v)]⟩ σ3 (.name (by lia) (by lia)) (wa3.less (by lia)) ((s1.trans s2).trans s3)
end
section
variable {X : Cx} {n : Nat}
inductive Acts : List Int → Int → List Sp → List Int → Int → Prop
  | nil {regs : List Int} {f : Int} : Acts regs f [] regs f
  | store {regs regs' : List Int} {f f' a : Int} {o : Opd} {ss : List Sp} : 0 ≤ a → a < 4294967296 → o.In regs → Acts regs f ss regs' f' → Acts regs f (⟨.store, -1, [.k a, o], .int 2⟩ :: ss) regs' f'
  | old {regs regs' : List Int} {f f' g : Int} {s : Sp} {ss : List Sp} : g = 2 ∨ g = 3 → Made regs g s → Acts regs f ss regs' f' → Acts regs f (s :: ss) regs' f'
  | new {regs regs' : List Int} {f f' : Int} {s : Sp} {ss : List Sp} : Made regs f s → Acts (regs ++ [f]) (f + 1) ss regs' f' → Acts regs f (s :: ss) regs' f'
theorem Acts.grow {regs regs' : List Int} {f f' : Int} {ss : List Sp} (h : Acts regs f ss regs' f') : ∃ l, regs' = regs ++ l := by
  induction h with
  | nil => exact ⟨[], by simp⟩
  | store _ _ _ _ ih => exact ih
  | old _ _ _ ih => exact ih
  | new _ _ ih => obtain ⟨l, e⟩ := ih; exact ⟨_, by rw [e, List.append_assoc]⟩
noncomputable def actsBody : Ss := (.cons (.asg 9 (.call .draw (.cons (.var 0) (.cons (.int 6) .nil)))) (.cons (.ite (.cmp .eq (.var 9) (.int 0)) (.cons (.expr (.append (.var 7) (.fz (.call (.cls .Step) (.cons (.str .store) (.cons (.neg (.int 1)) (.cons (.lst false (.cons (.tup (.cons (.str .k) (.cons (.bin .add (.glob .PLACE) (.bin .mul (.int 4) (.call .draw (.cons (.var 0) (.cons (.int 2) .nil))))) .nil))) (.cons (.call .operand (.cons (.var 0) (.cons (.var 5) .nil))) .nil))) (.cons (.int 2) .nil)))))))) .nil) (.cons (.ite (.cmp .eq (.var 9) (.int 1)) (.cons (.expr (.append (.var 7) (.call .made (.cons (.var 0) (.cons (.bin .add (.int 2) (.call .draw (.cons (.var 0) (.cons (.int 2) .nil)))) (.cons (.var 5) .nil)))))) .nil) (.cons (.expr (.append (.var 7) (.call .made (.cons (.var 0) (.cons (.var 4) (.cons (.var 5) .nil)))))) (.cons (.asg 5 (.cat (.var 5) (.lst false (.cons (.var 4) .nil)))) (.cons (.expr (.append (.sub (.var 3) (.var 1)) (.var 4))) (.cons (.asg 4 (.bin .add (.var 4) (.int 1))) .nil))))) .nil)) .nil))
theorem WellAt.off {σ σ' : So} {aw an : Addr} {k : Nat} (w : WellAt σ aw an k) (h1 : σ' aw = σ aw) (h2 : σ' an = σ an) : WellAt σ' aw an k := by
  obtain ⟨ns, p, a, b, c, d, e, f⟩ := w
  exact ⟨ns, p, h1.trans a, h2.trans b, c, d, e, f⟩
theorem turns_ok {aw an A la : Addr} {at_ : Int} {lots : V} {many : V} (L : Lib X) (hat : ∀ σ, idxV σ lots (.int at_) = some (.ref la)) (d1 : A ≠ aw) (d2 : A ≠ an) (d3 : la ≠ aw) (d4 : la ≠ an) (d5 : la ≠ A) :
    ∀ (xs : List V) {k : Nat} {f : Int} {regs cur : List Int} {done : List Sp} {o6 o8 o9 : Option V} {σ : So} {a c : Ro → So → Prop} {r : V → Ro → So → Prop},
      WellAt σ aw an (k + 8 * xs.length) → σ A = some (.lst (done.map Sp.v)) → σ la = some (.lst (cur.map .int)) → 0 < regs.length → regs.length + xs.length < 900 → done.length + xs.length < 900 → cur.length + xs.length < 900 →
      (∀ ss regs' f' news σ' o8 o9, Acts regs f ss regs' f' → ss.length = xs.length → regs' = regs ++ news → WellAt σ' aw an k → σ' A = some (.lst ((done ++ ss).map Sp.v)) → σ' la = some (.lst ((cur ++ news).map .int)) → (∀ b, b ≠ aw → b ≠ an → b ≠ A → b ≠ la → σ' b = σ b) →
        a [some (.ref aw), some (.int at_), some many, some lots, some (.int f'), some (.lst (regs'.map .int)), o6, some (.ref A), o8, o9] σ') →
      forL (turnOf X (n + 4) (.v 8) actsBody) xs [some (.ref aw), some (.int at_), some many, some lots, some (.int f), some (.lst (regs.map .int)), o6, some (.ref A), o8, o9] σ (Kn a c r)
  | [], k, f, regs, cur, done, o6, o8, o9, σ, a, c, r, wa, hA, hl, hr, z1, z2, z3, h => for_nil (by simpa using h [] regs f [] σ o8 o9 .nil rfl (by simp) (by simpa using wa) (by simpa using hA) (by simpa using hl) fun ι ι ι ι ι => rfl)
  | x :: xs, k, f, regs, cur, done, o6, o8, o9, σ, a, c, r, wa, hA, hl, hr, z1, z2, z3, h => by
    simp only [List.length_cons] at z1 z2 z3
    refine for_cons (och_of rfl ?_)
    show WSs X (n + 4) actsBody [some (.ref aw), some (.int at_), some many, some lots, some (.int f), some (.lst (regs.map .int)), o6, some (.ref A), some x, o9] σ _
    unfold actsBody
    walk_at "mine"
    refine draw_ok (size := 6) (k := k + 8 * xs.length + 7) L.co L.bi L.draw (wa.less (by simp only [List.length_cons]; lia)) (by decide) (by decide) fun way σ1 w0 w1 wa1 s1 => ?_
    have hA1 : σ1 A = some (.lst (done.map Sp.v)) := (s1 A d1 d2).trans hA
    have hl1 : σ1 la = some (.lst (cur.map .int)) := (s1 la d3 d4).trans hl
    walk_at "mine"
    refine ⟨fun h1 => ?_, fun h1 => ?_⟩
    · walk_at "mine"
      refine ⟨isL hA1, ?_⟩
      walk_at "mine"
      refine draw_ok (size := 2) (k := k + 8 * xs.length + 6) L.co L.bi L.draw wa1 (by decide) (by decide) fun v σ2 v0 v1 wa2 s2 => ?_
      refine o_mul (by decide) (by unfold big; lia) ?_
      refine o_add (i := 8192) ?_
      walk_at "mine"
      refine operand_ok (k := k + 8 * xs.length + 4) L wa2 hr (by lia) fun o σ3 ho wa3 s3 => ?_
      walk_at "mine"
      refine step_fz L ?_
      have hA3 : σ3 A = some (.lst (done.map Sp.v)) := (s3 A d1 d2).trans ((s2 A d1 d2).trans hA1)
      have hl3 : σ3 la = some (.lst (cur.map .int)) := (s3 la d3 d4).trans ((s2 la d3 d4).trans hl1)
      refine ⟨A, _, rfl, hA3, lt_lid (by simp; lia), ?_⟩
      walk_at "mine"
      generalize hs : (⟨.store, -1, [.k (8192 + 4 * v), o], .int 2⟩ : Sp) = s
      have hsv : V.obj .Step (stepFs (.str .store) (.int (-1)) (.lst [.tup [.str .k, .int (8192 + 4 * v)], o.v]) (.int 2)) = s.v := by rw [← hs]; rfl
      show forL (turnOf X (n + 4) (.v 8) actsBody) xs [some (.ref aw), some (.int at_), some many, some lots, some (.int f), some (.lst (regs.map .int)), o6, some (.ref A), some x, some (.int way)]
        (upd σ3 A (.lst (done.map Sp.v ++ [.obj .Step (stepFs (.str .store) (.int (-1)) (.lst [.tup [.str .k, .int (8192 + 4 * v)], o.v]) (.int 2))]))) (Kn a c r)
      rw [hsv]
      refine turns_ok (k := k) (done := done ++ [s]) (cur := cur) L hat d1 d2 d3 d4 d5 xs ((wa3.less (by lia)).off (upd_ne _ _ (Ne.symm d1)) (upd_ne _ _ (Ne.symm d2))) (by rw [upd_self, List.map_append]; rfl) (by rw [upd_ne _ _ d5]; exact hl3) hr (by lia) (by simp; lia) (by lia) fun ss regs' f' news σ' o8 o9 ac el e w hA' hl' sm => ?_
      refine h (s :: ss) regs' f' news σ' o8 o9 (hs ▸ .store (by lia) (by lia) ho ac) (by simp [el]) e w (by simpa using hA') hl' fun b b1 b2 b3 b4 => ?_
      rw [sm b b1 b2 b3 b4, upd_ne _ _ b3, s3 b b1 b2, s2 b b1 b2, s1 b b1 b2]
    · walk_at "mine"
      refine ⟨fun h2 => ?_, fun h2 => ?_⟩
      · walk_at "mine"
        refine ⟨isL hA1, ?_⟩
        walk_at "mine"
        refine draw_ok (size := 2) (k := k + 8 * xs.length + 6) L.co L.bi L.draw wa1 (by decide) (by decide) fun v σ2 v0 v1 wa2 s2 => ?_
        walk_at "mine"
        refine made_ok (k := k + 8 * xs.length) L wa2 hr (by lia) fun s σ3 hm wa3 s3 => ?_
        have hA3 : σ3 A = some (.lst (done.map Sp.v)) := (s3 A d1 d2).trans ((s2 A d1 d2).trans hA1)
        have hl3 : σ3 la = some (.lst (cur.map .int)) := (s3 la d3 d4).trans ((s2 la d3 d4).trans hl1)
        refine ⟨A, _, rfl, hA3, lt_lid (by simp; lia), ?_⟩
        walk_at "mine"
        show forL (turnOf X (n + 4) (.v 8) actsBody) xs [some (.ref aw), some (.int at_), some many, some lots, some (.int f), some (.lst (regs.map .int)), o6, some (.ref A), some x, some (.int way)] (upd σ3 A (.lst (done.map Sp.v ++ [s.v]))) (Kn a c r)
        refine turns_ok (k := k) (done := done ++ [s]) (cur := cur) L hat d1 d2 d3 d4 d5 xs (wa3.off (upd_ne _ _ (Ne.symm d1)) (upd_ne _ _ (Ne.symm d2))) (by rw [upd_self, List.map_append]; rfl) (by rw [upd_ne _ _ d5]; exact hl3) hr (by lia) (by simp; lia) (by lia) fun ss regs' f' news σ' o8 o9 ac el e w hA' hl' sm => ?_
        refine h (s :: ss) regs' f' news σ' o8 o9 (.old (g := 2 + v) (by lia) hm ac) (by simp [el]) e w (by simpa using hA') hl' fun b b1 b2 b3 b4 => ?_
        rw [sm b b1 b2 b3 b4, upd_ne _ _ b3, s3 b b1 b2, s2 b b1 b2, s1 b b1 b2]
      · walk_at "mine"
        refine ⟨isL hA1, ?_⟩
        walk_at "mine"
        refine made_ok (k := k + 8 * xs.length + 1) L wa1 hr (by lia) fun s σ3 hm wa3 s3 => ?_
        have hA3 : σ3 A = some (.lst (done.map Sp.v)) := (s3 A d1 d2).trans hA1
        have hl3 : σ3 la = some (.lst (cur.map .int)) := (s3 la d3 d4).trans hl1
        refine ⟨A, _, rfl, hA3, lt_lid (by simp; lia), ?_⟩
        walk_at "mine"
        refine och_of rfl (och_of rfl ?_)
        refine ⟨lt_lid (by simp; lia), ?_⟩
        have e1 : List.map V.int regs ++ [V.int f] = (regs ++ [f]).map .int := by simp
        rw [show (if false = true then _ else _ : Prop) = _ from if_neg Bool.false_ne_true]
        walk_at "mine"
        refine och_of (hat _) ⟨?_, ?_⟩
        · exact isL ((upd_ne _ _ d5).trans hl3)
        walk_at "mine"
        refine ⟨la, _, rfl, by rw [upd_ne _ _ d5]; exact hl3, lt_lid (by simp; lia), ?_⟩
        walk_at "mine"
        rw [e1]
        show forL (turnOf X (n + 4) (.v 8) actsBody) xs [some (.ref aw), some (.int at_), some many, some lots, some (.int (f + 1)), some (.lst ((regs ++ [f]).map .int)), o6, some (.ref A), some x, some (.int way)] (upd (upd σ3 A (.lst (done.map Sp.v ++ [s.v]))) la (.lst (cur.map .int ++ [.int f]))) (Kn a c r)
        refine turns_ok (k := k) (done := done ++ [s]) (cur := cur ++ [f]) L hat d1 d2 d3 d4 d5 xs ((wa3.less (by lia)).off (by rw [upd_ne _ _ (Ne.symm d3), upd_ne _ _ (Ne.symm d1)]) (by rw [upd_ne _ _ (Ne.symm d4), upd_ne _ _ (Ne.symm d2)])) (by rw [upd_ne _ _ (Ne.symm d5), upd_self, List.map_append]; rfl) (by rw [upd_self, List.map_append]; rfl) (by simp) (by simp; lia) (by simp; lia) (by simp; lia) fun ss regs' f' news σ' o8 o9 ac el e w hA' hl' sm => ?_
        refine h (s :: ss) regs' f' (f :: news) σ' o8 o9 (.new hm ac) (by simp [el]) (by rw [e]; simp) w (by simpa using hA') (by simpa using hl') fun b b1 b2 b3 b4 => ?_
        rw [sm b b1 b2 b3 b4, upd_ne _ _ b4, upd_ne _ _ b3, s3 b b1 b2, s1 b b1 b2]
end
section
variable {X : Cx} {n : Nat}
theorem o_newT {vs : List V} {σ : So} {Q : V → So → Prop} (a : vs.length < 1000000) (h : ∀ A, σ A = none → Q (.ref A) (upd σ A (.lst vs))) : newL true vs σ Q := ⟨a, h⟩
structure LotsAt (σ : So) (aw an : Addr) (las : List Addr) (ls : List (List Int)) : Prop where
  l1 : las.length = 6
  l2 : ls.length = 6
  at_ : ∀ (j : Nat) (a : Addr) (l : List Int), las[j]? = some a → ls[j]? = some l → σ a = some (.lst (l.map .int))
  aw : ∀ a ∈ las, a ≠ aw ∧ a ≠ an
  nd : las.Nodup
  small : (ls.map List.length).sum < 100
noncomputable def seen : List (List Nat) := [[], [0], [0, 1], [0, 1], [0, 1], [0, 1, 4]]
noncomputable def scopeOf (ls : List (List Int)) (at_ : Nat) : List Int := [0, 1, 2, 3, 4] ++ ((seen[at_]?).getD []).flatMap fun j => (ls[j]?).getD []
theorem le_sum : ∀ {l : List Nat} {x : Nat}, x ∈ l → x ≤ l.sum
  | y :: l, x, h => by
    rw [List.sum_cons]
    rcases List.mem_cons.mp h with rfl | h
    · lia
    · have := le_sum h; lia
theorem flat_le {ls : List (List Int)} (h : (ls.map List.length).sum < 100) : ∀ js : List Nat, (js.flatMap fun j => (ls[j]?).getD []).length ≤ 100 * js.length
  | [] => by simp
  | j :: js => by
    have := flat_le h js
    rw [List.flatMap_cons, List.length_append, List.length_cons]
    cases e : ls[j]? with
    | none => simp only [Option.getD_none, List.length_nil]; lia
    | some l =>
      have : l.length ≤ (ls.map List.length).sum := le_sum (List.mem_map.mpr ⟨l, List.mem_of_getElem? e, rfl⟩)
      simp only [Option.getD_some]; lia
noncomputable def seenBody : Ss := (.cons (.asg 5 (.cat (.var 5) (.sub (.var 3) (.var 6)))) .nil)
theorem seen_ok {aw an : Addr} {las : List Addr} {ls : List (List Int)} {at_ many f : V} {σ : So} {a c : Ro → So → Prop} {r : V → Ro → So → Prop} (lo : LotsAt σ aw an las ls) : ∀ (js : List Nat) {regs : List Int} {o6 : Option V},
    (∀ j ∈ js, j < 6) → regs.length + 700 * js.length < 20000 → (∀ o6, a [some (.ref aw), some at_, some many, some (.lst (las.map .ref)), some f, some (.lst ((regs ++ js.flatMap fun j => (ls[j]?).getD []).map .int)), o6, none, none, none] σ) →
    forL (turnOf X n (.v 6) seenBody) (js.map fun (j : Nat) => V.int (j : Int)) [some (.ref aw), some at_, some many, some (.lst (las.map .ref)), some f, some (.lst (regs.map .int)), o6, none, none, none] σ (Kn a c r)
  | [], regs, o6, _, _, h => for_nil (by simpa using h o6)
  | j :: js, regs, o6, hj, hz, h => by
    have hj6 : j < 6 := hj j (by simp)
    have ha : j < las.length := by rw [lo.l1]; exact hj6
    have hl : j < ls.length := by rw [lo.l2]; exact hj6
    have e1 : las[j]? = some las[j] := List.getElem?_eq_getElem ha
    have e2 : ls[j]? = some ls[j] := List.getElem?_eq_getElem hl
    have hs : σ las[j] = some (.lst (ls[j].map .int)) := lo.at_ j _ _ e1 e2
    have hsz : ls[j].length ≤ (ls.map List.length).sum := le_sum (List.mem_map.mpr ⟨_, List.getElem_mem hl, rfl⟩)
    have sm := lo.small
    simp only [List.length_cons] at hz
    refine for_cons (och_of rfl ?_)
    show WSs X n seenBody [some (.ref aw), some at_, some many, some (.lst (las.map .ref)), some f, some (.lst (regs.map .int)), some (.int (j : Int)), none, none, none] σ _
    unfold seenBody
    walk_at "mine"
    refine och_of (idx_pos (c := .lst (las.map .ref)) (vs := las.map .ref) (v := .ref las[j]) rfl (lt_lid (by rw [List.length_map, lo.l1]; lia)) (Int.natCast_nonneg j) (by simp [e1])) ?_
    refine och_of rfl (och_of (show listV σ (.ref las[j]) = some (ls[j].map .int) from listV_at hs) ?_)
    refine ⟨lt_lid (by simp; lia), ?_⟩
    rw [show (if false = true then _ else _ : Prop) = _ from if_neg Bool.false_ne_true]
    walk_at "mine"
    have e3 : regs.map V.int ++ ls[j].map V.int = (regs ++ ls[j]).map .int := by simp
    rw [e3]
    refine seen_ok lo js (regs := regs ++ ls[j]) (fun i hi => hj i (.tail _ hi)) (by simp; lia) fun o6 => ?_
    have := h o6
    simp only [List.flatMap_cons, e2, Option.getD_some, ← List.append_assoc] at this
    exact this
noncomputable def actsTail : Ss := (.cons (.asg 7 (.lst true .nil)) (.cons (.for_ (.v 8) .range (.var 2) actsBody) (.cons (.ret (.tup (.cons (.var 7) (.cons (.var 5) (.cons (.var 4) .nil))))) .nil)))
theorem acts_tail {σ : So} {aw an : Addr} {k : Nat} {at_ many : Nat} {f : Int} {las : List Addr} {la : Addr} {ls : List (List Int)} {cur : List Int} {Q : V → So → Prop} (L : Lib X) (wa : WellAt σ aw an (k + 8 * many)) (lo : LotsAt σ aw an las ls) (hat : at_ < 6) (hm : many < 10)
    (hla : las[at_]? = some la) (hcur : ls[at_]? = some cur)
    (h : ∀ ss regs' f' news σ' A, Acts (scopeOf ls at_) f ss regs' f' → ss.length = many → regs' = scopeOf ls at_ ++ news → WellAt σ' aw an k → σ A = none → σ' A = some (.lst (ss.map Sp.v)) → σ' la = some (.lst ((cur ++ news).map .int)) → (∀ b, b ≠ aw → b ≠ an → b ≠ A → b ≠ la → σ' b = σ b) →
      Q (.tup [.ref A, .lst (regs'.map .int), .int f']) σ') (o6 : Option V) : WSs X (n + 4) actsTail [some (.ref aw), some (.int at_), some (.int many), some (.lst (las.map .ref)), some (.int f), some (.lst ((scopeOf ls at_).map .int)), o6, none, none, none] σ (Kn (fun ι σ => Q .none σ) (fun ι ι => False) fun v ι σ => Q v σ) := by
  have hfr : ∀ A, σ A = none → A ≠ aw ∧ A ≠ an := fun A hA => by
    obtain ⟨ns, place, w1, w2, w3, w4, w5, w6⟩ := wa
    exact ⟨(by rintro rfl; rw [w1] at hA; (injection hA)), (by rintro rfl; rw [w2] at hA; (injection hA))⟩
  have hla' : la ∈ las := List.mem_of_getElem? hla
  have hjl : ((seen[at_]?).getD []).length ≤ 3 := by
    have : at_ = 0 ∨ at_ = 1 ∨ at_ = 2 ∨ at_ = 3 ∨ at_ = 4 ∨ at_ = 5 := by lia
    rcases this with rfl | rfl | rfl | rfl | rfl | rfl <;> decide
  have hlen : (scopeOf ls at_).length ≤ 305 := by
    have := flat_le lo.small ((seen[at_]?).getD [])
    unfold scopeOf
    rw [List.length_append]
    simp only [List.length_cons, List.length_nil]
    lia
  have hpos : 0 < (scopeOf ls at_).length := by unfold scopeOf; simp
  have hcl : cur.length < 100 := Nat.lt_of_le_of_lt (le_sum (List.mem_map.mpr ⟨cur, List.mem_of_getElem? hcur, rfl⟩)) lo.small
  unfold actsTail
  walk_at "mine"
  refine o_newT (by simp) fun A hA => ?_
  have d1 := (hfr A hA).1
  have d2 := (hfr A hA).2
  have d3 := (lo.aw la hla').1
  have d4 := (lo.aw la hla').2
  have hl0 := lo.at_ at_ la cur hla hcur
  have d5 : la ≠ A := fun e => by rw [← e, hl0] at hA; exact nomatch hA
  walk_at "mine"
  refine och_of (show itV (upd σ A (.lst [])) .range (.int (many : Int)) = some ((List.range many).map fun (j : Nat) => V.int (j : Int)) from (if_pos ⟨Int.natCast_nonneg _, by rw [Int.toNat_natCast]; exact lt_lid (by lia)⟩).trans (by rw [Int.toNat_natCast])) ?_
  have hidx : ∀ σ, idxV σ (.lst (las.map .ref)) (.int (at_ : Int)) = some (.ref la) := fun σ => idx_pos (vs := las.map .ref) rfl (lt_lid (by rw [List.length_map, lo.l1]; lia)) (Int.natCast_nonneg _) (by simp [hla])
  refine turns_ok (A := A) (la := la) (k := k) (done := []) (cur := cur) (regs := scopeOf ls at_) (f := f) L hidx d1 d2 d3 d4 d5 _ ((wa.less (by simp)).off (upd_ne _ _ (Ne.symm d1)) (upd_ne _ _ (Ne.symm d2))) (upd_self ..) (by rw [upd_ne _ _ d5]; exact hl0) hpos (by simp; lia) (by simp; lia) (by simp; lia) fun ss regs' f' news σ' o8 o9 ac el e w hA' hl' sm => ?_
  walk_at "mine"
  exact h ss regs' f' news σ' A ac (by simpa using el) e w hA (by simpa using hA') hl' fun b b1 b2 b3 b4 => by rw [sm b b1 b2 b3 b4, upd_ne _ _ b3]
theorem acts_ok {σ : So} {aw an : Addr} {k : Nat} {at_ many : Nat} {f : Int} {las : List Addr} {la : Addr} {ls : List (List Int)} {cur : List Int} {Q : V → So → Prop} (L : Lib X) (wa : WellAt σ aw an (k + 8 * many)) (lo : LotsAt σ aw an las ls) (hat : at_ < 6) (hm : many < 10)
    (hla : las[at_]? = some la) (hcur : ls[at_]? = some cur)
    (h : ∀ ss regs' f' news σ' A, Acts (scopeOf ls at_) f ss regs' f' → ss.length = many → regs' = scopeOf ls at_ ++ news → WellAt σ' aw an k → σ A = none → σ' A = some (.lst (ss.map Sp.v)) → σ' la = some (.lst ((cur ++ news).map .int)) → (∀ b, b ≠ aw → b ≠ an → b ≠ A → b ≠ la → σ' b = σ b) →
      Q (.tup [.ref A, .lst (regs'.map .int), .int f']) σ') : Call X (n + 5) .acts [.ref aw, .int at_, .int many, .lst (las.map .ref), .int f] σ Q := by
  refine call_kn L.co L.acts rfl ?_
  show WSs X (n + 4) ir_acts [some (.ref aw), some (.int at_), some (.int many), some (.lst (las.map .ref)), some (.int f), none, none, none, none, none] σ _
  unfold ir_acts
  walk_at "mine"
  have hseen : idxV σ Gn.SEEN.val (.int (at_ : Int)) = some (.tup (((seen[at_]?).getD []).map fun (j : Nat) => V.int (j : Int))) := by
    have : at_ = 0 ∨ at_ = 1 ∨ at_ = 2 ∨ at_ = 3 ∨ at_ = 4 ∨ at_ = 5 := by lia
    rcases this with rfl | rfl | rfl | rfl | rfl | rfl <;> rfl
  refine och_of hseen (och_of rfl ?_)
  have hla' : la ∈ las := List.mem_of_getElem? hla
  have hj : ∀ j ∈ (seen[at_]?).getD [], j < 6 := by
    have : at_ = 0 ∨ at_ = 1 ∨ at_ = 2 ∨ at_ = 3 ∨ at_ = 4 ∨ at_ = 5 := by lia
    rcases this with rfl | rfl | rfl | rfl | rfl | rfl <;> decide
  have hjl : ((seen[at_]?).getD []).length ≤ 3 := by
    have : at_ = 0 ∨ at_ = 1 ∨ at_ = 2 ∨ at_ = 3 ∨ at_ = 4 ∨ at_ = 5 := by lia
    rcases this with rfl | rfl | rfl | rfl | rfl | rfl <;> decide
  refine seen_ok (regs := [0, 1, 2, 3, 4]) lo _ hj (by simp; lia) fun o6 => ?_
  exact acts_tail L wa lo hat hm hla hcur h o6
end
section
variable {X : Cx} {n : Nat}
noncomputable def lk {α : Type} : List (Int × α) → Int → Option α
  | [], _ => none
  | (k, v) :: r, x => if k = x then some v else lk r x
noncomputable def pt {α : Type} : List (Int × α) → Int → α → List (Int × α)
  | [], x, v => [(x, v)]
  | (k, u) :: r, x, v => if k = x then (k, v) :: r else (k, u) :: pt r x v
noncomputable def mapD {α : Type} (f : α → V) (l : List (Int × α)) : List (Int × V) := l.map fun p => (p.1, f p.2)
theorem look_map {α : Type} (f : α → V) : ∀ (l : List (Int × α)) (i : Int), look (mapD f l) i = (lk l i).map f
  | [], _ => rfl
  | (k, v) :: r, i => by
    show (if k = i then some (f v) else look (mapD f r) i) = _
    rw [look_map f r i, lk]; split <;> rfl
theorem put_map {α : Type} (f : α → V) : ∀ (l : List (Int × α)) (i : Int) (a : α), put (mapD f l) i (f a) = mapD f (pt l i a)
  | [], _, _ => rfl
  | (k, v) :: r, i, a => by
    show (if k = i then (k, f a) :: mapD f r else (k, f v) :: put (mapD f r) i (f a)) = _
    rw [put_map f r i a, pt]; split <;> rfl
theorem lk_pt {α : Type} : ∀ (l : List (Int × α)) (i : Int) (a : α) (j : Int), lk (pt l i a) j = if i = j then some a else lk l j
  | [], i, a, j => rfl
  | (k, v) :: r, i, a, j => by
    rw [pt]
    by_cases q : k = i
    · rw [if_pos q, lk, lk, q]; split <;> rfl
    · rw [if_neg q, lk, lk, lk_pt r i a j]
      by_cases q2 : k = j
      · rw [if_pos q2, if_pos q2, if_neg (fun e => q (q2.trans e.symm))]
      · rw [if_neg q2, if_neg q2]
theorem length_pt {α : Type} : ∀ (l : List (Int × α)) (i : Int) (a : α), (pt l i a).length ≤ l.length + 1
  | [], _, _ => Nat.le_refl _
  | (k, v) :: r, i, a => by
    have := length_pt r i a
    rw [pt]; split <;> simp only [List.length_cons] <;> lia
theorem length_mapD {α : Type} (f : α → V) (l : List (Int × α)) : (mapD f l).length = l.length := List.length_map ..
set_option tactic.hygienic true in
theorem lk_mem {α : Type} : ∀ {l : List (Int × α)} {i : Int} {a : α}, lk l i = some a → (i, a) ∈ l
  | (k, v) :: r, i, a, h => by
    rw [lk] at h
    split at h
    · rename_i q; (injection h); rw [q]; exact .head _
    · exact .tail _ (lk_mem h)
noncomputable def Sp.shp (s : Sp) : Shp := ⟨s.op, s.args, s.more⟩
noncomputable def shpV : Option Shp → V
  | none => .none
  | some s => s.v
structure Las where
  ops : List (Int × Opd)
  shs : List (Int × Shp)
noncomputable def Las.v (la : Las) : V := .obj .Lasting [(.operands, .dI (mapD Opd.v la.ops)), (.shapes, .dI (mapD Shp.v la.shs))]
structure Fct where
  made : List (Int × Shp × Int)
  setAt : List (Int × Int)
  now : Int
noncomputable def madeV (p : Shp × Int) : V := .tup [p.1.v, .int p.2]
noncomputable def telling : List Nm := [.const, .copy]
noncomputable def holdsF (setAt : List (Int × Int)) (args : List Opd) (t : Int) : Bool := args.all fun o => match o with
  | .r x => !decide ((lk setAt x).getD (-1) ≥ t)
  | .k _ => true
noncomputable def bestF (la : Las) (fc : Fct) (x : Int) : Opd := match lk la.ops x with
  | some o => o
  | none => match lk fc.made x with
    | some (s, t) => if s.op ∈ telling ∧ holdsF fc.setAt s.args t = true then s.args.headD (.r x) else .r x
    | none => .r x
noncomputable def shapeF (la : Las) (fc : Fct) (x : Int) : Option Shp := match lk la.shs x with
  | some s => some s
  | none => match lk fc.made x with
    | some (s, t) => if holdsF fc.setAt s.args t = true then some s else none
    | none => none
noncomputable def passF (fc : Fct) (s : Sp) : Fct := ⟨pt fc.made s.dst (s.shp, fc.now + 1), pt fc.setAt s.dst (fc.now + 1), fc.now + 1⟩
noncomputable def learnF (fc : Fct) (x : Int) (o : Opd) : Fct := { fc with made := pt fc.made x (⟨.const, [o], .int 0⟩, 0) }
structure Rw where
  which : Int
  best : Opd
  shape : Option Shp
noncomputable def Rw.v (r : Rw) : V := .tup [.int r.which, r.best.v, shpV r.shape]
noncomputable def rowF (la : Las) (fc : Fct) (x : Int) : Rw := ⟨x, bestF la fc x, shapeF la fc x⟩
noncomputable def regsOf (args : List Opd) : List Int := args.filterMap fun o => match o with | .r x => some x | .k _ => none
noncomputable def rowsF (la : Las) (fc : Fct) (args : List Opd) : List Rw := (regsOf args).map (rowF la fc)
theorem comp_map {α : Type} {turn : V → So → (Option V → So → Prop) → Prop} {f : α → V} {g : α → V} {Q : List V → So → Prop} {σ : So} : ∀ {xs : List α} {acc : List V}, (∀ x ∈ xs, ∀ k : Option V → So → Prop, k (some (g x)) σ → turn (f x) σ k) → Q (acc ++ xs.map g) σ → compL turn (xs.map f) acc σ Q
  | [], acc, _, h => by
    have : Q acc σ := by simpa using h
    exact this
  | x :: xs, acc, ht, h => by
    show compL turn (f x :: xs.map f) acc σ Q
    unfold compL
    refine ht x (.head _) _ ?_
    exact comp_map (xs := xs) (acc := acc ++ [g x]) (fun y hy => ht y (.tail _ hy)) (by simpa using h)
theorem comp_filter {α : Type} {turn : V → So → (Option V → So → Prop) → Prop} {f : α → V} {g : α → Option V} {Q : List V → So → Prop} {σ : So} : ∀ {xs : List α} {acc : List V}, (∀ x ∈ xs, ∀ k : Option V → So → Prop, k (g x) σ → turn (f x) σ k) → Q (acc ++ xs.filterMap g) σ → compL turn (xs.map f) acc σ Q
  | [], acc, _, h => by
    have : Q acc σ := by simpa using h
    exact this
  | x :: xs, acc, ht, h => by
    show compL turn (f x :: xs.map f) acc σ Q
    unfold compL
    refine ht x (.head _) _ ?_
    cases e : g x with
    | none => exact comp_filter (xs := xs) (acc := acc) (fun y hy => ht y (.tail _ hy)) (by simpa [List.filterMap_cons, e] using h)
    | some y => exact comp_filter (xs := xs) (acc := acc ++ [y]) (fun y hy => ht y (.tail _ hy)) (by simpa [List.filterMap_cons, e] using h)
structure FA where
  l : Addr
  dx : Addr
  am : Addr
  as_ : Addr
noncomputable def fctFs (la : Las) (a : FA) (now : Int) : List (Nm × V) := [(.operands, .dI (mapD Opd.v la.ops)), (.shapes, .dI (mapD Shp.v la.shs)), (.made, .ref a.am), (.setAt, .ref a.as_), (.now, .int now)]
structure FactsAt (σ : So) (la : Las) (a : FA) (fc : Fct) : Prop where
  obj : σ a.l = some (.obj .Facts a.dx)
  ns : σ a.dx = some (.ns (fctFs la a fc.now))
  made : σ a.am = some (.dI (mapD madeV fc.made))
  setAt : σ a.as_ = some (.dI (mapD V.int fc.setAt))
  ne : a.am ≠ a.as_
section
variable {σ : So} {la : Las} {a : FA} {fc : Fct} {K : V → Prop}
theorem FactsAt.fields (h : FactsAt σ la a fc) : fieldsV σ (.ref a.l) = some (.Facts, fctFs la a fc.now) := fieldsV_at h.obj h.ns
theorem FactsAt.dmade (h : FactsAt σ la a fc) : dictV σ (.ref a.am) = some (mapD madeV fc.made) := dictV_at h.made
theorem FactsAt.dset (h : FactsAt σ la a fc) : dictV σ (.ref a.as_) = some (mapD V.int fc.setAt) := dictV_at h.setAt
theorem FactsAt.aOps (h : FactsAt σ la a fc) (q : K (.dI (mapD Opd.v la.ops))) : och (fieldsV σ (.ref a.l)) fun p => och (look p.2 .operands) K := och_of h.fields q
theorem FactsAt.aShs (h : FactsAt σ la a fc) (q : K (.dI (mapD Shp.v la.shs))) : och (fieldsV σ (.ref a.l)) fun p => och (look p.2 .shapes) K := och_of h.fields q
theorem FactsAt.aMade (h : FactsAt σ la a fc) (q : K (.ref a.am)) : och (fieldsV σ (.ref a.l)) fun p => och (look p.2 .made) K := och_of h.fields q
theorem FactsAt.aSet (h : FactsAt σ la a fc) (q : K (.ref a.as_)) : och (fieldsV σ (.ref a.l)) fun p => och (look p.2 .setAt) K := och_of h.fields q
theorem FactsAt.aNow (h : FactsAt σ la a fc) (q : K (.int fc.now)) : och (fieldsV σ (.ref a.l)) fun p => och (look p.2 .now) K := och_of h.fields q
theorem FactsAt.meth (h : FactsAt σ la a fc) {P : Prop} (q : P) : och (fieldsV σ (.ref a.l)) fun p => p.1 = .Facts ∧ noMeth p.2 = true ∧ P := och_of h.fields ⟨rfl, rfl, q⟩
theorem FactsAt.off {σ' : So} (h : FactsAt σ la a fc) (k : ∀ b, (σ b).isSome = true → σ' b = σ b) : FactsAt σ' la a fc :=
  ⟨(k _ (by rw [h.obj]; rfl)).trans h.obj, (k _ (by rw [h.ns]; rfl)).trans h.ns, (k _ (by rw [h.made]; rfl)).trans h.made, (k _ (by rw [h.setAt]; rfl)).trans h.setAt, h.ne⟩
end
end
section
variable {X : Cx} {n : Nat}
theorem num_ok {σ : So} {v : Int} {Q : V → So → Prop} (L : Lib X) (h : v = 0 ∨ v = 1) (q : Q (Opd.k v).v σ) : Call X (n + 1) .num [.int v] σ Q := by
  refine call_kn L.co L.num rfl ?_
  show WSs X n ir_num [some (.int v)] σ _
  unfold ir_num
  walk_at "mine"
  refine och_of (a := V.int v) ?_ ?_
  · rcases h with rfl | rfl <;> rfl
  walk_at "mine"
  exact q
noncomputable def isKO : Opd → Bool | .k _ => true | .r _ => false
noncomputable def kTwo : List Opd → Bool | [] => false | _ :: r => match r with | [] => false | o :: _ => isKO o
inductive KTwo (l : List Opd) : Prop | mk (o : Opd) (v : Int) (r : List Opd) (e : l = o :: .k v :: r)
theorem kTwo_inv {l : List Opd} (h : kTwo l = true) : KTwo l := by
  cases l with
  | nil => exact nD h
  | cons o r => cases r with
    | nil => exact nD h
    | cons o' r => cases o' with
      | k v => exact ⟨o, v, r, rfl⟩
      | r x => exact nD h
noncomputable def withNum (s : Option Shp) (m : Nm) : Bool := match s with
  | none => false
  | some s => decide (s.op = m) && kTwo s.args
theorem withNum_inv {s : Option Shp} {m : Nm} (h : withNum s m = true) : ∃ t, s = some t ∧ t.op = m ∧ KTwo t.args := by
  cases s with
  | none => exact nD h
  | some t => have q := Bool.and_eq_true_iff.mp (show (decide (t.op = m) && kTwo t.args) = true from h); exact ⟨t, rfl, of_decide_eq_true q.1, kTwo_inv q.2⟩
theorem idx_nth {σ : So} {c : V} {vs : List V} (i : Nat) {v : V} (hc : itemsV σ c = some vs) (h : vs.length < lid) (e : vs[i]? = some v) : idxV σ c (.int (i : Int)) = some v :=
  idx_pos hc h (Int.natCast_nonneg i) (by rw [Int.toNat_natCast]; exact e)
theorem withNumber_ok {σ : So} {s : Option Shp} {m : Nm} {Q : V → So → Prop} (L : Lib X) (hs : ∀ t, s = some t → t.args.length < 1000 ∧ (t.op = m → 2 ≤ t.args.length)) (q : Q (.bool (withNum s m)) σ) : Call X (n + 1) .withNumber [shpV s, .str m] σ Q := by
  refine call_kn L.co L.withNumber rfl ?_
  show WSs X n ir_withNumber [some (shpV s), some (.str m)] σ _
  unfold ir_withNumber
  cases s with
  | none =>
    walk_at "mine"
    show (false = true → _) ∧ (false ≠ true → _)
    walk_at "mine"
    exact q
  | some t =>
    obtain ⟨h1, h2⟩ := hs t rfl
    walk_at "mine"
    show (true = true → _) ∧ (true ≠ true → _)
    walk_at "mine"
    refine och_of (a := .str t.op) rfl ?_
    walk_at "mine"
    by_cases hop : t.op = m
    · rw [decide_eq_true hop]
      walk_at "mine"
      have h2 := h2 hop
      refine och_of (a := .lst (t.args.map Opd.v)) rfl ?_
      walk_at "mine"
      obtain ⟨o, o', r, e⟩ : ∃ o o' r, t.args = o :: o' :: r := by
        cases e : t.args with
        | nil => rw [e] at h2; simp at h2
        | cons o r => cases r with
          | nil => rw [e] at h2; simp at h2
          | cons o' r => exact ⟨_, _, _, rfl⟩
      refine och_of (idx_nth 1 (v := o'.v) rfl (lt_lid (by simp; lia)) (by simp [e])) ?_
      cases o' with
      | k v =>
        walk_at "mine"
        have eq : withNum (some t) m = true := by show (decide (t.op = m) && kTwo t.args) = true; rw [e, decide_eq_true hop]; rfl
        rw [eq] at q
        exact q
      | r x =>
        walk_at "mine"
        have eq : withNum (some t) m = false := by show (decide (t.op = m) && kTwo t.args) = false; rw [e, decide_eq_true hop]; rfl
        rw [eq] at q
        exact q
    · rw [decide_eq_false hop]
      walk_at "mine"
      have eq : withNum (some t) m = false := by show (decide (t.op = m) && kTwo t.args) = false; rw [decide_eq_false hop]; rfl
      rw [eq] at q
      exact q
noncomputable def holdsBody : Ss := (.cons (.ite (.bop true (.cons (.cmp .eq (.sub (.var 3) (.int 0)) (.str .r)) (.cons (.cmp .ge (.dget (.attr (.var 0) .setAt) (.sub (.var 3) (.int 1)) (.glob .NEVER)) (.var 2)) .nil))) (.cons (.ret (.bool false)) .nil) .nil) .nil)
theorem holds_turns {σ : So} {la : Las} {a : FA} {fc : Fct} {t : Int} (f : FactsAt σ la a fc) {v1 : V} {A C : Ro → So → Prop} {R : V → Ro → So → Prop} : ∀ (xs : List Opd) {o3 : Option V},
    (holdsF fc.setAt xs t = true → ∀ o3, A [some (.ref a.l), some v1, some (.int t), o3] σ) → (holdsF fc.setAt xs t = false → ∀ ρ, R (.bool false) ρ σ) →
    forL (turnOf X n (.v 3) holdsBody) (xs.map Opd.v) [some (.ref a.l), some v1, some (.int t), o3] σ (Kn A C R)
  | [], o3, h1, _ => for_nil (h1 rfl _)
  | o :: xs, o3, h1, h2 => by
    refine for_cons (och_of rfl ?_)
    show WSs X n holdsBody [some (.ref a.l), some v1, some (.int t), some o.v] σ _
    unfold holdsBody
    cases o with
    | k v =>
      walk_at "mine"
      exact holds_turns f xs h1 h2
    | r x =>
      walk_at "mine"
      refine f.aSet ⟨by rw [f.dset]; rfl, ?_⟩
      walk_at "mine"
      refine och_of f.dset ?_
      walk_at "mine"
      rw [look_map]
      have e : (Option.map V.int (lk fc.setAt x)).getD Gn.NEVER.val = .int ((lk fc.setAt x).getD (-1)) := by cases lk fc.setAt x <;> rfl
      rw [e]
      walk_at "mine"
      by_cases q : (lk fc.setAt x).getD (-1) ≥ t
      · rw [decide_eq_true q]
        walk_at "mine"
        refine h2 ?_ _
        simp only [holdsF, List.all_cons, decide_eq_true q, Bool.not_true, Bool.false_and]
      · rw [decide_eq_false q]
        walk_at "mine"
        have e2 : holdsF fc.setAt (.r x :: xs) t = holdsF fc.setAt xs t := by simp only [holdsF, List.all_cons, decide_eq_false q, Bool.not_false, Bool.true_and]
        rw [e2] at h1 h2
        exact holds_turns f xs h1 h2
theorem holds_ok {σ : So} {la : Las} {a : FA} {fc : Fct} {t : Int} {args : List Opd} {Q : V → So → Prop} (L : Lib X) (f : FactsAt σ la a fc) (q : Q (.bool (holdsF fc.setAt args t)) σ) : Call X (n + 1) .holds [.ref a.l, .lst (args.map Opd.v), .int t] σ Q := by
  refine call_kn L.co L.holds rfl ?_
  show WSs X n ir_holds [some (.ref a.l), some (.lst (args.map Opd.v)), some (.int t), none] σ _
  unfold ir_holds
  walk_at "mine"
  refine och_of rfl ?_
  refine holds_turns f args (fun e o3 => ?_) (fun e ρ => ?_)
  · rw [e] at q
    walk_at "mine"
    exact q
  · rw [e] at q; exact q
theorem look_ones {m : Nm} {ms : List Nm} : (look (ms.map fun n => (n, V.int 1)) m).isSome = decide (m ∈ ms) := by
  induction ms with
  | nil => rfl
  | cons n ms ih =>
    show (if n = m then some (V.int 1) else look (ms.map _) m).isSome = _
    by_cases q : n = m
    · rw [if_pos q, decide_eq_true (q ▸ List.mem_cons_self)]; rfl
    · rw [if_neg q, ih]; exact decide_eq_decide.mpr ⟨fun h => .tail _ h, fun h => (List.mem_cons.mp h).resolve_left (Ne.symm q)⟩
theorem tell_mem (m : Nm) {σ : So} : cmpV σ .in_ (.str m) Gn.TELLING.val = some (decide (m ∈ telling)) := congrArg some (look_ones (m := m) (ms := telling))
theorem shaped_mem (m : Nm) {σ : So} : cmpV σ .in_ (.str m) Gn.SHAPED.val = some (decide (m ∈ shaped)) := congrArg some (look_ones (m := m) (ms := shaped))
theorem tell_mem' (m : Nm) {σ : So} : cmpV σ .notIn (.str m) Gn.TELLING.val = some (!decide (m ∈ telling)) := congrArg (fun b => some !b) (look_ones (m := m) (ms := telling))
theorem shaped_mem' (m : Nm) {σ : So} : cmpV σ .notIn (.str m) Gn.SHAPED.val = some (!decide (m ∈ shaped)) := congrArg (fun b => some !b) (look_ones (m := m) (ms := shaped))
theorem in_dI {α : Type} {σ : So} {f : α → V} {l : List (Int × α)} {x : Int} : cmpV σ .in_ (.int x) (.dI (mapD f l)) = some (lk l x).isSome := by
  show some (look (mapD f l) x).isSome = _
  rw [look_map, Option.isSome_map]
theorem in_ref {α : Type} {σ : So} {f : α → V} {l : List (Int × α)} {x : Int} {a : Addr} (h : σ a = some (.dI (mapD f l))) : cmpV σ .in_ (.int x) (.ref a) = some (lk l x).isSome :=
  (congrArg (memM x) h).trans (congrArg some (by rw [look_map, Option.isSome_map]))
theorem notin_ref {α : Type} {σ : So} {f : α → V} {l : List (Int × α)} {x : Int} {a : Addr} (h : σ a = some (.dI (mapD f l))) : cmpV σ .notIn (.int x) (.ref a) = some (!(lk l x).isSome) :=
  congrArg (Option.map (!·)) (in_ref h)
theorem notin_dI {α : Type} {σ : So} {f : α → V} {l : List (Int × α)} {x : Int} : cmpV σ .notIn (.int x) (.dI (mapD f l)) = some (!(lk l x).isSome) := by
  show (some (look (mapD f l) x).isSome).map (!·) = _
  rw [look_map, Option.isSome_map]; rfl
theorem sub_dI {α : Type} {σ : So} {f : α → V} {l : List (Int × α)} {x : Int} {a : α} (h : lk l x = some a) : idxV σ (.dI (mapD f l)) (.int x) = some (f a) := by
  show look (mapD f l) x = _
  rw [look_map, h]; rfl
theorem sub_ref {α : Type} {σ : So} {f : α → V} {l : List (Int × α)} {x : Int} {b : Addr} {a : α} (hb : σ b = some (.dI (mapD f l))) (h : lk l x = some a) : idxV σ (.ref b) (.int x) = some (f a) := by
  have e : idxV σ (.ref b) (.int x) = look (mapD f l) x := by
    show (match lstM (σ b) with | some vs => idxL vs x | none => match dIM (σ b) with | some es => look es x | none => none) = _
    rw [hb]; rfl
  rw [e, look_map, h]; rfl
theorem best_ok {σ : So} {la : Las} {a : FA} {fc : Fct} {x : Int} {Q : V → So → Prop} (L : Lib X) (f : FactsAt σ la a fc) (hm : ∀ s t, lk fc.made x = some (s, t) → s.args.length < 1000 ∧ (s.op ∈ telling → 1 ≤ s.args.length)) (q : Q (bestF la fc x).v σ) : Call X (n + 2) .best [.ref a.l, .tup [.str .r, .int x]] σ Q := by
  refine call_kn L.co L.best rfl ?_
  show WSs X (n + 1) ir_best [some (.ref a.l), some (.tup [.str .r, .int x]), none, none, none] σ _
  unfold ir_best
  walk_at "mine"
  refine f.aOps ?_
  refine och_of in_dI ?_
  cases e : lk la.ops x with
  | some o =>
    simp only [bestF, e] at q
    show (true = true → _) ∧ (true = false → _)
    walk_at "mine"
    refine f.aOps ?_
    walk_at "mine"
    refine och_of (sub_dI e) ?_
    exact q
  | none =>
    simp only [bestF, e] at q
    show (false = true → _) ∧ (false = false → _)
    walk_at "mine"
    refine f.aMade ?_
    refine och_of (in_ref f.made) ?_
    cases e2 : lk fc.made x with
    | none =>
      simp only [e2] at q
      show (false = true → _) ∧ (false = false → _)
      walk_at "mine"
      exact q
    | some p =>
      obtain ⟨s, t⟩ := p
      simp only [e2] at q
      obtain ⟨h1, h2⟩ := hm s t e2
      show (true = true → _) ∧ (true = false → _)
      walk_at "mine"
      refine f.aMade ?_
      walk_at "mine"
      refine och_of (sub_ref f.made e2) ?_
      refine och_of rfl (och_of rfl ?_)
      walk_at "mine"
      refine och_of (tell_mem s.op) ?_
      by_cases ht : s.op ∈ telling
      · rw [decide_eq_true ht]
        walk_at "mine"
        refine f.meth ?_
        walk_at "mine"
        refine holds_ok L f ?_
        walk_at "mine"
        by_cases hh : holdsF fc.setAt s.args t = true
        · rw [if_pos ⟨ht, hh⟩] at q
          rw [hh]
          walk_at "mine"
          have h2 := h2 ht
          obtain ⟨o, r, e3⟩ : ∃ o r, s.args = o :: r := by
            cases e3 : s.args with
            | nil => rw [e3] at h2; simp at h2
            | cons o r => exact ⟨_, _, rfl⟩
          rw [e3] at q h1 ⊢
          refine och_of (idx_nth 0 (v := o.v) rfl (lt_lid (by simp at h1 ⊢; lia)) (by simp)) ?_
          walk_at "mine"
          exact q
        · rw [if_neg (fun h => hh h.2)] at q
          rw [Bool.not_eq_true] at hh
          rw [hh]
          walk_at "mine"
          exact q
      · rw [if_neg (fun h => ht h.1)] at q
        rw [decide_eq_false ht]
        walk_at "mine"
        exact q
theorem shape_ok {σ : So} {la : Las} {a : FA} {fc : Fct} {x : Int} {Q : V → So → Prop} (L : Lib X) (f : FactsAt σ la a fc) (q : Q (shpV (shapeF la fc x)) σ) : Call X (n + 2) .shape [.ref a.l, .tup [.str .r, .int x]] σ Q := by
  refine call_kn L.co L.shape rfl ?_
  show WSs X (n + 1) ir_shape [some (.ref a.l), some (.tup [.str .r, .int x]), none, none, none] σ _
  unfold ir_shape
  walk_at "mine"
  refine f.aShs ?_
  refine och_of in_dI ?_
  cases e : lk la.shs x with
  | some o =>
    simp only [shapeF, e] at q
    show (true = true → _) ∧ (true = false → _)
    walk_at "mine"
    refine f.aShs ?_
    walk_at "mine"
    refine och_of (sub_dI e) ?_
    exact q
  | none =>
    simp only [shapeF, e] at q
    show (false = true → _) ∧ (false = false → _)
    walk_at "mine"
    refine f.aMade ?_
    refine och_of (in_ref f.made) ?_
    cases e2 : lk fc.made x with
    | none =>
      simp only [e2] at q
      show (false = true → _) ∧ (false = false → _)
      walk_at "mine"
      exact q
    | some p =>
      obtain ⟨s, t⟩ := p
      simp only [e2] at q
      show (true = true → _) ∧ (true = false → _)
      walk_at "mine"
      refine f.aMade ?_
      walk_at "mine"
      refine och_of (sub_ref f.made e2) ?_
      refine och_of rfl (och_of rfl ?_)
      walk_at "mine"
      refine f.meth ?_
      walk_at "mine"
      refine holds_ok L f ?_
      walk_at "mine"
      by_cases hh : holdsF fc.setAt s.args t = true
      · rw [if_pos hh] at q
        rw [hh]
        walk_at "mine"
        exact q
      · rw [if_neg hh] at q
        rw [Bool.not_eq_true] at hh
        rw [hh]
        walk_at "mine"
        exact q
end
section
variable {X : Cx} {n : Nat}
theorem ctor_kn {C : Cl} {fi : Fn} {ps nm : List Str} {ir : Ss} {vs : List V} {σ : So} {Q : V → So → Prop} (co : CxOk X) (hi : (C, fi) ∈ initN) (d : Fd X fi ps nm ir) (hl : vs.length + 1 = ps.length)
    (w : ∀ l dx, σ l = none → σ dx = none → l ≠ dx → WSs X n ir (rho nm (.ref l :: vs)) (upd (upd σ l (.obj C dx)) dx (.ns [])) (Kn (fun ι σ => Q (.ref l) σ) (fun ι ι => False) (fun v ι σ => v = .none ∧ Q (.ref l) σ))) : Call X (n + 2) (.cls C) vs σ Q := by
  refine ctor_of co hi d hl fun l dx h1 h2 ne => ?_
  have w := w l dx h1 h2 ne
  rw [upd_comm ne] at w
  refine cast (congrArg (WSs X n ir (rho nm (.ref l :: vs)) _) (?_ : Kn (fun ι σ => Q (.ref l) σ) (fun ι ι => False) (fun v ι σ => v = .none ∧ Q (.ref l) σ) = _)) w
  funext f ρ σ
  cases f with
  | next => exact propext ⟨fun h => ⟨rfl, h⟩, fun h => h.2⟩
  | cont => rfl
  | ret v => rfl
section
variable {σ : So} {la : Las} {a : FA} {fc : Fct}
theorem FactsAt.ams (f : FactsAt σ la a fc) : a.l ≠ a.am ∧ a.dx ≠ a.am ∧ a.l ≠ a.as_ ∧ a.dx ≠ a.as_ ∧ a.l ≠ a.dx := by
  refine ⟨fun e => ?_, fun e => ?_, fun e => ?_, fun e => ?_, fun e => ?_⟩
  · have := f.obj; rw [e, f.made] at this; (injection this)
  · have := f.ns; rw [e, f.made] at this; (injection this)
  · have := f.obj; rw [e, f.setAt] at this; (injection this)
  · have := f.ns; rw [e, f.setAt] at this; (injection this)
  · have := f.obj; rw [e, f.ns] at this; (injection this)
theorem FactsAt.putMade {σ : So} {la : Las} {a : FA} {fc : Fct} (f : FactsAt σ la a fc) (m : List (Int × Shp × Int)) : FactsAt (upd σ a.am (.dI (mapD madeV m))) la a { fc with made := m } := by
  obtain ⟨h1, h2, h3, h4, h5⟩ := f.ams
  exact ⟨(upd_ne _ _ h1).trans f.obj, (upd_ne _ _ h2).trans f.ns, upd_self .., (upd_ne _ _ (Ne.symm f.ne)).trans f.setAt, f.ne⟩
theorem FactsAt.putSet {σ : So} {la : Las} {a : FA} {fc : Fct} (f : FactsAt σ la a fc) (m : List (Int × Int)) : FactsAt (upd σ a.as_ (.dI (mapD V.int m))) la a { fc with setAt := m } := by
  obtain ⟨h1, h2, h3, h4, h5⟩ := f.ams
  exact ⟨(upd_ne _ _ h3).trans f.obj, (upd_ne _ _ h4).trans f.ns, (upd_ne _ _ f.ne).trans f.made, upd_self .., f.ne⟩
theorem FactsAt.putNow {σ : So} {la : Las} {a : FA} {fc : Fct} (f : FactsAt σ la a fc) (t : Int) : FactsAt (upd σ a.dx (.ns (fctFs la a t))) la a { fc with now := t } := by
  obtain ⟨h1, h2, h3, h4, h5⟩ := f.ams
  exact ⟨(upd_ne _ _ h5).trans f.obj, upd_self .., (upd_ne _ _ (Ne.symm h2)).trans f.made, (upd_ne _ _ (Ne.symm h4)).trans f.setAt, f.ne⟩
end
theorem learn_ok {σ : So} {la : Las} {a : FA} {fc : Fct} {x : Int} {o : Opd} {Q : V → So → Prop} (L : Lib X) (f : FactsAt σ la a fc) (lt : fc.made.length < 1000) (q : ∀ σ', FactsAt σ' la a (learnF fc x o) → (∀ b, b ≠ a.am → σ' b = σ b) → Q .none σ') : Call X (n + 1) .learn [.ref a.l, .int x, o.v] σ Q := by
  refine call_kn L.co L.learn rfl ?_
  show WSs X n ir_learn [some (.ref a.l), some (.int x), some o.v] σ _
  unfold ir_learn
  walk_at "mine"
  refine f.aMade ?_
  walk_at "mine"
  refine ⟨a.am, x, rfl, rfl, .inl ⟨_, f.made, lt_lid (by rw [length_mapD]; lia), ?_⟩⟩
  walk_at "mine"
  have e : put (mapD madeV fc.made) x (.tup [.tup [.str .const, .lst [o.v], .int 0], .int 0]) = mapD madeV (learnF fc x o).made := put_map madeV fc.made x (⟨.const, [o], .int 0⟩, 0)
  rw [e]
  exact q _ (f.putMade _) fun b hb => upd_ne _ _ hb
theorem pass_ok {σ : So} {la : Las} {a : FA} {fc : Fct} {s : Sp} {Q : V → So → Prop} (L : Lib X) (f : FactsAt σ la a fc) (lt : fc.made.length < 1000) (lt2 : fc.setAt.length < 1000) (hs : s.op ∈ shaped)
    (q : ∀ σ', FactsAt σ' la a (passF fc s) → (∀ b, b ≠ a.dx → b ≠ a.am → b ≠ a.as_ → σ' b = σ b) → Q .none σ') : Call X (n + 1) .passStep [.ref a.l, s.v] σ Q := by
  refine call_kn L.co L.passStep rfl ?_
  show WSs X n ir_passStep [some (.ref a.l), some s.v] σ _
  unfold ir_passStep
  walk_at "mine"
  refine f.aNow ?_
  walk_at "mine"
  refine ⟨a.l, _, a.dx, _, rfl, f.obj, f.ns, (by show 5 < 100; lia), ?_⟩
  have f1 := f.putNow (fc.now + 1)
  have e1 : put (fctFs la a fc.now) .now (.int (fc.now + 1)) = fctFs la a (fc.now + 1) := rfl
  rw [e1]
  walk_at "mine"
  refine f1.aNow ?_
  walk_at "mine"
  refine f1.aSet ?_
  walk_at "mine"
  refine ⟨a.as_, s.dst, rfl, rfl, .inl ⟨_, f1.setAt, lt_lid (by rw [length_mapD]; show fc.setAt.length < _; lia), ?_⟩⟩
  have f2 := f1.putSet (pt fc.setAt s.dst (fc.now + 1))
  have e2 : put (mapD V.int fc.setAt) s.dst (.int (fc.now + 1)) = mapD V.int (pt fc.setAt s.dst (fc.now + 1)) := put_map V.int _ _ _
  show WSs X n _ _ (upd _ a.as_ (.dI (put (mapD V.int fc.setAt) s.dst (.int (fc.now + 1))))) _
  rw [e2]
  walk_at "mine"
  refine och_of (shaped_mem s.op) ?_
  rw [decide_eq_true hs]
  walk_at "mine"
  refine f2.aNow ?_
  walk_at "mine"
  refine f2.aMade ?_
  walk_at "mine"
  refine ⟨a.am, s.dst, rfl, rfl, .inl ⟨_, f2.made, lt_lid (by rw [length_mapD]; show fc.made.length < _; lia), ?_⟩⟩
  have f3 := f2.putMade (pt fc.made s.dst (s.shp, fc.now + 1))
  have e3 : put (mapD madeV fc.made) s.dst (.tup [.tup [.str s.op, .lst (s.args.map Opd.v), s.more], .int (fc.now + 1)]) = mapD madeV (pt fc.made s.dst (s.shp, fc.now + 1)) := put_map madeV fc.made s.dst (s.shp, fc.now + 1)
  show WSs X n _ _ (upd _ a.am (.dI (put (mapD madeV fc.made) s.dst (.tup [.tup [.str s.op, .lst (s.args.map Opd.v), s.more], .int (fc.now + 1)])))) _
  rw [e3]
  walk_at "mine"
  exact q _ f3 fun b h1 h2 h3 => by rw [upd_ne _ _ h2, upd_ne _ _ h3, upd_ne _ _ h1]
theorem facts_new {σ : So} {la : Las} {Q : V → So → Prop} (L : Lib X) (q : ∀ a σ', FactsAt σ' la a ⟨[], [], 0⟩ → σ a.l = none → σ a.dx = none → σ a.am = none → σ a.as_ = none → (∀ b, b ≠ a.l → b ≠ a.dx → b ≠ a.am → b ≠ a.as_ → σ' b = σ b) → Q (.ref a.l) σ') : Call X (n + 2) (.cls .Facts) [la.v] σ Q := by
  refine ctor_kn L.co (by simp [initN]) L.factsInit rfl fun l dx h1 h2 ne => ?_
  show WSs X n ir_factsInit [some (.ref l), some la.v] _ _
  generalize hs : upd σ l (.obj .Facts dx) = σ0
  have e1 : ∀ fs, upd σ0 dx (.ns fs) l = some (.obj .Facts dx) := fun fs => by rw [upd_ne _ _ ne, ← hs, upd_self]
  unfold ir_factsInit
  walk_at "mine"
  refine och_of (a := (.Lasting, [(.operands, .dI (mapD Opd.v la.ops)), (.shapes, .dI (mapD Shp.v la.shs))])) rfl ?_
  refine och_of (a := .dI (mapD Opd.v la.ops)) rfl ?_
  walk_at "mine"
  refine ⟨l, .Facts, dx, _, rfl, e1 _, upd_self .., (by decide), ?_⟩
  rw [upd_same]
  walk_at "mine"
  refine och_of (a := (.Lasting, [(.operands, .dI (mapD Opd.v la.ops)), (.shapes, .dI (mapD Shp.v la.shs))])) rfl ?_
  refine och_of (a := .dI (mapD Shp.v la.shs)) rfl ?_
  walk_at "mine"
  refine ⟨l, .Facts, dx, _, rfl, e1 _, upd_self .., (by show 1 < 100; lia), ?_⟩
  rw [upd_same]
  walk_at "mine"
  intro am ham
  have am0 : σ am = none ∧ am ≠ l ∧ am ≠ dx := by
    have b2 : am ≠ dx := fun e => by rw [e, upd_self] at ham; (injection ham)
    have b1 : am ≠ l := fun e => by rw [e, e1] at ham; (injection ham)
    rw [upd_ne _ _ b2, ← hs, upd_ne _ _ b1] at ham
    exact ⟨ham, b1, b2⟩
  walk_at "mine"
  refine ⟨l, .Facts, dx, _, rfl, by rw [upd_ne _ _ (Ne.symm am0.2.1)]; exact e1 _, by rw [upd_ne _ _ (Ne.symm am0.2.2)]; exact upd_self .., (by show 2 < 100; lia), ?_⟩
  rw [upd_comm am0.2.2, upd_same]
  walk_at "mine"
  intro as_ has
  have as0 : σ as_ = none ∧ as_ ≠ l ∧ as_ ≠ dx ∧ as_ ≠ am := by
    have b3 : as_ ≠ am := fun e => by rw [e, upd_self] at has; (injection has)
    rw [upd_ne _ _ b3] at has
    have b2 : as_ ≠ dx := fun e => by rw [e, upd_self] at has; (injection has)
    have b1 : as_ ≠ l := fun e => by rw [e, e1] at has; (injection has)
    rw [upd_ne _ _ b2, ← hs, upd_ne _ _ b1] at has
    exact ⟨has, b1, b2, b3⟩
  walk_at "mine"
  refine ⟨l, .Facts, dx, _, rfl, by rw [upd_ne _ _ (Ne.symm as0.2.1), upd_ne _ _ (Ne.symm am0.2.1)]; exact e1 _, by rw [upd_ne _ _ (Ne.symm as0.2.2.1), upd_ne _ _ (Ne.symm am0.2.2)]; exact upd_self .., (by show 3 < 100; lia), ?_⟩
  rw [upd_comm as0.2.2.1, upd_comm am0.2.2, upd_same]
  walk_at "mine"
  refine ⟨l, .Facts, dx, _, rfl, by rw [upd_ne _ _ (Ne.symm as0.2.1), upd_ne _ _ (Ne.symm am0.2.1)]; exact e1 _, by rw [upd_ne _ _ (Ne.symm as0.2.2.1), upd_ne _ _ (Ne.symm am0.2.2)]; exact upd_self .., (by show 4 < 100; lia), ?_⟩
  rw [upd_comm as0.2.2.1, upd_comm am0.2.2, upd_same]
  walk_at "mine"
  refine q ⟨l, dx, am, as_⟩ _ ⟨?_, ?_, ?_, ?_, Ne.symm as0.2.2.2⟩ h1 h2 am0.1 as0.1 fun b b1 b2 b3 b4 => ?_
  · show upd _ as_ _ l = _
    rw [upd_ne _ _ (Ne.symm as0.2.1), upd_ne _ _ (Ne.symm am0.2.1)]; exact e1 _
  · show upd _ as_ _ dx = _
    rw [upd_ne _ _ (Ne.symm as0.2.2.1), upd_ne _ _ (Ne.symm am0.2.2)]; exact upd_self ..
  · show upd _ as_ _ am = _
    rw [upd_ne _ _ (Ne.symm as0.2.2.2), upd_self]; rfl
  · show upd _ as_ _ as_ = _
    rw [upd_self]; rfl
  · show upd _ as_ _ b = _
    rw [upd_ne _ _ b4, upd_ne _ _ b3, upd_ne _ _ b2, ← hs, upd_ne _ _ b1]
theorem lasting_fz {la : Las} {σ : So} {Q : V → So → Prop} (L : Lib X) (h : Q la.v σ) : Call X (n + 2) (.cls .Lasting) [.dI (mapD Opd.v la.ops), .dI (mapD Shp.v la.shs)] σ fun v σ => FzQ σ v Q := by
  refine ctor_kn L.co (by simp [initN]) L.lastingInit rfl fun l dx h1 h2 ne => ?_
  show WSs X n ir_lastingInit [some (.ref l), some _, some _] _ _
  generalize hs : upd σ l (.obj .Lasting dx) = σ0
  have e1 : ∀ fs, upd σ0 dx (.ns fs) l = some (.obj .Lasting dx) := fun fs => by rw [upd_ne _ _ ne, ← hs, upd_self]
  unfold ir_lastingInit
  walk_at "mine"
  refine ⟨l, .Lasting, dx, _, rfl, e1 _, upd_self .., (by decide), ?_⟩
  rw [upd_same]
  walk_at "mine"
  refine ⟨l, .Lasting, dx, _, rfl, e1 _, upd_self .., (by show 1 < 100; lia), ?_⟩
  rw [upd_same]
  walk_at "mine"
  refine ⟨_, _, .obj (e1 _) (upd_self ..), ?_⟩
  rw [← hs, drp_two h1 h2 ne]
  exact h
end
section
variable {X : Cx} {n : Nat}
theorem FactsAt.off1 {σ σ' : So} {la : Las} {a : FA} {fc : Fct} (f : FactsAt σ la a fc) {c : Addr} (k : ∀ b, b ≠ c → σ' b = σ b) (h1 : a.l ≠ c) (h2 : a.dx ≠ c) (h3 : a.am ≠ c) (h4 : a.as_ ≠ c) : FactsAt σ' la a fc :=
  ⟨(k _ h1).trans f.obj, (k _ h2).trans f.ns, (k _ h3).trans f.made, (k _ h4).trans f.setAt, f.ne⟩
noncomputable def rkOf (o o' : Opd) : Option (Int × Int) := match o with | .r x => (match o' with | .k v => some (x, v) | .r _ => none) | .k _ => none
noncomputable def brArgs : List Opd → Option (Int × Int) | [] => none | o :: r => match r with | [] => none | o' :: _ => rkOf o o'
noncomputable def brOf (s : Option Shp) : Option (Int × Int) := match s with | none => none | some s => brArgs s.args
noncomputable def learnOf (fc : Fct) : Option (Int × Int) → Fct | some p => learnF fc p.1 (.k p.2) | none => fc
inductive BrAt (s : Option Shp) (x v : Int) : Prop | mk (op : Nm) (r : List Opd) (more : V) (e : s = some ⟨op, .r x :: .k v :: r, more⟩)
theorem brOf_inv {s : Option Shp} {p : Int × Int} (h : brOf s = some p) : BrAt s p.1 p.2 := by
  cases s with
  | none => exact nA h
  | some s =>
    obtain ⟨op, args, more⟩ := s
    cases args with
    | nil => exact nA h
    | cons o r => cases r with
      | nil => exact nA h
      | cons o' r => cases o with
        | k => exact nA h
        | r x => cases o' with
          | k v => cases h; exact ⟨op, r, more, rfl⟩
          | r => exact nA h
noncomputable def learnBrF (la : Las) (fb fc : Fct) (c number thn other : Int) : Fct :=
  let fc1 := if number = other then learnF fc c (.k 0) else fc
  if withNum (shapeF la fb c) (if number = thn then .eq else .ne) = true then
    learnOf fc1 (brOf (shapeF la fb c))
  else fc1
theorem learnBrF_ind {P : Fct → Prop} {la : Las} {fb fc : Fct} {c number thn other : Int} (h0 : P (if number = other then learnF fc c (.k 0) else fc))
    (h1 : ∀ x v, withNum (shapeF la fb c) (if number = thn then .eq else .ne) = true → BrAt (shapeF la fb c) x v → P (learnF (if number = other then learnF fc c (.k 0) else fc) x (.k v))) : P (learnBrF la fb fc c number thn other) := by
  delta learnBrF
  dsimp only
  by_cases hw : withNum (shapeF la fb c) (if number = thn then .eq else .ne) = true
  · rw [if_pos hw]
    cases e : brOf (shapeF la fb c) with
    | none => exact h0
    | some p => exact h1 _ _ hw (brOf_inv e)
  · rw [if_neg hw]; exact h0
theorem learnF_len (fc : Fct) (x : Int) (o : Opd) : (learnF fc x o).made.length ≤ fc.made.length + 1 := length_pt ..
theorem learnBranch_ok {σ : So} {la : Las} {a ab : FA} {fc fb : Fct} {e : Sp} {c number thn other : Int} {Q : V → So → Prop} (L : Lib X) (f : FactsAt σ la a fc) (g : FactsAt σ la ab fb) (dj : ab.l ≠ a.am ∧ ab.dx ≠ a.am ∧ ab.am ≠ a.am ∧ ab.as_ ≠ a.am)
    (he : e.args = [.r c]) (hm : e.more = .tup [.int thn, .int other]) (hto : thn ≠ other) (lt : fc.made.length < 500) (hs : ∀ t, shapeF la fb c = some t → t.args.length < 1000 ∧ (t.op = .eq ∨ t.op = .ne → 2 ≤ t.args.length))
    (q : ∀ σ', FactsAt σ' la a (learnBrF la fb fc c number thn other) → (∀ b, b ≠ a.am → σ' b = σ b) → Q .none σ') : Call X (n + 3) .learnBranch [e.v, .int number, .ref ab.l, .ref a.l] σ Q := by
  refine call_kn L.co L.learnBranch rfl ?_
  show WSs X (n + 2) ir_learnBranch [some e.v, some (.int number), some (.ref ab.l), some (.ref a.l), none, none, none, none, none] σ _
  unfold ir_learnBranch
  walk_at "mine"
  rw [hm]
  refine och_of rfl (och_of rfl ?_)
  walk_at "mine"
  rw [he]
  refine och_of (a := (Opd.r c).v) rfl ?_
  walk_at "mine"
  rw [decide_eq_false hto]
  walk_at "mine"
  have tail : ∀ fc1 σ1, FactsAt σ1 la a fc1 → FactsAt σ1 la ab fb → (∀ b, b ≠ a.am → σ1 b = σ b) → fc1.made.length < 900 → fc1 = (if number = other then learnF fc c (.k 0) else fc) →
      WSs X (n + 2) (.cons (.asg 7 (.meth .shape (.var 2) (.cons (.var 6) .nil))) (.cons (.asg 8 (.ite (.cmp .eq (.var 1) (.var 4)) (.str .eq) (.str .ne))) (.cons (.ite (.bop true (.cons (.call .withNumber (.cons (.var 7) (.cons (.var 8) .nil))) (.cons (.cmp .eq (.sub (.sub (.sub (.var 7) (.int 1)) (.int 0)) (.int 0)) (.str .r)) .nil))) (.cons (.expr (.meth .learn (.var 3) (.cons (.sub (.sub (.sub (.var 7) (.int 1)) (.int 0)) (.int 1)) (.cons (.sub (.sub (.var 7) (.int 1)) (.int 1)) .nil)))) .nil) .nil) .nil)))
        [some e.v, some (.int number), some (.ref ab.l), some (.ref a.l), some (.int thn), some (.int other), some (Opd.r c).v, none, none] σ1 (Kn (fun ι σ => Q .none σ) (fun ι ι => False) fun v ι σ => Q v σ) := fun fc1 σ1 f1 g1 sm lt1 e1 => by
    walk_at "mine"
    refine g1.meth ?_
    walk_at "mine"
    refine shape_ok L g1 ?_
    walk_at "mine"
    have fin : WSs X (n + 2) (.cons (.ite (.bop true (.cons (.call .withNumber (.cons (.var 7) (.cons (.var 8) .nil))) (.cons (.cmp .eq (.sub (.sub (.sub (.var 7) (.int 1)) (.int 0)) (.int 0)) (.str .r)) .nil))) (.cons (.expr (.meth .learn (.var 3) (.cons (.sub (.sub (.sub (.var 7) (.int 1)) (.int 0)) (.int 1)) (.cons (.sub (.sub (.var 7) (.int 1)) (.int 1)) .nil)))) .nil) .nil) .nil)
        [some e.v, some (.int number), some (.ref ab.l), some (.ref a.l), some (.int thn), some (.int other), some (Opd.r c).v, some (shpV (shapeF la fb c)), some (.str (if number = thn then .eq else .ne))] σ1 (Kn (fun ι σ => Q .none σ) (fun ι ι => False) fun v ι σ => Q v σ) := by
      generalize hw : (if number = thn then Nm.eq else Nm.ne) = w
      have hw2 : w = .eq ∨ w = .ne := by rw [← hw]; split; exact .inl rfl; exact .inr rfl
      walk_at "mine"
      refine withNumber_ok L (fun t ht => ⟨(hs t ht).1, fun eo => (hs t ht).2 (eo ▸ hw2)⟩) ?_
      walk_at "mine"
      have q' := q
      rw [show learnBrF la fb fc c number thn other = (if withNum (shapeF la fb c) w = true then learnOf fc1 (brOf (shapeF la fb c)) else fc1) by rw [e1, ← hw]; rfl] at q'
      by_cases hn : withNum (shapeF la fb c) w = true
      · rw [if_pos hn] at q'
        rw [hn]
        cases hsh : shapeF la fb c with
        | none => rw [hsh] at hn; (injection hn)
        | some t =>
          rw [hsh] at hn q'
          obtain ⟨op, args, more⟩ := t
          have h2 := (hs _ hsh).1
          obtain ⟨_, e0, -, o, v, r, e⟩ := withNum_inv hn
          cases e0
          cases e
          have hlen : (o :: Opd.k v :: r).length < 1000 := h2
          have i1 : ∀ σ, idxV σ (shpV (some ⟨op, o :: .k v :: r, more⟩)) (.int 1) = some (.lst ((o :: Opd.k v :: r).map Opd.v)) := fun σ => rfl
          have i2 : ∀ σ, idxV σ (.lst ((o :: Opd.k v :: r).map Opd.v)) (.int 0) = some o.v := fun σ => idx_nth 0 rfl (lt_lid (by simp at hlen ⊢; lia)) (by simp)
          have i3 : ∀ σ, idxV σ (.lst ((o :: Opd.k v :: r).map Opd.v)) (.int 1) = some (Opd.k v).v := fun σ => idx_nth 1 rfl (lt_lid (by simp at hlen ⊢; lia)) (by simp)
          walk_at "mine"
          refine och_of (i1 _) ?_
          walk_at "mine"
          refine och_of (i2 _) ?_
          cases o with
          | k u =>
            walk_at "mine"
            exact q' _ f1 sm
          | r x =>
            walk_at "mine"
            refine f1.meth ?_
            walk_at "mine"
            refine och_of (i1 _) ?_
            walk_at "mine"
            refine och_of (i2 _) ?_
            walk_at "mine"
            refine och_of (i1 _) ?_
            walk_at "mine"
            refine och_of (i3 _) ?_
            walk_at "mine"
            refine learn_ok L f1 (by lia) fun σ' f' s' => ?_
            walk_at "mine"
            exact q' _ f' fun b hb => (s' b hb).trans (sm b hb)
      · rw [if_neg hn] at q'
        rw [Bool.not_eq_true] at hn
        rw [hn]
        walk_at "mine"
        exact q' _ f1 sm
    refine ⟨fun hc => ?_, fun hc => ?_⟩
    · rw [if_pos (of_decide_eq_true hc)] at fin
      walk_at "mine"
      exact fin
    · rw [if_neg (of_decide_eq_false hc)] at fin
      walk_at "mine"
      exact fin
  refine ⟨fun hc => ?_, fun hc => ?_⟩
  · walk_at "mine"
    refine f.meth ?_
    walk_at "mine"
    refine num_ok L (.inl rfl) ?_
    walk_at "mine"
    refine learn_ok L f (by lia) fun σ1 f1 s1 => ?_
    have := learnF_len fc c (.k 0)
    refine tail _ σ1 f1 (g.off1 s1 dj.1 dj.2.1 dj.2.2.1 dj.2.2.2) s1 (by lia) (by rw [if_pos (of_decide_eq_true hc)])
  · refine tail _ σ f g (fun ι ι => rfl) (by lia) (by rw [if_neg (of_decide_eq_false hc)])
noncomputable def learnTbF (fc : Fct) (c number low : Int) : Fct := if number = 2 then learnF fc c (.k low) else fc
theorem learnTable_ok {σ : So} {la : Las} {a : FA} {fc : Fct} {e : Sp} {c number low : Int} {Q : V → So → Prop} (L : Lib X) (f : FactsAt σ la a fc) (hn : number = 2 ∨ number = 3)
    (he : e.args = [.r c]) (hm : e.more = .tup [.int low, .lst [.int 2], .int 3]) (hlow : low = 0 ∨ low = 1) (lt : fc.made.length < 500)
    (q : ∀ σ', FactsAt σ' la a (learnTbF fc c number low) → (∀ b, b ≠ a.am → σ' b = σ b) → Q .none σ') : Call X (n + 2) .learnTable [e.v, .int number, .ref a.l] σ Q := by
  refine call_kn L.co L.learnTable rfl ?_
  show WSs X (n + 1) ir_learnTable [some e.v, some (.int number), some (.ref a.l), none, none, none] σ _
  unfold ir_learnTable
  walk_at "mine"
  rw [hm]
  refine och_of rfl (och_of rfl ?_)
  rcases hn with rfl | rfl
  · walk_at "mine"
    refine och_of (a := 2) rfl ?_
    walk_at "mine"
    rw [he]
    refine och_of (a := (Opd.r c).v) rfl ?_
    walk_at "mine"
    refine f.meth ?_
    walk_at "mine"
    rw [he]
    refine och_of (a := (Opd.r c).v) rfl ?_
    walk_at "mine"
    refine och_of (a := 2) rfl ?_
    walk_at "mine"
    refine ⟨rfl, ?_⟩
    walk_at "mine"
    rw [Int.add_zero]
    refine num_ok L hlow ?_
    walk_at "mine"
    refine learn_ok L f (by lia) fun σ1 f1 s1 => ?_
    walk_at "mine"
    exact q _ f1 s1
  · walk_at "mine"
    exact q _ f fun ι ι => rfl
end
section
variable {X : Cx} {n : Nat}
noncomputable def saidG (la : Las) (fc : Fct) : Opd → Option V := fun o => match o with
  | .r x => some (rowF la fc x).v
  | .k _ => none
theorem rows_eq (la : Las) (fc : Fct) : ∀ args : List Opd, args.filterMap (saidG la fc) = (rowsF la fc args).map Rw.v
  | [] => rfl
  | .r x :: r => by
    show (rowF la fc x).v :: r.filterMap (saidG la fc) = _
    rw [rows_eq la fc r]; rfl
  | .k x :: r => by
    show r.filterMap (saidG la fc) = _
    rw [rows_eq la fc r]; rfl
theorem said_ok {σ : So} {la : Las} {a : FA} {fc : Fct} {s : Sp} {Q : V → So → Prop} (L : Lib X) (f : FactsAt σ la a fc) (hm : ∀ x s t, lk fc.made x = some (s, t) → s.args.length < 1000 ∧ (s.op ∈ telling → 1 ≤ s.args.length)) (lt : s.args.length < 100)
    (q : Q (.lst ((rowsF la fc s.args).map Rw.v)) σ) : Call X (n + 3) .said [.ref a.l, s.v] σ Q := by
  refine call_kn L.co L.said rfl ?_
  show WSs X (n + 2) ir_said [some (.ref a.l), some s.v] σ _
  unfold ir_said
  walk_at "mine"
  refine och_of rfl ⟨lt_lid (by simp; lia), ?_⟩
  refine comp_filter (g := saidG la fc) (fun o ho k hk => ?_) ?_
  · cases o with
    | k v =>
      refine och_of (a := [some (.str .k), some (.int v), some (.ref a.l)]) rfl ?_
      dsimp only
      walk_at "mine"
      exact hk
    | r x =>
      refine och_of (a := [some (.str .r), some (.int x), some (.ref a.l)]) rfl ?_
      dsimp only
      walk_at "mine"
      refine f.meth ?_
      walk_at "mine"
      refine best_ok L f (hm x) ?_
      walk_at "mine"
      refine f.meth ?_
      walk_at "mine"
      refine shape_ok L f ?_
      walk_at "mine"
      exact hk
  · rw [rows_eq, List.nil_append]
    have : (rowsF la fc s.args).length ≤ s.args.length := by
      unfold rowsF regsOf; rw [List.length_map]; exact List.length_filterMap_le ..
    refine o_newF (by rw [List.length_map]; lia) ?_
    exact q
inductive End : Sp → List Int → Prop
  | jump {t : Int} : End ⟨.jump, -1, [], .int t⟩ [t]
  | branch {c t o : Int} : t ≠ o → End ⟨.branch, -1, [.r c], .tup [.int t, .int o]⟩ [t, o]
  | table {c low : Int} : low = 0 ∨ low = 1 → End ⟨.table, -1, [.r c], .tup [.int low, .lst [.int 2], .int 3]⟩ [2, 3]
  | give {x : Int} : End ⟨.give, -1, [.r x], .int 0⟩ []
theorem End.short {e : Sp} {fs : List Int} (h : End e fs) : fs.length ≤ 2 := by (injection h) <;> simp
theorem followers_ok {σ : So} {b : Blk} {fs : List Int} {Q : V → So → Prop} (L : Lib X) (he : End b.end_ fs) (q : Q (.lst (fs.map .int)) σ) : Call X (n + 1) .followers [b.v] σ Q := by
  refine call_kn L.co L.followers rfl ?_
  show WSs X n ir_followers [some b.v, none] σ _
  obtain ⟨num, steps, e⟩ := b
  unfold ir_followers
  cases he with
  | jump =>
    walk_at "mine"
    exact q
  | branch =>
    walk_at "mine"
    exact q
  | table =>
    walk_at "mine"
    refine call_list L.bi (.inl rfl) ?_
    walk_at "mine"
    refine och_of rfl (och_of rfl ?_)
    refine o_newF (by simp) ?_
    walk_at "mine"
    exact q
  | give =>
    walk_at "mine"
    exact q
structure PredAt (σ : So) (as_ : List Addr) (ps : List (List Int)) : Prop where
  len : as_.length = ps.length
  at_ : ∀ (j : Nat) (a : Addr) (l : List Int), as_[j]? = some a → ps[j]? = some l → σ a = some (.lst (l.map .int))
  nd : as_.Nodup
  small : as_.length < 100 ∧ ∀ l ∈ ps, l.length < 100
theorem PredAt.put {σ : So} {as_ : List Addr} {ps : List (List Int)} (p : PredAt σ as_ ps) {j : Nat} {a : Addr} {l : List Int} (ha : as_[j]? = some a) (hl : l.length < 100) : PredAt (upd σ a (.lst (l.map .int))) as_ (ps.set j l) := by
  refine ⟨by rw [List.length_set]; exact p.len, fun i b m hb hm => ?_, p.nd, p.small.1, fun m hm => ?_⟩
  · by_cases q : i = j
    · subst q
      rw [ha] at hb; (injection hb)
      rw [upd_self]
      have hi : i < ps.length := by rw [← p.len]; exact (List.getElem?_eq_some_iff.mp ha).1
      rw [List.getElem?_set_self hi] at hm; (injection hm); rfl
    · rw [List.getElem?_set_ne (Ne.symm q)] at hm
      rw [upd_ne]
      · exact p.at_ i b m hb hm
      · intro e
        subst e
        obtain ⟨h1, e1⟩ := List.getElem?_eq_some_iff.mp hb
        obtain ⟨h2, e2⟩ := List.getElem?_eq_some_iff.mp ha
        exact q ((List.getElem_inj p.nd).mp (e1.trans e2.symm))
  · rcases List.mem_or_eq_of_mem_set hm with h | rfl
    · exact p.small.2 m h
    · exact hl
noncomputable def addP (i : Int) (ps : List (List Int)) (t : Int) : List (List Int) := if i ∈ (ps[t.toNat]?).getD [] then ps else ps.set t.toNat ((ps[t.toNat]?).getD [] ++ [i])
theorem any_int {x : Int} {ms : List Int} : (ms.map V.int).any (eqIntV x) = decide (x ∈ ms) := by
  induction ms with
  | nil => rfl
  | cons y xs ih => simp only [List.map_cons, List.any_cons, ih, eqIntV, List.mem_cons, Bool.decide_or]
theorem all_int {ms : List Int} : (ms.map V.int).all isIntV = true := by
  induction ms with
  | nil => rfl
  | cons y xs ih => simp only [List.map_cons, List.all_cons, ih, isIntV, Bool.and_self]
theorem notin_lst {σ : So} {x : Int} {a : Addr} {l : List Int} (h : σ a = some (.lst (l.map .int))) : cmpV σ .notIn (.int x) (.ref a) = some (!decide (x ∈ l)) := by
  show Option.map (!·) (memM x (σ a)) = _
  rw [h]
  show Option.map (!·) (if _ then _ else none) = _
  rw [if_pos all_int, any_int]; rfl
noncomputable def predB : Ss := (.cons (.ite (.cmp .notIn (.attr (.var 2) .number) (.sub (.var 1) (.var 3))) (.cons (.expr (.append (.sub (.var 1) (.var 3)) (.attr (.var 2) .number))) .nil) .nil) .nil)
theorem pred_in {as_ : List Addr} {b : Blk} {d : V} (hb : b.number.toNat < 1000000) : ∀ (fs : List Int) {ps : List (List Int)} {σ : So} {o3 : Option V} {A C : Ro → So → Prop} {R : V → Ro → So → Prop}, PredAt σ as_ ps → (∀ t ∈ fs, 0 ≤ t ∧ t < as_.length) → (∀ l ∈ ps, l.length + fs.length < 100) →
    (∀ σ' o3, PredAt σ' as_ (fs.foldl (addP b.number) ps) → (∀ c, c ∉ as_ → σ' c = σ c) → A [some d, some (.lst (as_.map .ref)), some b.v, o3] σ') →
    forL (turnOf X n (.v 3) predB) (fs.map .int) [some d, some (.lst (as_.map .ref)), some b.v, o3] σ (Kn A C R)
  | [], ps, σ, o3, A, C, R, p, _, _, h => for_nil (h σ _ p fun ι ι => rfl)
  | t :: fs, ps, σ, o3, A, C, R, p, ht, hz, h => by
    obtain ⟨t0, t1⟩ := ht t (.head _)
    have ti : t.toNat < as_.length := by lia
    have tj : t.toNat < ps.length := by rw [← p.len]; exact ti
    have e1 : as_[t.toNat]? = some as_[t.toNat] := List.getElem?_eq_getElem ti
    have e2 : ps[t.toNat]? = some ps[t.toNat] := List.getElem?_eq_getElem tj
    have hs := p.at_ _ _ _ e1 e2
    have hl : ps[t.toNat].length + (t :: fs).length < 100 := hz _ (List.getElem_mem tj)
    have sm := p.small.1
    simp only [List.length_cons] at hl
    refine for_cons (och_of rfl ?_)
    show WSs X n predB [some d, some (.lst (as_.map .ref)), some b.v, some (.int t)] σ _
    have hix : ∀ σ, idxV σ (.lst (as_.map .ref)) (.int t) = some (.ref as_[t.toNat]) := fun σ => idx_pos rfl (lt_lid (by rw [List.length_map]; lia)) t0 (by simp [e1])
    unfold predB
    walk_at "mine"
    refine och_of (hix _) ?_
    refine och_of (notin_lst hs) ?_
    by_cases q : b.number ∈ ps[t.toNat]
    · rw [decide_eq_true q]
      show (false = true → _) ∧ (false = false → _)
      walk_at "mine"
      have e3 : addP b.number ps t = ps := by simp only [addP, e2, Option.getD_some]; exact if_pos q
      refine pred_in hb fs p (fun u hu => ht u (.tail _ hu)) (fun l hl => by have := hz l hl; simp only [List.length_cons] at this; lia) fun σ' o3 p' s' => h σ' o3 (by rw [List.foldl_cons, e3]; exact p') s'
    · rw [decide_eq_false q]
      show (true = true → _) ∧ (true = false → _)
      walk_at "mine"
      refine och_of (hix _) ⟨isL hs, ?_⟩
      walk_at "mine"
      refine ⟨_, _, rfl, hs, lt_lid (by rw [List.length_map]; lia), ?_⟩
      walk_at "mine"
      have e3 : addP b.number ps t = ps.set t.toNat (ps[t.toNat] ++ [b.number]) := by simp only [addP, e2, Option.getD_some]; exact if_neg q
      have e4 : (ps[t.toNat].map V.int ++ [.int b.number]) = (ps[t.toNat] ++ [b.number]).map .int := by simp
      rw [e4]
      have p2 := p.put (l := ps[t.toNat] ++ [b.number]) e1 (by simp; lia)
      refine pred_in hb fs p2 (fun u hu => ht u (.tail _ hu)) (fun l hl => ?_) fun σ' o3 p' s' => h σ' o3 (by rw [List.foldl_cons, e3]; exact p') fun c hc => ?_
      · rcases List.mem_or_eq_of_mem_set hl with h' | rfl
        · have := hz l h'; simp only [List.length_cons] at this; lia
        · simp; lia
      · rw [s' c hc, upd_ne]
        rintro rfl
        exact hc (List.getElem_mem ti)
noncomputable def predO : Ss := (.cons (.for_ (.v 3) .seq (.call .followers (.cons (.var 2) .nil)) predB) .nil)
noncomputable def predsF (ps : List (List Int)) (bf : List (Blk × List Int)) : List (List Int) := bf.foldl (fun ps p => p.2.foldl (addP p.1.number) ps) ps
theorem addP_len {i t : Int} {ps : List (List Int)} : (addP i ps t).length = ps.length := by
  unfold addP; split <;> simp
theorem addP_fold {i : Int} {k : Nat} : ∀ (fs : List Int) {ps : List (List Int)}, (∀ l ∈ ps, l.length + fs.length ≤ k) → ∀ l ∈ fs.foldl (addP i) ps, l.length ≤ k
  | [], ps, h, l, hl => h l hl
  | t :: fs, ps, h, l, hl => by
    refine addP_fold fs (fun m hm => ?_) l hl
    simp only [List.length_cons] at h
    unfold addP at hm
    split at hm
    · have := h m hm; lia
    · rcases List.mem_or_eq_of_mem_set hm with h' | rfl
      · have := h m h'; lia
      · cases e : ps[t.toNat]? with
        | none =>
          rw [e, List.set_eq_of_length_le (by simpa using List.getElem?_eq_none_iff.mp e)] at hm
          have := h _ hm
          simp only [Option.getD_none, List.nil_append, List.length_singleton] at this ⊢; lia
        | some l' =>
          have := h l' (List.mem_of_getElem? e)
          simp; lia
theorem pred_out {as_ : List Addr} {d : V} (L : Lib X) : ∀ (bf : List (Blk × List Int)) {m : Nat} {ps : List (List Int)} {σ : So} {o2 o3 : Option V} {A C : Ro → So → Prop} {R : V → Ro → So → Prop}, PredAt σ as_ ps → (∀ p ∈ bf, End p.1.end_ p.2 ∧ p.1.number.toNat < 1000000 ∧ ∀ t ∈ p.2, 0 ≤ t ∧ t < as_.length) → (∀ l ∈ ps, l.length ≤ m) → m + 2 * bf.length < 90 →
    (∀ σ' o2 o3, PredAt σ' as_ (predsF ps bf) → (∀ c, c ∉ as_ → σ' c = σ c) → A [some d, some (.lst (as_.map .ref)), o2, o3] σ') →
    forL (turnOf X (n + 1) (.v 2) predO) ((bf.map (·.1)).map Blk.v) [some d, some (.lst (as_.map .ref)), o2, o3] σ (Kn A C R)
  | [], m, ps, σ, o2, o3, A, C, R, p, _, _, _, h => for_nil (h σ _ _ p fun ι ι => rfl)
  | (b, fs) :: bf, m, ps, σ, o2, o3, A, C, R, p, hb, hz, hm, h => by
    obtain ⟨h1, h2, h3⟩ := hb (b, fs) (.head _)
    have hsh := h1.short
    dsimp only at hsh
    simp only [List.length_cons] at hm
    refine for_cons (och_of rfl ?_)
    show WSs X (n + 1) predO [some d, some (.lst (as_.map .ref)), some b.v, o3] σ _
    unfold predO
    walk_at "mine"
    refine followers_ok L h1 ?_
    refine och_of rfl ?_
    refine pred_in h2 fs p h3 (fun l hl => by have := hz l hl; lia) fun σ' o3 p' s' => ?_
    walk_at "mine"
    refine pred_out L bf (m := m + 2) (ps := fs.foldl (addP b.number) ps) p' (fun q hq => hb q (.tail _ hq)) (addP_fold fs (fun l hl => by have := hz l hl; lia)) (by lia) fun σ'' o2 o3 p'' s'' => h σ'' o2 o3 p'' fun c hc => (s'' c hc).trans (s' c hc)
end
section
variable {X : Cx} {n : Nat}
theorem comp_new : ∀ (xs : List V) {as_ : List Addr} {σ : So} {Q : List V → So → Prop}, as_.length + xs.length < 100 → PredAt σ as_ (List.replicate as_.length []) →
    (∀ as' σ', as'.length = as_.length + xs.length → PredAt σ' as' (List.replicate as'.length []) → (∀ c, c ∉ as' → σ' c = σ c) → (∀ c ∈ as', c ∈ as_ ∨ σ c = none) → (∀ c ∈ as_, c ∈ as') → Q (as'.map .ref) σ') → compL (turnC X n [none] (.v 0) (.lst true .nil) none) xs (as_.map .ref) σ Q
  | [], as_, σ, Q, _, p, h => h as_ σ rfl p (fun ι ι => rfl) (fun c hc => .inl hc) fun c hc => hc
  | x :: xs, as_, σ, Q, lt, p, h => by
    unfold compL
    refine och_of rfl ?_
    dsimp only
    walk_at "mine"
    refine o_newT (by simp) fun A hA => ?_
    simp only [List.length_cons] at lt
    have hnA : A ∉ as_ := fun hm => by
      obtain ⟨j, hj, e⟩ := List.getElem_of_mem hm
      have := p.at_ j A [] (by rw [List.getElem?_eq_getElem hj, e]) (by rw [List.getElem?_replicate, if_pos hj])
      rw [hA] at this; (injection this)
    have p2 : PredAt (upd σ A (.lst [])) (as_ ++ [A]) (List.replicate (as_ ++ [A]).length []) := by
      refine ⟨by simp, fun j a l ha hl => ?_, ?_, by simp; lia, fun l hl => by rw [(List.mem_replicate.mp hl).2]; simp⟩
      · have : l = [] := by
          rw [List.getElem?_replicate] at hl
          split at hl <;> (injection hl); rfl
        subst this
        by_cases q : a = A
        · subst q; rw [upd_self]; rfl
        · rw [upd_ne _ _ q]
          have hj : j < as_.length := by
            rw [List.getElem?_append] at ha
            split at ha
            · assumption
            · have := List.mem_of_getElem? ha
              exact absurd (List.mem_singleton.mp this) q
          rw [List.getElem?_append_left hj] at ha
          exact p.at_ j a [] ha (by rw [List.getElem?_replicate, if_pos hj])
      · rw [List.nodup_append]
        exact ⟨p.nd, by simp, fun a ha b hb e => hnA (by rw [List.mem_singleton.mp hb] at e; exact e ▸ ha)⟩
    have e1 : as_.map V.ref ++ [V.ref A] = (as_ ++ [A]).map .ref := by simp
    show compL _ xs (as_.map V.ref ++ [V.ref A]) _ _
    rw [e1]
    refine comp_new xs (by simp; lia) p2 fun as' σ' h1 h2 h3 h4 h5 => ?_
    refine h as' σ' (by rw [h1]; simp; lia) h2 (fun c hc => ?_) (fun c hc => ?_) fun c hc => h5 c (List.mem_append.mpr (.inl hc))
    · rw [h3 c hc, upd_ne]
      rintro rfl
      exact hc (h5 _ (List.mem_append.mpr (.inr (by simp))))
    · rcases h4 c hc with h | h
      · rcases List.mem_append.mp h with h | h
        · exact .inl h
        · rw [List.mem_singleton.mp h]; exact .inr hA
      · by_cases q : c = A
        · rw [q]; exact .inr hA
        · rw [upd_ne _ _ q] at h; exact .inr h
theorem preds_ok {σ : So} {bf : List (Blk × List Int)} {rg : Int} {Q : V → So → Prop} (L : Lib X) (hb : ∀ p ∈ bf, End p.1.end_ p.2 ∧ p.1.number.toNat < 1000000 ∧ ∀ t ∈ p.2, 0 ≤ t ∧ t < bf.length) (lt : bf.length < 20)
    (q : ∀ as_ σ', PredAt σ' as_ (predsF (List.replicate bf.length []) bf) → (∀ c ∈ as_, σ c = none) → (∀ c, c ∉ as_ → σ' c = σ c) → Q (.lst (as_.map .ref)) σ') : Call X (n + 2) .preds [drawnV (bf.map (·.1)) rg] σ Q := by
  refine call_kn L.co L.preds rfl ?_
  show WSs X (n + 1) ir_preds [some (drawnV (bf.map (·.1)) rg), none, none, none] σ _
  unfold ir_preds
  walk_at "mine"
  refine och_of rfl ⟨lt_lid (by simp; lia), ?_⟩
  refine comp_new (n := n + 1) (as_ := []) _ (by simp; lia) ⟨rfl, fun j a l h => by simp at h, by simp, by simp, fun l hl => by simp at hl⟩ fun as_ σ1 h1 h2 h3 h4 ι => ?_
  have h1 : as_.length = bf.length := by simpa using h1
  refine o_newF (by rw [List.length_map]; lia) ?_
  walk_at "mine"
  refine och_of rfl ?_
  rw [h1] at h2
  refine pred_out (n := n) L bf (m := 0) h2 (fun p hp => by rw [h1]; exact hb p hp) (fun l hl => by rw [(List.mem_replicate.mp hl).2]; simp) (by lia) fun σ2 o2 o3 p2 s2 => ?_
  walk_at "mine"
  refine q as_ σ2 p2 (fun c hc => ?_) fun c hc => (s2 c hc).trans (h3 c hc)
  rcases h4 c hc with h | h
  · (injection h)
  · exact h
theorem while_step {t : E} {body : Ss} {k : Nat} {ρ : Ro} {σ : So} {a c : Ro → So → Prop} {r : V → Ro → So → Prop}
    (h : Wt X n t ρ σ fun b σ => (b = true → WSs X n body ρ σ (Kn (fun ρ σ => whileL (fun ρ σ q => Wt X n t ρ σ q) (fun ρ σ q => WSs X n body ρ σ q) k ρ σ (Kn a c r)) (fun ρ σ => whileL (fun ρ σ q => Wt X n t ρ σ q) (fun ρ σ q => WSs X n body ρ σ q) k ρ σ (Kn a c r)) r)) ∧ (b = false → a ρ σ)) :
    whileL (fun ρ σ q => Wt X n t ρ σ q) (fun ρ σ q => WSs X n body ρ σ q) (k + 1) ρ σ (Kn a c r) := by
  unfold whileL
  refine cast (congrArg (Wt X n t ρ σ) ?_) h
  funext b σ'
  refine congrArg (fun p => (b = true → p) ∧ (b = false → a ρ σ')) ?_
  refine congrArg (WSs X n body ρ σ') ?_
  funext f ρ σ
  (injection f) <;> rfl
structure PoAt (σ : So) (af an ak : Addr) (found seen : List Int) (st : List (Addr × Int × List Int × Nat)) : Prop where
  f : σ af = some (.lst (found.map .int))
  s : σ an = some (.set seen)
  k : σ ak = some (.lst (st.map fun e => V.ref e.1).reverse)
  e : ∀ e ∈ st, σ e.1 = some (.lst [.int e.2.1, .lst (e.2.2.1.map .int), .int (e.2.2.2 : Int)]) ∧ e.1 ≠ af ∧ e.1 ≠ ak ∧ e.1 ≠ an
  nd : (st.map (·.1)).Nodup
  d : af ≠ ak ∧ af ≠ an ∧ ak ≠ an
noncomputable def poRun (fl : List (List Int)) : Nat → List Int → List Int → List (Int × List Int × Nat) → Option (List Int)
  | 0, _, _, _ => none
  | _ + 1, found, _, [] => some found
  | k + 1, found, seen, (x, fs, i) :: st => if i = fs.length then poRun fl k (found ++ [x]) seen st else match fs[i]? with
    | none => none
    | some y => if y ∈ seen then poRun fl k found seen ((x, fs, i + 1) :: st) else if 0 ≤ y ∧ y.toNat < fl.length then poRun fl k found (seen ++ [y]) ((y, (fl[y.toNat]?).getD [], 0) :: (x, fs, i + 1) :: st) else none
noncomputable def poBody : Ss := (.cons (.asg 4 (.sub (.var 3) (.neg (.int 1)))) (.cons (.ite (.cmp .eq (.sub (.var 4) (.int 2)) (.call .len (.cons (.sub (.var 4) (.int 1)) .nil))) (.cons (.expr (.append (.var 1) (.sub (.var 4) (.int 0)))) (.cons (.expr (.pop (.var 3))) (.cons .cont .nil))) .nil) (.cons (.asg 5 (.sub (.sub (.var 4) (.int 1)) (.sub (.var 4) (.int 2)))) (.cons (.augS (.var 4) (.int 2) .add (.int 1)) (.cons (.ite (.cmp .notIn (.var 5) (.var 2)) (.cons (.expr (.sadd (.var 2) (.var 5))) (.cons (.expr (.append (.var 3) (.lst true (.cons (.var 5) (.cons (.call .followers (.cons (.sub (.attr (.var 0) .blocks) (.var 5)) .nil)) (.cons (.int 0) .nil)))))) .nil)) .nil) .nil)))))
theorem notin_set {σ : So} {x : Int} {a : Addr} {l : List Int} (h : σ a = some (.set l)) : cmpV σ .notIn (.int x) (.ref a) = some (!decide (x ∈ l)) := by
  show Option.map (!·) (memM x (σ a)) = _
  rw [h]; rfl
set_option tactic.hygienic true in
theorem po_while {bs : List Blk} {fl : List (List Int)} {rg : Int} {af an ak : Addr} {res : List Int} (L : Lib X) (hb : ∀ (j : Nat) b fs, bs[j]? = some b → fl[j]? = some fs → End b.end_ fs) (hbl : bs.length = fl.length) (hbz : bs.length < 1000) : ∀ (k : Nat) {found seen : List Int} {st : List (Addr × Int × List Int × Nat)} {σ : So} {o4 o5 : Option V} {A C : Ro → So → Prop} {R : V → Ro → So → Prop},
    PoAt σ af an ak found seen st → poRun fl k found seen (st.map (·.2)) = some res → found.length + k < 90 → seen.length + k < 90 → st.length + k < 90 → (∀ e ∈ st, e.2.2.1.length ≤ 2) →
    (∀ σ' o4 o5, σ' af = some (.lst (res.map .int)) → (∀ c, (σ c).isSome = true → c ≠ af → c ≠ an → c ≠ ak → c ∉ st.map (·.1) → σ' c = σ c) → A [some (drawnV bs rg), some (.ref af), some (.ref an), some (.ref ak), o4, o5] σ') →
    whileL (fun ρ σ q => Wt X (n + 1) (.var 3) ρ σ q) (fun ρ σ q => WSs X (n + 1) poBody ρ σ q) k [some (drawnV bs rg), some (.ref af), some (.ref an), some (.ref ak), o4, o5] σ (Kn A C R)
  | 0, found, seen, st, σ, o4, o5, A, C, R, p, hr, _, _, _, _, h => by simp [poRun] at hr
  | k + 1, found, seen, [], σ, o4, o5, A, C, R, p, hr, _, _, _, _, h => by
    refine while_step (wt_var rfl ?_)
    have := p.k
    refine och_of (a := false) (truthV_at this (by decide)) ?_
    walk_at "mine"
    simp only [poRun, List.map_nil, Option.some.injEq] at hr
    exact h σ o4 o5 (by rw [← hr]; exact p.f) fun ι ι ι ι ι ι => rfl
  | k + 1, found, seen, (e, x, fs, i) :: st, σ, o4, o5, A, C, R, p, hr, z1, z2, z3, z4, h => by
    refine while_step (wt_var rfl ?_)
    have pk := p.k
    have pe := p.e (e, x, fs, i) (.head _)
    dsimp only at pe
    have hfs : fs.length ≤ 2 := z4 _ (.head _)
    simp only [List.length_cons] at z3
    have hkl : (List.map (fun e => V.ref e.1) ((e, x, fs, i) :: st)).reverse.length < 1000000 := by simp; lia
    refine och_of (a := true) ((truthV_at pk (lt_lid hkl)).trans (by simp)) ?_
    walk_at "mine"
    show WSs X (n + 1) poBody _ _ _
    unfold poBody
    walk_at "mine"
    have hix : idxV σ (.ref ak) (.int (-1)) = some (.ref e) := by
      refine idx_neg (itemsV_at pk) (lt_lid hkl) (by decide) (by simp; lia) ?_
      rw [show ((List.map (fun e => V.ref e.1) ((e, x, fs, i) :: st)).reverse.length : Int) + -1 = ((st.length : Nat) : Int) by simp; lia]
      rw [Int.toNat_natCast]
      simp
    refine och_of hix ?_
    walk_at "mine"
    have it : ∀ {σ'}, σ' e = σ e → itemsV σ' (.ref e) = some [.int x, .lst (fs.map .int), .int (i : Int)] := fun {σ'} he => itemsV_at (he.trans pe.1)
    have t0 := fun {σ'} he => idx_nth (σ := σ') 0 (v := .int x) (it he) (lt_lid (by simp)) rfl
    have t1 := fun {σ'} he => idx_nth (σ := σ') 1 (v := .lst (fs.map .int)) (it he) (lt_lid (by simp)) rfl
    have t2 := fun {σ'} he => idx_nth (σ := σ') 2 (v := .int (i : Int)) (it he) (lt_lid (by simp)) rfl
    refine och_of (t2 rfl) ?_
    walk_at "mine"
    refine och_of (t1 rfl) ?_
    walk_at "mine"
    refine call_len L.bi (k := fs.length) lenV_ints (lt_lid (by lia)) ?_
    walk_at "mine"
    have dd := p.d
    have nd := p.nd
    simp only [List.map_cons, List.nodup_cons] at nd
    simp only [List.map_cons, poRun] at hr
    refine ⟨fun hc => ?_, fun hc => ?_⟩
    · have hc : i = fs.length := by have := of_decide_eq_true hc; lia
      rw [if_pos hc] at hr
      walk_at "mine"
      refine ⟨isL p.f, ?_⟩
      walk_at "mine"
      refine och_of (t0 rfl) ?_
      refine ⟨af, _, rfl, p.f, lt_lid (by rw [List.length_map]; lia), ?_⟩
      walk_at "mine"
      refine ⟨ak, (st.map fun e => V.ref e.1).reverse, .ref e, rfl, by rw [upd_ne _ _ (Ne.symm dd.1), pk]; simp, lt_lid (by simp; lia), ?_⟩
      walk_at "mine"
      have e4 : (found.map V.int ++ [.int x]) = (found ++ [x]).map .int := by simp
      rw [e4]
      refine po_while (σ := upd (upd σ af (.lst ((found ++ [x]).map .int))) ak (.lst (st.map fun e => V.ref e.1).reverse)) L hb hbl hbz k (found := found ++ [x]) (seen := seen) (st := st) ?_ hr (by simp; lia) (by lia) (by lia) (fun e he => z4 e (.tail _ he)) fun σ' o4 o5 h1 h2 => h σ' o4 o5 h1 fun c c0 c1 c2 c3 c4 => ?_
      · refine ⟨?_, ?_, upd_self .., fun e' he' => ?_, nd.2, dd⟩
        · rw [upd_ne _ _ dd.1, upd_self]
        · rw [upd_ne _ _ (Ne.symm dd.2.2), upd_ne _ _ (Ne.symm dd.2.1)]; exact p.s
        · have := p.e e' (.tail _ he')
          exact ⟨by rw [upd_ne _ _ this.2.2.1, upd_ne _ _ this.2.1]; exact this.1, this.2⟩
      · simp only [List.map_cons, List.mem_cons, not_or] at c4
        rw [h2 c (by rw [upd_ne _ _ c3, upd_ne _ _ c1]; exact c0) c1 c2 c3 c4.2, upd_ne _ _ c3, upd_ne _ _ c1]
    · have hc : i ≠ fs.length := by have := of_decide_eq_false hc; lia
      rw [if_neg hc] at hr
      cases hy : fs[i]? with
      | none => rw [hy] at hr; (injection hr)
      | some y =>
        rw [hy] at hr
        dsimp only at hr
        walk_at "mine"
        refine och_of (t1 rfl) ?_
        walk_at "mine"
        refine och_of (t2 rfl) ?_
        refine och_of (idx_nth i (v := .int y) rfl (lt_lid (by rw [List.length_map]; lia)) (by simp [hy])) ?_
        walk_at "mine"
        refine och_of (t2 rfl) ?_
        walk_at "mine"
        refine ⟨e, 2, _, rfl, rfl, pe.1, lt_lid (by simp), by decide, (by show (2 : Int) < 3; decide), ?_⟩
        show WSs X (n + 1) _ _ (upd σ e (.lst [.int x, .lst (fs.map .int), .int ((i : Int) + 1)])) _
        have p2 : PoAt (upd σ e (.lst [.int x, .lst (fs.map .int), .int ((i : Int) + 1)])) af an ak found seen ((e, x, fs, i + 1) :: st) := by
          refine ⟨by rw [upd_ne _ _ (Ne.symm pe.2.1)]; exact p.f, by rw [upd_ne _ _ (Ne.symm pe.2.2.2)]; exact p.s, by rw [upd_ne _ _ (Ne.symm pe.2.2.1), pk]; simp, fun e' he' => ?_, by simp only [List.map_cons, List.nodup_cons]; exact nd, dd⟩
          rcases List.mem_cons.mp he' with rfl | he'
          · exact ⟨by rw [upd_self]; rfl, pe.2⟩
          · have := p.e e' (.tail _ he')
            refine ⟨?_, this.2⟩
            rw [upd_ne]
            · exact this.1
            · intro q; exact nd.1 (List.mem_map.mpr ⟨e', he', q⟩)
        generalize hσ1 : upd σ e (.lst [.int x, .lst (fs.map .int), .int ((i : Int) + 1)]) = σ1 at p2 ⊢
        have oth : ∀ c, c ≠ e → σ1 c = σ c := fun c hc => by rw [← hσ1, upd_ne _ _ hc]
        walk_at "mine"
        refine och_of (notin_set p2.s) ?_
        by_cases q : y ∈ seen
        · rw [if_pos q] at hr
          rw [decide_eq_true q]
          show (false = true → _) ∧ (false = false → _)
          walk_at "mine"
          refine po_while L hb hbl hbz k p2 hr (by lia) (by lia) (by simp; lia) (fun e' he' => ?_) fun σ' o4 o5 h1 h2 => h σ' o4 o5 h1 fun c c0 c1 c2 c3 c4 => ?_
          · rcases List.mem_cons.mp he' with rfl | he'
            · exact hfs
            · exact z4 e' (.tail _ he')
          · have : c ≠ e := fun q => c4 (by rw [q]; simp)
            rw [h2 c (by rw [oth c this]; exact c0) c1 c2 c3 (by simpa using c4), oth c this]
        · rw [if_neg q] at hr
          rw [decide_eq_false q]
          show (true = true → _) ∧ (true = false → _)
          walk_at "mine"
          refine ⟨isSetV_at p2.s, ?_⟩
          walk_at "mine"
          refine ⟨an, seen, y, rfl, p2.s, rfl, by lia, ?_⟩
          rw [if_neg q]
          walk_at "mine"
          split at hr
          · rename_i hy2
            refine ⟨isL ((upd_ne _ _ dd.2.2).trans p2.k), ?_⟩
            walk_at "mine"
            have hbj : y.toNat < bs.length := by lia
            have hfj : y.toNat < fl.length := hy2.2
            have b1 : bs[y.toNat]? = some bs[y.toNat] := List.getElem?_eq_getElem hbj
            have b2 : fl[y.toNat]? = some fl[y.toNat] := List.getElem?_eq_getElem hfj
            refine och_of (idx_pos (v := bs[y.toNat].v) rfl (lt_lid (by rw [List.length_map]; lia)) hy2.1 (by simp [b1])) ?_
            have hE := hb _ _ _ b1 b2
            refine followers_ok L hE ?_
            walk_at "mine"
            refine o_newT (by simp) fun N hN => ?_
            rw [b2, Option.getD_some] at hr
            refine ⟨ak, _, rfl, by rw [upd_ne _ _ (fun q => by rw [← q, upd_ne _ _ dd.2.2, p2.k] at hN; (injection hN)), upd_ne _ _ dd.2.2]; exact p2.k, lt_lid (by simp; lia), ?_⟩
            walk_at "mine"
            have n1 : N ≠ an := fun q => by rw [q, upd_self] at hN; (injection hN)
            rw [upd_ne _ _ n1] at hN
            have n2 : N ≠ af := fun q => by rw [q, p2.f] at hN; (injection hN)
            have n3 : N ≠ ak := fun q => by rw [q, p2.k] at hN; (injection hN)
            have n4 : ∀ e' ∈ (e, x, fs, i + 1) :: st, e'.1 ≠ N := fun e' he' q => by have := (p2.e e' he').1; rw [q, hN] at this; (injection this)
            refine po_while (st := (N, y, fl[y.toNat], 0) :: (e, x, fs, i + 1) :: st) (found := found) (seen := seen ++ [y]) L hb hbl hbz k ?_ hr (by lia) (by simp; lia) (by simp; lia) (fun e' he' => ?_) fun σ' o4 o5 h1 h2 => h σ' o4 o5 h1 fun c c0 c1 c2 c3 c4 => ?_
            · refine ⟨?_, ?_, ?_, fun e' he' => ?_, ?_, dd⟩
              · rw [upd_ne _ _ dd.1, upd_ne _ _ (Ne.symm n2), upd_ne _ _ dd.2.1]; exact p2.f
              · rw [upd_ne _ _ (Ne.symm dd.2.2), upd_ne _ _ (Ne.symm n1), upd_self]
              · rw [upd_self]; simp
              · rcases List.mem_cons.mp he' with rfl | he'
                · exact ⟨by rw [upd_ne _ _ n3, upd_self]; rfl, n2, n3, n1⟩
                · have h5 := p2.e e' he'
                  exact ⟨by rw [upd_ne _ _ h5.2.2.1, upd_ne _ _ (n4 e' he'), upd_ne _ _ h5.2.2.2]; exact h5.1, h5.2⟩
              · simp only [List.map_cons, List.nodup_cons]
                refine ⟨?_, nd⟩
                rw [← List.map_cons (f := Prod.fst) (a := (e, x, fs, i + 1))]
                intro q
                obtain ⟨e', he', q⟩ := List.mem_map.mp q
                exact n4 e' he' q
            · rcases List.mem_cons.mp he' with rfl | he'
              · exact hE.short
              · rcases List.mem_cons.mp he' with rfl | he'
                · exact hfs
                · exact z4 e' (.tail _ he')
            · have ce : c ≠ e := fun q => c4 (by rw [q]; simp)
              have cN : c ≠ N := fun q => by rw [q, ← oth N (fun q2 => n4 _ (.head _) q2.symm), hN] at c0; (injection c0)
              have : ∀ m m' m'' : M, upd (upd (upd σ1 an m) N m') ak m'' c = σ c := fun m m' m'' => by rw [upd_ne _ _ c3, upd_ne _ _ cN, upd_ne _ _ c2, oth c ce]
              rw [h2 c (by rw [this]; exact c0) c1 c2 c3 (by simp only [List.map_cons, List.mem_cons, not_or] at c4 ⊢; exact ⟨cN, ce, c4.2⟩), this]
          · (injection hr)
end
section
variable {X : Cx} {n : Nat}
theorem postorder_ok {σ : So} {bs : List Blk} {fl : List (List Int)} {rg : Int} {res : List Int} {k : Nat} {b0 : Blk} {f0 : List Int} {Q : V → So → Prop} (L : Lib X) (hb : ∀ (j : Nat) b fs, bs[j]? = some b → fl[j]? = some fs → End b.end_ fs) (hbl : bs.length = fl.length) (hbz : bs.length < 1000)
    (h0 : bs[0]? = some b0) (g0 : fl[0]? = some f0) (hk : k < 50) (hr : poRun fl k [] [0] [(0, f0, 0)] = some res)
    (q : ∀ af σ', σ' af = some (.lst (res.map .int)) → (∀ c, (σ c).isSome = true → σ' c = σ c) → Q (.ref af) σ') : Call X (n + 2) .postorder [drawnV bs rg] σ Q := by
  refine call_kn L.co L.postorder rfl ?_
  show WSs X (n + 1) ir_postorder [some (drawnV bs rg), none, none, none, none, none] σ _
  unfold ir_postorder
  have hE := hb _ _ _ h0 g0
  walk_at "mine"
  refine o_newT (by simp) fun af hf => ?_
  walk_at "mine"
  intro an hn
  have d2 : an ≠ af := fun e => by rw [e, upd_self] at hn; (injection hn)
  rw [upd_ne _ _ d2] at hn
  walk_at "mine"
  refine och_of (idx_nth 0 (v := b0.v) rfl (lt_lid (by rw [List.length_map]; lia)) (by simp [h0])) ?_
  refine followers_ok L hE ?_
  walk_at "mine"
  refine o_newT (by simp) fun e he => ?_
  have e1 : e ≠ an := fun q => by rw [q, upd_self] at he; (injection he)
  rw [upd_ne _ _ e1] at he
  have e2 : e ≠ af := fun q => by rw [q, upd_self] at he; (injection he)
  rw [upd_ne _ _ e2] at he
  walk_at "mine"
  refine o_newT (by simp) fun ak hk' => ?_
  have k1 : ak ≠ e := fun q => by rw [q, upd_self] at hk'; (injection hk')
  rw [upd_ne _ _ k1] at hk'
  have k2 : ak ≠ an := fun q => by rw [q, upd_self] at hk'; (injection hk')
  rw [upd_ne _ _ k2] at hk'
  have k3 : ak ≠ af := fun q => by rw [q, upd_self] at hk'; (injection hk')
  rw [upd_ne _ _ k3] at hk'
  walk_at "mine"
  refine ⟨k, ?_⟩
  refine po_while (n := n) (found := []) (seen := [0]) (st := [(e, 0, f0, 0)]) L hb hbl hbz k ?_ hr (by simp; lia) (by simp; lia) (by simp; lia) (fun e' he' => by rw [List.mem_singleton.mp he']; exact hE.short) fun σ' o4 o5 h1 h2 => ?_
  · refine ⟨?_, ?_, ?_, fun e' he' => ?_, by simp, ⟨Ne.symm k3, Ne.symm d2, k2⟩⟩
    · rw [upd_ne _ _ (Ne.symm k3), upd_ne _ _ (Ne.symm e2), upd_ne _ _ (Ne.symm d2), upd_self]; rfl
    · rw [upd_ne _ _ (Ne.symm k2), upd_ne _ _ (Ne.symm e1), upd_self]
    · rw [upd_self]; rfl
    · rw [List.mem_singleton.mp he']
      exact ⟨by rw [upd_ne _ _ (Ne.symm k1), upd_self]; rfl, e2, Ne.symm k1, e1⟩
  · walk_at "mine"
    refine q af σ' h1 fun c hc => ?_
    have c1 : c ≠ ak := fun q => by rw [q, hk'] at hc; (injection hc)
    have c2 : c ≠ e := fun q => by rw [q, he] at hc; (injection hc)
    have c3 : c ≠ an := fun q => by rw [q, hn] at hc; (injection hc)
    have c4 : c ≠ af := fun q => by rw [q, hf] at hc; (injection hc)
    have e5 : ∀ m1 m2 m3 m4 : M, upd (upd (upd (upd σ af m1) an m2) e m3) ak m4 c = σ c := fun ι ι ι ι => by rw [upd_ne _ _ c1, upd_ne _ _ c2, upd_ne _ _ c3, upd_ne _ _ c4]
    rw [h2 c (by rw [e5]; exact hc) c4 c3 c1 (by simpa using c2), e5]
theorem order_ok {σ : So} {bs : List Blk} {fl : List (List Int)} {rg : Int} {res : List Int} {k : Nat} {b0 : Blk} {f0 : List Int} {Q : V → So → Prop} (L : Lib X) (hb : ∀ (j : Nat) b fs, bs[j]? = some b → fl[j]? = some fs → End b.end_ fs) (hbl : bs.length = fl.length) (hbz : bs.length < 1000)
    (h0 : bs[0]? = some b0) (g0 : fl[0]? = some f0) (hk : k < 50) (hr : poRun fl k [] [0] [(0, f0, 0)] = some res) (hres : res.length < 100)
    (q : ∀ σ', (∀ c, (σ c).isSome = true → σ' c = σ c) → Q (.lst (res.reverse.map .int)) σ') : Call X (n + 3) .order [drawnV bs rg] σ Q := by
  refine call_kn L.co L.order rfl ?_
  show WSs X (n + 2) ir_order [some (drawnV bs rg)] σ _
  unfold ir_order
  walk_at "mine"
  refine postorder_ok L hb hbl hbz h0 g0 hk hr fun af σ' h1 h2 => ?_
  refine och_of (a := res.map .int) (listV_at h1) ⟨by rw [List.length_map]; unfold sizeLine; lia, ?_⟩
  refine o_newF (by simp; lia) ?_
  walk_at "mine"
  rw [← List.map_reverse]
  exact q σ' h2
noncomputable def arg1 : List Opd → Option Int | [.r c] => some c | _ => none
noncomputable def more2 : V → Option (Int × Int) | .tup [.int t, .int o] => some (t, o) | _ => none
noncomputable def more3 : V → Option Int | .tup [.int low, _, _] => some low | _ => none
noncomputable def entryF (la : Las) (fb : Fct) (e : Sp) (number : Int) : Fct :=
  if e.op = .branch then (match arg1 e.args, more2 e.more with | some c, some p => learnBrF la fb ⟨[], [], 0⟩ c number p.1 p.2 | _, _ => ⟨[], [], 0⟩)
  else if e.op = .table then (match arg1 e.args, more3 e.more with | some c, some low => learnTbF ⟨[], [], 0⟩ c number low | _, _ => ⟨[], [], 0⟩) else ⟨[], [], 0⟩
theorem entryF_ind {la : Las} {fb : Fct} {e : Sp} {number : Int} {P : Fct → Prop} (h0 : P ⟨[], [], 0⟩) (h1 : ∀ c t o, P (learnBrF la fb ⟨[], [], 0⟩ c number t o)) (h2 : ∀ c low, P (learnTbF ⟨[], [], 0⟩ c number low)) : P (entryF la fb e number) := by
  unfold entryF
  split
  · split
    · exact h1 ..
    · exact h0
  · split
    · split
      · exact h2 ..
      · exact h0
    · exact h0
noncomputable def FA.has (a : FA) (b : Addr) : Prop := b = a.l ∨ b = a.dx ∨ b = a.am ∨ b = a.as_
theorem facts_plain {σ : So} {la : Las} {dr : V} {number : Int} {as_ : List Addr} {ps : List (List Int)} {p : List Int} {ak : V} {Q : V → So → Prop} (L : Lib X) (pa : PredAt σ as_ ps) (h0 : 0 ≤ number) (hp : ps[number.toNat]? = some p) (hc : number = 0 ∨ p.length ≠ 1)
    (q : ∀ a σ', FactsAt σ' la a ⟨[], [], 0⟩ → (∀ b, a.has b → σ b = none) → (∀ b, ¬ a.has b → σ' b = σ b) → Q (.ref a.l) σ') : Call X (n + 3) .factsAt [dr, .int number, .lst (as_.map .ref), ak, la.v] σ Q := by
  refine call_kn L.co L.factsAt rfl ?_
  show WSs X (n + 2) ir_factsAt [some dr, some (.int number), some (.lst (as_.map .ref)), some ak, some la.v, none, none, none] σ _
  unfold ir_factsAt
  walk_at "mine"
  refine facts_new L fun a σ1 f n1 n2 n3 n4 s1 => ?_
  have q := q a σ1 f (fun b hb => by rcases hb with rfl | rfl | rfl | rfl <;> assumption) fun b hb => by
    simp only [FA.has, not_or] at hb
    exact s1 b hb.1 hb.2.1 hb.2.2.1 hb.2.2.2
  walk_at "mine"
  refine ⟨fun hn => ?_, fun hn => ?_⟩
  · rcases hc with rfl | hc
    · simp at hn
    · have hj : number.toNat < as_.length := by rw [pa.len]; exact (List.getElem?_eq_some_iff.mp hp).1
      have ha : as_[number.toNat]? = some as_[number.toNat] := List.getElem?_eq_getElem hj
      have hat := pa.at_ _ _ _ ha hp
      have hat1 : σ1 as_[number.toNat] = some (.lst (p.map .int)) := by
        have hx : ∀ b, σ b = none → as_[number.toNat] ≠ b := fun b e q => by rw [q, e] at hat; (injection hat)
        rw [s1 _ (hx _ n1) (hx _ n2) (hx _ n3) (hx _ n4)]; exact hat
      have := pa.small.2 p (List.mem_of_getElem? hp)
      have sm := pa.small.1
      walk_at "mine"
      refine och_of (idx_pos (v := .ref as_[number.toNat]) rfl (lt_lid (by rw [List.length_map]; lia)) h0 (by simp [ha])) ?_
      walk_at "mine"
      refine call_len L.bi (k := p.length) (lenV_refI hat1) (lt_lid (by lia)) ?_
      walk_at "mine"
      rw [decide_eq_false (by lia)]
      show (true = false → _) ∧ (true ≠ false → _)
      walk_at "mine"
      show (true = true → _) ∧ (true = false → _)
      walk_at "mine"
      exact q
  · walk_at "mine"
    have hn : decide (number = 0) = true := by simpa using hn
    rw [hn]
    walk_at "mine"
    exact q
set_option tactic.hygienic true in
theorem facts_one {σ : So} {la : Las} {bs : List Blk} {rg : Int} {number p : Int} {as_ : List Addr} {ps : List (List Int)} {ak : Addr} {ks : List (Int × FA)} {ab : FA} {fb : Fct} {b : Blk} {fs : List Int} {Q : V → So → Prop} (L : Lib X) (pa : PredAt σ as_ ps) (h0 : 0 < number) (hp : ps[number.toNat]? = some [p])
    (hk : σ ak = some (.dI (mapD (fun a : FA => V.ref a.l) ks))) (hl : lk ks p = some ab) (g : FactsAt σ la ab fb) (p0 : 0 ≤ p) (hb : bs[p.toNat]? = some b) (hbz : bs.length < 1000) (he : End b.end_ fs) (hop : b.end_.op = .branch ∨ b.end_.op = .table ∧ (number = 2 ∨ number = 3))
    (hs : ∀ x t, shapeF la fb x = some t → t.args.length < 1000 ∧ (t.op = .eq ∨ t.op = .ne → 2 ≤ t.args.length))
    (q : ∀ a σ', FactsAt σ' la a (entryF la fb b.end_ number) → (∀ b, a.has b → σ b = none) → (∀ b, ¬ a.has b → σ' b = σ b) → Q (.ref a.l) σ') : Call X (n + 4) .factsAt [drawnV bs rg, .int number, .lst (as_.map .ref), .ref ak, la.v] σ Q := by
  refine call_kn L.co L.factsAt rfl ?_
  show WSs X (n + 3) ir_factsAt [some (drawnV bs rg), some (.int number), some (.lst (as_.map .ref)), some (.ref ak), some la.v, none, none, none] σ _
  unfold ir_factsAt
  walk_at "mine"
  refine facts_new L fun a σ1 f n1 n2 n3 n4 s1 => ?_
  have hn : ∀ b, a.has b → σ b = none := fun b hb => by rcases hb with rfl | rfl | rfl | rfl <;> assumption
  have hx : ∀ b, (σ b).isSome = true → σ1 b = σ b := fun b hb => by
    have : ∀ c, σ c = none → b ≠ c := fun c e q => by rw [q, e] at hb; (injection hb)
    exact s1 b (this _ n1) (this _ n2) (this _ n3) (this _ n4)
  have hq : ∀ σ' : So, (∀ b, b ≠ a.am → σ' b = σ1 b) → ∀ b, ¬ a.has b → σ' b = σ b := fun σ' h b hb => by
    simp only [FA.has, not_or] at hb
    rw [h b hb.2.2.1, s1 b hb.1 hb.2.1 hb.2.2.1 hb.2.2.2]
  have hj : number.toNat < as_.length := by rw [pa.len]; exact (List.getElem?_eq_some_iff.mp hp).1
  have ha : as_[number.toNat]? = some as_[number.toNat] := List.getElem?_eq_getElem hj
  have hat := pa.at_ _ _ _ ha hp
  have hat1 : σ1 as_[number.toNat] = some (.lst [.int p]) := by rw [hx _ (by rw [hat]; rfl)]; exact hat
  have hk1 : σ1 ak = some (.dI (mapD (fun a : FA => V.ref a.l) ks)) := by rw [hx _ (by rw [hk]; rfl)]; exact hk
  have g1 : FactsAt σ1 la ab fb := g.off hx
  have sm := pa.small.1
  have hw : ∀ σ, idxV σ (.lst (as_.map .ref)) (.int number) = some (.ref as_[number.toNat]) := fun σ => idx_pos rfl (lt_lid (by rw [List.length_map]; lia)) (by lia) (by simp [ha])
  have hw0 : idxV σ1 (.ref as_[number.toNat]) (.int 0) = some (.int p) := idx_nth 0 (vs := [.int p]) (itemsV_at hat1) (lt_lid (by simp)) rfl
  have dj : ab.l ≠ a.am ∧ ab.dx ≠ a.am ∧ ab.am ≠ a.am ∧ ab.as_ ≠ a.am := by
    have : ∀ b m, σ b = some m → b ≠ a.am := fun b m e q => by rw [q, n3] at e; (injection e)
    exact ⟨this _ _ g.obj, this _ _ g.ns, this _ _ g.made, this _ _ g.setAt⟩
  walk_at "mine"
  rw [decide_eq_false (by lia)]
  walk_at "mine"
  refine och_of (hw _) ?_
  walk_at "mine"
  refine call_len L.bi (k := 1) (lenV_l (listV_at hat1)) (lt_lid (by simp)) ?_
  walk_at "mine"
  refine och_of (hw _) ?_
  walk_at "mine"
  refine och_of hw0 ?_
  walk_at "mine"
  refine och_of (notin_ref hk1) ?_
  rw [hl]
  show (false = false → _) ∧ (false ≠ false → _)
  walk_at "mine"
  refine och_of (hw _) ?_
  walk_at "mine"
  refine och_of hw0 ?_
  walk_at "mine"
  refine och_of (idx_pos (v := b.v) rfl (lt_lid (by rw [List.length_map]; lia)) p0 (by simp [hb])) ?_
  walk_at "mine"
  obtain ⟨num, steps, e⟩ := b
  dsimp only at he hop q ⊢
  cases he with
  | jump => rcases hop with h | ⟨h, _⟩ <;> (injection h)
  | give => rcases hop with h | ⟨h, _⟩ <;> (injection h)
  | branch hto =>
    rename_i c t o
    walk_at "mine"
    refine ⟨fun ι => ?_, fun h => nomatch h⟩
    walk_at "mine"
    refine och_of (sub_ref hk1 hl) ?_
    walk_at "mine"
    refine learnBranch_ok L f g1 dj (c := c) (thn := t) (other := o) rfl rfl hto (by simp) (fun u hu => hs _ u hu) fun σ' f' s' => ?_
    walk_at "mine"
    exact q a σ' f' hn (hq σ' s')
  | table hlow =>
    rename_i c low
    rcases hop with h | ⟨_, hnum⟩
    · (injection h)
    refine ⟨fun h => (nomatch h), fun ι => ?_⟩
    walk_at "mine"
    refine learnTable_ok (e := ⟨.table, -1, [.r c], .tup [.int low, .lst [.int 2], .int 3]⟩) L f hnum (c := c) (low := low) rfl rfl hlow (by simp) fun σ' f' s' => ?_
    walk_at "mine"
    exact q a σ' f' hn (hq σ' s')
end
section
variable {X : Cx} {n : Nat}
noncomputable def fV : Option Sp → V
  | none => .none
  | some s => s.v
noncomputable def areLF (found : List (Int × Option Sp)) (many : List (Int × Bool)) (args : List Opd) : Bool := args.all fun o => match o with
  | .r x => !((lk many x).isSome || !(lk found x).isSome)
  | .k _ => true
noncomputable def areBody : Ss := (.cons (.ite (.bop true (.cons (.cmp .eq (.sub (.var 3) (.int 0)) (.str .r)) (.cons (.bop false (.cons (.cmp .in_ (.sub (.var 3) (.int 1)) (.var 2)) (.cons (.cmp .notIn (.sub (.var 3) (.int 1)) (.var 1)) .nil))) .nil))) (.cons (.ret (.bool false)) .nil) .nil) .nil)
theorem are_turns {σ : So} {found : List (Int × Option Sp)} {many : List (Int × Bool)} {am : Addr} {v0 : V} (hm : σ am = some (.dI (mapD V.bool many))) {A C : Ro → So → Prop} {R : V → Ro → So → Prop} : ∀ (xs : List Opd) {o3 : Option V},
    (areLF found many xs = true → ∀ o3, A [some v0, some (.dI (mapD fV found)), some (.ref am), o3] σ) → (areLF found many xs = false → ∀ ρ, R (.bool false) ρ σ) →
    forL (turnOf X n (.v 3) areBody) (xs.map Opd.v) [some v0, some (.dI (mapD fV found)), some (.ref am), o3] σ (Kn A C R)
  | [], o3, h1, _ => for_nil (h1 rfl _)
  | o :: xs, o3, h1, h2 => by
    refine for_cons (och_of rfl ?_)
    show WSs X n areBody [some v0, some (.dI (mapD fV found)), some (.ref am), some o.v] σ _
    unfold areBody
    cases o with
    | k v =>
      walk_at "mine"
      exact are_turns hm xs h1 h2
    | r x =>
      walk_at "mine"
      refine och_of (in_ref hm) ?_
      have e1 : areLF found many (.r x :: xs) = (!((lk many x).isSome || !(lk found x).isSome) && areLF found many xs) := rfl
      by_cases q : (lk many x).isSome = true
      · rw [q]
        walk_at "mine"
        exact h2 (by rw [e1, q]; rfl) _
      · rw [Bool.not_eq_true] at q
        rw [q]
        walk_at "mine"
        refine och_of notin_dI ?_
        by_cases q2 : (lk found x).isSome = true
        · rw [q2]
          show (false = false → _) ∧ (false ≠ false → _)
          walk_at "mine"
          rw [e1, q, q2] at h1 h2
          exact are_turns hm xs h1 h2
        · rw [Bool.not_eq_true] at q2
          rw [q2]
          show (true = false → _) ∧ (true ≠ false → _)
          walk_at "mine"
          show (true = true → _) ∧ (true ≠ true → _)
          walk_at "mine"
          exact h2 (by rw [e1, q, q2]; rfl) _
theorem areLasting_ok {σ : So} {found : List (Int × Option Sp)} {many : List (Int × Bool)} {am : Addr} {args : List Opd} {Q : V → So → Prop} (L : Lib X) (hm : σ am = some (.dI (mapD V.bool many))) (q : Q (.bool (areLF found many args)) σ) : Call X (n + 1) .areLasting [.lst (args.map Opd.v), .dI (mapD fV found), .ref am] σ Q := by
  refine call_kn L.co L.areLasting rfl ?_
  show WSs X n ir_areLasting [some _, some _, some _, none] σ _
  unfold ir_areLasting
  walk_at "mine"
  refine och_of rfl ?_
  refine are_turns hm args (fun e o3 => ?_) (fun e ρ => ?_)
  · rw [e] at q
    walk_at "mine"
    exact q
  · rw [e] at q; exact q
noncomputable def endF (ops : List (Int × Opd)) : Nat → Opd → Opd
  | 0, o => o
  | _ + 1, .k v => .k v
  | k + 1, .r x => match lk ops x with
    | none => .r x
    | some o => endF ops k o
noncomputable def endBody : Ss := (.cons (.ite (.bop false (.cons (.cmp .ne (.sub (.var 1) (.int 0)) (.str .r)) (.cons (.cmp .notIn (.sub (.var 1) (.int 1)) (.var 0)) .nil))) (.cons (.ret (.var 1)) .nil) .nil) (.cons (.asg 1 (.sub (.var 0) (.sub (.var 1) (.int 1)))) .nil))
theorem end_turns {σ : So} {ops : List (Int × Opd)} {ao : Addr} (ho : σ ao = some (.dI (mapD Opd.v ops))) {A C : Ro → So → Prop} {R : V → Ro → So → Prop} : ∀ (xs : List V) {o : Opd} {o2 : Option V},
    (∀ o2, A [some (.ref ao), some (endF ops xs.length o).v, o2] σ) → (∀ ρ, R (endF ops xs.length o).v ρ σ) →
    forL (turnOf X n (.v 2) endBody) xs [some (.ref ao), some o.v, o2] σ (Kn A C R)
  | [], o, o2, h1, _ => for_nil (h1 _)
  | y :: xs, o, o2, h1, h2 => by
    refine for_cons (och_of rfl ?_)
    show WSs X n endBody [some (.ref ao), some o.v, some y] σ _
    unfold endBody
    cases o with
    | k v =>
      walk_at "mine"
      exact h2 _
    | r x =>
      walk_at "mine"
      refine och_of (notin_ref ho) ?_
      cases e : lk ops x with
      | none =>
        show (true = false → _) ∧ (true ≠ false → _)
        walk_at "mine"
        show (true = true → _) ∧ (true = false → _)
        walk_at "mine"
        simp only [List.length_cons, endF, e] at h2
        exact h2 _
      | some o' =>
        show (false = false → _) ∧ (false ≠ false → _)
        walk_at "mine"
        refine och_of (sub_ref ho e) ?_
        simp only [List.length_cons, endF, e] at h1 h2
        exact end_turns ho xs (o := o') h1 h2
theorem endOf_ok {σ : So} {ops : List (Int × Opd)} {ao : Addr} {o : Opd} {Q : V → So → Prop} (L : Lib X) (ho : σ ao = some (.dI (mapD Opd.v ops))) (lt : ops.length < 1000) (q : Q (endF ops ops.length o).v σ) : Call X (n + 1) .endOf [.ref ao, o.v] σ Q := by
  refine call_kn L.co L.endOf rfl ?_
  show WSs X n ir_endOf [some _, some _, none] σ _
  unfold ir_endOf
  walk_at "mine"
  refine call_len L.bi (k := ops.length) ((lenV_refD ho).trans (congrArg some (length_mapD ..))) (lt_lid (by lia)) ?_
  refine och_of (show itV σ .range (.int (ops.length : Int)) = some ((List.range ops.length).map fun (j : Nat) => V.int (j : Int)) from (if_pos ⟨Int.natCast_nonneg _, by rw [Int.toNat_natCast]; exact lt_lid (by lia)⟩).trans (by rw [Int.toNat_natCast])) ?_
  refine end_turns ho _ (fun o2 => ?_) (fun ρ => ?_)
  · walk_at "mine"
    simpa using q
  · simpa using q
noncomputable abbrev FM := List (Int × Option Sp) × List (Int × Bool)
noncomputable def fmStep (p : FM) (s : Sp) : FM := if (lk p.1 s.dst).isSome = true then (p.1, pt p.2 s.dst true) else if s.dst ≥ 0 then (pt p.1 s.dst (some s), p.2) else p
theorem fmStep_len (p : FM) (s : Sp) : (fmStep p s).1.length ≤ p.1.length + 1 ∧ (fmStep p s).2.length ≤ p.2.length + 1 := by
  unfold fmStep
  split
  · exact ⟨by simp, length_pt ..⟩
  · split
    · exact ⟨length_pt .., by simp⟩
    · exact ⟨by simp, by simp⟩
noncomputable def fmBody : Ss := (.cons (.ite (.cmp .in_ (.attr (.var 5) .dst) (.var 1)) (.cons (.asgS (.var 2) (.attr (.var 5) .dst) (.bool true)) .nil) (.cons (.ite (.cmp .ge (.attr (.var 5) .dst) (.int 0)) (.cons (.asgS (.var 1) (.attr (.var 5) .dst) (.var 5)) .nil) .nil) .nil)) .nil)
theorem fm_turns {af am : Addr} {v0 : V} (ne : af ≠ am) : ∀ (xs : List Sp) {p : FM} {σ : So} {o3 o4 o5 : Option V} {A C : Ro → So → Prop} {R : V → Ro → So → Prop}, σ af = some (.dI (mapD fV p.1)) → σ am = some (.dI (mapD V.bool p.2)) → p.1.length + xs.length < 500 → p.2.length + xs.length < 500 →
    (∀ σ' o5, σ' af = some (.dI (mapD fV (xs.foldl fmStep p).1)) → σ' am = some (.dI (mapD V.bool (xs.foldl fmStep p).2)) → (∀ c, c ≠ af → c ≠ am → σ' c = σ c) → A [some v0, some (.ref af), some (.ref am), o3, o4, o5, none, none] σ') →
    forL (turnOf X n (.v 5) fmBody) (xs.map Sp.v) [some v0, some (.ref af), some (.ref am), o3, o4, o5, none, none] σ (Kn A C R)
  | [], p, σ, o3, o4, o5, A, C, R, h1, h2, _, _, h => for_nil (h σ _ h1 h2 fun ι ι ι => rfl)
  | s :: xs, p, σ, o3, o4, o5, A, C, R, h1, h2, z1, z2, h => by
    simp only [List.length_cons] at z1 z2
    obtain ⟨l1, l2⟩ := fmStep_len p s
    refine for_cons (och_of rfl ?_)
    show WSs X n fmBody [some v0, some (.ref af), some (.ref am), o3, o4, some s.v, none, none] σ _
    unfold fmBody
    walk_at "mine"
    refine och_of (in_ref h1) ?_
    by_cases q : (lk p.1 s.dst).isSome = true
    · rw [q]
      walk_at "mine"
      refine ⟨am, s.dst, rfl, rfl, .inl ⟨_, h2, lt_lid (by rw [length_mapD]; lia), ?_⟩⟩
      walk_at "mine"
      rw [put_map]
      have e : fmStep p s = (p.1, pt p.2 s.dst true) := if_pos q
      rw [e] at l1 l2
      refine fm_turns ne xs (p := (p.1, pt p.2 s.dst true)) (by rw [upd_ne _ _ ne]; exact h1) (upd_self ..) (by lia) (by dsimp only at l2 ⊢; lia) fun σ' o5 g1 g2 g3 => h σ' o5 (by rw [List.foldl_cons, e]; exact g1) (by rw [List.foldl_cons, e]; exact g2) fun c c1 c2 => by rw [g3 c c1 c2, upd_ne _ _ c2]
    · have e0 : fmStep p s = if s.dst ≥ 0 then (pt p.1 s.dst (some s), p.2) else p := if_neg q
      rw [Bool.not_eq_true] at q
      rw [q]
      walk_at "mine"
      refine ⟨fun hd => ?_, fun hd => ?_⟩
      · walk_at "mine"
        refine ⟨af, s.dst, rfl, rfl, .inl ⟨_, h1, lt_lid (by rw [length_mapD]; lia), ?_⟩⟩
        walk_at "mine"
        have e1 : put (mapD fV p.1) s.dst s.v = mapD fV (pt p.1 s.dst (some s)) := put_map fV p.1 s.dst (some s)
        rw [e1]
        have e : fmStep p s = (pt p.1 s.dst (some s), p.2) := e0.trans (if_pos (of_decide_eq_true hd))
        rw [e] at l1 l2
        refine fm_turns ne xs (p := (pt p.1 s.dst (some s), p.2)) (upd_self ..) (by rw [upd_ne _ _ (Ne.symm ne)]; exact h2) (by dsimp only at l1 ⊢; lia) (by dsimp only; lia) fun σ' o5 g1 g2 g3 => h σ' o5 (by rw [List.foldl_cons, e]; exact g1) (by rw [List.foldl_cons, e]; exact g2) fun c c1 c2 => by rw [g3 c c1 c2, upd_ne _ _ c1]
      · have e : fmStep p s = p := e0.trans (if_neg (of_decide_eq_false hd))
        refine fm_turns ne xs (p := p) h1 h2 (by lia) (by lia) fun σ' o5 g1 g2 g3 => h σ' o5 (by rw [List.foldl_cons, e]; exact g1) (by rw [List.foldl_cons, e]; exact g2) g3
noncomputable def fmOuter : Ss := (.cons (.for_ (.v 5) .seq (.attr (.var 4) .steps) fmBody) .nil)
noncomputable def fmBs (p : FM) (bs : List Blk) : FM := bs.foldl (fun p b => b.steps.foldl fmStep p) p
theorem fm_fold_len : ∀ (xs : List Sp) (p : FM), (xs.foldl fmStep p).1.length ≤ p.1.length + xs.length ∧ (xs.foldl fmStep p).2.length ≤ p.2.length + xs.length
  | [], p => ⟨Nat.le_refl _, Nat.le_refl _⟩
  | s :: xs, p => by
    obtain ⟨l1, l2⟩ := fmStep_len p s
    obtain ⟨m1, m2⟩ := fm_fold_len xs (fmStep p s)
    simp only [List.foldl_cons, List.length_cons]
    exact ⟨by lia, by lia⟩
noncomputable def stepsN (bs : List Blk) : Nat := (bs.map fun b => b.steps.length).sum
theorem fm_outer {af am : Addr} {v0 : V} (ne : af ≠ am) : ∀ (bs : List Blk) {p : FM} {σ : So} {o3 o4 o5 : Option V} {A C : Ro → So → Prop} {R : V → Ro → So → Prop}, σ af = some (.dI (mapD fV p.1)) → σ am = some (.dI (mapD V.bool p.2)) → p.1.length + stepsN bs < 500 → p.2.length + stepsN bs < 500 →
    (∀ σ' o4 o5, σ' af = some (.dI (mapD fV (fmBs p bs).1)) → σ' am = some (.dI (mapD V.bool (fmBs p bs).2)) → (∀ c, c ≠ af → c ≠ am → σ' c = σ c) → A [some v0, some (.ref af), some (.ref am), o3, o4, o5, none, none] σ') →
    forL (turnOf X n (.v 4) fmOuter) (bs.map Blk.v) [some v0, some (.ref af), some (.ref am), o3, o4, o5, none, none] σ (Kn A C R)
  | [], p, σ, o3, o4, o5, A, C, R, h1, h2, _, _, h => for_nil (h σ _ _ h1 h2 fun ι ι ι => rfl)
  | b :: bs, p, σ, o3, o4, o5, A, C, R, h1, h2, z1, z2, h => by
    have e : stepsN (b :: bs) = b.steps.length + stepsN bs := by simp [stepsN]
    rw [e] at z1 z2
    refine for_cons (och_of rfl ?_)
    show WSs X n fmOuter [some v0, some (.ref af), some (.ref am), o3, some b.v, o5, none, none] σ _
    unfold fmOuter
    walk_at "mine"
    refine och_of rfl ?_
    obtain ⟨m1, m2⟩ := fm_fold_len b.steps p
    refine fm_turns ne b.steps h1 h2 (by lia) (by lia) fun σ' o5 g1 g2 g3 => ?_
    walk_at "mine"
    exact fm_outer ne bs g1 g2 (by lia) (by lia) fun σ'' o4 o5 k1 k2 k3 => h σ'' o4 o5 k1 k2 fun c c1 c2 => (k3 c c1 c2).trans (g3 c c1 c2)
end
section
variable {X : Cx} {n : Nat}
theorem nm_ne {a b : Nm} (h : a ≠ b) : (a.str == b.str) = false := beq_eq_false_iff_ne.mpr fun e => h (Nm.str_inj e)
theorem opd_dec {i j : Int} {f : Int → Opd} (inj : ∀ {a b}, f a = f b → a = b) : (i == j) = decide (f i = f j) := by
  by_cases q : i = j
  · rw [decide_eq_true (congrArg f q)]; exact beq_iff_eq.mpr q
  · rw [decide_eq_false fun e => q (inj e)]; exact beq_eq_false_iff_ne.mpr q
theorem eq_opd {σ : So} (a b : Opd) : cmpV σ .eq a.v b.v = some (decide (a = b)) := by
  have h1 : okV a.v 8 = true := by (injection a) <;> rfl
  have h2 : okV b.v 8 = true := by (injection b) <;> rfl
  refine (eqV_G (a := a.v) (b := b.v)).trans ?_
  show (if okV a.v 8 && okV b.v 8 then some (PyData.eqv (pyV a.v) (pyV b.v)) else none) = _
  rw [h1, h2]
  show some (PyData.eqv (pyV a.v) (pyV b.v)) = _
  congr 1
  cases a with
  | k i =>
    cases b with
    | k j =>
      simp only [Opd.v, pyV, pyVs, PyData.eqv, PyData.eqvAll, beq_self_eq_true, Bool.true_and, Bool.and_true]
      exact opd_dec fun e => by cases e; rfl
    | r j =>
      simp only [Opd.v, pyV, pyVs, PyData.eqv, PyData.eqvAll, nm_ne (show Nm.k ≠ Nm.r by decide), Bool.false_and]
      rfl
  | r i =>
    cases b with
    | k j =>
      simp only [Opd.v, pyV, pyVs, PyData.eqv, PyData.eqvAll, nm_ne (show Nm.r ≠ Nm.k by decide), Bool.false_and]
      rfl
    | r j =>
      simp only [Opd.v, pyV, pyVs, PyData.eqv, PyData.eqvAll, beq_self_eq_true, Bool.true_and, Bool.and_true]
      exact opd_dec fun e => by cases e; rfl
theorem ne_opd {σ : So} (a b : Opd) : cmpV σ .ne a.v b.v = some (!decide (a = b)) := by
  have := eq_opd (σ := σ) a b
  simp only [cmpV] at this ⊢
  rw [this]; rfl
set_option tactic.hygienic true in
theorem mem_pt {α : Type} : ∀ {l : List (Int × α)} {i : Int} {a : α} {p : Int × α}, p ∈ pt l i a → p ∈ l ∨ p = (i, a)
  | [], i, a, p, h => .inr (List.mem_singleton.mp h)
  | (k, u) :: r, i, a, p, h => by
    rw [pt] at h
    split at h
    · rename_i q
      rcases List.mem_cons.mp h with rfl | h
      · exact .inr (by rw [q])
      · exact .inl (.tail _ h)
    · rcases List.mem_cons.mp h with rfl | h
      · exact .inl (.head _)
      · rcases mem_pt h with h | h
        · exact .inl (.tail _ h)
        · exact .inr h
noncomputable abbrev OS := List (Int × Opd) × List (Int × Shp)
noncomputable def lastStep (found : List (Int × Option Sp)) (many : List (Int × Bool)) (p : OS) (q : Int × Option Sp) : OS := match q.2 with
  | none => p
  | some s => if (lk many q.1).isSome = true ∨ s.op ∉ shaped then p else
    if areLF found many s.args = true then (if s.op ∈ telling then (match s.args with | [] => p | o :: _ => if o = .r q.1 then p else (pt p.1 q.1 o, p.2)) else (p.1, pt p.2 q.1 s.shp)) else p
theorem lastStep_len (found : List (Int × Option Sp)) (many : List (Int × Bool)) (p : OS) (q : Int × Option Sp) : (lastStep found many p q).1.length ≤ p.1.length + 1 ∧ (lastStep found many p q).2.length ≤ p.2.length + 1 := by
  unfold lastStep
  repeat' split
  all_goals refine ⟨?_, ?_⟩
  all_goals first | exact length_pt .. | exact Nat.le_succ _
noncomputable def lastBody : Ss := (.cons (.ite (.bop false (.cons (.cmp .is_ (.var 5) .none) (.cons (.cmp .in_ (.var 3) (.var 2)) (.cons (.cmp .notIn (.attr (.var 5) .op) (.glob .SHAPED)) .nil)))) (.cons .cont .nil) .nil) (.cons (.ite (.call .areLasting (.cons (.attr (.var 5) .args) (.cons (.var 1) (.cons (.var 2) .nil)))) (.cons (.ite (.cmp .notIn (.attr (.var 5) .op) (.glob .TELLING)) (.cons (.asgS (.var 7) (.var 3) (.tup (.cons (.attr (.var 5) .op) (.cons (.attr (.var 5) .args) (.cons (.attr (.var 5) .more) .nil))))) .nil) (.cons (.ite (.cmp .ne (.sub (.attr (.var 5) .args) (.int 0)) (.tup (.cons (.str .r) (.cons (.var 3) .nil)))) (.cons (.asgS (.var 6) (.var 3) (.sub (.attr (.var 5) .args) (.int 0))) .nil) .nil) .nil)) .nil) .nil) .nil))
theorem last_turns {found : List (Int × Option Sp)} {many : List (Int × Bool)} {am ao ah : Addr} {v0 : V} (L : Lib X) (ne : ao ≠ am ∧ ah ≠ am ∧ ao ≠ ah) : ∀ (xs : List (Int × Option Sp)) {p : OS} {σ : So} {o3 o4 o5 : Option V} {A C : Ro → So → Prop} {R : V → Ro → So → Prop}, σ am = some (.dI (mapD V.bool many)) → σ ao = some (.dI (mapD Opd.v p.1)) → σ ah = some (.dI (mapD Shp.v p.2)) → p.1.length + xs.length < 500 → p.2.length + xs.length < 500 →
    (∀ q ∈ xs, ∀ s, q.2 = some s → s.args.length < 1000 ∧ (s.op ∈ telling → s.args ≠ [])) →
    (∀ σ' o3 o5, σ' ao = some (.dI (mapD Opd.v (xs.foldl (lastStep found many) p).1)) → σ' ah = some (.dI (mapD Shp.v (xs.foldl (lastStep found many) p).2)) → (∀ c, c ≠ ao → c ≠ ah → σ' c = σ c) → A [some v0, some (.dI (mapD fV found)), some (.ref am), o3, o4, o5, some (.ref ao), some (.ref ah)] σ') →
    forL (turnOf X (n + 1) (.t [3, 5]) lastBody) (xs.map fun q => .tup [.int q.1, fV q.2]) [some v0, some (.dI (mapD fV found)), some (.ref am), o3, o4, o5, some (.ref ao), some (.ref ah)] σ (Kn A C R)
  | [], p, σ, o3, o4, o5, A, C, R, h1, h2, h3, _, _, _, h => for_nil (h σ _ _ h2 h3 fun ι ι ι => rfl)
  | (x, os) :: xs, p, σ, o3, o4, o5, A, C, R, h1, h2, h3, z1, z2, hx, h => by
    simp only [List.length_cons] at z1 z2
    obtain ⟨l1, l2⟩ := lastStep_len found many p (x, os)
    refine for_cons (och_of rfl ?_)
    show WSs X (n + 1) lastBody [some v0, some (.dI (mapD fV found)), some (.ref am), some (.int x), o4, some (fV os), some (.ref ao), some (.ref ah)] σ _
    have go : ∀ (p' : OS) (σ' : So), lastStep found many p (x, os) = p' → σ' am = σ am → σ' ao = some (.dI (mapD Opd.v p'.1)) → σ' ah = some (.dI (mapD Shp.v p'.2)) → (∀ c, c ≠ ao → c ≠ ah → σ' c = σ c) →
        forL (turnOf X (n + 1) (.t [3, 5]) lastBody) (xs.map fun q => .tup [.int q.1, fV q.2]) [some v0, some (.dI (mapD fV found)), some (.ref am), some (.int x), o4, some (fV os), some (.ref ao), some (.ref ah)] σ' (Kn A C R) := fun p' σ' e g1 g2 g3 g4 => by
      rw [e] at l1 l2
      refine last_turns L ne xs (p := p') (g1.trans h1) g2 g3 (by lia) (by lia) (fun q hq => hx q (.tail _ hq)) fun σ'' o3 o5 k1 k2 k3 => h σ'' o3 o5 (by rw [List.foldl_cons, e]; exact k1) (by rw [List.foldl_cons, e]; exact k2) fun c c1 c2 => (k3 c c1 c2).trans (g4 c c1 c2)
    have stay : lastStep found many p (x, os) = p → forL (turnOf X (n + 1) (.t [3, 5]) lastBody) (xs.map fun q => .tup [.int q.1, fV q.2]) [some v0, some (.dI (mapD fV found)), some (.ref am), some (.int x), o4, some (fV os), some (.ref ao), some (.ref ah)] σ (Kn A C R) := fun e => go p σ e rfl h2 h3 fun ι ι ι => rfl
    unfold lastBody at go stay ⊢
    cases os with
    | none =>
      walk_at "mine"
      show (true = false → _) ∧ (true ≠ false → _)
      walk_at "mine"
      show (true = true → _) ∧ (true = false → _)
      walk_at "mine"
      exact stay rfl
    | some s =>
      obtain ⟨hs1, hs2⟩ := hx (x, some s) (.head _) s rfl
      walk_at "mine"
      show (false = false → _) ∧ (false ≠ false → _)
      walk_at "mine"
      refine och_of (in_ref h1) ?_
      by_cases q1 : (lk many x).isSome = true
      · rw [q1]
        walk_at "mine"
        exact stay (if_pos (.inl q1))
      · rw [show (lk many x).isSome = false by simpa using q1]
        walk_at "mine"
        refine a_op (s := s) ?_
        walk_at "mine"
        refine och_of (shaped_mem' s.op) ?_
        by_cases q2 : s.op ∈ shaped
        · rw [decide_eq_true q2]
          show (false = false → _) ∧ (false ≠ false → _)
          walk_at "mine"
          have e0 : lastStep found many p (x, some s) = if areLF found many s.args = true then (if s.op ∈ telling then (match s.args with | [] => p | o :: _ => if o = .r x then p else (pt p.1 x o, p.2)) else (p.1, pt p.2 x s.shp)) else p := if_neg (fun h => h.elim q1 fun h => h q2)
          refine a_args (s := s) ?_
          walk_at "mine"
          refine areLasting_ok L h1 ?_
          walk_at "mine"
          by_cases q3 : areLF found many s.args = true
          · rw [q3]
            rw [if_pos q3] at e0
            walk_at "mine"
            refine a_op (s := s) ?_
            walk_at "mine"
            refine och_of (tell_mem' s.op) ?_
            by_cases q4 : s.op ∈ telling
            · rw [decide_eq_true q4]
              show (false = true → _) ∧ (false = false → _)
              walk_at "mine"
              rw [if_pos q4] at e0
              refine a_args (s := s) ?_
              walk_at "mine"
              obtain ⟨o, r, e3⟩ : ∃ o r, s.args = o :: r := by
                cases e3 : s.args with
                | nil => exact absurd e3 (hs2 q4)
                | cons o r => exact ⟨_, _, rfl⟩
              rw [e3] at hs1 e0
              dsimp only at e0
              have hi : ∀ σ, idxV σ (.lst (s.args.map Opd.v)) (.int 0) = some o.v := fun σ => by
                rw [e3]; exact idx_nth 0 rfl (lt_lid (by rw [List.length_map]; lia)) (by simp)
              refine och_of (hi _) ?_
              walk_at "mine"
              refine och_of (show cmpV σ .ne o.v (.tup [.str .r, .int x]) = _ from ne_opd o (.r x)) ?_
              by_cases q5 : o = .r x
              · rw [decide_eq_true q5]
                show (false = true → _) ∧ (false = false → _)
                walk_at "mine"
                exact stay (e0.trans (if_pos q5))
              · rw [decide_eq_false q5]
                show (true = true → _) ∧ (true = false → _)
                walk_at "mine"
                refine a_args (s := s) ?_
                walk_at "mine"
                refine och_of (hi _) ?_
                walk_at "mine"
                refine ⟨ao, x, rfl, rfl, .inl ⟨_, h2, lt_lid (by rw [length_mapD]; lia), ?_⟩⟩
                walk_at "mine"
                rw [put_map]
                exact go (pt p.1 x o, p.2) _ (e0.trans (if_neg q5)) (upd_ne _ _ (Ne.symm ne.1)) (upd_self ..) (by rw [upd_ne _ _ (Ne.symm ne.2.2)]; exact h3) fun c c1 c2 => upd_ne _ _ c1
            · rw [decide_eq_false q4]
              show (true = true → _) ∧ (true = false → _)
              walk_at "mine"
              rw [if_neg q4] at e0
              refine a_op (s := s) ?_
              walk_at "mine"
              refine a_args (s := s) ?_
              walk_at "mine"
              refine a_more (s := s) ?_
              walk_at "mine"
              refine ⟨ah, x, rfl, rfl, .inl ⟨_, h3, lt_lid (by rw [length_mapD]; lia), ?_⟩⟩
              walk_at "mine"
              have e1 : put (mapD Shp.v p.2) x (.tup [.str s.op, .lst (s.args.map Opd.v), s.more]) = mapD Shp.v (pt p.2 x s.shp) := put_map Shp.v p.2 x s.shp
              rw [e1]
              exact go (p.1, pt p.2 x s.shp) _ e0 (upd_ne _ _ (Ne.symm ne.2.1)) (by rw [upd_ne _ _ ne.2.2]; exact h2) (upd_self ..) fun c c1 c2 => upd_ne _ _ c2
          · rw [if_neg q3] at e0
            rw [Bool.not_eq_true] at q3
            rw [q3]
            walk_at "mine"
            exact stay e0
        · rw [decide_eq_false q2]
          show (true = false → _) ∧ (true ≠ false → _)
          walk_at "mine"
          show (true = true → _) ∧ (true = false → _)
          walk_at "mine"
          exact stay (if_pos (.inr q2))
noncomputable def endStep (ops : List (Int × Opd)) (x : Int) : List (Int × Opd) := match lk ops x with
  | some (.r y) => pt ops x (endF ops ops.length (.r y))
  | _ => ops
theorem endStep_len (ops : List (Int × Opd)) (x : Int) : (endStep ops x).length ≤ ops.length + 1 := by
  unfold endStep
  split
  · exact length_pt ..
  · exact Nat.le_succ _
theorem endStep_keep (ops : List (Int × Opd)) (x y : Int) (h : (lk ops y).isSome = true) : (lk (endStep ops x) y).isSome = true := by
  unfold endStep
  split
  · rw [lk_pt]; split
    · rfl
    · exact h
  · exact h
noncomputable def endLoop : Ss := (.cons (.ite (.cmp .eq (.sub (.sub (.var 6) (.var 3)) (.int 0)) (.str .r)) (.cons (.asgS (.var 6) (.var 3) (.call .endOf (.cons (.var 6) (.cons (.sub (.var 6) (.var 3)) .nil)))) .nil) .nil) .nil)
theorem end_loop {ao : Addr} {v0 v1 v2 v7 : V} {o4 o5 : Option V} (L : Lib X) : ∀ (xs : List Int) {ops : List (Int × Opd)} {σ : So} {o3 : Option V} {A C : Ro → So → Prop} {R : V → Ro → So → Prop}, σ ao = some (.dI (mapD Opd.v ops)) → ops.length + xs.length < 500 → (∀ x ∈ xs, (lk ops x).isSome = true) →
    (∀ σ' o3, σ' ao = some (.dI (mapD Opd.v (xs.foldl endStep ops))) → (∀ c, c ≠ ao → σ' c = σ c) → A [some v0, some v1, some v2, o3, o4, o5, some (.ref ao), some v7] σ') →
    forL (turnOf X (n + 1) (.v 3) endLoop) (xs.map .int) [some v0, some v1, some v2, o3, o4, o5, some (.ref ao), some v7] σ (Kn A C R)
  | [], ops, σ, o3, A, C, R, h1, _, _, h => for_nil (h σ _ h1 fun ι ι => rfl)
  | x :: xs, ops, σ, o3, A, C, R, h1, z, hx, h => by
    simp only [List.length_cons] at z
    have l1 := endStep_len ops x
    refine for_cons (och_of rfl ?_)
    show WSs X (n + 1) endLoop [some v0, some v1, some v2, some (.int x), o4, o5, some (.ref ao), some v7] σ _
    unfold endLoop
    obtain ⟨o, ho⟩ := Option.isSome_iff_exists.mp (hx x (.head _))
    walk_at "mine"
    refine och_of (sub_ref h1 ho) ?_
    walk_at "mine"
    cases o with
    | k v =>
      walk_at "mine"
      have e : endStep ops x = ops := by unfold endStep; rw [ho]
      refine end_loop L xs h1 (by lia) (fun y hy => hx y (.tail _ hy)) fun σ' o3 k1 k2 => h σ' o3 (by rw [List.foldl_cons, e]; exact k1) k2
    | r y =>
      walk_at "mine"
      refine och_of (sub_ref h1 ho) ?_
      walk_at "mine"
      refine endOf_ok L h1 (by lia) ?_
      walk_at "mine"
      refine ⟨ao, x, rfl, rfl, .inl ⟨_, h1, lt_lid (by rw [length_mapD]; lia), ?_⟩⟩
      walk_at "mine"
      rw [put_map]
      have e : endStep ops x = pt ops x (endF ops ops.length (.r y)) := by unfold endStep; rw [ho]
      rw [e] at l1
      refine end_loop L xs (ops := pt ops x (endF ops ops.length (.r y))) (upd_self ..) (by lia) (fun y hy => by rw [← e]; exact endStep_keep _ _ _ (hx y (.tail _ hy))) fun σ' o3 k1 k2 => h σ' o3 (by rw [List.foldl_cons, e]; exact k1) fun c hc => (k2 c hc).trans (upd_ne _ _ hc)
theorem fm_mem : ∀ (xs : List Sp) (p : FM) (q : Int × Option Sp), q ∈ (xs.foldl fmStep p).1 → q ∈ p.1 ∨ ∃ s ∈ xs, q = (s.dst, some s)
  | [], p, q, h => .inl h
  | s :: xs, p, q, h => by
    rcases fm_mem xs (fmStep p s) q h with h | ⟨t, ht, e⟩
    · unfold fmStep at h
      split at h
      · exact .inl h
      · split at h
        · rcases mem_pt h with h | h
          · exact .inl h
          · exact .inr ⟨s, .head _, h⟩
        · exact .inl h
    · exact .inr ⟨t, .tail _ ht, e⟩
theorem fmBs_mem : ∀ (bs : List Blk) (p : FM) (q : Int × Option Sp), q ∈ (fmBs p bs).1 → q ∈ p.1 ∨ ∃ b ∈ bs, ∃ s ∈ b.steps, q = (s.dst, some s)
  | [], p, q, h => .inl h
  | b :: bs, p, q, h => by
    rcases fmBs_mem bs (b.steps.foldl fmStep p) q h with h | ⟨c, hc, s, hs, e⟩
    · rcases fm_mem _ _ _ h with h | ⟨s, hs, e⟩
      · exact .inl h
      · exact .inr ⟨b, .head _, s, hs, e⟩
    · exact .inr ⟨c, .tail _ hc, s, hs, e⟩
theorem fmBs_len : ∀ (bs : List Blk) (p : FM), (fmBs p bs).1.length ≤ p.1.length + stepsN bs ∧ (fmBs p bs).2.length ≤ p.2.length + stepsN bs
  | [], p => ⟨Nat.le_add_right _ _, Nat.le_add_right _ _⟩
  | b :: bs, p => by
    obtain ⟨m1, m2⟩ := fm_fold_len b.steps p
    obtain ⟨k1, k2⟩ := fmBs_len bs (b.steps.foldl fmStep p)
    have e : stepsN (b :: bs) = b.steps.length + stepsN bs := by simp [stepsN]
    have e2 : fmBs p (b :: bs) = fmBs (b.steps.foldl fmStep p) bs := rfl
    rw [e, e2]
    exact ⟨by lia, by lia⟩
noncomputable def fmOf (bs : List Blk) : FM := fmBs ([(0, none), (1, none)], []) bs
noncomputable def osOf (bs : List Blk) : OS := (fmOf bs).1.foldl (lastStep (fmOf bs).1 (fmOf bs).2) ([], [])
noncomputable def lastingF (bs : List Blk) : Las := ⟨((osOf bs).1.map (·.1)).foldl endStep (osOf bs).1, (osOf bs).2⟩
theorem osOf_len (found : List (Int × Option Sp)) (many : List (Int × Bool)) : ∀ (xs : List (Int × Option Sp)) (p : OS), (xs.foldl (lastStep found many) p).1.length ≤ p.1.length + xs.length ∧ (xs.foldl (lastStep found many) p).2.length ≤ p.2.length + xs.length
  | [], p => ⟨Nat.le_refl _, Nat.le_refl _⟩
  | q :: xs, p => by
    obtain ⟨l1, l2⟩ := lastStep_len found many p q
    obtain ⟨m1, m2⟩ := osOf_len found many xs (lastStep found many p q)
    simp only [List.foldl_cons, List.length_cons]
    exact ⟨by lia, by lia⟩
set_option tactic.hygienic true in
theorem lk_of_mem {α : Type} : ∀ {l : List (Int × α)} {p : Int × α}, p ∈ l → (lk l p.1).isSome = true
  | (k, v) :: r, p, h => by
    rw [lk]
    split
    · rfl
    · rename_i q
      rcases List.mem_cons.mp h with rfl | h
      · exact absurd rfl q
      · exact lk_of_mem h
theorem lastingOf_ok {σ : So} {bs : List Blk} {rg : Int} {Q : V → So → Prop} (L : Lib X) (hs : ∀ b ∈ bs, ∀ s ∈ b.steps, s.args.length < 1000 ∧ (s.op ∈ telling → s.args ≠ [])) (hz : stepsN bs < 100)
    (q : ∀ σ', (∀ c, (σ c).isSome = true → σ' c = σ c) → Q (lastingF bs).v σ') : Call X (n + 3) .lastingOf [drawnV bs rg] σ Q := by
  refine call_kn L.co L.lastingOf rfl ?_
  show WSs X (n + 2) ir_lastingOf [some (drawnV bs rg), none, none, none, none, none, none, none] σ _
  unfold ir_lastingOf
  walk_at "mine"
  intro af hf
  walk_at "mine"
  intro am hm
  have d1 : am ≠ af := fun e => by rw [e, upd_self] at hm; cases hm
  rw [upd_ne _ _ d1] at hm
  walk_at "mine"
  refine och_of rfl (och_of rfl ?_)
  walk_at "mine"
  refine och_of rfl ?_
  generalize hσ1 : upd (upd σ af (.dI ([].zip []))) am (.dI ([].zip [])) = σ1
  have f1 : σ1 af = some (.dI (mapD fV [])) := by rw [← hσ1, upd_ne _ _ (Ne.symm d1), upd_self]; rfl
  have m1 : σ1 am = some (.dI (mapD V.bool [])) := by rw [← hσ1, upd_self]; rfl
  have o1 : ∀ c, c ≠ af → c ≠ am → σ1 c = σ c := fun c c1 c2 => by rw [← hσ1, upd_ne _ _ c2, upd_ne _ _ c1]
  refine for_cons (och_of rfl ?_)
  walk_at "mine"
  refine ⟨af, 0, rfl, rfl, .inl ⟨_, f1, lt_lid (by simp [mapD]), ?_⟩⟩
  walk_at "mine"
  refine for_cons (och_of rfl ?_)
  walk_at "mine"
  refine ⟨af, 1, rfl, rfl, .inl ⟨_, upd_self .., lt_lid (by simp [mapD, put]), ?_⟩⟩
  walk_at "mine"
  refine for_nil ?_
  rw [upd_same]
  have f2 : upd σ1 af (.dI (put (put (mapD fV []) 0 .none) 1 .none)) af = some (.dI (mapD fV [(0, none), (1, none)])) := by rw [upd_self]; rfl
  have m2 : upd σ1 af (.dI (put (put (mapD fV []) 0 .none) 1 .none)) am = some (.dI (mapD V.bool [])) := by rw [upd_ne _ _ d1]; exact m1
  have o2 : ∀ c, c ≠ af → c ≠ am → upd σ1 af (.dI (put (put (mapD fV []) 0 .none) 1 .none)) c = σ c := fun c c1 c2 => by rw [upd_ne _ _ c1]; exact o1 c c1 c2
  generalize upd σ1 af (.dI (put (put (mapD fV []) 0 .none) 1 .none)) = σ2 at f2 m2 o2 ⊢
  walk_at "mine"
  refine och_of rfl ?_
  refine fm_outer (p := ([(0, none), (1, none)], [])) (Ne.symm d1) bs f2 m2 (by simp; lia) (by simp; lia) fun σ3 o4 o5 f3 m3 o3 => ?_
  obtain ⟨z1, z2⟩ := fmBs_len bs ([(0, none), (1, none)], [])
  simp only [List.length_cons, List.length_nil] at z1 z2
  have hfm : fmBs ([(0, none), (1, none)], []) bs = fmOf bs := rfl
  rw [hfm] at f3 m3 z1 z2
  walk_at "mine"
  intro ao ho
  walk_at "mine"
  intro ah hh
  have d2 : ah ≠ ao := fun e => by rw [e, upd_self] at hh; cases hh
  rw [upd_ne _ _ d2] at hh
  have d3 : ao ≠ af := fun e => by rw [e, f3] at ho; cases ho
  have d4 : ao ≠ am := fun e => by rw [e, m3] at ho; cases ho
  have d5 : ah ≠ af := fun e => by rw [e, f3] at hh; cases hh
  have d6 : ah ≠ am := fun e => by rw [e, m3] at hh; cases hh
  walk_at "mine"
  refine och_of rfl (och_of rfl ?_)
  walk_at "mine"
  refine ws_frz rfl (.dI (by rw [upd_ne _ _ (Ne.symm d5), upd_ne _ _ (Ne.symm d3)]; exact f3)) ?_
  generalize hσ4 : drp (upd (upd σ3 ao (.dI ([].zip []))) ah (.dI ([].zip []))) af = σ4
  have m4 : σ4 am = some (.dI (mapD V.bool (fmOf bs).2)) := by rw [← hσ4, drp_ne _ d1, upd_ne _ _ (Ne.symm d6), upd_ne _ _ (Ne.symm d4)]; exact m3
  have a4 : σ4 ao = some (.dI (mapD Opd.v [])) := by rw [← hσ4, drp_ne _ d3, upd_ne _ _ (Ne.symm d2), upd_self]; rfl
  have b4 : σ4 ah = some (.dI (mapD Shp.v [])) := by rw [← hσ4, drp_ne _ d5, upd_self]; rfl
  have o4' : ∀ c, (σ c).isSome = true → σ4 c = σ c ∧ c ≠ ao ∧ c ≠ ah := fun c hc => by
    have c1 : c ≠ af := fun e => by rw [e, hf] at hc; cases hc
    have c2 : c ≠ am := fun e => by rw [e, hm] at hc; cases hc
    have e3 : σ3 c = σ c := by rw [o3 c c1 c2]; exact o2 c c1 c2
    have c3 : c ≠ ao := fun e => by rw [← e3, e, ho] at hc; cases hc
    have c4 : c ≠ ah := fun e => by rw [← e3, e, hh] at hc; cases hc
    exact ⟨by rw [← hσ4, drp_ne _ c1, upd_ne _ _ c4, upd_ne _ _ c3]; exact e3, c3, c4⟩
  walk_at "mine"
  refine och_of (show itV σ4 .items (.dI (mapD fV (fmOf bs).1)) = some ((fmOf bs).1.map fun q => .tup [.int q.1, fV q.2]) from congrArg some (List.map_map ..)) ?_
  refine last_turns (p := ([], [])) L ⟨d4, d6, Ne.symm d2⟩ (fmOf bs).1 m4 a4 b4 (by simp; lia) (by simp; lia) (fun q hq s e => ?_) fun σ5 o3 o5 a5 b5 s5 => ?_
  · rcases fmBs_mem bs _ q hq with h | ⟨b, hb, t, ht, e2⟩
    · simp only [List.mem_cons, List.not_mem_nil, or_false] at h
      rcases h with rfl | rfl <;> cases e
    · rw [e2] at e; cases e
      exact hs b hb s ht
  have hos : (fmOf bs).1.foldl (lastStep (fmOf bs).1 (fmOf bs).2) ([], []) = osOf bs := rfl
  rw [hos] at a5 b5
  have y1 := (osOf_len (fmOf bs).1 (fmOf bs).2 (fmOf bs).1 ([], [])).1
  rw [hos] at y1
  simp only [List.length_nil] at y1
  walk_at "mine"
  refine call_list L.bi (ys := ((osOf bs).1.map (·.1)).map .int) (.inr ⟨mapD Opd.v (osOf bs).1, dictV_at a5, by simp only [mapD, List.map_map]; rfl⟩) ?_
  refine o_newF (by simp; lia) ?_
  refine och_of rfl ?_
  refine end_loop L ((osOf bs).1.map (·.1)) a5 (by rw [List.length_map]; lia) (fun x hx => by obtain ⟨p, hp, rfl⟩ := List.mem_map.mp hx; exact lk_of_mem hp) fun σ6 o3 a6 s6 => ?_
  walk_at "mine"
  refine ws_frz rfl (.dI a6) ?_
  walk_at "mine"
  refine ws_frz rfl (.dI (by rw [drp_ne _ d2, s6 _ d2]; exact b5)) ?_
  walk_at "mine"
  refine lasting_fz (la := lastingF bs) L ?_
  walk_at "mine"
  refine q _ fun c hc => ?_
  obtain ⟨e4, c3, c4⟩ := o4' c hc
  rw [drp_ne _ c4, drp_ne _ c3, s6 c c3, s5 c c3 c4, e4]
end
section
variable {X : Cx} {n : Nat}
noncomputable def rowV (r : List Rw) : V := .lst (r.map Rw.v)
noncomputable def rowsV (rs : List (List Rw)) : V := .lst (rs.map rowV)
noncomputable def rowsM (rs : List (List Rw)) : M := .lst (rs.map rowV)
noncomputable def nextF (fc : Fct) (s : Sp) : Fct := if s.dst ≥ 0 then passF fc s else fc
noncomputable def runF (fc : Fct) (ss : List Sp) : Fct := ss.foldl nextF fc
noncomputable def rowsB (la : Las) : Fct → List Sp → List (List Rw)
  | _, [] => []
  | fc, s :: ss => rowsF la fc s.args :: rowsB la (nextF fc s) ss
noncomputable def rowsOf (la : Las) (fc : Fct) (ss : List Sp) (e : Sp) : List (List Rw) := rowsB la fc ss ++ [rowsF la (runF fc ss) e.args]
theorem rowsB_len (la : Las) : ∀ (fc : Fct) (ss : List Sp), (rowsB la fc ss).length = ss.length
  | _, [] => rfl
  | fc, s :: ss => by simp only [rowsB, List.length_cons, rowsB_len la (nextF fc s) ss]
structure ShpOk (s : Shp) : Prop where
  len : s.args.length < 100
  tell : s.op ∈ telling → 1 ≤ s.args.length
  eqs : s.op = .eq ∨ s.op = .ne → 2 ≤ s.args.length
noncomputable def FctOk (fc : Fct) : Prop := ∀ x s t, lk fc.made x = some (s, t) → ShpOk s
noncomputable def StepOk (s : Sp) : Prop := ShpOk s.shp ∧ (0 ≤ s.dst → s.op ∈ shaped)
theorem FctOk.learn {fc : Fct} (h : FctOk fc) (x : Int) (o : Opd) : FctOk (learnF fc x o) := fun y s t e => by
  simp only [learnF, lk_pt] at e
  split at e
  · (injection e); exact ⟨by simp, fun ι => by simp, fun h => by rcases h with h | h <;> (injection h)⟩
  · exact h y s t e
theorem FctOk.next {fc : Fct} (h : FctOk fc) {s : Sp} (hs : ShpOk s.shp) : FctOk (nextF fc s) := by
  unfold nextF
  split
  · intro y u t e
    simp only [passF, lk_pt] at e
    split at e
    · (injection e); exact hs
    · exact h y u t e
  · exact h
theorem FctOk.run {ss : List Sp} : ∀ {fc : Fct}, FctOk fc → (∀ s ∈ ss, ShpOk s.shp) → FctOk (runF fc ss) := by
  induction ss with
  | nil => exact fun h ι => h
  | cons s ss ih => exact fun h hs => ih (h.next (hs s (.head _))) fun u hu => hs u (.tail _ hu)
theorem FctOk.nil : FctOk ⟨[], [], 0⟩ := fun ι ι ι e => nomatch e
theorem FctOk.br {la : Las} {fb fc : Fct} {c number t o : Int} (h : FctOk fc) : FctOk (learnBrF la fb fc c number t o) := by
  have h1 : FctOk (if number = o then learnF fc c (.k 0) else fc) := by
    split
    · exact h.learn _ _
    · exact h
  exact learnBrF_ind h1 fun ι ι ι ι => h1.learn _ _
theorem FctOk.entry {la : Las} {fb : Fct} {e : Sp} {number : Int} : FctOk (entryF la fb e number) := by
  refine entryF_ind FctOk.nil (fun ι ι ι => FctOk.nil.br) fun ι ι => ?_
  unfold learnTbF
  split
  · exact FctOk.nil.learn _ _
  · exact FctOk.nil
noncomputable def FctLen (fc : Fct) (k : Nat) : Prop := fc.made.length ≤ k ∧ fc.setAt.length ≤ k
theorem FctLen.learn {fc : Fct} {k : Nat} (h : FctLen fc k) (x : Int) (o : Opd) : FctLen (learnF fc x o) (k + 1) := ⟨Nat.le_trans (length_pt ..) (by have := h.1; lia), by have := h.2; show fc.setAt.length ≤ _; lia⟩
theorem FctLen.next {fc : Fct} {k : Nat} (h : FctLen fc k) (s : Sp) : FctLen (nextF fc s) (k + 1) := by
  obtain ⟨h1, h2⟩ := h
  unfold nextF
  split
  · exact ⟨Nat.le_trans (length_pt ..) (by lia), Nat.le_trans (length_pt ..) (by lia)⟩
  · exact ⟨by lia, by lia⟩
theorem FctLen.more {fc : Fct} {k k' : Nat} (h : FctLen fc k) (e : k ≤ k') : FctLen fc k' := ⟨by have := h.1; lia, by have := h.2; lia⟩
theorem FctLen.run {ss : List Sp} : ∀ {fc : Fct} {k : Nat}, FctLen fc k → FctLen (runF fc ss) (k + ss.length) := by
  induction ss with
  | nil => exact fun h => h
  | cons s ss ih => intro fc k h; have := ih (h.next s); simp only [List.length_cons]; exact this.more (by lia)
theorem FctLen.nil : FctLen ⟨[], [], 0⟩ 0 := ⟨Nat.le_refl _, Nat.le_refl _⟩
theorem FctLen.br {la : Las} {fb fc : Fct} {c number t o : Int} {k : Nat} (h : FctLen fc k) : FctLen (learnBrF la fb fc c number t o) (k + 2) := by
  have h1 : FctLen (if number = o then learnF fc c (.k 0) else fc) (k + 1) := by
    split
    · exact h.learn _ _
    · exact h.more (Nat.le_succ _)
  exact learnBrF_ind (P := fun f => FctLen f (k + 2)) (h1.more (Nat.le_succ _)) fun ι ι ι ι => h1.learn _ _
theorem FctLen.entry {la : Las} {fb : Fct} {e : Sp} {number : Int} : FctLen (entryF la fb e number) 2 := by
  refine entryF_ind (P := fun f => FctLen f 2) (FctLen.nil.more (by lia)) (fun ι ι ι => FctLen.nil.br) fun ι ι => ?_
  unfold learnTbF
  split
  · exact (FctLen.nil.learn _ _).more (by lia)
  · exact FctLen.nil.more (by lia)
noncomputable def saidB : Ss := (.cons (.expr (.append (.var 7) (.call .said (.cons (.var 6) (.cons (.var 8) .nil))))) (.cons (.ite (.cmp .ge (.attr (.var 8) .dst) (.int 0)) (.cons (.expr (.meth .passStep (.var 6) (.cons (.var 8) .nil))) .nil) .nil) .nil))
theorem said_turns {la : Las} {a : FA} {ar : Addr} {v0 v1 v2 v3 v4 v5 : V} (L : Lib X) (na : ¬ a.has ar) : ∀ (xs : List Sp) {fc : Fct} {acc : List (List Rw)} {k : Nat} {σ : So} {o8 : Option V} {A C : Ro → So → Prop} {R : V → Ro → So → Prop}, FactsAt σ la a fc → FctOk fc → FctLen fc k → k + xs.length < 500 → σ ar = some (rowsM acc) → acc.length + xs.length < 500 → (∀ s ∈ xs, StepOk s) →
    (∀ σ' o8, FactsAt σ' la a (runF fc xs) → σ' ar = some (rowsM (acc ++ rowsB la fc xs)) → (∀ c, ¬ a.has c → c ≠ ar → σ' c = σ c) → A [some v0, some v1, some v2, some v3, some v4, some v5, some (.ref a.l), some (.ref ar), o8] σ') →
    forL (turnOf X (n + 4) (.v 8) saidB) (xs.map Sp.v) [some v0, some v1, some v2, some v3, some v4, some v5, some (.ref a.l), some (.ref ar), o8] σ (Kn A C R)
  | [], fc, acc, k, σ, o8, A, C, R, f, _, _, _, h1, _, _, h => for_nil (h σ _ f (by rw [h1]; simp [rowsB]) fun ι ι ι => rfl)
  | s :: xs, fc, acc, k, σ, o8, A, C, R, f, ok, ln, z1, h1, z2, hs, h => by
    simp only [List.length_cons] at z1 z2
    obtain ⟨so, so2⟩ := hs s (.head _)
    have l1 := ln.1
    have l2 := ln.2
    refine for_cons (och_of rfl ?_)
    show WSs X (n + 4) saidB [some v0, some v1, some v2, some v3, some v4, some v5, some (.ref a.l), some (.ref ar), some s.v] σ _
    have na2 := na
    simp only [FA.has, not_or] at na2
    unfold saidB
    walk_at "mine"
    refine ⟨isL h1, ?_⟩
    walk_at "mine"
    refine said_ok L f (fun x s t e => ⟨by have := (ok x s t e).len; lia, (ok x s t e).tell⟩) so.len ?_
    refine ⟨ar, _, rfl, h1, lt_lid (by simp; lia), ?_⟩
    have e1 : M.lst (acc.map rowV ++ [.lst ((rowsF la fc s.args).map Rw.v)]) = rowsM (acc ++ [rowsF la fc s.args]) := by simp [rowsM]; rfl
    rw [e1]
    have f1 : FactsAt (upd σ ar (rowsM (acc ++ [rowsF la fc s.args]))) la a fc := f.off1 (c := ar) (fun b hb => upd_ne _ _ hb) (Ne.symm na2.1) (Ne.symm na2.2.1) (Ne.symm na2.2.2.1) (Ne.symm na2.2.2.2)
    walk_at "mine"
    have go : ∀ σ', FactsAt σ' la a (nextF fc s) → σ' ar = some (rowsM (acc ++ [rowsF la fc s.args])) → (∀ c, ¬ a.has c → c ≠ ar → σ' c = σ c) → forL (turnOf X (n + 4) (.v 8) saidB) (xs.map Sp.v) [some v0, some v1, some v2, some v3, some v4, some v5, some (.ref a.l), some (.ref ar), some s.v] σ' (Kn A C R) := fun σ' f' g1 g2 =>
      said_turns L na xs f' (ok.next so) (ln.next s) (by lia) g1 (by simp; lia) (fun u hu => hs u (.tail _ hu)) fun σ'' o8 k1 k2 k3 => h σ'' o8 k1 (by rw [k2, rowsB]; simp) fun c c1 c2 => (k3 c c1 c2).trans (g2 c c1 c2)
    unfold saidB at go
    refine ⟨fun hd => ?_, fun hd => ?_⟩
    · have hd := of_decide_eq_true hd
      walk_at "mine"
      refine f1.meth ?_
      walk_at "mine"
      refine pass_ok L f1 (by lia) (by lia) (so2 hd) fun σ' f' s' => ?_
      walk_at "mine"
      refine go σ' (by unfold nextF; rw [if_pos hd]; exact f') (by rw [s' ar na2.2.1 na2.2.2.1 na2.2.2.2, upd_self]) fun c c1 c2 => ?_
      simp only [FA.has, not_or] at c1
      rw [s' c c1.2.1 c1.2.2.1 c1.2.2.2, upd_ne _ _ c2]
    · have hd := of_decide_eq_false hd
      refine go _ (by unfold nextF; rw [if_neg hd]; exact f1) (upd_self ..) fun c c1 c2 => upd_ne _ _ c2
noncomputable def allTurn : Ss := (.cons (.asg 6 (.call .factsAt (.cons (.var 0) (.cons (.var 5) (.cons (.var 2) (.cons (.var 3) (.cons (.var 1) .nil))))))) (.cons (.asg 7 (.lst true .nil)) (.cons (.for_ (.v 8) .seq (.attr (.sub (.attr (.var 0) .blocks) (.var 5)) .steps) (.cons (.expr (.append (.var 7) (.call .said (.cons (.var 6) (.cons (.var 8) .nil))))) (.cons (.ite (.cmp .ge (.attr (.var 8) .dst) (.int 0)) (.cons (.expr (.meth .passStep (.var 6) (.cons (.var 8) .nil))) .nil) .nil) .nil))) (.cons (.expr (.append (.var 7) (.call .said (.cons (.var 6) (.cons (.attr (.sub (.attr (.var 0) .blocks) (.var 5)) .end_) .nil))))) (.cons (.asgS (.var 3) (.var 5) (.var 6)) (.cons (.frz 7) (.cons (.asgS (.var 4) (.var 5) (.var 7)) .nil)))))))
noncomputable def kV (a : FA) : V := .ref a.l
theorem all_turn {la : Las} {bs : List Blk} {rg number : Int} {b : Blk} {as_ : List Addr} {ak ad : Addr} {ks : List (Int × FA)} {fd : List (Int × List (List Rw))} {en : Fct} {σ : So} {o6 o7 o8 : Option V} {A C : Ro → So → Prop} {R : V → Ro → So → Prop} (L : Lib X)
    (he : ∀ Q' : V → So → Prop, (∀ a σ', FactsAt σ' la a en → (∀ b, a.has b → σ b = none) → (∀ b, ¬ a.has b → σ' b = σ b) → Q' (.ref a.l) σ') → Call X (n + 4) .factsAt [drawnV bs rg, .int number, .lst (as_.map .ref), .ref ak, la.v] σ Q')
    (h0 : 0 ≤ number) (hb : bs[number.toNat]? = some b) (hbz : bs.length < 1000) (hk : σ ak = some (.dI (mapD kV ks))) (hd : σ ad = some (.dI (mapD rowsV fd))) (nkd : ak ≠ ad) (hkz : ks.length < 100) (hdz : fd.length < 100)
    (ok : FctOk en) (ln : FctLen en 2) (hst : ∀ s ∈ b.steps, StepOk s) (hsz : b.steps.length < 100) (hea : b.end_.args.length < 100)
    (h : ∀ a σ' o6 o7 o8, FactsAt σ' la a (runF en b.steps) → (∀ c, a.has c → σ c = none) → σ' ak = some (.dI (mapD kV (pt ks number a))) → σ' ad = some (.dI (mapD rowsV (pt fd number (rowsOf la en b.steps b.end_)))) → (∀ c, (σ c).isSome = true → c ≠ ak → c ≠ ad → σ' c = σ c) → A [some (drawnV bs rg), some la.v, some (.lst (as_.map .ref)), some (.ref ak), some (.ref ad), some (.int number), o6, o7, o8] σ') :
    WSs X (n + 4) allTurn [some (drawnV bs rg), some la.v, some (.lst (as_.map .ref)), some (.ref ak), some (.ref ad), some (.int number), o6, o7, o8] σ (Kn A C R) := by
  unfold allTurn
  walk_at "mine"
  refine he _ fun a σ1 f n1 s1 => ?_
  have nk : ∀ c, (σ c).isSome = true → ¬ a.has c := fun c hc q => by rw [n1 c q] at hc; (injection hc)
  have nak := nk ak (by rw [hk]; rfl)
  have nad := nk ad (by rw [hd]; rfl)
  walk_at "mine"
  refine o_newT (by simp) fun ar har => ?_
  have na : ¬ a.has ar := fun q => by
    rcases q with rfl | rfl | rfl | rfl
    · rw [f.obj] at har; (injection har)
    · rw [f.ns] at har; (injection har)
    · rw [f.made] at har; (injection har)
    · rw [f.setAt] at har; (injection har)
  have na2 := na
  simp only [FA.has, not_or] at na2
  have har' : σ ar = none := (s1 ar na).symm.trans har
  have rk : ar ≠ ak := fun e => by rw [e, hk] at har'; (injection har')
  have rd : ar ≠ ad := fun e => by rw [e, hd] at har'; (injection har')
  have f2 : FactsAt (upd σ1 ar (.lst [])) la a en := f.off1 (c := ar) (fun b hb => upd_ne _ _ hb) (Ne.symm na2.1) (Ne.symm na2.2.1) (Ne.symm na2.2.2.1) (Ne.symm na2.2.2.2)
  have hbi : ∀ σ, idxV σ (.lst (bs.map Blk.v)) (.int number) = some b.v := fun σ => idx_pos rfl (lt_lid (by rw [List.length_map]; lia)) h0 (by simp [hb])
  walk_at "mine"
  refine och_of (hbi _) ?_
  walk_at "mine"
  refine och_of rfl ?_
  refine said_turns (acc := []) (k := 2) L na b.steps f2 ok ln (by lia) (upd_self ..) (by simp; lia) hst fun σ3 o8 f3 g3 s3 => ?_
  rw [List.nil_append] at g3
  have sk : σ3 ak = σ ak := by rw [s3 ak nak (Ne.symm rk), upd_ne _ _ (Ne.symm rk), s1 ak nak]
  have sd : σ3 ad = σ ad := by rw [s3 ad nad (Ne.symm rd), upd_ne _ _ (Ne.symm rd), s1 ad nad]
  walk_at "mine"
  refine ⟨isL g3, ?_⟩
  walk_at "mine"
  refine och_of (hbi _) ?_
  walk_at "mine"
  have ok3 : FctOk (runF en b.steps) := ok.run fun s hs => (hst s hs).1
  have hrl : (rowsB la en b.steps).length = b.steps.length := rowsB_len ..
  refine said_ok L f3 (fun x s t e => ⟨by have := (ok3 x s t e).len; lia, (ok3 x s t e).tell⟩) hea ?_
  refine ⟨ar, _, rfl, g3, lt_lid (by simp; lia), ?_⟩
  have e1 : M.lst ((rowsB la en b.steps).map rowV ++ [.lst ((rowsF la (runF en b.steps) b.end_.args).map Rw.v)]) = rowsM (rowsOf la en b.steps b.end_) := by simp [rowsM, rowsOf]; rfl
  rw [e1]
  walk_at "mine"
  refine ⟨ak, number, rfl, rfl, .inl ⟨_, by rw [upd_ne _ _ (Ne.symm rk), sk, hk], lt_lid (by rw [length_mapD]; lia), ?_⟩⟩
  have e2 : put (mapD kV ks) number (.ref a.l) = mapD kV (pt ks number a) := put_map kV ks number a
  rw [e2]
  walk_at "mine"
  refine ws_frz rfl (.lst (by rw [upd_ne _ _ rk, upd_self]; rfl)) ?_
  walk_at "mine"
  refine ⟨ad, number, rfl, rfl, .inl ⟨_, by rw [drp_ne _ (Ne.symm rd), upd_ne _ _ (Ne.symm nkd), upd_ne _ _ (Ne.symm rd), sd, hd], lt_lid (by rw [length_mapD]; lia), ?_⟩⟩
  have e3 : put (mapD rowsV fd) number (.lst ((rowsOf la en b.steps b.end_).map rowV)) = mapD rowsV (pt fd number (rowsOf la en b.steps b.end_)) := put_map rowsV fd number _
  rw [e3]
  walk_at "mine"
  have nak2 := nak
  have nad2 := nad
  simp only [FA.has, not_or] at nak2 nad2
  refine h a _ _ _ _ ⟨?_, ?_, ?_, ?_, f3.ne⟩ n1 ?_ (upd_self ..) fun c c0 c1 c2 => ?_
  · rw [upd_ne _ _ (Ne.symm nad2.1), drp_ne _ (Ne.symm na2.1), upd_ne _ _ (Ne.symm nak2.1), upd_ne _ _ (Ne.symm na2.1)]; exact f3.obj
  · rw [upd_ne _ _ (Ne.symm nad2.2.1), drp_ne _ (Ne.symm na2.2.1), upd_ne _ _ (Ne.symm nak2.2.1), upd_ne _ _ (Ne.symm na2.2.1)]; exact f3.ns
  · rw [upd_ne _ _ (Ne.symm nad2.2.2.1), drp_ne _ (Ne.symm na2.2.2.1), upd_ne _ _ (Ne.symm nak2.2.2.1), upd_ne _ _ (Ne.symm na2.2.2.1)]; exact f3.made
  · rw [upd_ne _ _ (Ne.symm nad2.2.2.2), drp_ne _ (Ne.symm na2.2.2.2), upd_ne _ _ (Ne.symm nak2.2.2.2), upd_ne _ _ (Ne.symm na2.2.2.2)]; exact f3.setAt
  · rw [upd_ne _ _ nkd, drp_ne _ (Ne.symm rk), upd_self]
  · have c3 : c ≠ ar := fun e => by rw [e, har'] at c0; (injection c0)
    rw [upd_ne _ _ c2, drp_ne _ c3, upd_ne _ _ c1, upd_ne _ _ c3, s3 c (nk c c0) c3, upd_ne _ _ c3, s1 c (nk c c0)]
end
section
variable {X : Cx} {n : Nat}
inductive Way : Sp → List Int → Prop
  | b23 {c : Int} : Way ⟨.branch, -1, [.r c], .tup [.int 2, .int 3]⟩ [2, 3]
  | b32 {c : Int} : Way ⟨.branch, -1, [.r c], .tup [.int 3, .int 2]⟩ [3, 2]
  | table {c low : Int} : low = 0 ∨ low = 1 → Way ⟨.table, -1, [.r c], .tup [.int low, .lst [.int 2], .int 3]⟩ [2, 3]
theorem Way.fin {e : Sp} {fs : List Int} (h : Way e fs) : End e fs := by
  cases h with
  | b23 => exact .branch (by decide)
  | b32 => exact .branch (by decide)
  | table h => exact .table h
structure Six (bs : List Blk) (b0 b1 b2 b3 b4 b5 : Blk) (f1 : List Int) : Prop where
  bs : bs = [b0, b1, b2, b3, b4, b5]
  n0 : b0.number = 0
  n1 : b1.number = 1
  n2 : b2.number = 2
  n3 : b3.number = 3
  n4 : b4.number = 4
  n5 : b5.number = 5
  e0 : b0.end_ = ⟨.jump, -1, [], .int 1⟩
  e1 : Way b1.end_ f1
  e2 : b2.end_ = ⟨.jump, -1, [], .int 4⟩
  e3 : b3.end_ = ⟨.jump, -1, [], .int 4⟩
  e4 : b4.end_ = ⟨.branch, -1, [.r 4], .tup [.int 1, .int 5]⟩
  e5 : ∃ x, b5.end_ = ⟨.give, -1, [.r x], .int 0⟩
noncomputable def flOf (f1 : List Int) : List (List Int) := [[1], f1, [4], [4], [1, 5], []]
noncomputable def psOf : List (List Int) := [[], [0, 4], [1], [1], [2, 3], [4]]
section
variable {bs : List Blk} {b0 b1 b2 b3 b4 b5 : Blk} {f1 : List Int}
theorem Way.two {e : Sp} {fs : List Int} (h : Way e fs) : fs = [2, 3] ∨ fs = [3, 2] := by
  cases h with
  | b23 => exact .inl rfl
  | b32 => exact .inr rfl
  | table => exact .inl rfl
theorem Six.two (s : Six bs b0 b1 b2 b3 b4 b5 f1) : f1 = [2, 3] ∨ f1 = [3, 2] := s.e1.two
theorem Six.end_ (s : Six bs b0 b1 b2 b3 b4 b5 f1) : ∀ (j : Nat) b fs, bs[j]? = some b → (flOf f1)[j]? = some fs → End b.end_ fs := by
  intro j b fs h1 h2
  rw [s.bs] at h1
  obtain ⟨x, hx⟩ := s.e5
  match j, h1, h2 with
  | 0, h1, h2 => (injection h1); (injection h2); rw [s.e0]; exact .jump
  | 1, h1, h2 => (injection h1); (injection h2); exact s.e1.fin
  | 2, h1, h2 => (injection h1); (injection h2); rw [s.e2]; exact .jump
  | 3, h1, h2 => (injection h1); (injection h2); rw [s.e3]; exact .jump
  | 4, h1, h2 => (injection h1); (injection h2); rw [s.e4]; exact .branch (by decide)
  | 5, h1, h2 => (injection h1); (injection h2); rw [hx]; exact .give
  | j + 6, h1, h2 => simp at h1
noncomputable def predsN (ps : List (List Int)) (bf : List (Int × List Int)) : List (List Int) := bf.foldl (fun ps p => p.2.foldl (addP p.1) ps) ps
theorem predsN_eq : ∀ (bf : List (Blk × List Int)) (ps : List (List Int)), predsF ps bf = predsN ps (bf.map fun p => (p.1.number, p.2))
  | [], _ => rfl
  | p :: bf, ps => predsN_eq bf _
noncomputable def bfOf (b0 b1 b2 b3 b4 b5 : Blk) (f1 : List Int) : List (Blk × List Int) := [(b0, [1]), (b1, f1), (b2, [4]), (b3, [4]), (b4, [1, 5]), (b5, [])]
theorem Six.preds (s : Six bs b0 b1 b2 b3 b4 b5 f1) : predsF (List.replicate 6 []) (bfOf b0 b1 b2 b3 b4 b5 f1) = psOf := by
  rw [predsN_eq]
  have : (bfOf b0 b1 b2 b3 b4 b5 f1).map (fun p => (p.1.number, p.2)) = [(0, [1]), (1, f1), (2, [4]), (3, [4]), (4, [1, 5]), (5, [])] := by
    simp only [bfOf, List.map_cons, List.map_nil, s.n0, s.n1, s.n2, s.n3, s.n4, s.n5]
  rw [this]
  rcases s.two with rfl | rfl <;> decide +kernel
theorem Six.bf (s : Six bs b0 b1 b2 b3 b4 b5 f1) : (bfOf b0 b1 b2 b3 b4 b5 f1).map (·.1) = bs := by rw [s.bs]; rfl
theorem Six.bfOk (s : Six bs b0 b1 b2 b3 b4 b5 f1) : ∀ p ∈ bfOf b0 b1 b2 b3 b4 b5 f1, End p.1.end_ p.2 ∧ p.1.number.toNat < 1000000 ∧ ∀ t ∈ p.2, 0 ≤ t ∧ t < (bfOf b0 b1 b2 b3 b4 b5 f1).length := by
  have hl : (bfOf b0 b1 b2 b3 b4 b5 f1).length = 6 := rfl
  obtain ⟨x, hx⟩ := s.e5
  intro p hp
  rw [hl]
  simp only [bfOf, List.mem_cons, List.not_mem_nil, or_false] at hp
  rcases hp with rfl | rfl | rfl | rfl | rfl | rfl
  · exact ⟨by rw [s.e0]; exact .jump, by rw [s.n0]; simp, by simp⟩
  · exact ⟨s.e1.fin, by rw [s.n1]; simp, by rcases s.two with rfl | rfl <;> simp⟩
  · exact ⟨by rw [s.e2]; exact .jump, by rw [s.n2]; simp, by simp⟩
  · exact ⟨by rw [s.e3]; exact .jump, by rw [s.n3]; simp, by simp⟩
  · exact ⟨by rw [s.e4]; exact .branch (by decide), by rw [s.n4]; simp, by simp⟩
  · exact ⟨by rw [hx]; exact .give, by rw [s.n5]; simp, by simp⟩
noncomputable def f0 : Fct := ⟨[], [], 0⟩
noncomputable def EN (la : Las) (b1 b4 : Blk) : Int → Fct := fun i => if i = 2 ∨ i = 3 then entryF la (runF f0 b1.steps) b1.end_ i else if i = 5 then entryF la (runF f0 b4.steps) b4.end_ i else f0
end
noncomputable def LasOk (la : Las) : Prop := ∀ x s, lk la.shs x = some s → ShpOk s
set_option tactic.hygienic true in
theorem shapeOk {la : Las} {fc : Fct} (h1 : LasOk la) (h2 : FctOk fc) {x : Int} {t : Shp} (e : shapeF la fc x = some t) : ShpOk t := by
  unfold shapeF at e
  split at e
  · rename_i s hs; (injection e); exact h1 x _ hs
  · split at e
    · rename_i s t' hs
      split at e
      · (injection e); exact h2 x _ _ hs
      · (injection e)
    · (injection e)
set_option tactic.hygienic true in
theorem last_shs {found : List (Int × Option Sp)} {many : List (Int × Bool)} : ∀ (xs : List (Int × Option Sp)) (p : OS), (∀ q ∈ xs, ∀ s, q.2 = some s → ShpOk s.shp) → (∀ x s, lk p.2 x = some s → ShpOk s) → ∀ x s, lk (xs.foldl (lastStep found many) p).2 x = some s → ShpOk s
  | [], p, _, h, x, s, e => h x s e
  | q :: xs, p, hx, h, x, s, e => by
    refine last_shs xs (lastStep found many p q) (fun r hr => hx r (.tail _ hr)) (fun y t e2 => ?_) x s e
    unfold lastStep at e2
    split at e2
    · exact h y t e2
    · rename_i u hu
      split at e2
      · exact h y t e2
      · split at e2
        · split at e2
          · split at e2
            · exact h y t e2
            · split at e2 <;> exact h y t e2
          · simp only [lk_pt] at e2
            split at e2
            · (injection e2); exact hx q (.head _) u hu
            · exact h y t e2
        · exact h y t e2
theorem lastingF_ok {bs : List Blk} (hs : ∀ b ∈ bs, ∀ s ∈ b.steps, StepOk s) : LasOk (lastingF bs) := by
  refine last_shs (fmOf bs).1 ([], []) (fun q hq s e => ?_) fun x s e => nomatch e
  rcases fmBs_mem bs _ q hq with h | ⟨b, hb, t, ht, e2⟩
  · simp only [List.mem_cons, List.not_mem_nil, or_false] at h
    rcases h with rfl | rfl <;> cases e
  · rw [e2] at e; cases e
    exact (hs b hb s ht).1
structure SInv (σ : So) (la : Las) (as_ : List Addr) (ak ad : Addr) (ks : List (Int × FA)) (fd : List (Int × List (List Rw))) (live : List (FA × Fct)) : Prop where
  pa : PredAt σ as_ psOf
  pan : ∀ c ∈ as_, c ≠ ak ∧ c ≠ ad
  k : σ ak = some (.dI (mapD kV ks))
  d : σ ad = some (.dI (mapD rowsV fd))
  nkd : ak ≠ ad
  kz : ks.length < 50
  dz : fd.length < 50
  fs : ∀ p ∈ live, FactsAt σ la p.1 p.2 ∧ ¬ p.1.has ak ∧ ¬ p.1.has ad
theorem FA.not_has {a : FA} {c : Addr} (h : ¬ a.has c) : a.l ≠ c ∧ a.dx ≠ c ∧ a.am ≠ c ∧ a.as_ ≠ c := by
  simp only [FA.has, not_or] at h
  exact ⟨Ne.symm h.1, Ne.symm h.2.1, Ne.symm h.2.2.1, Ne.symm h.2.2.2⟩
theorem inv_turn {la : Las} {bs : List Blk} {rg number : Int} {b : Blk} {as_ : List Addr} {ak ad : Addr} {ks : List (Int × FA)} {fd : List (Int × List (List Rw))} {live : List (FA × Fct)} {en : Fct} {σ : So} {o5 o6 o7 o8 : Option V} {xs : List Int} {A C : Ro → So → Prop} {R : V → Ro → So → Prop} (L : Lib X) (I : SInv σ la as_ ak ad ks fd live)
    (he : ∀ Q' : V → So → Prop, (∀ a σ', FactsAt σ' la a en → (∀ b, a.has b → σ b = none) → (∀ b, ¬ a.has b → σ' b = σ b) → Q' (.ref a.l) σ') → Call X (n + 4) .factsAt [drawnV bs rg, .int number, .lst (as_.map .ref), .ref ak, la.v] σ Q')
    (h0 : 0 ≤ number) (hb : bs[number.toNat]? = some b) (hbz : bs.length < 1000) (kz : ks.length < 40) (dz : fd.length < 40)
    (ok : FctOk en) (ln : FctLen en 2) (hst : ∀ s ∈ b.steps, StepOk s) (hsz : b.steps.length < 100) (hea : b.end_.args.length < 100)
    (h : ∀ a σ' o6 o7 o8, SInv σ' la as_ ak ad (pt ks number a) (pt fd number (rowsOf la en b.steps b.end_)) ((a, runF en b.steps) :: live) → (∀ c, (σ c).isSome = true → c ≠ ak → c ≠ ad → σ' c = σ c) →
      forL (turnOf X (n + 4) (.v 5) allTurn) (xs.map .int) [some (drawnV bs rg), some la.v, some (.lst (as_.map .ref)), some (.ref ak), some (.ref ad), some (.int number), o6, o7, o8] σ' (Kn A C R)) :
    forL (turnOf X (n + 4) (.v 5) allTurn) ((number :: xs).map .int) [some (drawnV bs rg), some la.v, some (.lst (as_.map .ref)), some (.ref ak), some (.ref ad), o5, o6, o7, o8] σ (Kn A C R) := by
  refine for_cons (och_of rfl ?_)
  show WSs X (n + 4) allTurn [some (drawnV bs rg), some la.v, some (.lst (as_.map .ref)), some (.ref ak), some (.ref ad), some (.int number), o6, o7, o8] σ _
  refine all_turn L he h0 hb hbz I.k I.d I.nkd (by lia) (by lia) ok ln hst hsz hea fun a σ' o6 o7 o8 f n1 k' d' s' => ?_
  have l1 := length_pt ks number a
  have l2 := length_pt fd number (rowsOf la en b.steps b.end_)
  refine h a σ' o6 o7 o8 ⟨?_, I.pan, k', d', I.nkd, by lia, by lia, fun p hp => ?_⟩ s'
  · refine ⟨I.pa.len, fun j c l hc hl => ?_, I.pa.nd, I.pa.small⟩
    have hat := I.pa.at_ j c l hc hl
    have hm := List.mem_of_getElem? hc
    rw [s' c (by rw [hat]; rfl) (I.pan c hm).1 (I.pan c hm).2]
    exact hat
  · rcases List.mem_cons.mp hp with rfl | hp
    · exact ⟨f, fun q => (by have := n1 _ q; rw [I.k] at this; (injection this)), fun q => (by have := n1 _ q; rw [I.d] at this; (injection this))⟩
    · obtain ⟨g, g1, g2⟩ := I.fs p hp
      obtain ⟨k1, k2, k3, k4⟩ := FA.not_has g1
      obtain ⟨m1, m2, m3, m4⟩ := FA.not_has g2
      refine ⟨⟨?_, ?_, ?_, ?_, g.ne⟩, g1, g2⟩
      · rw [s' _ (by rw [g.obj]; rfl) k1 m1]; exact g.obj
      · rw [s' _ (by rw [g.ns]; rfl) k2 m2]; exact g.ns
      · rw [s' _ (by rw [g.made]; rfl) k3 m3]; exact g.made
      · rw [s' _ (by rw [g.setAt]; rfl) k4 m4]; exact g.setAt
theorem preds_six {bs : List Blk} {b0 b1 b2 b3 b4 b5 : Blk} {f1 : List Int} {rg : Int} {σ : So} {Q : V → So → Prop} (L : Lib X) (S : Six bs b0 b1 b2 b3 b4 b5 f1)
    (q : ∀ as_ σ', PredAt σ' as_ psOf → (∀ c ∈ as_, σ c = none) → (∀ c, c ∉ as_ → σ' c = σ c) → Q (.lst (as_.map .ref)) σ') : Call X (n + 2) .preds [drawnV bs rg] σ Q := by
  have := preds_ok (X := X) (n := n) (bf := bfOf b0 b1 b2 b3 b4 b5 f1) (rg := rg) (Q := Q) (σ := σ) L S.bfOk (by show 6 < 20; lia) (fun as_ σ' p => q as_ σ' (by rw [← S.preds]; exact p))
  rw [S.bf] at this
  exact this
noncomputable def ordOf (f1 : List Int) : List Int := if f1 = [2, 3] then [0, 1, 3, 2, 4, 5] else [0, 1, 2, 3, 4, 5]
theorem order_six {bs : List Blk} {b0 b1 b2 b3 b4 b5 : Blk} {f1 : List Int} {rg : Int} {σ : So} {Q : V → So → Prop} (L : Lib X) (S : Six bs b0 b1 b2 b3 b4 b5 f1)
    (q : ∀ σ', (∀ c, (σ c).isSome = true → σ' c = σ c) → Q (.lst ((ordOf f1).map .int)) σ') : Call X (n + 3) .order [drawnV bs rg] σ Q := by
  have hl : bs.length = 6 := by rw [S.bs]; rfl
  have h0 : bs[0]? = some b0 := by rw [S.bs]; rfl
  rcases S.two with e | e
  · refine order_ok (fl := flOf f1) (f0 := [1]) (k := 20) (res := [5, 4, 2, 3, 1, 0]) L S.end_ (by rw [hl]; rfl) (by lia) h0 rfl (by lia) (by rw [e]; decide +kernel) (by decide) fun σ' s' => ?_
    have := q σ' s'
    rw [e] at this
    exact this
  · refine order_ok (fl := flOf f1) (f0 := [1]) (k := 20) (res := [5, 4, 3, 2, 1, 0]) L S.end_ (by rw [hl]; rfl) (by lia) h0 rfl (by lia) (by rw [e]; decide +kernel) (by decide) fun σ' s' => ?_
    have := q σ' s'
    rw [e] at this
    exact this
noncomputable def rowAt (la : Las) (b1 b4 : Blk) (i : Int) (b : Blk) : List (List Rw) := rowsOf la (EN la b1 b4 i) b.steps b.end_
theorem allSaid_ok {bs : List Blk} {b0 b1 b2 b3 b4 b5 : Blk} {f1 : List Int} {rg : Int} {σ : So} {Q : V → So → Prop} (L : Lib X) (S : Six bs b0 b1 b2 b3 b4 b5 f1) (hst : ∀ b ∈ bs, ∀ s ∈ b.steps, StepOk s) (hz : stepsN bs < 100)
    (q : ∀ σ' fd, (∀ p ∈ fd, ∃ b, 0 ≤ p.1 ∧ bs[p.1.toNat]? = some b ∧ p.2 = rowAt (lastingF bs) b1 b4 p.1 b) → (∀ i : Nat, ∀ b, bs[i]? = some b → lk fd i = some (rowAt (lastingF bs) b1 b4 i b)) → fd.length < 60 → (∀ c, (σ c).isSome = true → σ' c = σ c) → Q (.dI (mapD rowsV fd)) σ') : Call X (n + 5) .allSaid [drawnV bs rg] σ Q := by
  refine call_kn L.co L.allSaid rfl ?_
  show WSs X (n + 4) ir_allSaid [some (drawnV bs rg), none, none, none, none, none, none, none, none] σ _
  unfold ir_allSaid
  have hlo : LasOk (lastingF bs) := lastingF_ok hst
  have hbl : bs.length = 6 := by rw [S.bs]; rfl
  walk_at "mine"
  refine lastingOf_ok (n := n + 1) L (fun b hb s hs => ⟨by have := (hst b hb s hs).1.len; show s.shp.args.length < 1000; lia, fun ht e => by have := (hst b hb s hs).1.tell ht; rw [show s.shp.args = s.args from rfl, e] at this; simp at this⟩) hz fun σ1 s1 => ?_
  walk_at "mine"
  refine preds_six (n := n + 2) L S fun as_ σ2 p2 n2 s2 => ?_
  walk_at "mine"
  intro ak hk
  walk_at "mine"
  intro ad hd
  have nkd : ad ≠ ak := fun e => by rw [e, upd_self] at hd; (injection hd)
  rw [upd_ne _ _ nkd] at hd
  walk_at "mine"
  refine och_of rfl (och_of rfl ?_)
  walk_at "mine"
  generalize hla : lastingF bs = la at *
  have live2 : ∀ c, (σ c).isSome = true → σ2 c = σ c := fun c hc => by
    have : c ∉ as_ := fun hm => by have := n2 c hm; rw [s1 c hc] at this; rw [this] at hc; (injection hc)
    rw [s2 c this, s1 c hc]
  have pan : ∀ c ∈ as_, c ≠ ak ∧ c ≠ ad := fun c hc => by
    obtain ⟨j, hj, e⟩ := List.getElem_of_mem hc
    have hj2 : j < psOf.length := by rw [← p2.len]; exact hj
    have := p2.at_ j c psOf[j] (by rw [List.getElem?_eq_getElem hj, e]) (List.getElem?_eq_getElem hj2)
    exact ⟨fun e => (by rw [e, hk] at this; (injection this)), fun e => (by rw [e, hd] at this; (injection this))⟩
  have I0 : SInv (upd (upd σ2 ak (.dI ([].zip []))) ad (.dI ([].zip []))) la as_ ak ad [] [] [] := by
    refine ⟨⟨p2.len, fun j c l hc hl => ?_, p2.nd, p2.small⟩, pan, ?_, ?_, Ne.symm nkd, by simp, by simp, fun p hp => nomatch hp⟩
    · have hm := List.mem_of_getElem? hc
      rw [upd_ne _ _ (pan c hm).2, upd_ne _ _ (pan c hm).1]
      exact p2.at_ j c l hc hl
    · rw [upd_ne _ _ (Ne.symm nkd), upd_self]; rfl
    · rw [upd_self]; rfl
  have liveS : ∀ c, (σ c).isSome = true → upd (upd σ2 ak (.dI ([].zip []))) ad (.dI ([].zip [])) c = σ c ∧ c ≠ ak ∧ c ≠ ad := fun c hc => by
    have c1 : c ≠ ak := fun e => by rw [← live2 c hc, e, hk] at hc; (injection hc)
    have c2 : c ≠ ad := fun e => by rw [← live2 c hc, e, hd] at hc; (injection hc)
    exact ⟨by rw [upd_ne _ _ c2, upd_ne _ _ c1]; exact live2 c hc, c1, c2⟩
  generalize upd (upd σ2 ak (.dI ([].zip []))) ad (.dI ([].zip [])) = σ3 at I0 liveS ⊢
  refine order_six (n := n + 1) L S fun σ4 s4 => ?_
  have I4 : SInv σ4 la as_ ak ad [] [] [] := by
    refine ⟨⟨I0.pa.len, fun j c l hc hl => ?_, I0.pa.nd, I0.pa.small⟩, pan, ?_, ?_, I0.nkd, I0.kz, I0.dz, fun p hp => nomatch hp⟩
    · have := I0.pa.at_ j c l hc hl
      rw [s4 c (by rw [this]; rfl)]; exact this
    · rw [s4 ak (by rw [I0.k]; rfl)]; exact I0.k
    · rw [s4 ad (by rw [I0.d]; rfl)]; exact I0.d
  have live4 : ∀ c, (σ c).isSome = true → σ4 c = σ c ∧ c ≠ ak ∧ c ≠ ad := fun c hc => by
    obtain ⟨e, c1, c2⟩ := liveS c hc
    exact ⟨by rw [s4 c (by rw [e]; exact hc), e], c1, c2⟩
  clear s4 I0 liveS
  refine och_of rfl ?_
  have g0 : bs[0]? = some b0 := by rw [S.bs]; rfl
  have g1 : bs[1]? = some b1 := by rw [S.bs]; rfl
  have g2 : bs[2]? = some b2 := by rw [S.bs]; rfl
  have g3 : bs[3]? = some b3 := by rw [S.bs]; rfl
  have g4 : bs[4]? = some b4 := by rw [S.bs]; rfl
  have g5 : bs[5]? = some b5 := by rw [S.bs]; rfl
  have sz : ∀ b ∈ bs, b.steps.length < 100 := fun b hb => by
    have : b.steps.length ≤ stepsN bs := le_sum (List.mem_map.mpr ⟨b, hb, rfl⟩)
    lia
  have m0 := List.mem_of_getElem? g0
  have m1 := List.mem_of_getElem? g1
  have m2 := List.mem_of_getElem? g2
  have m3 := List.mem_of_getElem? g3
  have m4 := List.mem_of_getElem? g4
  have m5 := List.mem_of_getElem? g5
  obtain ⟨x5, e5⟩ := S.e5
  have a1 : b1.end_.args.length < 100 := by
    have h := S.e1
    generalize b1.end_ = e at h
    (injection h) <;> simp
  have op1 : b1.end_.op = .branch ∨ b1.end_.op = .table := by
    have h := S.e1
    generalize b1.end_ = e at h
    (injection h) <;> simp
  have ex1 : FctOk (runF f0 b1.steps) := FctOk.nil.run fun s hs => (hst _ m1 s hs).1
  have ex4 : FctOk (runF f0 b4.steps) := FctOk.nil.run fun s hs => (hst _ m4 s hs).1
  have len0 : FctLen f0 2 := FctLen.nil.more (by lia)
  have n0 : EN la b1 b4 0 = f0 := rfl
  have n1 : EN la b1 b4 1 = f0 := rfl
  have n2' : EN la b1 b4 2 = entryF la (runF f0 b1.steps) b1.end_ 2 := rfl
  have n3 : EN la b1 b4 3 = entryF la (runF f0 b1.steps) b1.end_ 3 := rfl
  have n4 : EN la b1 b4 4 = f0 := rfl
  have n5 : EN la b1 b4 5 = entryF la (runF f0 b4.steps) b4.end_ 5 := rfl
  have hso : ∀ fb, FctOk fb → ∀ x t, shapeF la fb x = some t → t.args.length < 1000 ∧ (t.op = .eq ∨ t.op = .ne → 2 ≤ t.args.length) := fun fb hf x t e => by
    have := shapeOk hlo hf e
    exact ⟨by have := this.len; lia, this.eqs⟩
  -- the end
  have fin : ∀ (σ' : So) (fd : List (Int × List (List Rw))) (ks : List (Int × FA)) (live : List (FA × Fct)) (o5 o6 o7 o8 : Option V), SInv σ' la as_ ak ad ks fd live → (∀ c, (σ c).isSome = true → σ' c = σ c) →
      (∀ p ∈ fd, ∃ b, 0 ≤ p.1 ∧ bs[p.1.toNat]? = some b ∧ p.2 = rowAt la b1 b4 p.1 b) → (∀ i : Nat, ∀ b, bs[i]? = some b → lk fd i = some (rowAt la b1 b4 i b)) →
      WSs X (n + 4) (.cons (.frz 4) (.cons (.ret (.var 4)) .nil)) [some (drawnV bs rg), some la.v, some (.lst (as_.map .ref)), some (.ref ak), some (.ref ad), o5, o6, o7, o8] σ' (Kn (fun ι σ => Q .none σ) (fun ι ι => False) fun v ι σ => Q v σ) := fun σ' fd ks live o5 o6 o7 o8 I hf h1 h2 => by
    walk_at "mine"
    refine ws_frz rfl (.dI I.d) ?_
    walk_at "mine"
    refine q _ fd h1 h2 (by have := I.dz; lia) fun c hc => ?_
    obtain ⟨e, c1, c2⟩ := live4 c hc
    rw [drp_ne _ c2, hf c hc]
  -- block 0
  have turn0 : ∀ {xs : List Int} {A C : Ro → So → Prop} {R : V → Ro → So → Prop} {o5 o6 o7 o8 : Option V},
      (∀ a0 σ' o6 o7 o8, SInv σ' la as_ ak ad [(0, a0)] [(0, rowAt la b1 b4 0 b0)] [(a0, runF f0 b0.steps)] → (∀ c, (σ c).isSome = true → σ' c = σ c) → forL (turnOf X (n + 4) (.v 5) allTurn) (xs.map .int) [some (drawnV bs rg), some la.v, some (.lst (as_.map .ref)), some (.ref ak), some (.ref ad), some (.int 0), o6, o7, o8] σ' (Kn A C R)) →
      forL (turnOf X (n + 4) (.v 5) allTurn) ((0 :: xs).map .int) [some (drawnV bs rg), some la.v, some (.lst (as_.map .ref)), some (.ref ak), some (.ref ad), o5, o6, o7, o8] σ4 (Kn A C R) := fun {xs A C R o5 o6 o7 o8} h => by
    refine inv_turn (en := f0) L I4 (fun Q' hq => facts_plain (n := n + 1) L I4.pa (by lia) rfl (.inl rfl) hq) (by lia) g0 (by lia) (by simp) (by simp) FctOk.nil len0 (hst _ m0) (sz _ m0) (by rw [S.e0]; simp) fun a σ' o6 o7 o8 I s' => ?_
    exact h a σ' o6 o7 o8 I fun c hc => by obtain ⟨e, c1, c2⟩ := live4 c hc; rw [s' c (by rw [e]; exact hc) c1 c2, e]
  -- block 1
  have turn1 : ∀ {xs : List Int} {A C : Ro → So → Prop} {R : V → Ro → So → Prop} {o5 o6 o7 o8 : Option V},
      (∀ a0 a1 σ' o6 o7 o8, SInv σ' la as_ ak ad [(0, a0), (1, a1)] [(0, rowAt la b1 b4 0 b0), (1, rowAt la b1 b4 1 b1)] [(a1, runF f0 b1.steps), (a0, runF f0 b0.steps)] → (∀ c, (σ c).isSome = true → σ' c = σ c) → forL (turnOf X (n + 4) (.v 5) allTurn) (xs.map .int) [some (drawnV bs rg), some la.v, some (.lst (as_.map .ref)), some (.ref ak), some (.ref ad), some (.int 1), o6, o7, o8] σ' (Kn A C R)) →
      forL (turnOf X (n + 4) (.v 5) allTurn) ((0 :: 1 :: xs).map .int) [some (drawnV bs rg), some la.v, some (.lst (as_.map .ref)), some (.ref ak), some (.ref ad), o5, o6, o7, o8] σ4 (Kn A C R) := fun {xs A C R o5 o6 o7 o8} h => by
    refine turn0 fun a0 σ5 o6 o7 o8 I5 f5 => ?_
    refine inv_turn (en := f0) L I5 (fun Q' hq => facts_plain (n := n + 1) L I5.pa (by lia) rfl (.inr (by decide)) hq) (by lia) g1 (by lia) (by simp) (by simp) FctOk.nil len0 (hst _ m1) (sz _ m1) a1 fun a σ' o6 o7 o8 I s' => ?_
    exact h a0 a σ' o6 o7 o8 I fun c hc => by obtain ⟨e, c1, c2⟩ := live4 c hc; rw [s' c (by rw [f5 c hc]; exact hc) c1 c2, f5 c hc]
  -- blocks 4 and 5
  have turn45 : ∀ {A C : Ro → So → Prop} {R : V → Ro → So → Prop} {o5 o6 o7 o8 : Option V} {ks : List (Int × FA)} {fd : List (Int × List (List Rw))} {live : List (FA × Fct)} {σ5 : So}, SInv σ5 la as_ ak ad ks fd live → (∀ c, (σ c).isSome = true → σ5 c = σ c) → ks.length < 30 → fd.length < 30 →
      (∀ σ' ks' live' o6 o7 o8, SInv σ' la as_ ak ad ks' (pt (pt fd 4 (rowAt la b1 b4 4 b4)) 5 (rowAt la b1 b4 5 b5)) live' → (∀ c, (σ c).isSome = true → σ' c = σ c) → A [some (drawnV bs rg), some la.v, some (.lst (as_.map .ref)), some (.ref ak), some (.ref ad), some (.int 5), o6, o7, o8] σ') →
      forL (turnOf X (n + 4) (.v 5) allTurn) ([(4 : Int), 5].map .int) [some (drawnV bs rg), some la.v, some (.lst (as_.map .ref)), some (.ref ak), some (.ref ad), o5, o6, o7, o8] σ5 (Kn A C R) := fun {A C R o5 o6 o7 o8 ks fd live σ5} I5 f5 z1 z2 h => by
    refine inv_turn (en := f0) L I5 (fun Q' hq => facts_plain (n := n + 1) L I5.pa (by lia) rfl (.inr (by decide)) hq) (by lia) g4 (by lia) (by lia) (by lia) FctOk.nil len0 (hst _ m4) (sz _ m4) (by rw [S.e4]; simp) fun a4 σ6 o6 o7 o8 I6 s6 => ?_
    have f6 : ∀ c, (σ c).isSome = true → σ6 c = σ c := fun c hc => by obtain ⟨e, c1, c2⟩ := live4 c hc; rw [s6 c (by rw [f5 c hc]; exact hc) c1 c2, f5 c hc]
    have y1 := length_pt ks 4 a4
    have y2 := length_pt fd 4 (rowsOf la f0 b4.steps b4.end_)
    refine inv_turn (xs := []) (en := entryF la (runF f0 b4.steps) b4.end_ 5) L I6 (fun Q' hq => facts_one (n := n) (p := 4) (fs := [1, 5]) L I6.pa (by lia) rfl I6.k (by rw [lk_pt, if_pos rfl]) (I6.fs _ (.head _)).1 (by lia) g4 (by lia) (S.end_ 4 b4 _ g4 rfl) (.inl (by rw [S.e4])) (hso _ ex4) hq) (by lia) g5 (by lia) (by lia) (by lia) FctOk.entry FctLen.entry (hst _ m5) (sz _ m5) (by rw [e5]; simp) fun a5 σ7 o6 o7 o8 I7 s7 => ?_
    refine for_nil (h σ7 _ _ o6 o7 o8 I7 fun c hc => by obtain ⟨e, c1, c2⟩ := live4 c hc; rw [s7 c (by rw [f6 c hc]; exact hc) c1 c2, f6 c hc])
  -- blocks 2 and 3
  have turn23 : ∀ (i : Int) (b : Blk), (i = 2 ∧ b = b2) ∨ (i = 3 ∧ b = b3) → ∀ {xs : List Int} {A C : Ro → So → Prop} {R : V → Ro → So → Prop} {o5 o6 o7 o8 : Option V} {ks : List (Int × FA)} {fd : List (Int × List (List Rw))} {live : List (FA × Fct)} {σ5 : So} {a1 : FA}, SInv σ5 la as_ ak ad ks fd live → lk ks 1 = some a1 → (a1, runF f0 b1.steps) ∈ live → (∀ c, (σ c).isSome = true → σ5 c = σ c) → ks.length < 30 → fd.length < 30 →
      (∀ a σ' o6 o7 o8, SInv σ' la as_ ak ad (pt ks i a) (pt fd i (rowAt la b1 b4 i b)) ((a, runF (EN la b1 b4 i) b.steps) :: live) → (∀ c, (σ c).isSome = true → σ' c = σ c) → forL (turnOf X (n + 4) (.v 5) allTurn) (xs.map .int) [some (drawnV bs rg), some la.v, some (.lst (as_.map .ref)), some (.ref ak), some (.ref ad), some (.int i), o6, o7, o8] σ' (Kn A C R)) →
      forL (turnOf X (n + 4) (.v 5) allTurn) ((i :: xs).map .int) [some (drawnV bs rg), some la.v, some (.lst (as_.map .ref)), some (.ref ak), some (.ref ad), o5, o6, o7, o8] σ5 (Kn A C R) := fun i b hib {xs A C R o5 o6 o7 o8 ks fd live σ5 a1'} I5 hl hlv f5 z1 z2 h => by
    have hi : i = 2 ∨ i = 3 := hib.elim (fun h => .inl h.1) fun h => .inr h.1
    have hgb : bs[i.toNat]? = some b := by rcases hib with ⟨rfl, rfl⟩ | ⟨rfl, rfl⟩ <;> assumption
    have hmb := List.mem_of_getElem? hgb
    have hps : psOf[i.toNat]? = some [1] := by rcases hi with rfl | rfl <;> rfl
    have hen : EN la b1 b4 i = entryF la (runF f0 b1.steps) b1.end_ i := by rcases hi with rfl | rfl <;> rfl
    have hargs : b.end_.args.length < 100 := by
      rcases hib with ⟨rfl, rfl⟩ | ⟨rfl, rfl⟩
      · rw [S.e2]; simp
      · rw [S.e3]; simp
    refine inv_turn (en := EN la b1 b4 i) L I5 (fun Q' hq => ?_) (by lia) hgb (by lia) (by lia) (by lia) (by rw [hen]; exact FctOk.entry) (by rw [hen]; exact FctLen.entry) (hst _ hmb) (sz _ hmb) hargs fun a σ' o6 o7 o8 I s' => ?_
    · rw [hen] at hq
      exact facts_one (n := n) (p := 1) (fs := f1) L I5.pa (by lia) hps I5.k hl (I5.fs _ hlv).1 (by lia) g1 (by lia) (S.end_ 1 b1 _ g1 rfl) (op1.elim .inl fun h => .inr ⟨h, hi⟩) (hso _ ex1) hq
    · exact h a σ' o6 o7 o8 I fun c hc => by obtain ⟨e, c1, c2⟩ := live4 c hc; rw [s' c (by rw [f5 c hc]; exact hc) c1 c2, f5 c hc]
  have rows : ∀ fd : List (Int × List (List Rw)), (∀ p ∈ fd, p = (0, rowAt la b1 b4 0 b0) ∨ p = (1, rowAt la b1 b4 1 b1) ∨ p = (2, rowAt la b1 b4 2 b2) ∨ p = (3, rowAt la b1 b4 3 b3) ∨ p = (4, rowAt la b1 b4 4 b4) ∨ p = (5, rowAt la b1 b4 5 b5)) → ∀ p ∈ fd, ∃ b, 0 ≤ p.1 ∧ bs[p.1.toNat]? = some b ∧ p.2 = rowAt la b1 b4 p.1 b := fun fd h p hp => by
    rcases h p hp with rfl | rfl | rfl | rfl | rfl | rfl
    · exact ⟨b0, by simp, g0, rfl⟩
    · exact ⟨b1, by simp, g1, rfl⟩
    · exact ⟨b2, by simp, g2, rfl⟩
    · exact ⟨b3, by simp, g3, rfl⟩
    · exact ⟨b4, by simp, g4, rfl⟩
    · exact ⟨b5, by simp, g5, rfl⟩
  have lks : ∀ fd : List (Int × List (List Rw)), lk fd 0 = some (rowAt la b1 b4 0 b0) → lk fd 1 = some (rowAt la b1 b4 1 b1) → lk fd 2 = some (rowAt la b1 b4 2 b2) → lk fd 3 = some (rowAt la b1 b4 3 b3) → lk fd 4 = some (rowAt la b1 b4 4 b4) → lk fd 5 = some (rowAt la b1 b4 5 b5) → ∀ i : Nat, ∀ b, bs[i]? = some b → lk fd i = some (rowAt la b1 b4 i b) := fun fd h0 h1 h2 h3 h4 h5 i b hb => by
    rw [S.bs] at hb
    match i, hb with
    | 0, hb => (injection hb); exact h0
    | 1, hb => (injection hb); exact h1
    | 2, hb => (injection hb); exact h2
    | 3, hb => (injection hb); exact h3
    | 4, hb => (injection hb); exact h4
    | 5, hb => (injection hb); exact h5
    | i + 6, hb => simp at hb
  rcases S.two with e | e
  · rw [show ordOf f1 = [0, 1, 3, 2, 4, 5] by rw [e]; rfl]
    refine turn1 fun a0 a1 σ5 o6 o7 o8 I5 f5 => ?_
    refine turn23 3 b3 (.inr ⟨rfl, rfl⟩) I5 rfl (.head _) f5 (by simp) (by simp) fun a3 σ6 o6 o7 o8 I6 f6 => ?_
    refine turn23 2 b2 (.inl ⟨rfl, rfl⟩) I6 rfl (.tail _ (.head _)) f6 (by simp [pt]) (by simp [pt]) fun a2 σ7 o6 o7 o8 I7 f7 => ?_
    refine turn45 I7 f7 (by simp [pt]) (by simp [pt]) fun σ8 ks' live' o6 o7 o8 I8 f8 => ?_
    refine fin σ8 _ _ _ _ _ _ _ I8 f8 (rows _ fun p hp => ?_) (lks _ rfl rfl rfl rfl rfl rfl)
    simp [pt] at hp
    rcases hp with h | h | h | h | h | h <;> rw [h] <;> simp
  · rw [show ordOf f1 = [0, 1, 2, 3, 4, 5] by rw [e]; rfl]
    refine turn1 fun a0 a1 σ5 o6 o7 o8 I5 f5 => ?_
    refine turn23 2 b2 (.inl ⟨rfl, rfl⟩) I5 rfl (.head _) f5 (by simp) (by simp) fun a2 σ6 o6 o7 o8 I6 f6 => ?_
    refine turn23 3 b3 (.inr ⟨rfl, rfl⟩) I6 rfl (.tail _ (.head _)) f6 (by simp [pt]) (by simp [pt]) fun a3 σ7 o6 o7 o8 I7 f7 => ?_
    refine turn45 I7 f7 (by simp [pt]) (by simp [pt]) fun σ8 ks' live' o6 o7 o8 I8 f8 => ?_
    refine fin σ8 _ _ _ _ _ _ _ I8 f8 (rows _ fun p hp => ?_) (lks _ rfl rfl rfl rfl rfl rfl)
    simp [pt] at hp
    rcases hp with h | h | h | h | h | h <;> rw [h] <;> simp
end
section
variable {X : Cx} {n : Nat}
noncomputable def SZ : Int := 4294967296
noncomputable def signedF (v : Int) : Int := if v ≥ 2147483648 then v - 4294967296 else v
theorem signed_ok {σ : So} {v : Int} {Q : V → So → Prop} (L : Lib X) (q : Q (.int (signedF v)) σ) : Call X (n + 1) .signed [.int v] σ Q := by
  refine call_kn L.co L.signed rfl ?_
  show WSs X n ir_signed [some _] σ _
  unfold ir_signed
  walk_at "mine"
  unfold signedF at q
  refine ⟨fun h => ?_, fun h => ?_⟩
  · rw [if_pos (of_decide_eq_true h)] at q
    walk_at "mine"
    exact q
  · rw [if_neg (of_decide_eq_false h)] at q
    walk_at "mine"
    exact q
noncomputable def p32 (b : Int) : Int := 2 ^ (b % 32).toNat
theorem p32_pos (b : Int) : 0 < p32 b := Int.pow_pos (by decide)
theorem p32_lt (b : Int) : p32 b < 4294967296 := by
  unfold p32
  have h : (b % 32).toNat < 32 := by lia
  have : (2 : Nat) ^ (b % 32).toNat < 2 ^ 32 := Nat.pow_lt_pow_right (by decide) h
  have h2 : ((2 : Int) ^ (b % 32).toNat) = ((2 ^ (b % 32).toNat : Nat) : Int) := by rw [Int.natCast_pow]; rfl
  rw [h2]
  have h3 : (2 : Nat) ^ 32 = 4294967296 := by decide
  lia
theorem o_pow2 {K : V → Prop} {b : Int} (h : K (.int (p32 b))) : och (binV .pow (.int 2) (.int (b % 32))) K := by
  refine och_of (a := .int (p32 b)) ?_ h
  show (if 0 ≤ (2 : Int) ∧ (2 : Int) ≤ 256 ∧ 0 ≤ b % 32 ∧ b % 32 < 64 then some ((2 : Int) ^ (b % 32).toNat) else none).map V.int = _
  rw [if_pos ⟨by decide, by decide, by lia, by lia⟩]; rfl
noncomputable def wordF (m : Nm) (a b : Int) : Int :=
  if m = .add then a + b else if m = .sub then a - b else if m = .mul then a * b else if m = .and then Builtin.bitAnd a b else if m = .or then Builtin.bitOr a b else if m = .xor then Builtin.bitXor a b
  else if m = .shl then a * p32 b else if m = .shr then a / p32 b else if m = .sar then signedF a / p32 b else if m = .lt then (if signedF a < signedF b then 1 else 0) else if m = .ltu then (if a < b then 1 else 0)
  else if m = .eq then (if a = b then 1 else 0) else (if a = b then 0 else 1)
theorem nat32 {a : Int} (h0 : 0 ≤ a) (h1 : a < 4294967296) : a.natAbs < big := by unfold big; lia
theorem word_ok {σ : So} {m : Nm} {a b : Int} {Q : V → So → Prop} (L : Lib X) (a0 : 0 ≤ a) (a1 : a < 4294967296) (b0 : 0 ≤ b) (b1 : b < 4294967296) (q : Q (.int (wordF m a b)) σ) : Call X (n + 2) .word [.str m, .int a, .int b] σ Q := by
  refine call_kn L.co L.word rfl ?_
  show WSs X (n + 1) ir_word [some _, some _, some _] σ _
  unfold ir_word
  unfold wordF at q
  have pp := p32_pos b
  have pl := p32_lt b
  walk_at "mine"
  refine ⟨fun h => ?_, fun h => ?_⟩
  · rw [if_pos (of_decide_eq_true h)] at q
    walk_at "mine"
    exact q
  rw [if_neg (of_decide_eq_false h)] at q
  clear h
  walk_at "mine"
  refine ⟨fun h => ?_, fun h => ?_⟩
  · rw [if_pos (of_decide_eq_true h)] at q
    walk_at "mine"
    exact q
  rw [if_neg (of_decide_eq_false h)] at q
  clear h
  walk_at "mine"
  refine ⟨fun h => ?_, fun h => ?_⟩
  · rw [if_pos (of_decide_eq_true h)] at q
    walk_at "mine"
    refine o_mul (nat32 a0 a1) (nat32 b0 b1) ?_
    exact q
  rw [if_neg (of_decide_eq_false h)] at q
  clear h
  walk_at "mine"
  refine ⟨fun h => ?_, fun h => ?_⟩
  · rw [if_pos (of_decide_eq_true h)] at q
    walk_at "mine"
    exact och_of rfl q
  rw [if_neg (of_decide_eq_false h)] at q
  clear h
  walk_at "mine"
  refine ⟨fun h => ?_, fun h => ?_⟩
  · rw [if_pos (of_decide_eq_true h)] at q
    walk_at "mine"
    exact och_of rfl q
  rw [if_neg (of_decide_eq_false h)] at q
  clear h
  walk_at "mine"
  refine ⟨fun h => ?_, fun h => ?_⟩
  · rw [if_pos (of_decide_eq_true h)] at q
    walk_at "mine"
    exact och_of rfl q
  rw [if_neg (of_decide_eq_false h)] at q
  clear h
  walk_at "mine"
  refine ⟨fun h => ?_, fun h => ?_⟩
  · rw [if_pos (of_decide_eq_true h)] at q
    walk_at "mine"
    refine o_pow2 ?_
    refine o_mul (nat32 a0 a1) (nat32 (by lia) pl) ?_
    exact q
  rw [if_neg (of_decide_eq_false h)] at q
  clear h
  walk_at "mine"
  refine ⟨fun h => ?_, fun h => ?_⟩
  · rw [if_pos (of_decide_eq_true h)] at q
    walk_at "mine"
    refine o_pow2 ?_
    refine o_fdiv pp (by lia) ?_
    exact q
  rw [if_neg (of_decide_eq_false h)] at q
  clear h
  walk_at "mine"
  refine ⟨fun h => ?_, fun h => ?_⟩
  · rw [if_pos (of_decide_eq_true h)] at q
    walk_at "mine"
    refine signed_ok L ?_
    walk_at "mine"
    refine o_pow2 ?_
    refine o_fdiv pp (by lia) ?_
    exact q
  rw [if_neg (of_decide_eq_false h)] at q
  clear h
  walk_at "mine"
  refine ⟨fun h => ?_, fun h => ?_⟩
  · rw [if_pos (of_decide_eq_true h)] at q
    walk_at "mine"
    refine signed_ok L ?_
    walk_at "mine"
    refine signed_ok L ?_
    walk_at "mine"
    refine call_int L.bi ?_
    simpa using q
  rw [if_neg (of_decide_eq_false h)] at q
  clear h
  walk_at "mine"
  refine ⟨fun h => ?_, fun h => ?_⟩
  · rw [if_pos (of_decide_eq_true h)] at q
    walk_at "mine"
    refine call_int L.bi ?_
    simpa using q
  rw [if_neg (of_decide_eq_false h)] at q
  clear h
  walk_at "mine"
  refine ⟨fun h => ?_, fun h => ?_⟩
  · rw [if_pos (of_decide_eq_true h)] at q
    walk_at "mine"
    refine call_int L.bi ?_
    simpa using q
  rw [if_neg (of_decide_eq_false h)] at q
  clear h
  walk_at "mine"
  refine call_int L.bi ?_
  by_cases e : a = b
  · simpa [e] using q
  · simpa [e] using q
noncomputable def turnedF (m : Nm) (a : Int) : Int :=
  if m = .neg then -a else if m = .not then -1 - a else if m = .sx8 then (a + 128) % 256 - 128 else if m = .sx16 then (a + 32768) % 65536 - 32768 else if m = .zx8 then a % 256 else if m = .zx16 then a % 65536 else a
theorem turned_ok {σ : So} {m : Nm} {a : Int} {Q : V → So → Prop} (L : Lib X) (q : Q (.int (turnedF m a)) σ) : Call X (n + 1) .turned [.str m, .int a] σ Q := by
  refine call_kn L.co L.turned rfl ?_
  show WSs X n ir_turned [some _, some _] σ _
  unfold ir_turned
  unfold turnedF at q
  walk_at "mine"
  refine ⟨fun h => ?_, fun h => ?_⟩
  · rw [if_pos (of_decide_eq_true h)] at q
    walk_at "mine"
    exact q
  rw [if_neg (of_decide_eq_false h)] at q
  clear h
  walk_at "mine"
  refine ⟨fun h => ?_, fun h => ?_⟩
  · rw [if_pos (of_decide_eq_true h)] at q
    walk_at "mine"
    exact q
  rw [if_neg (of_decide_eq_false h)] at q
  clear h
  walk_at "mine"
  refine ⟨fun h => ?_, fun h => ?_⟩
  · rw [if_pos (of_decide_eq_true h)] at q
    walk_at "mine"
    exact q
  rw [if_neg (of_decide_eq_false h)] at q
  clear h
  walk_at "mine"
  refine ⟨fun h => ?_, fun h => ?_⟩
  · rw [if_pos (of_decide_eq_true h)] at q
    walk_at "mine"
    exact q
  rw [if_neg (of_decide_eq_false h)] at q
  clear h
  walk_at "mine"
  refine ⟨fun h => ?_, fun h => ?_⟩
  · rw [if_pos (of_decide_eq_true h)] at q
    walk_at "mine"
    exact q
  rw [if_neg (of_decide_eq_false h)] at q
  clear h
  walk_at "mine"
  refine ⟨fun h => ?_, fun h => ?_⟩
  · rw [if_pos (of_decide_eq_true h)] at q
    walk_at "mine"
    exact q
  rw [if_neg (of_decide_eq_false h)] at q
  clear h
  walk_at "mine"
  exact q
noncomputable def In32 (a : Int) : Prop := 0 ≤ a ∧ a < 4294967296
noncomputable def nameI : V → Int | .int v => 8192 + v | _ => 0
noncomputable def nameL : List V → Int | [] => 0 | _ :: r => match r with | [] => 0 | w :: _ => nameI w
noncomputable def nameV : V → Int | .tup vs => nameL vs | _ => 0
noncomputable def nameF (more : V) : Int := nameV more % 4294967296
noncomputable def sideF (m : Nm) : List Int → Int | [] => 0 | a :: r => match r with | [] => turnedF m a | b :: _ => wordF m a b
noncomputable def workedF (m : Nm) (sides : List Int) (more : V) : Int := if m = .name then nameF more else sideF m sides % 4294967296
structure WorkOk (m : Nm) (sides : List Int) (more : V) : Prop where
  name : m = .name → ∃ g v, more = .tup [g, .int v]
  two : m ≠ .name → sides.length = 1 ∨ sides.length = 2
  in32 : ∀ a ∈ sides, In32 a
theorem len_two {α : Type} {l : List α} (h : l.length = 2) : ∃ a b, l = [a, b] := by
  cases l with
  | nil => exact nomatch h
  | cons a r => obtain ⟨b, rfl⟩ := List.length_eq_one_iff.mp (Nat.succ.inj h); exact ⟨a, b, rfl⟩
theorem workedF_in (m : Nm) (sides : List Int) (more : V) : In32 (workedF m sides more) := by
  unfold workedF
  split
  · exact ⟨Int.emod_nonneg _ (by decide), Int.emod_lt_of_pos _ (by decide)⟩
  · exact ⟨Int.emod_nonneg _ (by decide), Int.emod_lt_of_pos _ (by decide)⟩
theorem worked_ok {σ : So} {m : Nm} {sides : List Int} {more : V} {Q : V → So → Prop} (L : Lib X) (w : WorkOk m sides more) (q : Q (.int (workedF m sides more)) σ) : Call X (n + 3) .worked [.str m, .lst (sides.map .int), more] σ Q := by
  refine call_kn L.co L.worked rfl ?_
  show WSs X (n + 2) ir_worked [some _, some _, some _, none] σ _
  unfold ir_worked
  unfold workedF at q
  walk_at "mine"
  refine ⟨fun h => ?_, fun h => ?_⟩
  · rw [if_pos (of_decide_eq_true h)] at q
    obtain ⟨g, v, rfl⟩ := w.name (of_decide_eq_true h)
    walk_at "mine"
    refine o_add (i := 8192) ?_
    walk_at "mine"
    refine o_mod (j := 4294967296) (by decide) (by decide) ?_
    exact q
  · rw [if_neg (of_decide_eq_false h)] at q
    have hs := w.two (of_decide_eq_false h)
    walk_at "mine"
    refine call_len L.bi (k := sides.length) lenV_ints (lt_lid (by lia)) ?_
    walk_at "mine"
    have w := w.in32
    rcases hs with hs | hs
    · obtain ⟨a, rfl⟩ := List.length_eq_one_iff.mp hs
      refine ⟨fun h => absurd h (by simp), fun ι => ?_⟩
      walk_at "mine"
      refine turned_ok L ?_
      walk_at "mine"
      refine o_mod (j := 4294967296) (by decide) (by decide) ?_
      exact q
    · obtain ⟨a, b, rfl⟩ := len_two hs
      refine ⟨fun ι => ?_, fun h => absurd h (by simp)⟩
      walk_at "mine"
      have ha := w a (by simp)
      have hb := w b (by simp)
      refine och_of (a := .int a) rfl ?_
      walk_at "mine"
      refine och_of (a := .int b) rfl ?_
      refine word_ok L ha.1 ha.2 hb.1 hb.2 ?_
      walk_at "mine"
      refine o_mod (j := 4294967296) (by decide) (by decide) ?_
      exact q
noncomputable def loadedF (v wide : Int) (sg : Bool) : Int :=
  let w := (256 : Int) ^ wide.toNat
  let low := v % w
  (if sg = true ∧ low ≥ w / 2 then low - w else low) % 4294967296
theorem loadedF_in (v wide : Int) (sg : Bool) : In32 (loadedF v wide sg) := ⟨Int.emod_nonneg _ (by decide), Int.emod_lt_of_pos _ (by decide)⟩
theorem loaded_ok {σ : So} {v wide : Int} {sg : Bool} {Q : V → So → Prop} (L : Lib X) (hw : wide ∈ [(1 : Int), 2, 4]) (q : Q (.int (loadedF v wide sg)) σ) : Call X (n + 1) .loaded [.int v, .tup [.int wide, .bool sg]] σ Q := by
  refine call_kn L.co L.loaded rfl ?_
  show WSs X n ir_loaded [some _, some _, none, none] σ _
  have hp : ∃ w : Int, (256 : Int) ^ wide.toNat = w ∧ binV .pow (.int 256) (.int wide) = some (.int w) ∧ 0 < w ∧ w < 18446744073709551616 := by
    simp only [List.mem_cons, List.not_mem_nil, or_false] at hw
    rcases hw with rfl | rfl | rfl
    · exact ⟨256, rfl, rfl, by decide, by decide⟩
    · exact ⟨65536, rfl, rfl, by decide, by decide⟩
    · exact ⟨4294967296, rfl, rfl, by decide, by decide⟩
  obtain ⟨w, e1, e2, w0, w1⟩ := hp
  unfold loadedF at q
  rw [e1] at q
  dsimp only at q
  unfold ir_loaded
  walk_at "mine"
  refine och_of e2 ?_
  walk_at "mine"
  refine o_mod w0 w1 ?_
  walk_at "mine"
  cases sg with
  | false =>
    walk_at "mine"
    refine o_mod (j := 4294967296) (by decide) (by decide) ?_
    simpa using q
  | true =>
    walk_at "mine"
    refine ⟨fun h => ?_, fun h => ?_⟩
    · walk_at "mine"
      rw [if_pos ⟨rfl, of_decide_eq_true h⟩] at q
      refine o_mod (j := 4294967296) (by decide) (by decide) ?_
      exact q
    · walk_at "mine"
      rw [if_neg (fun hh => h (decide_eq_true hh.2))] at q
      refine ⟨fun h2 => absurd h2 h, fun ι => ?_⟩
      walk_at "mine"
      refine o_mod (j := 4294967296) (by decide) (by decide) ?_
      exact q
theorem read_ok {σ : So} {am : Addr} {ms : List (Int × Int)} {at_ : Int} {Q : V → So → Prop} (L : Lib X) (hm : σ am = some (.dI (mapD V.int ms))) (q : ∀ v, Q (.int v) σ) : Call X (n + 1) .read [.ref am, .int at_] σ Q := by
  refine call_kn L.co L.read rfl ?_
  show WSs X n ir_read [some _, some _, none, none] σ _
  unfold ir_read
  walk_at "mine"
  refine och_of (a := [.int 0, .int 1, .int 2, .int 3]) (by rfl) ?_
  have hd : dictV σ (.ref am) = some (mapD V.int ms) := dictV_at hm
  have turn : ∀ (p : Int) (pw : Int) (v : Int) (R' C : Ro → So → Prop) (R : V → Ro → So → Prop), 0 ≤ p → p < 4 → binV .pow (.int 256) (.int p) = some (.int pw) → pw.natAbs < big →
      (∀ v', R' [some (.ref am), some (.int at_), some (.int v'), some (.int p)] σ) →
      WSs X n (.cons (.asg 2 (.bin .add (.var 2) (.bin .mul (.bin .mod (.dget (.var 0) (.bin .add (.var 1) (.var 3)) (.bin .add (.bin .mul (.int 17) (.var 3)) (.int 200))) (.int 256)) (.bin .pow (.int 256) (.var 3))))) .nil) [some (.ref am), some (.int at_), some (.int v), some (.int p)] σ (Kn R' C R) := fun p pw v R' C R p0 p1 hpw hpb h => by
    walk_at "mine"
    refine ⟨by rw [hd]; rfl, ?_⟩
    walk_at "mine"
    refine o_mul (by decide) (by unfold big; lia) ?_
    walk_at "mine"
    refine och_of hd ?_
    walk_at "mine"
    rw [look_map]
    obtain ⟨u, hu⟩ : ∃ u : Int, (Option.map V.int (lk ms (at_ + p))).getD (.int (17 * p + 200)) = .int u := by cases lk ms (at_ + p) <;> exact ⟨_, rfl⟩
    rw [hu]
    walk_at "mine"
    refine och_of hpw ?_
    refine o_mul (by unfold big; lia) hpb ?_
    walk_at "mine"
    exact h _
  refine for_cons (och_of rfl ?_)
  refine turn 0 1 0 _ _ _ (by decide) (by decide) rfl (by decide) fun v1 => ?_
  refine for_cons (och_of rfl ?_)
  refine turn 1 256 v1 _ _ _ (by decide) (by decide) rfl (by decide) fun v2 => ?_
  refine for_cons (och_of rfl ?_)
  refine turn 2 65536 v2 _ _ _ (by decide) (by decide) rfl (by decide) fun v3 => ?_
  refine for_cons (och_of rfl ?_)
  refine turn 3 16777216 v3 _ _ _ (by decide) (by decide) rfl (by decide) fun v4 => ?_
  refine for_nil ?_
  walk_at "mine"
  exact q v4
end
section
variable {X : Cx} {n : Nat}
noncomputable abbrev Hs := List (Int × Int)
noncomputable def valO (hs : Hs) : Opd → Option Int
  | .k v => some v
  | .r x => lk hs x
noncomputable def vals (hs : Hs) : List Opd → Option (List Int)
  | [] => some []
  | o :: r => match valO hs o, vals hs r with
    | some v, some vs => some (v :: vs)
    | _, _ => none
set_option tactic.hygienic true in
theorem vals_len {hs : Hs} : ∀ {args : List Opd} {sides : List Int}, vals hs args = some sides → sides.length = args.length
  | [], _, h => by (injection h); rfl
  | o :: r, sides, h => by
    rw [vals] at h
    split at h
    · rename_i v vs h1 h2
      (injection h); simp [vals_len h2]
    · (injection h)
set_option tactic.hygienic true in
theorem vals_map {hs : Hs} : ∀ {args : List Opd} {sides : List Int}, vals hs args = some sides → (∀ o ∈ args, (valO hs o).isSome = true) ∧ args.map (fun o => V.int ((valO hs o).getD 0)) = sides.map .int
  | [], _, h => by (injection h); exact ⟨fun ι h => (nomatch h), rfl⟩
  | o :: r, sides, h => by
    rw [vals] at h
    split at h
    · rename_i v vs h1 h2
      (injection h)
      obtain ⟨g1, g2⟩ := vals_map h2
      refine ⟨fun p hp => ?_, ?_⟩
      · rcases List.mem_cons.mp hp with rfl | hp
        · rw [h1]; rfl
        · exact g1 p hp
      · simp only [List.map_cons, h1, g2, Option.getD_some]
    · (injection h)
noncomputable def ShapeSo (hs : Hs) (v : Int) : Option Shp → Prop
  | none => True
  | some s => if s.op = .load then ∃ wide sg, s.more = .tup [.int wide, .bool sg] ∧ wide ∈ [(1 : Int), 2, 4] ∧ v = loadedF v wide sg
    else s.args.length < 100 ∧ ∃ sides, vals hs s.args = some sides ∧ WorkOk s.op sides s.more ∧ workedF s.op sides s.more = v
structure IsSo (hs : Hs) (r : Rw) : Prop where
  so : ∃ v, lk hs r.which = some v ∧ (match r.best with | .k u => u % 4294967296 = v | .r x => lk hs x = some v) ∧ ShapeSo hs v r.shape
theorem sides_comp {hs : Hs} {ah : Addr} {σ : So} {args : List Opd} {sides : List Int} {Q : List V → So → Prop} (hh : σ ah = some (.dI (mapD V.int hs))) (hv : vals hs args = some sides) (q : Q (sides.map .int) σ) :
    compL (turnC X n [none, none, some (.ref ah)] (.t [0, 1]) (.ite (.cmp .eq (.var 0) (.str .r)) (.sub (.var 2) (.var 1)) (.var 1)) none) (args.map Opd.v) [] σ Q := by
  obtain ⟨h1, h2⟩ := vals_map hv
  refine comp_map (g := fun o => V.int ((valO hs o).getD 0)) (fun o ho k hk => ?_) (by rw [List.nil_append, h2]; exact q)
  cases o with
  | k v =>
    refine och_of (a := [some (.str .k), some (.int v), some (.ref ah)]) rfl ?_
    dsimp only
    walk_at "mine"
    exact hk
  | r x =>
    obtain ⟨v, hv⟩ := Option.isSome_iff_exists.mp (h1 _ ho)
    refine och_of (a := [some (.str .r), some (.int x), some (.ref ah)]) rfl ?_
    dsimp only
    walk_at "mine"
    refine och_of (sub_ref hh hv) ?_
    rw [hv] at hk
    exact hk
theorem isSo_ok {hs : Hs} {ah : Addr} {σ : So} {r : Rw} {Q : V → So → Prop} (L : Lib X) (hh : σ ah = some (.dI (mapD V.int hs))) (so : IsSo hs r) (q : Q (.bool true) σ) : Call X (n + 4) .isSo [.ref ah, r.v] σ Q := by
  refine call_kn L.co L.isSo rfl ?_
  show WSs X (n + 3) ir_isSo [some _, some _, none, none, none, none, none, none, none] σ _
  obtain ⟨which, best, shape⟩ := r
  obtain ⟨v, h1, h2, h3⟩ := so.so
  dsimp only at h1 h2 h3
  unfold ir_isSo
  walk_at "mine"
  refine och_of (a := [.int which, best.v, shpV shape]) rfl (och_of rfl ?_)
  have tail : WSs X (n + 3) (.cons (.ite (.cmp .is_ (.var 4) .none) (.cons (.ret (.bool true)) .nil) .nil) (.cons (.asgT [5, 6, 7] (.var 4)) (.cons (.ite (.cmp .eq (.var 5) (.str .load)) (.cons (.ret (.cmp .eq (.sub (.var 0) (.var 2)) (.call .loaded (.cons (.sub (.var 0) (.var 2)) (.cons (.var 7) .nil))))) .nil) .nil) (.cons (.ite (.neNil (.comp false (.var 1) (.t [0, 1]) (.var 6) (some (.bop true (.cons (.cmp .eq (.var 0) (.str .r)) (.cons (.cmp .notIn (.var 1) (.var 2)) .nil)))) [("kind" : Str), ("value" : Str), ("held" : Str)] [none, none, some 0])) (.cons (.ret (.bool false)) .nil) .nil) (.cons (.asg 8 (.comp false (.ite (.cmp .eq (.var 0) (.str .r)) (.sub (.var 2) (.var 1)) (.var 1)) (.t [0, 1]) (.var 6) none [("kind" : Str), ("value" : Str), ("held" : Str)] [none, none, some 0])) (.cons (.ret (.cmp .eq (.call .worked (.cons (.var 5) (.cons (.var 8) (.cons (.var 7) .nil)))) (.sub (.var 0) (.var 2)))) .nil))))))
      [some (.ref ah), some (Rw.v ⟨which, best, shape⟩), some (.int which), some best.v, some (shpV shape), none, none, none, none] σ (Kn (fun ι σ => Q .none σ) (fun ι ι => False) fun v ι σ => Q v σ) := by
    cases shape with
    | none =>
      walk_at "mine"
      show (true = true → _) ∧ (true = false → _)
      walk_at "mine"
      exact q
    | some s =>
      walk_at "mine"
      show (false = true → _) ∧ (false = false → _)
      walk_at "mine"
      refine och_of (a := [.str s.op, .lst (s.args.map Opd.v), s.more]) rfl (och_of rfl ?_)
      walk_at "mine"
      have h3 : if s.op = .load then ∃ wide sg, s.more = .tup [.int wide, .bool sg] ∧ wide ∈ [(1 : Int), 2, 4] ∧ v = loadedF v wide sg
        else s.args.length < 100 ∧ ∃ sides, vals hs s.args = some sides ∧ WorkOk s.op sides s.more ∧ workedF s.op sides s.more = v := h3
      refine ⟨fun hl => ?_, fun hl => ?_⟩
      · rw [if_pos (of_decide_eq_true hl)] at h3
        obtain ⟨wide, sg, e1, e2, e3⟩ := h3
        walk_at "mine"
        refine och_of (sub_ref hh h1) ?_
        walk_at "mine"
        refine och_of (sub_ref hh h1) ?_
        walk_at "mine"
        rw [e1]
        refine loaded_ok L e2 ?_
        rw [← e3]
        walk_at "mine"
        rw [decide_eq_true rfl]
        exact q
      · rw [if_neg (of_decide_eq_false hl)] at h3
        obtain ⟨lt, sides, e1, e2, e3⟩ := h3
        obtain ⟨g1, g2⟩ := vals_map e1
        have hz : (s.args.map Opd.v).length < 1000000 := by simp; lia
        walk_at "mine"
        refine och_of rfl ⟨lt_lid hz, ?_⟩
        refine comp_filter (g := fun ι => none) (fun o ho k hk => ?_) ?_
        · cases o with
          | k v =>
            refine och_of (a := [some (.str .k), some (.int v), some (.ref ah)]) rfl ?_
            dsimp only
            walk_at "mine"
            exact hk
          | r x =>
            obtain ⟨v, hv⟩ := Option.isSome_iff_exists.mp (g1 _ ho)
            refine och_of (a := [some (.str .r), some (.int x), some (.ref ah)]) rfl ?_
            dsimp only
            walk_at "mine"
            refine och_of (notin_ref hh) ?_
            have hv : lk hs x = some v := hv
            rw [hv]
            show (false = true → _) ∧ (false ≠ true → _)
            walk_at "mine"
            show (false = true → _) ∧ (false = false → _)
            walk_at "mine"
            exact hk
        have fm : ∀ l : List Opd, l.filterMap (fun ι => (none : Option V)) = [] := fun l => by simp
        rw [fm]
        refine o_newF (by simp) ?_
        refine och_of rfl ⟨rfl, ?_⟩
        show (false = true → _) ∧ (false = false → _)
        walk_at "mine"
        refine och_of rfl ⟨lt_lid hz, ?_⟩
        refine sides_comp hh e1 ?_
        refine o_newF (by rw [List.length_map, vals_len e1]; lia) ?_
        walk_at "mine"
        refine worked_ok L e2 ?_
        walk_at "mine"
        refine och_of (sub_ref hh h1) ?_
        walk_at "mine"
        rw [e3, decide_eq_true rfl]
        exact q
  cases best with
  | k u =>
    walk_at "mine"
    refine och_of (notin_ref hh) ?_
    rw [h1]
    show (false = false → _) ∧ (false ≠ false → _)
    walk_at "mine"
    refine o_mod (j := 4294967296) (by decide) (by decide) ?_
    refine och_of (sub_ref hh h1) ?_
    have h2 : u % 4294967296 = v := h2
    walk_at "mine"
    rw [h2, decide_eq_true rfl]
    show (false = true → _) ∧ (false = false → _)
    refine it_f ?_
    exact tail
  | r x =>
    have h2 : lk hs x = some v := h2
    walk_at "mine"
    refine och_of (notin_ref hh) ?_
    rw [h2]
    show (false = true → _) ∧ (false ≠ true → _)
    walk_at "mine"
    show (false = false → _) ∧ (false ≠ false → _)
    walk_at "mine"
    refine och_of (notin_ref hh) ?_
    rw [h1]
    show (false = false → _) ∧ (false ≠ false → _)
    walk_at "mine"
    refine och_of (sub_ref hh h2) ?_
    refine och_of (sub_ref hh h1) ?_
    walk_at "mine"
    rw [decide_eq_true rfl]
    show (false = true → _) ∧ (false = false → _)
    refine it_f ?_
    exact tail
end
section
variable {X : Cx} {n : Nat}
noncomputable def stepsOk : List Sp → List (List Rw) → Hs → (Hs → Prop) → Prop
  | [], _, hs, K => K hs
  | s :: ss, r :: rs, hs, K => (∀ w ∈ r, IsSo hs w) ∧ s.args.length < 100 ∧ r.length < 100 ∧ ∃ sides, vals hs s.args = some sides ∧
      (if s.op = .store then (∃ a b, sides = [a, b]) ∧ stepsOk ss rs hs K
       else if s.op = .load then ∃ a wide sg, sides = [a] ∧ s.more = .tup [.int wide, .bool sg] ∧ wide ∈ [(1 : Int), 2, 4] ∧ ∀ v, stepsOk ss rs (pt hs s.dst (loadedF v wide sg)) K
       else WorkOk s.op sides s.more ∧ stepsOk ss rs (pt hs s.dst (workedF s.op sides s.more)) K)
  | _ :: _, [], _, _ => False
inductive EndRun (next : Nat → Hs → Prop) (hs : Hs) : Sp → Prop
  | give {x : Int} : EndRun next hs ⟨.give, -1, [.r x], .int 0⟩
  | jump {t : Nat} : next t hs → EndRun next hs ⟨.jump, -1, [], .int (t : Int)⟩
  | branch {c v : Int} {t o : Nat} : lk hs c = some v → (v ≠ 0 → next t hs) → (v = 0 → next o hs) → EndRun next hs ⟨.branch, -1, [.r c], .tup [.int (t : Int), .int (o : Int)]⟩
  | table {c v low : Int} : lk hs c = some v → (v = low → next 2 hs) → (v ≠ low → next 3 hs) → EndRun next hs ⟨.table, -1, [.r c], .tup [.int low, .lst [.int 2], .int 3]⟩
inductive LapQ (bs : List Blk) (rows : Nat → List (List Rw)) (at_ : Nat) (hs : Hs) (next : Nat → Hs → Prop) : Prop
  | mk (b : Blk) (rs : List (List Rw)) (er : List Rw) (e : bs[at_]? = some b) (er_ : rows at_ = rs ++ [er]) (l1 : rs.length = b.steps.length) (l2 : b.steps.length < 100) (l3 : er.length < 100)
    (q : stepsOk b.steps rs hs fun hs' => (∀ w ∈ er, IsSo hs' w) ∧ EndRun next hs' b.end_)
noncomputable def lapsOk (bs : List Blk) (rows : Nat → List (List Rw)) : Nat → Nat → Hs → Prop
  | 0, _, _ => False
  | k + 1, at_, hs => LapQ bs rows at_ hs (lapsOk bs rows k)
theorem checks {hs : Hs} {ah : Addr} {σ : So} {r : List Rw} {Q : List V → So → Prop} (L : Lib X) (hh : σ ah = some (.dI (mapD V.int hs))) (hr : ∀ w ∈ r, IsSo hs w) (q : Q ((r.map fun ι => true).map .bool) σ) :
    compL (turnC X (n + 4) [none, some (.ref ah)] (.v 0) (.call .isSo (.cons (.var 1) (.cons (.var 0) .nil))) none) (r.map Rw.v) [] σ Q := by
  refine comp_map (g := fun ι => V.bool true) (fun w hw k hk => ?_) (by rw [List.nil_append]; rw [List.map_map] at q; exact q)
  refine och_of (a := [some w.v, some (.ref ah)]) rfl ?_
  dsimp only
  walk_at "mine"
  refine isSo_ok L hh (hr w hw) ?_
  exact hk
theorem all_true (r : List Rw) : (r.map fun ι => true).all id = true := by
  induction r with
  | nil => rfl
  | cons _ _ ih => simpa using ih
noncomputable def stepBody : Ss := (.cons (.ite (.not (.call .all (.cons (.comp false (.call .isSo (.cons (.var 1) (.cons (.var 0) .nil))) (.v 0) (.sub (.sub (.var 1) (.var 5)) (.var 8)) none [("row" : Str), ("held" : Str)] [none, some 3]) .nil))) (.cons (.ret (.bool false)) .nil) .nil) (.cons (.asg 10 (.comp false (.ite (.cmp .eq (.var 0) (.str .r)) (.sub (.var 2) (.var 1)) (.var 1)) (.t [0, 1]) (.attr (.var 9) .args) none [("kind" : Str), ("value" : Str), ("held" : Str)] [none, none, some 3])) (.cons (.ite (.cmp .eq (.attr (.var 9) .op) (.str .store)) (.cons (.asgS (.var 4) (.sub (.var 10) (.int 0)) (.bin .mod (.sub (.var 10) (.int 1)) (.int 256))) (.cons (.asgS (.var 4) (.bin .add (.sub (.var 10) (.int 0)) (.int 1)) (.bin .mod (.bin .fdiv (.sub (.var 10) (.int 1)) (.int 256)) (.int 256))) .nil)) (.cons (.ite (.cmp .eq (.attr (.var 9) .op) (.str .load)) (.cons (.asgS (.var 3) (.attr (.var 9) .dst) (.call .loaded (.cons (.call .read (.cons (.var 4) (.cons (.sub (.var 10) (.int 0)) .nil))) (.cons (.attr (.var 9) .more) .nil)))) .nil) (.cons (.asgS (.var 3) (.attr (.var 9) .dst) (.call .worked (.cons (.attr (.var 9) .op) (.cons (.var 10) (.cons (.attr (.var 9) .more) .nil))))) .nil)) .nil)) .nil)))
theorem step_turns {fd : List (Int × List (List Rw))} {at_ : Nat} {rows : List (List Rw)} {ah am : Addr} {v0 v2 v7 : V} {o6 : Option V} {K : Hs → Prop} (L : Lib X) (ne : ah ≠ am) (hf : lk fd at_ = some rows) (hz : rows.length < 1000) :
    ∀ (xs : List Sp) {rs : List (List Rw)} {i N : Nat} {hs ms : Hs} {σ : So} {o8 o9 o10 o11 : Option V} {A C : Ro → So → Prop} {R : V → Ro → So → Prop}, σ ah = some (.dI (mapD V.int hs)) → σ am = some (.dI (mapD V.int ms)) → hs.length + 2 * xs.length < N → ms.length + 2 * xs.length < N → N < 900000 →
      (∀ j r, rs[j]? = some r → rows[i + j]? = some r) → stepsOk xs rs hs K →
      (∀ σ' hs' ms' o8 o9 o10, σ' ah = some (.dI (mapD V.int hs')) → σ' am = some (.dI (mapD V.int ms')) → hs'.length < N → ms'.length < N → K hs' → (∀ c, c ≠ ah → c ≠ am → σ' c = σ c) → A [some v0, some (.dI (mapD rowsV fd)), some v2, some (.ref ah), some (.ref am), some (.int at_), o6, some v7, o8, o9, o10, o11] σ') →
      forL (turnOf X (n + 5) (.t [8, 9]) stepBody) (enumL i (xs.map Sp.v)) [some v0, some (.dI (mapD rowsV fd)), some v2, some (.ref ah), some (.ref am), some (.int at_), o6, some v7, o8, o9, o10, o11] σ (Kn A C R)
  | [], rs, i, N, hs, ms, σ, o8, o9, o10, o11, A, C, R, h1, h2, z1, z2, _, _, hk, h => for_nil (h σ hs ms _ _ _ h1 h2 (by simp at z1; lia) (by simp at z2; lia) hk fun ι ι ι => rfl)
  | s :: xs, [], i, N, hs, ms, σ, o8, o9, o10, o11, A, C, R, h1, h2, z1, z2, _, _, hk, h => hk.elim
  | s :: xs, r :: rs, i, N, hs, ms, σ, o8, o9, o10, o11, A, C, R, h1, h2, z1, z2, z3, hr, hk, h => by
    obtain ⟨k1, k2, k3, sides, k4, k5⟩ := hk
    simp only [List.length_cons] at z1 z2
    have hri : rows[i]? = some r := hr 0 r rfl
    refine for_cons (och_of rfl ?_)
    show WSs X (n + 5) stepBody [some v0, some (.dI (mapD rowsV fd)), some v2, some (.ref ah), some (.ref am), some (.int at_), o6, some v7, some (.int i), some s.v, o10, o11] σ _
    have go : ∀ σ' hs' ms', σ' ah = some (.dI (mapD V.int hs')) → σ' am = some (.dI (mapD V.int ms')) → hs'.length ≤ hs.length + 2 → ms'.length ≤ ms.length + 2 → stepsOk xs rs hs' K → (∀ c, c ≠ ah → c ≠ am → σ' c = σ c) → ∀ o10,
        forL (turnOf X (n + 5) (.t [8, 9]) stepBody) (enumL (i + 1) (xs.map Sp.v)) [some v0, some (.dI (mapD rowsV fd)), some v2, some (.ref ah), some (.ref am), some (.int at_), o6, some v7, some (.int i), some s.v, o10, o11] σ' (Kn A C R) := fun σ' hs' ms' g1 g2 g3 g4 g5 g6 o10 =>
      step_turns L ne hf hz xs g1 g2 (by lia) (by lia) z3 (fun j r hj => by have := hr (j + 1) r (by simpa using hj); rw [← this]; congr 1; lia) g5 fun σ'' hs'' ms'' o8 o9 o10 e1 e2 e3 e4 e5 e6 => h σ'' hs'' ms'' o8 o9 o10 e1 e2 e3 e4 e5 fun c c1 c2 => (e6 c c1 c2).trans (g6 c c1 c2)
    unfold stepBody at go ⊢
    walk_at "mine"
    refine och_of (sub_dI hf) ?_
    walk_at "mine"
    refine och_of (idx_nth i (v := rowV r) rfl (lt_lid (by rw [List.length_map]; lia)) (by simp [hri])) ?_
    refine och_of rfl ⟨lt_lid (by rw [List.length_map]; lia), ?_⟩
    refine checks L h1 k1 ?_
    refine o_newF (by simp; lia) ?_
    walk_at "mine"
    refine call_all L.bi rfl ?_
    rw [all_true]
    walk_at "mine"
    show (false = true → _) ∧ (false = false → _)
    walk_at "mine"
    refine och_of rfl ⟨lt_lid (by rw [List.length_map]; lia), ?_⟩
    refine sides_comp h1 k4 ?_
    have sl := vals_len k4
    refine o_newF (by rw [List.length_map]; lia) ?_
    walk_at "mine"
    refine ⟨fun hop => ?_, fun hop => ?_⟩
    · rw [if_pos (of_decide_eq_true hop)] at k5
      obtain ⟨⟨a, b, rfl⟩, k5⟩ := k5
      walk_at "mine"
      refine och_of (a := .int b) rfl ?_
      walk_at "mine"
      refine och_of (a := .int a) rfl ?_
      refine ⟨am, a, rfl, rfl, .inl ⟨_, h2, lt_lid (by rw [length_mapD]; lia), ?_⟩⟩
      rw [put_map]
      walk_at "mine"
      refine och_of (a := .int b) rfl ?_
      walk_at "mine"
      refine och_of (a := .int a) rfl ?_
      walk_at "mine"
      refine ⟨am, a + 1, rfl, rfl, .inl ⟨_, upd_self .., lt_lid (by rw [length_mapD]; have := length_pt ms a (b % 256); lia), ?_⟩⟩
      rw [put_map, upd_same]
      walk_at "mine"
      have l1 := length_pt ms a (b % 256)
      have l2 := length_pt (pt ms a (b % 256)) (a + 1) (b / 256 % 256)
      refine go _ hs _ (by rw [upd_ne _ _ ne]; exact h1) (upd_self ..) (by lia) (by lia) k5 (fun c c1 c2 => upd_ne _ _ c2) _
    · rw [if_neg (of_decide_eq_false hop)] at k5
      walk_at "mine"
      refine ⟨fun hop => ?_, fun hop => ?_⟩
      · rw [if_pos (of_decide_eq_true hop)] at k5
        obtain ⟨a, wide, sg, rfl, e1, e2, k5⟩ := k5
        walk_at "mine"
        refine read_ok (n := n + 4) L h2 fun v => ?_
        walk_at "mine"
        rw [e1]
        refine loaded_ok (n := n + 4) L e2 ?_
        walk_at "mine"
        refine ⟨ah, s.dst, rfl, rfl, .inl ⟨_, h1, lt_lid (by rw [length_mapD]; lia), ?_⟩⟩
        rw [put_map]
        walk_at "mine"
        have l1 := length_pt hs s.dst (loadedF v wide sg)
        refine go _ _ ms (upd_self ..) (by rw [upd_ne _ _ (Ne.symm ne)]; exact h2) (by lia) (by lia) (k5 v) (fun c c1 c2 => upd_ne _ _ c1) _
      · rw [if_neg (of_decide_eq_false hop)] at k5
        walk_at "mine"
        refine worked_ok (n := n + 2) L k5.1 ?_
        walk_at "mine"
        refine ⟨ah, s.dst, rfl, rfl, .inl ⟨_, h1, lt_lid (by rw [length_mapD]; lia), ?_⟩⟩
        rw [put_map]
        walk_at "mine"
        have l1 := length_pt hs s.dst (workedF s.op sides s.more)
        refine go _ _ ms (upd_self ..) (by rw [upd_ne _ _ (Ne.symm ne)]; exact h2) (by lia) (by lia) k5.2 (fun c c1 c2 => upd_ne _ _ c1) _
noncomputable def lapBody : Ss := (.cons (.asg 7 (.sub (.attr (.var 0) .blocks) (.var 5))) (.cons (.for_ (.t [8, 9]) .enum (.attr (.var 7) .steps) stepBody) (.cons (.asg 11 (.attr (.var 7) .end_)) (.cons (.ite (.not (.call .all (.cons (.comp false (.call .isSo (.cons (.var 1) (.cons (.var 0) .nil))) (.v 0) (.sub (.sub (.var 1) (.var 5)) (.neg (.int 1))) none [("row" : Str), ("held" : Str)] [none, some 3]) .nil))) (.cons (.ret (.bool false)) .nil) .nil) (.cons (.ite (.cmp .eq (.attr (.var 11) .op) (.str .give)) (.cons (.ret (.bool true)) .nil) .nil) (.cons (.ite (.cmp .eq (.attr (.var 11) .op) (.str .jump)) (.cons (.asg 5 (.attr (.var 11) .more)) .nil) (.cons (.ite (.cmp .eq (.attr (.var 11) .op) (.str .branch)) (.cons (.asg 5 (.ite (.cmp .ne (.sub (.var 3) (.sub (.sub (.attr (.var 11) .args) (.int 0)) (.int 1))) (.int 0)) (.sub (.attr (.var 11) .more) (.int 0)) (.sub (.attr (.var 11) .more) (.int 1)))) .nil) (.cons (.asg 5 (.ite (.cmp .eq (.sub (.var 3) (.sub (.sub (.attr (.var 11) .args) (.int 0)) (.int 1))) (.sub (.attr (.var 11) .more) (.int 0))) (.int 2) (.int 3))) .nil)) .nil)) .nil))))))
set_option tactic.hygienic true in
theorem lap_turns {fd : List (Int × List (List Rw))} {bs : List Blk} {rg : Int} {rows : Nat → List (List Rw)} {ah am : Addr} {v2 : V} (L : Lib X) (ne : ah ≠ am) (hbz : bs.length < 1000) (hf : ∀ (i : Nat) b, bs[i]? = some b → lk fd i = some (rows i)) :
    ∀ (xs : List V) {at_ N : Nat} {hs ms : Hs} {σ : So} {o6 o7 o8 o9 o10 o11 : Option V} {A C : Ro → So → Prop} {R : V → Ro → So → Prop}, σ ah = some (.dI (mapD V.int hs)) → σ am = some (.dI (mapD V.int ms)) → hs.length < N → ms.length < N → N + 300 * xs.length < 900000 → lapsOk bs rows xs.length at_ hs →
      (∀ σ' ρ, (∀ c, c ≠ ah → c ≠ am → σ' c = σ c) → R (.bool true) ρ σ') →
      forL (turnOf X (n + 5) (.v 6) lapBody) xs [some (drawnV bs rg), some (.dI (mapD rowsV fd)), some v2, some (.ref ah), some (.ref am), some (.int at_), o6, o7, o8, o9, o10, o11] σ (Kn A C R)
  | [], at_, N, hs, ms, σ, o6, o7, o8, o9, o10, o11, A, C, R, h1, h2, z1, z2, _, hk, h => hk.elim
  | x :: xs, at_, N, hs, ms, σ, o6, o7, o8, o9, o10, o11, A, C, R, h1, h2, z1, z2, z3, hk, h => by
    obtain ⟨b, rs, er, k1, k2, k3, k4, k5, k6⟩ := hk
    simp only [List.length_cons] at z3
    have hat : at_ < bs.length := (List.getElem?_eq_some_iff.mp k1).1
    have hfr : lk fd at_ = some (rs ++ [er]) := by rw [← k2]; exact hf at_ b k1
    refine for_cons (och_of rfl ?_)
    show WSs X (n + 5) lapBody [some (drawnV bs rg), some (.dI (mapD rowsV fd)), some v2, some (.ref ah), some (.ref am), some (.int at_), some x, o7, o8, o9, o10, o11] σ _
    have go : ∀ σ' hs' ms' (t : Nat), σ' ah = some (.dI (mapD V.int hs')) → σ' am = some (.dI (mapD V.int ms')) → hs'.length < N + 250 → ms'.length < N + 250 → lapsOk bs rows xs.length t hs' → (∀ c, c ≠ ah → c ≠ am → σ' c = σ c) → ∀ o7 o8 o9 o10 o11,
        forL (turnOf X (n + 5) (.v 6) lapBody) xs [some (drawnV bs rg), some (.dI (mapD rowsV fd)), some v2, some (.ref ah), some (.ref am), some (.int t), some x, o7, o8, o9, o10, o11] σ' (Kn A C R) := fun σ' hs' ms' t g1 g2 g3 g4 g5 g6 o7 o8 o9 o10 o11 =>
      lap_turns L ne hbz hf xs g1 g2 g3 g4 (by lia) g5 fun σ'' ρ e => h σ'' ρ fun c c1 c2 => (e c c1 c2).trans (g6 c c1 c2)
    unfold lapBody at go ⊢
    walk_at "mine"
    refine och_of (idx_nth at_ (v := b.v) rfl (lt_lid (by rw [List.length_map]; lia)) (by simp [k1])) ?_
    walk_at "mine"
    refine och_of rfl ?_
    refine step_turns (n := n) (rs := rs) (N := N + 240) L ne hfr (by simp; lia) b.steps h1 h2 (by lia) (by lia) (by lia) (fun j r hj => by
      rw [Nat.zero_add, List.getElem?_append_left (List.getElem?_eq_some_iff.mp hj).1]; exact hj) k6 fun σ1 hs1 ms1 o8 o9 o10 g1 g2 g3 g4 g5 g6 => ?_
    obtain ⟨g5, ge⟩ := g5
    have hz : (rs ++ [er]).length < 1000000 := by simp; lia
    walk_at "mine"
    refine och_of (sub_dI hfr) ?_
    walk_at "mine"
    refine och_of (idx_neg (v := rowV er) (vs := (rs ++ [er]).map rowV) rfl (lt_lid (by rw [List.length_map]; exact hz)) (by decide) (by simp; lia) (by
      rw [show (((rs ++ [er]).map rowV).length : Int) + -1 = ((rs.length : Nat) : Int) by simp; lia]
      rw [Int.toNat_natCast]; simp)) ?_
    refine och_of rfl ⟨lt_lid (by rw [List.length_map]; lia), ?_⟩
    refine checks L g1 g5 ?_
    refine o_newF (by simp; lia) ?_
    walk_at "mine"
    refine call_all L.bi rfl ?_
    rw [all_true]
    walk_at "mine"
    show (false = true → _) ∧ (false = false → _)
    obtain ⟨num, steps, e⟩ := b
    dsimp only at ge
    cases ge with
    | give =>
      walk_at "mine"
      exact h σ1 _ g6
    | jump hn =>
      walk_at "mine"
      exact go σ1 hs1 ms1 _ g1 g2 (by lia) (by lia) hn g6 ..
    | branch hv ht ho =>
      rename_i c v t o
      walk_at "mine"
      refine och_of (a := (Opd.r c).v) rfl ?_
      walk_at "mine"
      refine och_of (sub_ref g1 hv) ?_
      walk_at "mine"
      by_cases q : v = 0
      · rw [decide_eq_true q]
        show (false = true → _) ∧ (false = false → _)
        walk_at "mine"
        exact go σ1 hs1 ms1 _ g1 g2 (by lia) (by lia) (ho q) g6 ..
      · rw [decide_eq_false q]
        show (true = true → _) ∧ (true = false → _)
        walk_at "mine"
        exact go σ1 hs1 ms1 _ g1 g2 (by lia) (by lia) (ht q) g6 ..
    | table hv ht ho =>
      rename_i c v low
      walk_at "mine"
      refine och_of (a := (Opd.r c).v) rfl ?_
      walk_at "mine"
      refine och_of (sub_ref g1 hv) ?_
      walk_at "mine"
      by_cases q : v = low
      · rw [decide_eq_true q]
        walk_at "mine"
        exact go σ1 hs1 ms1 2 g1 g2 (by lia) (by lia) (ht q) g6 ..
      · rw [decide_eq_false q]
        walk_at "mine"
        exact go σ1 hs1 ms1 3 g1 g2 (by lia) (by lia) (ho q) g6 ..
theorem walk_ok {fd : List (Int × List (List Rw))} {bs : List Blk} {rg : Int} {rows : Nat → List (List Rw)} {p q' : Int} {σ : So} {Q : V → So → Prop} (L : Lib X) (hbz : bs.length < 1000) (hf : ∀ (i : Nat) b, bs[i]? = some b → lk fd i = some (rows i)) (hk : lapsOk bs rows 16 0 [(0, p), (1, q')])
    (q : ∀ σ', (∀ c, (σ c).isSome = true → σ' c = σ c) → Q (.bool true) σ') : Call X (n + 6) .walk [drawnV bs rg, .dI (mapD rowsV fd), .tup [.int p, .int q']] σ Q := by
  refine call_kn L.co L.walk rfl ?_
  show WSs X (n + 5) ir_walk [some _, some _, some _, none, none, none, none, none, none, none, none, none] σ _
  unfold ir_walk
  walk_at "mine"
  intro ah hh
  walk_at "mine"
  intro am hm
  have ne : am ≠ ah := fun e => by rw [e, upd_self] at hm; (injection hm)
  rw [upd_ne _ _ ne] at hm
  walk_at "mine"
  refine och_of rfl (och_of rfl ?_)
  walk_at "mine"
  refine och_of (show itV _ .range (.int 16) = some ((List.range 16).map fun (j : Nat) => V.int (j : Int)) from rfl) ?_
  refine lap_turns (n := n) (rows := rows) (at_ := 0) (N := 10) (hs := [(0, p), (1, q')]) (ms := []) L (Ne.symm ne) hbz hf _ (by rw [upd_ne _ _ (Ne.symm ne), upd_self]; rfl) (by rw [upd_self]; rfl) (by simp) (by simp) (by simp) hk fun σ' ρ s' => ?_
  refine q σ' fun c hc => ?_
  have c1 : c ≠ ah := fun e => by rw [e, hh] at hc; (injection hc)
  have c2 : c ≠ am := fun e => by rw [e, hm] at hc; (injection hc)
  rw [s' c c1 c2, upd_ne _ _ c2, upd_ne _ _ c1]
end
section
variable {X : Cx} {n : Nat}
noncomputable def stepV (s : Sp) : V := .tup [.str s.op, .int s.dst, .lst (s.args.map Opd.v), s.more]
noncomputable def blkV (b : Blk) : V := .lst ((b.steps ++ [b.end_]).map stepV)
noncomputable def shownV (bs : List Blk) : V := .lst (bs.map blkV)
theorem shown_ok {σ : So} {bs : List Blk} {rg : Int} {Q : V → So → Prop} (L : Lib X) (hbz : bs.length < 1000) (hst : ∀ b ∈ bs, b.steps.length < 1000 ∧ ∀ s ∈ b.steps ++ [b.end_], s.args.length < 1000) (q : Q (shownV bs) σ) : Call X (n + 1) .shown [drawnV bs rg] σ Q := by
  refine call_kn L.co L.shown rfl ?_
  show WSs X n ir_shown [some _] σ _
  unfold ir_shown
  walk_at "mine"
  refine och_of rfl ⟨lt_lid (by rw [List.length_map]; lia), ?_⟩
  refine comp_map (g := blkV) (fun b hb k hk => ?_) ?_
  · obtain ⟨h1, h2⟩ := hst b hb
    refine och_of (a := [some b.v]) rfl ?_
    dsimp only
    walk_at "mine"
    refine och_of rfl (och_of rfl ?_)
    refine o_newF (by simp; lia) ?_
    refine och_of rfl ⟨lt_lid (by simp; lia), ?_⟩
    rw [show b.steps.map Sp.v ++ [b.end_.v] = (b.steps ++ [b.end_]).map Sp.v by simp]
    refine comp_map (g := stepV) (fun s hs k hk => ?_) ?_
    · refine och_of (a := [some s.v]) rfl ?_
      dsimp only
      walk_at "mine"
      refine call_list L.bi (.inl rfl) ?_
      refine o_newF (by rw [List.length_map]; have := h2 s hs; lia) ?_
      walk_at "mine"
      exact hk
    · rw [List.nil_append]
      refine o_newF (by simp; lia) ?_
      exact hk
  · rw [List.nil_append]
    refine o_newF (by simp; lia) ?_
    walk_at "mine"
    exact q
theorem okVs_all : ∀ {vs : List V} {k : Nat}, (∀ v ∈ vs, okV v k = true) → okVs vs k = true
  | [], _, _ => rfl
  | v :: vs, k, h => by
    rw [okVs, h v (.head _), okVs_all fun u hu => h u (.tail _ hu)]; rfl
theorem shown_plain {bs : List Blk} (h : ∀ b ∈ bs, ∀ s ∈ b.steps ++ [b.end_], okV s.more 5 = true) : okV (shownV bs) 8 = true := by
  show okVs (bs.map blkV) 7 = true
  refine okVs_all fun v hv => ?_
  obtain ⟨b, hb, rfl⟩ := List.mem_map.mp hv
  show okVs ((b.steps ++ [b.end_]).map stepV) 6 = true
  refine okVs_all fun v hv => ?_
  obtain ⟨s, hs, rfl⟩ := List.mem_map.mp hv
  show (true && (true && (okVs (s.args.map Opd.v) 4 && (okV s.more 5 && true)))) = true
  rw [h b hb s hs, okVs_all (fun v hv => by obtain ⟨o, _, rfl⟩ := List.mem_map.mp hv; (injection o) <;> rfl)]
  rfl
theorem ne_self {σ : So} {v : V} (h : okV v 8 = true) : cmpV σ .ne v v = some false := by
  refine (congrArg (Option.map (!·)) (eqV_G (a := v) (b := v))).trans ?_
  show (if okV v 8 && okV v 8 then some (PyData.eqv (pyV v) (pyV v)) else none).map (!·) = _
  rw [h, PySem.SeqAt.eqv_refl _ (lay_of h).1]; rfl
noncomputable abbrev ON := Hs × List (Int × Opd)
noncomputable def numStep (p : ON) (s : Sp) : ON := (pt p.1 s.dst ((lk p.1 s.dst).getD 0 + 1), match s.args with
  | .k v :: _ => if s.op = .copy ∨ s.op = .const then pt p.2 s.dst (.k v) else p.2
  | _ => p.2)
theorem numStep_len (p : ON) (s : Sp) : (numStep p s).1.length ≤ p.1.length + 1 ∧ (numStep p s).2.length ≤ p.2.length + 1 := by
  refine ⟨length_pt .., ?_⟩
  unfold numStep
  dsimp only
  split
  · split
    · exact length_pt ..
    · exact Nat.le_succ _
  · exact Nat.le_succ _
noncomputable def numBody : Ss := (.cons (.asgS (.var 2) (.attr (.var 5) .dst) (.bin .add (.dget (.var 2) (.attr (.var 5) .dst) (.int 0)) (.int 1))) (.cons (.ite (.bop true (.cons (.cmp .in_ (.attr (.var 5) .op) (.tup (.cons (.str .copy) (.cons (.str .const) .nil)))) (.cons (.cmp .eq (.sub (.sub (.attr (.var 5) .args) (.int 0)) (.int 0)) (.str .k)) .nil))) (.cons (.asgS (.var 3) (.attr (.var 5) .dst) (.sub (.attr (.var 5) .args) (.int 0))) .nil) .nil) .nil))
theorem num_turns {ao an : Addr} {v0 v1 : V} (ne : ao ≠ an) : ∀ (xs : List Sp) {p : ON} {σ : So} {o4 o5 o6 o7 o8 o9 o10 : Option V} {A C : Ro → So → Prop} {R : V → Ro → So → Prop}, σ ao = some (.dI (mapD V.int p.1)) → σ an = some (.dI (mapD Opd.v p.2)) → p.1.length + xs.length < 500 → p.2.length + xs.length < 500 → (∀ s ∈ xs, StepOk s) →
    (∀ σ' o5, σ' ao = some (.dI (mapD V.int (xs.foldl numStep p).1)) → σ' an = some (.dI (mapD Opd.v (xs.foldl numStep p).2)) → (∀ c, c ≠ ao → c ≠ an → σ' c = σ c) → A [some v0, some v1, some (.ref ao), some (.ref an), o4, o5, o6, o7, o8, o9, o10] σ') →
    forL (turnOf X n (.v 5) numBody) (xs.map Sp.v) [some v0, some v1, some (.ref ao), some (.ref an), o4, o5, o6, o7, o8, o9, o10] σ (Kn A C R)
  | [], p, σ, o4, o5, o6, o7, o8, o9, o10, A, C, R, h1, h2, _, _, _, h => for_nil (h σ _ h1 h2 fun ι ι ι => rfl)
  | s :: xs, p, σ, o4, o5, o6, o7, o8, o9, o10, A, C, R, h1, h2, z1, z2, hs, h => by
    simp only [List.length_cons] at z1 z2
    obtain ⟨l1, l2⟩ := numStep_len p s
    have so := (hs s (.head _)).1
    refine for_cons (och_of rfl ?_)
    show WSs X n numBody [some v0, some v1, some (.ref ao), some (.ref an), o4, some s.v, o6, o7, o8, o9, o10] σ _
    have go : ∀ σ' p', p' = numStep p s → σ' ao = some (.dI (mapD V.int p'.1)) → σ' an = some (.dI (mapD Opd.v p'.2)) → (∀ c, c ≠ ao → c ≠ an → σ' c = σ c) →
        forL (turnOf X n (.v 5) numBody) (xs.map Sp.v) [some v0, some v1, some (.ref ao), some (.ref an), o4, some s.v, o6, o7, o8, o9, o10] σ' (Kn A C R) := fun σ' p' e g1 g2 g3 => by
      rw [← e] at l1 l2
      exact num_turns ne xs g1 g2 (by lia) (by lia) (fun u hu => hs u (.tail _ hu)) fun σ'' o5 k1 k2 k3 => h σ'' o5 (by rw [List.foldl_cons, ← e]; exact k1) (by rw [List.foldl_cons, ← e]; exact k2) fun c c1 c2 => (k3 c c1 c2).trans (g3 c c1 c2)
    unfold numBody at go ⊢
    walk_at "mine"
    refine ⟨isD h1, ?_⟩
    walk_at "mine"
    refine och_of (show dictV σ (.ref ao) = some (mapD V.int p.1) from dictV_at h1) ?_
    walk_at "mine"
    rw [look_map]
    have e0 : (Option.map V.int (lk p.1 s.dst)).getD (.int 0) = .int ((lk p.1 s.dst).getD 0) := by cases lk p.1 s.dst <;> rfl
    rw [e0]
    walk_at "mine"
    refine ⟨ao, s.dst, rfl, rfl, .inl ⟨_, h1, lt_lid (by rw [length_mapD]; lia), ?_⟩⟩
    rw [put_map]
    have h2' : upd σ ao (.dI (mapD V.int (pt p.1 s.dst ((lk p.1 s.dst).getD 0 + 1)))) an = some (.dI (mapD Opd.v p.2)) := by rw [upd_ne _ _ (Ne.symm ne)]; exact h2
    walk_at "mine"
    have hmem : ∀ σ', cmpV σ' .in_ (.str s.op) (.tup [.str .copy, .str .const]) = some (decide (s.op ∈ [Nm.copy, .const])) := fun σ' => congrArg some (any_str (ms := [Nm.copy, .const]))
    refine och_of (hmem _) ?_
    by_cases ht : s.op ∈ [Nm.copy, .const]
    · rw [decide_eq_true ht]
      walk_at "mine"
      have ht' : s.op = .copy ∨ s.op = .const := by simpa using ht
      have hl : 1 ≤ s.args.length := so.tell (by simp [telling]; exact ht'.symm)
      have hz := so.len
      obtain ⟨o, r, e⟩ : ∃ o r, s.args = o :: r := by
        cases e : s.args with
        | nil => rw [e] at hl; simp at hl
        | cons o r => exact ⟨_, _, rfl⟩
      have hi : ∀ σ', idxV σ' (.lst (s.args.map Opd.v)) (.int 0) = some o.v := fun σ' => idx_nth 0 rfl (lt_lid (by rw [List.length_map]; have : s.args.length < 100 := hz; lia)) (by rw [e]; rfl)
      refine och_of (hi _) ?_
      cases o with
      | k v =>
        walk_at "mine"
        refine och_of (hi _) ?_
        walk_at "mine"
        refine ⟨an, s.dst, rfl, rfl, .inl ⟨_, h2', lt_lid (by rw [length_mapD]; lia), ?_⟩⟩
        rw [put_map]
        walk_at "mine"
        refine go _ (pt p.1 s.dst ((lk p.1 s.dst).getD 0 + 1), pt p.2 s.dst (.k v)) ?_ (by rw [upd_ne _ _ ne, upd_self]) (upd_self ..) fun c c1 c2 => by rw [upd_ne _ _ c2, upd_ne _ _ c1]
        unfold numStep
        rw [e]
        dsimp only
        rw [if_pos ht']
      | r x =>
        walk_at "mine"
        refine go _ (pt p.1 s.dst ((lk p.1 s.dst).getD 0 + 1), p.2) ?_ (upd_self ..) h2' fun c c1 c2 => upd_ne _ _ c1
        unfold numStep
        rw [e]
    · rw [decide_eq_false ht]
      walk_at "mine"
      have ht' : ¬ (s.op = .copy ∨ s.op = .const) := by simpa using ht
      refine go _ (pt p.1 s.dst ((lk p.1 s.dst).getD 0 + 1), p.2) ?_ (upd_self ..) h2' fun c c1 c2 => upd_ne _ _ c1
      unfold numStep
      split
      · rw [if_neg ht']
      · rfl
noncomputable def numBs (p : ON) (bs : List Blk) : ON := bs.foldl (fun p b => b.steps.foldl numStep p) p
theorem num_fold_len : ∀ (xs : List Sp) (p : ON), (xs.foldl numStep p).1.length ≤ p.1.length + xs.length ∧ (xs.foldl numStep p).2.length ≤ p.2.length + xs.length
  | [], p => ⟨Nat.le_refl _, Nat.le_refl _⟩
  | s :: xs, p => by
    obtain ⟨l1, l2⟩ := numStep_len p s
    obtain ⟨m1, m2⟩ := num_fold_len xs (numStep p s)
    simp only [List.foldl_cons, List.length_cons]
    exact ⟨by lia, by lia⟩
noncomputable def numOuter : Ss := (.cons (.for_ (.v 5) .seq (.attr (.var 4) .steps) numBody) .nil)
theorem num_outer {ao an : Addr} {v0 v1 : V} (ne : ao ≠ an) : ∀ (bs : List Blk) {p : ON} {σ : So} {o4 o5 o6 o7 o8 o9 o10 : Option V} {A C : Ro → So → Prop} {R : V → Ro → So → Prop}, σ ao = some (.dI (mapD V.int p.1)) → σ an = some (.dI (mapD Opd.v p.2)) → p.1.length + stepsN bs < 500 → p.2.length + stepsN bs < 500 → (∀ b ∈ bs, ∀ s ∈ b.steps, StepOk s) →
    (∀ σ' o4 o5, σ' ao = some (.dI (mapD V.int (numBs p bs).1)) → σ' an = some (.dI (mapD Opd.v (numBs p bs).2)) → (∀ c, c ≠ ao → c ≠ an → σ' c = σ c) → A [some v0, some v1, some (.ref ao), some (.ref an), o4, o5, o6, o7, o8, o9, o10] σ') →
    forL (turnOf X n (.v 4) numOuter) (bs.map Blk.v) [some v0, some v1, some (.ref ao), some (.ref an), o4, o5, o6, o7, o8, o9, o10] σ (Kn A C R)
  | [], p, σ, o4, o5, o6, o7, o8, o9, o10, A, C, R, h1, h2, _, _, _, h => for_nil (h σ _ _ h1 h2 fun ι ι ι => rfl)
  | b :: bs, p, σ, o4, o5, o6, o7, o8, o9, o10, A, C, R, h1, h2, z1, z2, hs, h => by
    have e : stepsN (b :: bs) = b.steps.length + stepsN bs := by simp [stepsN]
    rw [e] at z1 z2
    refine for_cons (och_of rfl ?_)
    show WSs X n numOuter [some v0, some v1, some (.ref ao), some (.ref an), some b.v, o5, o6, o7, o8, o9, o10] σ _
    unfold numOuter
    walk_at "mine"
    refine och_of rfl ?_
    obtain ⟨m1, m2⟩ := num_fold_len b.steps p
    refine num_turns ne b.steps h1 h2 (by lia) (by lia) (hs b (.head _)) fun σ' o5 g1 g2 g3 => ?_
    walk_at "mine"
    exact num_outer ne bs g1 g2 (by lia) (by lia) (fun c hc => hs c (.tail _ hc)) fun σ'' o4 o5 k1 k2 k3 => h σ'' o4 o5 k1 k2 fun c c1 c2 => (k3 c c1 c2).trans (g3 c c1 c2)
noncomputable def numOf (bs : List Blk) : ON := numBs ([(0, 1), (1, 1)], []) bs
noncomputable def NumOk (p : ON) (w : Rw) : Prop := ∀ o, lk p.2 w.which = some o → ∃ t, lk p.1 w.which = some t ∧ (t = 1 → w.best = o)
noncomputable def rowB : Ss := (.cons (.ite (.bop true (.cons (.cmp .in_ (.var 8) (.var 3)) (.cons (.cmp .eq (.sub (.var 2) (.var 8)) (.int 1)) (.cons (.cmp .ne (.var 9) (.sub (.var 3) (.var 8))) .nil)))) (.cons (.ret (.bool false)) .nil) .nil) .nil)
theorem row_turns {ao an : Addr} {v0 v1 : V} {p : ON} {σ : So} (h1 : σ ao = some (.dI (mapD V.int p.1))) (h2 : σ an = some (.dI (mapD Opd.v p.2))) : ∀ (xs : List Rw) {o4 o5 o6 o7 o8 o9 o10 : Option V} {A C : Ro → So → Prop} {R : V → Ro → So → Prop}, (∀ w ∈ xs, NumOk p w) →
    (∀ o8 o9 o10, A [some v0, some v1, some (.ref ao), some (.ref an), o4, o5, o6, o7, o8, o9, o10] σ) →
    forL (turnOf X n (.t [8, 9, 10]) rowB) (xs.map Rw.v) [some v0, some v1, some (.ref ao), some (.ref an), o4, o5, o6, o7, o8, o9, o10] σ (Kn A C R)
  | [], o4, o5, o6, o7, o8, o9, o10, A, C, R, _, h => for_nil (h _ _ _)
  | w :: xs, o4, o5, o6, o7, o8, o9, o10, A, C, R, hw, h => by
    have hw0 := hw w (.head _)
    refine for_cons (och_of (a := [some v0, some v1, some (.ref ao), some (.ref an), o4, o5, o6, o7, some (.int w.which), some w.best.v, some (shpV w.shape)]) rfl ?_)
    have go := fun o8 o9 o10 => row_turns h1 h2 xs (o4 := o4) (o5 := o5) (o6 := o6) (o7 := o7) (o8 := o8) (o9 := o9) (o10 := o10) (A := A) (C := C) (R := R) (fun u hu => hw u (.tail _ hu)) h
    unfold rowB at go ⊢
    walk_at "mine"
    refine och_of (in_ref h2) ?_
    cases e : lk p.2 w.which with
    | none =>
      show (false = true → _) ∧ (false ≠ true → _)
      walk_at "mine"
      show (false = true → _) ∧ (false = false → _)
      walk_at "mine"
      exact go ..
    | some o =>
      obtain ⟨t, e1, e2⟩ := hw0 o e
      show (true = true → _) ∧ (true ≠ true → _)
      walk_at "mine"
      refine och_of (sub_ref h1 e1) ?_
      walk_at "mine"
      by_cases q : t = 1
      · rw [decide_eq_true q]
        walk_at "mine"
        refine och_of (sub_ref h2 e) ?_
        refine och_of (ne_opd w.best o) ?_
        rw [decide_eq_true (e2 q)]
        show (false = true → _) ∧ (false ≠ true → _)
        walk_at "mine"
        show (false = true → _) ∧ (false = false → _)
        walk_at "mine"
        exact go ..
      · rw [decide_eq_false q]
        walk_at "mine"
        exact go ..
noncomputable def rowsBd : Ss := (.cons (.for_ (.t [8, 9, 10]) .seq (.var 7) rowB) .nil)
theorem rows_turns {ao an : Addr} {v0 v1 : V} {p : ON} {σ : So} (h1 : σ ao = some (.dI (mapD V.int p.1))) (h2 : σ an = some (.dI (mapD Opd.v p.2))) : ∀ (xs : List (List Rw)) {o4 o5 o6 o7 o8 o9 o10 : Option V} {A C : Ro → So → Prop} {R : V → Ro → So → Prop}, (∀ r ∈ xs, ∀ w ∈ r, NumOk p w) →
    (∀ o7 o8 o9 o10, A [some v0, some v1, some (.ref ao), some (.ref an), o4, o5, o6, o7, o8, o9, o10] σ) →
    forL (turnOf X n (.v 7) rowsBd) (xs.map rowV) [some v0, some v1, some (.ref ao), some (.ref an), o4, o5, o6, o7, o8, o9, o10] σ (Kn A C R)
  | [], o4, o5, o6, o7, o8, o9, o10, A, C, R, _, h => for_nil (h _ _ _ _)
  | r :: xs, o4, o5, o6, o7, o8, o9, o10, A, C, R, hw, h => by
    refine for_cons (och_of (a := [some v0, some v1, some (.ref ao), some (.ref an), o4, o5, o6, some (rowV r), o8, o9, o10]) rfl ?_)
    unfold rowsBd
    walk_at "mine"
    refine och_of rfl ?_
    refine row_turns h1 h2 r (hw r (.head _)) fun o8 o9 o10 => ?_
    walk_at "mine"
    exact rows_turns h1 h2 xs (fun u hu => hw u (.tail _ hu)) h
noncomputable def keysBd : Ss := (.cons (.for_ (.v 7) .seq (.sub (.var 1) (.var 6)) rowsBd) .nil)
theorem keys_turns {ao an : Addr} {v0 : V} {fd : List (Int × List (List Rw))} {p : ON} {σ : So} (h1 : σ ao = some (.dI (mapD V.int p.1))) (h2 : σ an = some (.dI (mapD Opd.v p.2))) (hfd : ∀ q ∈ fd, ∀ r ∈ q.2, ∀ w ∈ r, NumOk p w) : ∀ (xs : List Int) {o4 o5 o6 o7 o8 o9 o10 : Option V} {A C : Ro → So → Prop} {R : V → Ro → So → Prop}, (∀ x ∈ xs, (lk fd x).isSome = true) →
    (∀ o6 o7 o8 o9 o10, A [some v0, some (.dI (mapD rowsV fd)), some (.ref ao), some (.ref an), o4, o5, o6, o7, o8, o9, o10] σ) →
    forL (turnOf X n (.v 6) keysBd) (xs.map .int) [some v0, some (.dI (mapD rowsV fd)), some (.ref ao), some (.ref an), o4, o5, o6, o7, o8, o9, o10] σ (Kn A C R)
  | [], o4, o5, o6, o7, o8, o9, o10, A, C, R, _, h => for_nil (h _ _ _ _ _)
  | x :: xs, o4, o5, o6, o7, o8, o9, o10, A, C, R, hw, h => by
    obtain ⟨rs, hrs⟩ := Option.isSome_iff_exists.mp (hw x (.head _))
    refine for_cons (och_of (a := [some v0, some (.dI (mapD rowsV fd)), some (.ref ao), some (.ref an), o4, o5, some (.int x), o7, o8, o9, o10]) rfl ?_)
    unfold keysBd
    walk_at "mine"
    refine och_of (sub_dI hrs) ?_
    refine och_of rfl ?_
    refine rows_turns h1 h2 rs (hfd _ (lk_mem hrs)) fun o7 o8 o9 o10 => ?_
    walk_at "mine"
    exact keys_turns h1 h2 hfd xs (fun u hu => hw u (.tail _ hu)) h
theorem numbersKnown_ok {fd : List (Int × List (List Rw))} {bs : List Blk} {rg : Int} {σ : So} {Q : V → So → Prop} (L : Lib X) (hst : ∀ b ∈ bs, ∀ s ∈ b.steps, StepOk s) (hz : stepsN bs < 100) (hfz : fd.length < 60) (hfd : ∀ q ∈ fd, ∀ r ∈ q.2, ∀ w ∈ r, NumOk (numOf bs) w)
    (q : ∀ σ', (∀ c, (σ c).isSome = true → σ' c = σ c) → Q (.bool true) σ') : Call X (n + 1) .numbersKnown [drawnV bs rg, .dI (mapD rowsV fd)] σ Q := by
  refine call_kn L.co L.numbersKnown rfl ?_
  show WSs X n ir_numbersKnown [some _, some _, none, none, none, none, none, none, none, none, none] σ _
  unfold ir_numbersKnown
  walk_at "mine"
  intro ao ho
  walk_at "mine"
  intro an hn
  have ne : an ≠ ao := fun e => by rw [e, upd_self] at hn; (injection hn)
  rw [upd_ne _ _ ne] at hn
  walk_at "mine"
  refine och_of rfl (och_of rfl ?_)
  walk_at "mine"
  refine och_of rfl ?_
  refine num_outer (n := n) (p := ([(0, 1), (1, 1)], [])) (Ne.symm ne) bs (by rw [upd_ne _ _ (Ne.symm ne), upd_self]; rfl) (by rw [upd_self]; rfl) (by simp; lia) (by simp; lia) hst fun σ1 o4 o5 h1 h2 s1 => ?_
  walk_at "mine"
  refine call_sorted L.bi (es := mapD rowsV fd) rfl (by rw [length_mapD]; lia) fun ns hp ι => ?_
  refine och_of rfl ?_
  refine keys_turns (n := n) h1 h2 hfd ns (fun x hx => ?_) fun o6 o7 o8 o9 o10 => ?_
  · have := hp.mem_iff.mp hx
    simp only [mapD, List.map_map] at this
    obtain ⟨p, hp, rfl⟩ := List.mem_map.mp this
    exact lk_of_mem hp
  walk_at "mine"
  refine q σ1 fun c hc => ?_
  have c1 : c ≠ ao := fun e => by rw [e, ho] at hc; (injection hc)
  have c2 : c ≠ an := fun e => by rw [e, hn] at hc; (injection hc)
  rw [s1 c c1 c2, upd_ne _ _ c2, upd_ne _ _ c1]
end
section
variable {X : Cx} {n : Nat}
inductive WayD (regs : List Int) (f : Int) : List Sp → Sp → Prop
  | cmp {m : Nm} {x v : Int} : m ∈ [Nm.eq, .ne, .lt, .ltu] → x ∈ regs → 0 ≤ v → v < 3 → WayD regs f [⟨m, f, [.r x, .k v], .int 0⟩] ⟨.branch, -1, [.r f], .tup [.int 2, .int 3]⟩
  | b32 {x : Int} : x ∈ regs → WayD regs f [] ⟨.branch, -1, [.r x], .tup [.int 3, .int 2]⟩
  | table {x low : Int} : x ∈ regs → low = 0 ∨ low = 1 → WayD regs f [] ⟨.table, -1, [.r x], .tup [.int low, .lst [.int 2], .int 3]⟩
theorem way_ok {σ : So} {aw an A : Addr} {k : Nat} {regs : List Int} {f : Int} {ss : List Sp} {Q : V → So → Prop} (L : Lib X) (wa : WellAt σ aw an (k + 4)) (hr : 0 < regs.length) (hr2 : regs.length < 1000) (hA : σ A = some (.lst (ss.map Sp.v))) (d1 : A ≠ aw) (d2 : A ≠ an) (hz : ss.length < 1000)
    (h : ∀ w e σ', WayD regs f w e → WellAt σ' aw an k → σ' A = some (.lst ((ss ++ w).map Sp.v)) → (∀ b, b ≠ aw → b ≠ an → b ≠ A → σ' b = σ b) → Q e.v σ') : Call X (n + 3) .way [.ref aw, .ref A, .lst (regs.map .int), .int f] σ Q := by
  refine call_kn L.co L.way rfl ?_
  show WSs X (n + 2) ir_way [some (.ref aw), some (.ref A), some (.lst (regs.map .int)), some (.int f), none, none, none] σ _
  have hl : ∀ σ, lenV σ (.lst (regs.map .int)) = some regs.length := fun σ => lenV_ints
  unfold ir_way
  walk_at "mine"
  refine draw_ok (size := 4) (k := k + 3) L.co L.bi L.draw wa (by decide) (by decide) fun kind σ1 w0 w1 wa1 s1 => ?_
  have hA1 : σ1 A = some (.lst (ss.map Sp.v)) := (s1 A d1 d2).trans hA
  walk_at "mine"
  refine ⟨fun h1 => ?_, fun h1 => ?_⟩
  · walk_at "mine"
    refine draw_ok (size := 4) (k := k + 2) L.co L.bi L.draw wa1 (by decide) (by decide) fun r σ2 r0 r1 wa2 s2 => ?_
    obtain ⟨m, hm, e⟩ := idx_strs (σ := σ2) (c := .tup [.str .eq, .str .ne, .str .lt, .str .ltu]) (ms := [.eq, .ne, .lt, .ltu]) (i := r) rfl (lt_lid (by decide)) r0 r1
    refine och_of e ?_
    have hA2 : σ2 A = some (.lst (ss.map Sp.v)) := (s2 A d1 d2).trans hA1
    walk_at "mine"
    refine ⟨isL hA2, ?_⟩
    walk_at "mine"
    refine call_len L.bi (hl _) (lt_lid (by lia)) ?_
    walk_at "mine"
    refine draw_ok (size := regs.length) (k := k + 1) L.co L.bi L.draw wa2 (by lia) (by lia) fun i σ3 i0 i1 wa3 s3 => ?_
    obtain ⟨x, hx, e3⟩ := idx_ints (σ := σ3) (c := .lst (regs.map .int)) (i := i) rfl (lt_lid (by lia)) i0 i1
    refine och_of e3 ?_
    walk_at "mine"
    refine draw_ok (size := 3) (k := k) L.co L.bi L.draw wa3 (by decide) (by decide) fun v σ4 v0 v1 wa4 s4 => ?_
    walk_at "mine"
    refine step_fz L ?_
    have hA4 : σ4 A = some (.lst (ss.map Sp.v)) := (s4 A d1 d2).trans ((s3 A d1 d2).trans hA2)
    refine ⟨A, _, rfl, hA4, lt_lid (by simp; lia), ?_⟩
    walk_at "mine"
    refine step_fz L ?_
    walk_at "mine"
    refine h [⟨m, f, [.r x, .k v], .int 0⟩] ⟨.branch, -1, [.r f], .tup [.int 2, .int 3]⟩ _ (.cmp hm hx v0 v1) (wa4.off (upd_ne _ _ (Ne.symm d1)) (upd_ne _ _ (Ne.symm d2))) ?_ fun b b1 b2 b3 => ?_
    · rw [upd_self, List.map_append]; rfl
    · rw [upd_ne _ _ b3, s4 b b1 b2, s3 b b1 b2, s2 b b1 b2, s1 b b1 b2]
  · walk_at "mine"
    refine call_len L.bi (hl _) (lt_lid (by lia)) ?_
    walk_at "mine"
    refine draw_ok (size := regs.length) (k := k + 2) L.co L.bi L.draw wa1 (by lia) (by lia) fun i σ3 i0 i1 wa3 s3 => ?_
    obtain ⟨x, hx, e3⟩ := idx_ints (σ := σ3) (c := .lst (regs.map .int)) (i := i) rfl (lt_lid (by lia)) i0 i1
    refine och_of e3 ?_
    have hA3 : σ3 A = some (.lst (ss.map Sp.v)) := (s3 A d1 d2).trans hA1
    walk_at "mine"
    refine ⟨fun h2 => ?_, fun h2 => ?_⟩
    · walk_at "mine"
      refine step_fz L ?_
      walk_at "mine"
      exact h [] ⟨.branch, -1, [.r x], .tup [.int 3, .int 2]⟩ _ (.b32 hx) (wa3.less (by lia)) (by simpa using hA3) fun b b1 b2 b3 => by rw [s3 b b1 b2, s1 b b1 b2]
    · walk_at "mine"
      refine draw_ok (size := 2) (k := k + 1) L.co L.bi L.draw wa3 (by decide) (by decide) fun low σ4 v0 v1 wa4 s4 => ?_
      walk_at "mine"
      refine step_fz L ?_
      walk_at "mine"
      exact h [] ⟨.table, -1, [.r x], .tup [.int low, .lst [.int 2], .int 3]⟩ _ (.table hx (by lia)) (wa4.less (by lia)) (by rw [s4 A d1 d2]; simpa using hA3) fun b b1 b2 b3 => by rw [s4 b b1 b2, s3 b b1 b2, s1 b b1 b2]
noncomputable def blkFs (i : Int) (st e : V) : List (Nm × V) := [(.number, .int i), (.steps, st), (.end_, e)]
theorem block_new {i : Int} {σ : So} {Q : V → So → Prop} (L : Lib X) (h : ∀ l dx, σ l = none → σ dx = none → l ≠ dx → Q (.ref l) (upd (upd σ l (.obj .Block dx)) dx (.ns (blkFs i (.lst []) .none)))) : Call X (n + 2) (.cls .Block) [.int i] σ Q := by
  refine ctor_kn L.co (by simp [initN]) L.blockInit rfl fun l dx h1 h2 ne => ?_
  show WSs X n ir_blockInit [some (.ref l), some (.int i)] _ _
  generalize hs : upd σ l (.obj .Block dx) = σ0
  have e1 : ∀ fs, upd σ0 dx (.ns fs) l = some (.obj .Block dx) := fun fs => by rw [upd_ne _ _ ne, ← hs, upd_self]
  unfold ir_blockInit
  walk_at "mine"
  refine ⟨l, .Block, dx, _, rfl, e1 _, upd_self .., (by decide), ?_⟩
  rw [upd_same]
  walk_at "mine"
  refine ⟨l, .Block, dx, _, rfl, e1 _, upd_self .., (by show 1 < 100; lia), ?_⟩
  rw [upd_same]
  walk_at "mine"
  refine ⟨l, .Block, dx, _, rfl, e1 _, upd_self .., (by show 2 < 100; lia), ?_⟩
  rw [upd_same]
  walk_at "mine"
  rw [← hs]
  exact h l dx h1 h2 ne
noncomputable def funFs (Bl : V) (ps : V) (rg : Int) (hv : Bool) : List (Nm × V) := [(.name, .str .drawn), (.params, ps), (.static_, .bool false), (.slots, .lst []), (.blocks, Bl), (.registers, .int rg), (.hasv, .bool hv)]
theorem func_new {σ : So} {Q : V → So → Prop} (L : Lib X) (h : ∀ D dD Bl σ', σ D = none → σ dD = none → σ Bl = none → D ≠ dD → D ≠ Bl → dD ≠ Bl → σ' D = some (.obj .Func dD) → σ' dD = some (.ns (funFs (.ref Bl) (.lst []) 0 false)) → σ' Bl = some (.lst []) → (∀ c, c ≠ D → c ≠ dD → c ≠ Bl → σ' c = σ c) → Q (.ref D) σ') : Call X (n + 2) (.cls .Func) [.str .drawn] σ Q := by
  refine ctor_kn L.co (by simp [initN]) L.funcInit rfl fun l dx h1 h2 ne => ?_
  show WSs X n ir_funcInit [some (.ref l), some (.str .drawn)] _ _
  generalize hs : upd σ l (.obj .Func dx) = σ0
  have e1 : ∀ fs, upd σ0 dx (.ns fs) l = some (.obj .Func dx) := fun fs => by rw [upd_ne _ _ ne, ← hs, upd_self]
  unfold ir_funcInit
  walk_at "mine"
  refine ⟨l, .Func, dx, _, rfl, e1 _, upd_self .., (by decide), ?_⟩
  rw [upd_same]
  walk_at "mine"
  refine ⟨l, .Func, dx, _, rfl, e1 _, upd_self .., (by show 1 < 100; lia), ?_⟩
  rw [upd_same]
  walk_at "mine"
  refine ⟨l, .Func, dx, _, rfl, e1 _, upd_self .., (by show 2 < 100; lia), ?_⟩
  rw [upd_same]
  walk_at "mine"
  refine ⟨l, .Func, dx, _, rfl, e1 _, upd_self .., (by show 3 < 100; lia), ?_⟩
  rw [upd_same]
  walk_at "mine"
  refine o_newT (by simp) fun Bl hB => ?_
  have b2 : Bl ≠ dx := fun e => by rw [e, upd_self] at hB; (injection hB)
  have b1 : Bl ≠ l := fun e => by rw [e, e1] at hB; (injection hB)
  rw [upd_ne _ _ b2, ← hs, upd_ne _ _ b1] at hB
  walk_at "mine"
  refine ⟨l, .Func, dx, _, rfl, by rw [upd_ne _ _ (Ne.symm b1)]; exact e1 _, by rw [upd_ne _ _ (Ne.symm b2)]; exact upd_self .., (by show 4 < 100; lia), ?_⟩
  rw [upd_comm b2, upd_same]
  walk_at "mine"
  refine ⟨l, .Func, dx, _, rfl, by rw [upd_ne _ _ (Ne.symm b1)]; exact e1 _, by rw [upd_ne _ _ (Ne.symm b2)]; exact upd_self .., (by show 5 < 100; lia), ?_⟩
  rw [upd_comm b2, upd_same]
  walk_at "mine"
  refine ⟨l, .Func, dx, _, rfl, by rw [upd_ne _ _ (Ne.symm b1)]; exact e1 _, by rw [upd_ne _ _ (Ne.symm b2)]; exact upd_self .., (by show 6 < 100; lia), ?_⟩
  rw [upd_comm b2, upd_same]
  walk_at "mine"
  refine h l dx Bl _ h1 h2 hB ne (Ne.symm b1) (Ne.symm b2) ?_ ?_ (upd_self ..) fun c c1 c2 c3 => ?_
  · rw [upd_ne _ _ (Ne.symm b1)]; exact e1 _
  · rw [upd_ne _ _ (Ne.symm b2), upd_self]; rfl
  · rw [upd_ne _ _ c3, upd_ne _ _ c2, ← hs, upd_ne _ _ c1]
theorem Acts.grow_len {regs regs' : List Int} {f f' : Int} {ss : List Sp} (h : Acts regs f ss regs' f') : regs'.length ≤ regs.length + ss.length := by
  induction h with
  | nil => simp
  | store _ _ _ _ ih => simp only [List.length_cons]; lia
  | old _ _ _ ih => simp only [List.length_cons]; lia
  | new _ _ ih => simp only [List.length_cons, List.length_append, List.length_nil] at ih ⊢; lia
end
section
variable {X : Cx} {n : Nat}
structure J (σ : So) (aw an : Addr) (k : Nat) (D dD Bl : Addr) (las : List Addr) (ls : List (List Int)) (bs : List Blk) (S : Nat) : Prop where
  w : WellAt σ aw an k
  o : σ D = some (.obj .Func dD)
  d : σ dD = some (.ns (funFs (.ref Bl) (.lst [.int 0, .int 1]) 0 true))
  b : σ Bl = some (.lst (bs.map Blk.v))
  l : LotsAt σ aw an las ls
  n : Bl ∉ las ∧ Bl ≠ aw ∧ Bl ≠ an
  s : (ls.map List.length).sum ≤ S
  z : bs.length < 20
structure HH (σ : So) (aw an : Addr) (k : Nat) (D dD Bl : Addr) (las : List Addr) (ls : List (List Int)) (bs : List Blk) (S : Nat) (hb dx : Addr) (i : Int) (e : V) : Prop where
  j : J σ aw an k D dD Bl las ls bs S
  h : σ hb = some (.obj .Block dx)
  x : σ dx = some (.ns (blkFs i (.lst []) e))
  nb : dx ≠ dD ∧ hb ≠ D
structure AP (σ : So) (aw an Bl : Addr) (las : List Addr) (A : Addr) (ss : List Sp) : Prop where
  a : σ A = some (.lst (ss.map Sp.v))
  n : A ∉ las ∧ A ≠ aw ∧ A ≠ an ∧ A ≠ Bl
  z : ss.length < 100
section
variable {σ σ' : So} {aw an : Addr} {k k' : Nat} {D dD Bl : Addr} {las : List Addr} {ls : List (List Int)} {bs : List Blk} {S : Nat} {hb dx A : Addr} {i : Int} {e e' : V} {ss ss' : List Sp}
theorem WellAt.lsts (w : WellAt σ aw an k) : (∃ v, σ aw = some (.lst v)) ∧ ∃ v, σ an = some (.lst v) := by
  obtain ⟨ns, p, a, b, c, d, e, f⟩ := w
  exact ⟨⟨_, a⟩, ⟨_, b⟩⟩
theorem LotsAt.lst (l : LotsAt σ aw an las ls) {a : Addr} (h : a ∈ las) : ∃ v, σ a = some (.lst v) := by
  obtain ⟨j, hj, e⟩ := List.getElem_of_mem h
  have h2 : j < ls.length := by rw [l.l2, ← l.l1]; exact hj
  exact ⟨_, l.at_ j a ls[j] (by rw [List.getElem?_eq_getElem hj, e]) (List.getElem?_eq_getElem h2)⟩
theorem J.keep (j : J σ aw an k D dD Bl las ls bs S) (w' : WellAt σ' aw an k') (c : ∀ b, b ≠ aw → b ≠ an → ((∃ v, σ b = some (.lst v)) ∧ (b = Bl ∨ b ∈ las) ∨ b = D ∨ b = dD) → σ' b = σ b) : J σ' aw an k' D dD Bl las ls bs S := by
  obtain ⟨⟨v1, w1⟩, ⟨v2, w2⟩⟩ := j.w.lsts
  refine ⟨w', ?_, ?_, ?_, ⟨j.l.l1, j.l.l2, fun t a l ha hl => ?_, j.l.aw, j.l.nd, j.l.small⟩, j.n, j.s, j.z⟩
  · rw [c D (fun e => by rw [← e, j.o] at w1; (injection w1)) (fun e => by rw [← e, j.o] at w2; (injection w2)) (.inr (.inl rfl))]; exact j.o
  · rw [c dD (fun e => by rw [← e, j.d] at w1; (injection w1)) (fun e => by rw [← e, j.d] at w2; (injection w2)) (.inr (.inr rfl))]; exact j.d
  · rw [c Bl j.n.2.1 j.n.2.2 (.inl ⟨⟨_, j.b⟩, .inl rfl⟩)]; exact j.b
  · have hm := List.mem_of_getElem? ha
    rw [c a (j.l.aw a hm).1 (j.l.aw a hm).2 (.inl ⟨⟨_, j.l.at_ t a l ha hl⟩, .inr hm⟩)]
    exact j.l.at_ t a l ha hl
theorem HH.draw (h : HH σ aw an k D dD Bl las ls bs S hb dx i e) (w' : WellAt σ' aw an k') (s : Same σ σ' aw an) : HH σ' aw an k' D dD Bl las ls bs S hb dx i e := by
  obtain ⟨⟨v1, w1⟩, ⟨v2, w2⟩⟩ := h.j.w.lsts
  refine ⟨h.j.keep w' fun b b1 b2 ι => s b b1 b2, ?_, ?_, h.nb⟩
  · rw [s hb (fun e => by rw [← e, h.h] at w1; (injection w1)) (fun e => by rw [← e, h.h] at w2; (injection w2))]; exact h.h
  · rw [s dx (fun e => by rw [← e, h.x] at w1; (injection w1)) (fun e => by rw [← e, h.x] at w2; (injection w2))]; exact h.x
theorem AP.draw (a : AP σ aw an Bl las A ss) (s : Same σ σ' aw an) : AP σ' aw an Bl las A ss := ⟨(s A a.n.2.1 a.n.2.2.1).trans a.a, a.n, a.z⟩
theorem HH.putE (h : HH σ aw an k D dD Bl las ls bs S hb dx i e) (e' : V) : HH (upd σ dx (.ns (blkFs i (.lst []) e'))) aw an k D dD Bl las ls bs S hb dx i e' := by
  obtain ⟨⟨v1, w1⟩, ⟨v2, w2⟩⟩ := h.j.w.lsts
  refine ⟨h.j.keep (h.j.w.off (upd_ne _ _ fun e => by rw [e, h.x] at w1; (injection w1)) (upd_ne _ _ fun e => by rw [e, h.x] at w2; (injection w2))) fun b b1 b2 hb => upd_ne _ _ ?_, ?_, upd_self .., h.nb⟩
  · rintro rfl
    rcases hb with ⟨⟨v, hv⟩, _⟩ | rfl | rfl
    · rw [h.x] at hv; (injection hv)
    · have := h.x; rw [h.j.o] at this; (injection this)
    · exact h.nb.1 rfl
  · rw [upd_ne _ _ (fun e => by have := h.h; rw [e, h.x] at this; (injection this))]; exact h.h
theorem AP.putE (a : AP σ aw an Bl las A ss) (h : HH σ aw an k D dD Bl las ls bs S hb dx i e) (m : M) : AP (upd σ dx m) aw an Bl las A ss :=
  ⟨(upd_ne _ _ fun e => by have := a.a; rw [e, h.x] at this; (injection this)).trans a.a, a.n, a.z⟩
theorem HH.offA (h : HH σ aw an k D dD Bl las ls bs S hb dx i e) (a : AP σ aw an Bl las A ss) (s : ∀ b, b ≠ A → σ' b = σ b) : HH σ' aw an k D dD Bl las ls bs S hb dx i e := by
  refine ⟨h.j.keep (h.j.w.off (s _ (Ne.symm a.n.2.1)) (s _ (Ne.symm a.n.2.2.1))) fun b b1 b2 hb => s b ?_, ?_, ?_, h.nb⟩
  · rintro rfl
    rcases hb with ⟨_, rfl | hb⟩ | rfl | rfl
    · exact a.n.2.2.2 rfl
    · exact a.n.1 hb
    · have := a.a; rw [h.j.o] at this; (injection this)
    · have := a.a; rw [h.j.d] at this; (injection this)
  · rw [s hb (fun e => by have := a.a; rw [← e, h.h] at this; (injection this))]; exact h.h
  · rw [s dx (fun e => by have := a.a; rw [← e, h.x] at this; (injection this))]; exact h.x
theorem AP.putA (a : AP σ aw an Bl las A ss) (z : ss'.length < 100) : AP (upd σ A (.lst (ss'.map Sp.v))) aw an Bl las A ss' := ⟨upd_self .., a.n, z⟩
end
noncomputable def finB : Ss := (.cons (.asgA (.var 5) .steps (.var 6)) (.cons (.frz 5) (.cons (.expr (.append (.attr (.var 1) .blocks) (.var 5))) .nil)))
theorem fin_blk {σ : So} {aw an : Addr} {k : Nat} {D dD Bl : Addr} {las : List Addr} {ls : List (List Int)} {bs : List Blk} {S : Nat} {hb dx : Addr} {i f : Int} {e : Sp} {ss : List Sp} {o7 o8 : Option V} {Ac C : Ro → So → Prop} {R : V → Ro → So → Prop}
    (h : HH σ aw an k D dD Bl las ls bs S hb dx i e.v) (hz : bs.length < 10)
    (q : ∀ σ' o5 o6, J σ' aw an k D dD Bl las ls (bs ++ [⟨i, ss, e⟩]) S → Ac [some (.ref aw), some (.ref D), some (.lst (las.map .ref)), some (.int f), some (.int i), o5, o6, o7, o8] σ') :
    WSs X n finB [some (.ref aw), some (.ref D), some (.lst (las.map .ref)), some (.int f), some (.int i), some (.ref hb), some (.lst (ss.map Sp.v)), o7, o8] σ (Kn Ac C R) := by
  have dxb : dx ≠ hb := fun q => by have := h.h; rw [← q, h.x] at this; (injection this)
  unfold finB
  walk_at "mine"
  refine ⟨hb, .Block, dx, _, rfl, h.h, h.x, (by show 3 < 100; lia), ?_⟩
  have e1 : put (blkFs i (.lst []) e.v) .steps (.lst (ss.map Sp.v)) = blkFs i (.lst (ss.map Sp.v)) e.v := rfl
  rw [e1]
  walk_at "mine"
  refine ws_frz rfl (.obj (by rw [upd_ne _ _ (Ne.symm dxb)]; exact h.h) (upd_self ..)) ?_
  generalize hσ : drp (drp (upd σ dx (.ns (blkFs i (.lst (ss.map Sp.v)) e.v))) hb) dx = σ1
  have s1 : ∀ b, b ≠ hb → b ≠ dx → σ1 b = σ b := fun b b1 b2 => by rw [← hσ, drp_ne _ b2, drp_ne _ b1, upd_ne _ _ b2]
  obtain ⟨⟨v1, w1⟩, ⟨v2, w2⟩⟩ := h.j.w.lsts
  have j1 : J σ1 aw an k D dD Bl las ls bs S := by
    refine h.j.keep (h.j.w.off (s1 _ (fun e => by rw [e, h.h] at w1; (injection w1)) (fun e => by rw [e, h.x] at w1; (injection w1))) (s1 _ (fun e => by rw [e, h.h] at w2; (injection w2)) (fun e => by rw [e, h.x] at w2; (injection w2)))) fun b b1 b2 hb' => s1 b ?_ ?_
    · rintro rfl
      rcases hb' with ⟨⟨v, hv⟩, _⟩ | rfl | rfl
      · rw [h.h] at hv; (injection hv)
      · exact h.nb.2 rfl
      · have := h.h; rw [h.j.d] at this; (injection this)
    · rintro rfl
      rcases hb' with ⟨⟨v, hv⟩, _⟩ | rfl | rfl
      · rw [h.x] at hv; (injection hv)
      · have := h.x; rw [h.j.o] at this; (injection this)
      · exact h.nb.1 rfl
  walk_at "mine"
  refine och_of (a := (.Func, funFs (.ref Bl) (.lst [.int 0, .int 1]) 0 true)) (fieldsV_at j1.o j1.d) (och_of (a := .ref Bl) rfl ?_)
  refine ⟨isL j1.b, ?_⟩
  walk_at "mine"
  refine ⟨Bl, _, rfl, j1.b, lt_lid (by rw [List.length_map]; lia), ?_⟩
  walk_at "mine"
  have e2 : bs.map Blk.v ++ [.obj .Block (blkFs i (.lst (ss.map Sp.v)) e.v)] = (bs ++ [(⟨i, ss, e⟩ : Blk)]).map Blk.v := by rw [List.map_append]; rfl
  rw [e2]
  have j2 : J (upd σ1 Bl (.lst ((bs ++ [(⟨i, ss, e⟩ : Blk)]).map Blk.v))) aw an k D dD Bl las ls (bs ++ [⟨i, ss, e⟩]) S := by
    obtain ⟨⟨v1, w1⟩, ⟨v2, w2⟩⟩ := j1.w.lsts
    refine ⟨j1.w.off (upd_ne _ _ (Ne.symm j1.n.2.1)) (upd_ne _ _ (Ne.symm j1.n.2.2)), ?_, ?_, upd_self .., ⟨j1.l.l1, j1.l.l2, fun t a l ha hl => ?_, j1.l.aw, j1.l.nd, j1.l.small⟩, j1.n, j1.s, by simp; lia⟩
    · rw [upd_ne _ _ (fun e => by have := j1.o; rw [e, j1.b] at this; (injection this))]; exact j1.o
    · rw [upd_ne _ _ (fun e => by have := j1.d; rw [e, j1.b] at this; (injection this))]; exact j1.d
    · rw [upd_ne]
      · exact j1.l.at_ t a l ha hl
      · rintro rfl; exact j1.n.1 (List.mem_of_getElem? ha)
  exact q _ _ _ j2
theorem sum_set : ∀ (l : List Nat) (i x : Nat), (l.set i x).sum ≤ l.sum + x
  | [], _, _ => by simp
  | y :: l, 0, x => by simp only [List.set_cons_zero, List.sum_cons]; lia
  | y :: l, i + 1, x => by have := sum_set l i x; simp only [List.set_cons_succ, List.sum_cons]; lia
theorem start_blk {σ : So} {aw an : Addr} {k : Nat} {D dD Bl : Addr} {las : List Addr} {ls : List (List Int)} {bs : List Blk} {S : Nat} {i many : Nat} {f : Int} {o5 o6 o7 o8 : Option V} {rest : Ss} {Ac C : Ro → So → Prop} {R : V → Ro → So → Prop} (L : Lib X)
    (j : J σ aw an (k + 8 * many) D dD Bl las ls bs S) (hi : i < 6) (hls : ls[i]? = some []) (hm : many < 10) (hS : S + many < 100) (hmany : idxV σ (.tup [.int 2, .int 3, .int 2, .int 2, .int 2, .int 1]) (.int (i : Int)) = some (.int (many : Int)))
    (q : ∀ hb dx A ss regs' f' news σ', Acts (scopeOf ls i) f ss regs' f' → ss.length = many → regs' = scopeOf ls i ++ news → regs'.length < 900 → 0 < regs'.length → HH σ' aw an k D dD Bl las (ls.set i news) bs (S + many) hb dx i .none → AP σ' aw an Bl las A ss →
      WSs X (n + 5) rest [some (.ref aw), some (.ref D), some (.lst (las.map .ref)), some (.int f'), some (.int (i : Int)), some (.ref hb), some (.ref A), some (.lst (regs'.map .int)), o8] σ' (Kn Ac C R)) :
    WSs X (n + 5) (.cons (.asg 5 (.call (.cls .Block) (.cons (.var 4) .nil))) (.cons (.asgT [6, 7, 3] (.call .acts (.cons (.var 0) (.cons (.var 4) (.cons (.sub (.tup (.cons (.int 2) (.cons (.int 3) (.cons (.int 2) (.cons (.int 2) (.cons (.int 2) (.cons (.int 1) .nil))))))) (.var 4)) (.cons (.var 2) (.cons (.var 3) .nil))))))) rest))
      [some (.ref aw), some (.ref D), some (.lst (las.map .ref)), some (.int f), some (.int (i : Int)), o5, o6, o7, o8] σ (Kn Ac C R) := by
  walk_at "mine"
  refine block_new (n := n + 3) L fun hb dx h1 h2 ne => ?_
  generalize hσ : upd (upd σ hb (.obj .Block dx)) dx (.ns (blkFs i (.lst []) .none)) = σ1
  have b1 : σ1 hb = some (.obj .Block dx) := by rw [← hσ, upd_ne _ _ ne, upd_self]
  have x1 : σ1 dx = some (.ns (blkFs i (.lst []) .none)) := by rw [← hσ, upd_self]
  have s1 : ∀ b, (σ b).isSome = true → σ1 b = σ b := fun b hb' => by
    rw [← hσ, upd_ne _ _ (fun e => by rw [e, h2] at hb'; (injection hb')), upd_ne _ _ (fun e => by rw [e, h1] at hb'; (injection hb'))]
  obtain ⟨⟨v1, w1⟩, ⟨v2, w2⟩⟩ := j.w.lsts
  have j1 : J σ1 aw an (k + 8 * many) D dD Bl las ls bs S := j.keep (j.w.off (s1 _ (by rw [w1]; rfl)) (s1 _ (by rw [w2]; rfl))) fun b ι ι hb' => s1 b (by
    rcases hb' with ⟨⟨v, hv⟩, _⟩ | rfl | rfl
    · rw [hv]; rfl
    · rw [j.o]; rfl
    · rw [j.d]; rfl)
  have hdx : dx ≠ dD ∧ hb ≠ D := ⟨fun e => (by rw [e, j.d] at h2; (injection h2)), fun e => (by rw [e, j.o] at h1; (injection h1))⟩
  have hla : i < las.length := by rw [j.l.l1]; exact hi
  have ela : las[i]? = some las[i] := List.getElem?_eq_getElem hla
  have mla : las[i] ∈ las := List.getElem_mem hla
  walk_at "mine"
  refine och_of (a := .int (many : Int)) hmany ?_
  refine acts_ok (n := n) (k := k) (cur := []) L j1.w j1.l hi hm ela hls fun ss regs' f' news σ2 A ac el er w2' fr a2 l2 s2 => ?_
  refine och_of rfl (och_of rfl ?_)
  have grow := ac.grow_len
  have nl : news.length ≤ many := by
    rw [er, List.length_append] at grow; lia
  obtain ⟨⟨u1, y1⟩, ⟨u2, y2⟩⟩ := j1.w.lsts
  have na : A ∉ las ∧ A ≠ aw ∧ A ≠ an ∧ A ≠ Bl := by
    refine ⟨fun hm => ?_, fun e => (by rw [e, y1] at fr; (injection fr)), fun e => (by rw [e, y2] at fr; (injection fr)), fun e => (by rw [e, j1.b] at fr; (injection fr))⟩
    obtain ⟨v, hv⟩ := j1.l.lst hm
    rw [fr] at hv; (injection hv)
  have lb : las[i] ≠ Bl := fun e => j1.n.1 (e ▸ mla)
  have hsc : (scopeOf ls i).length ≤ 305 := by
    have := flat_le j.l.small ((seen[i]?).getD [])
    have hj : ((seen[i]?).getD []).length ≤ 3 := by
      have : i = 0 ∨ i = 1 ∨ i = 2 ∨ i = 3 ∨ i = 4 ∨ i = 5 := by lia
      rcases this with rfl | rfl | rfl | rfl | rfl | rfl <;> decide
    unfold scopeOf
    rw [List.length_append]
    simp only [List.length_cons, List.length_nil]
    lia
  have hsc0 : 0 < (scopeOf ls i).length := by unfold scopeOf; simp
  have j2 : J σ2 aw an k D dD Bl las (ls.set i news) bs (S + many) := by
    refine ⟨w2', ?_, ?_, ?_, ⟨j1.l.l1, by rw [List.length_set]; exact j1.l.l2, fun t a l ha hl => ?_, j1.l.aw, j1.l.nd, ?_⟩, j1.n, ?_, j1.z⟩
    · rw [s2 D (fun e => by rw [← e, j1.o] at y1; (injection y1)) (fun e => by rw [← e, j1.o] at y2; (injection y2)) (fun e => by rw [← e, j1.o] at fr; (injection fr)) (fun e => by obtain ⟨v, hv⟩ := j1.l.lst mla; rw [← e, j1.o] at hv; (injection hv))]; exact j1.o
    · rw [s2 dD (fun e => by rw [← e, j1.d] at y1; (injection y1)) (fun e => by rw [← e, j1.d] at y2; (injection y2)) (fun e => by rw [← e, j1.d] at fr; (injection fr)) (fun e => by obtain ⟨v, hv⟩ := j1.l.lst mla; rw [← e, j1.d] at hv; (injection hv))]; exact j1.d
    · rw [s2 Bl j1.n.2.1 j1.n.2.2 (Ne.symm na.2.2.2) (Ne.symm lb)]; exact j1.b
    · by_cases q : t = i
      · subst q
        rw [ela] at ha; (injection ha)
        have hil : t < ls.length := (List.getElem?_eq_some_iff.mp hls).1
        rw [List.getElem?_set_self hil] at hl; (injection hl)
        simpa using l2
      · rw [List.getElem?_set_ne (Ne.symm q)] at hl
        have hm := List.mem_of_getElem? ha
        rw [s2 a (j1.l.aw a hm).1 (j1.l.aw a hm).2 (fun e => na.1 (e ▸ hm)) (fun e => ?_)]
        · exact j1.l.at_ t a l ha hl
        · obtain ⟨h3, e3⟩ := List.getElem?_eq_some_iff.mp ha
          exact q ((List.getElem_inj j1.l.nd).mp (e3.trans e))
    · have := sum_set (ls.map List.length) i news.length
      rw [List.map_set]
      have := j.s; lia
    · have := sum_set (ls.map List.length) i news.length
      rw [List.map_set]
      have := j.s; lia
  have e2 : σ2 hb = some (.obj .Block dx) := by
    rw [s2 hb (fun e => by rw [← e, b1] at y1; (injection y1)) (fun e => by rw [← e, b1] at y2; (injection y2)) (fun e => by rw [← e, b1] at fr; (injection fr)) (fun e => by obtain ⟨v, hv⟩ := j1.l.lst mla; rw [← e, b1] at hv; (injection hv))]; exact b1
  have e3 : σ2 dx = some (.ns (blkFs i (.lst []) .none)) := by
    rw [s2 dx (fun e => by rw [← e, x1] at y1; (injection y1)) (fun e => by rw [← e, x1] at y2; (injection y2)) (fun e => by rw [← e, x1] at fr; (injection fr)) (fun e => by obtain ⟨v, hv⟩ := j1.l.lst mla; rw [← e, x1] at hv; (injection hv))]; exact x1
  exact q hb dx A ss regs' f' news σ2 ac el er (by rw [er, List.length_append]; lia) (by rw [er, List.length_append]; lia) ⟨j2, e2, e3, hdx⟩ ⟨a2, na, by lia⟩
end
section
variable {X : Cx} {n : Nat}
noncomputable def restB : Ss := (.cons (.ite (.cmp .eq (.var 4) (.int 0)) (.cons (.asg 8 (.lst false (.cons (.fz (.call (.cls .Step) (.cons (.str .copy) (.cons (.int 2) (.cons (.lst false (.cons (.tup (.cons (.str .r) (.cons (.int 0) .nil))) .nil)) (.cons (.int 0) .nil)))))) (.cons (.fz (.call (.cls .Step) (.cons (.str .const) (.cons (.int 3) (.cons (.lst false (.cons (.tup (.cons (.str .k) (.cons (.int 1) .nil))) .nil)) (.cons (.int 0) .nil)))))) .nil)))) (.cons (.asg 6 (.cat (.cat (.var 8) (.lst false (.cons (.fz (.call (.cls .Step) (.cons (.str .const) (.cons (.int 4) (.cons (.lst false (.cons (.tup (.cons (.str .k) (.cons (.int 5) .nil))) .nil)) (.cons (.int 0) .nil)))))) .nil))) (.var 6))) .nil)) .nil) (.cons (.asgA (.var 5) .end_ (.fz (.call (.cls .Step) (.cons (.str .jump) (.cons (.neg (.int 1)) (.cons (.lst false .nil) (.cons (.ite (.cmp .eq (.var 4) (.int 0)) (.int 1) (.int 4)) .nil))))))) (.cons (.ite (.cmp .eq (.var 4) (.int 1)) (.cons (.asgA (.var 5) .end_ (.call .way (.cons (.var 0) (.cons (.var 6) (.cons (.var 7) (.cons (.var 3) .nil)))))) (.cons (.asg 3 (.bin .add (.var 3) (.int 1))) .nil)) .nil) (.cons (.ite (.cmp .eq (.var 4) (.int 4)) (.cons (.expr (.append (.var 6) (.fz (.call (.cls .Step) (.cons (.str .add) (.cons (.int 2) (.cons (.lst false (.cons (.tup (.cons (.str .r) (.cons (.int 2) .nil))) (.cons (.tup (.cons (.str .k) (.cons (.int 3) .nil))) .nil))) (.cons (.int 0) .nil)))))))) (.cons (.expr (.append (.var 6) (.fz (.call (.cls .Step) (.cons (.str .shr) (.cons (.int 4) (.cons (.lst false (.cons (.tup (.cons (.str .r) (.cons (.int 4) .nil))) (.cons (.tup (.cons (.str .k) (.cons (.int 1) .nil))) .nil))) (.cons (.int 0) .nil)))))))) (.cons (.asgA (.var 5) .end_ (.fz (.call (.cls .Step) (.cons (.str .branch) (.cons (.neg (.int 1)) (.cons (.lst false (.cons (.tup (.cons (.str .r) (.cons (.int 4) .nil))) .nil)) (.cons (.tup (.cons (.int 1) (.cons (.int 5) .nil))) .nil))))))) .nil))) .nil) (.cons (.ite (.cmp .eq (.var 4) (.int 5)) (.cons (.asgA (.var 5) .end_ (.fz (.call (.cls .Step) (.cons (.str .give) (.cons (.neg (.int 1)) (.cons (.lst false (.cons (.tup (.cons (.str .r) (.cons (.sub (.var 7) (.call .draw (.cons (.var 0) (.cons (.call .len (.cons (.var 7) .nil)) .nil)))) .nil))) .nil)) (.cons (.int 0) .nil))))))) .nil) .nil) (.cons (.frz 6) (.cons (.asgA (.var 5) .steps (.var 6)) (.cons (.frz 5) (.cons (.expr (.append (.attr (.var 1) .blocks) (.var 5))) .nil)))))))))
noncomputable def funcBody : Ss := (.cons (.asg 5 (.call (.cls .Block) (.cons (.var 4) .nil))) (.cons (.asgT [6, 7, 3] (.call .acts (.cons (.var 0) (.cons (.var 4) (.cons (.sub (.tup (.cons (.int 2) (.cons (.int 3) (.cons (.int 2) (.cons (.int 2) (.cons (.int 2) (.cons (.int 1) .nil))))))) (.var 4)) (.cons (.var 2) (.cons (.var 3) .nil))))))) (.cons (.ite (.cmp .eq (.var 4) (.int 0)) (.cons (.asg 8 (.lst false (.cons (.fz (.call (.cls .Step) (.cons (.str .copy) (.cons (.int 2) (.cons (.lst false (.cons (.tup (.cons (.str .r) (.cons (.int 0) .nil))) .nil)) (.cons (.int 0) .nil)))))) (.cons (.fz (.call (.cls .Step) (.cons (.str .const) (.cons (.int 3) (.cons (.lst false (.cons (.tup (.cons (.str .k) (.cons (.int 1) .nil))) .nil)) (.cons (.int 0) .nil)))))) .nil)))) (.cons (.asg 6 (.cat (.cat (.var 8) (.lst false (.cons (.fz (.call (.cls .Step) (.cons (.str .const) (.cons (.int 4) (.cons (.lst false (.cons (.tup (.cons (.str .k) (.cons (.int 5) .nil))) .nil)) (.cons (.int 0) .nil)))))) .nil))) (.var 6))) .nil)) .nil) (.cons (.asgA (.var 5) .end_ (.fz (.call (.cls .Step) (.cons (.str .jump) (.cons (.neg (.int 1)) (.cons (.lst false .nil) (.cons (.ite (.cmp .eq (.var 4) (.int 0)) (.int 1) (.int 4)) .nil))))))) (.cons (.ite (.cmp .eq (.var 4) (.int 1)) (.cons (.asgA (.var 5) .end_ (.call .way (.cons (.var 0) (.cons (.var 6) (.cons (.var 7) (.cons (.var 3) .nil)))))) (.cons (.asg 3 (.bin .add (.var 3) (.int 1))) .nil)) .nil) (.cons (.ite (.cmp .eq (.var 4) (.int 4)) (.cons (.expr (.append (.var 6) (.fz (.call (.cls .Step) (.cons (.str .add) (.cons (.int 2) (.cons (.lst false (.cons (.tup (.cons (.str .r) (.cons (.int 2) .nil))) (.cons (.tup (.cons (.str .k) (.cons (.int 3) .nil))) .nil))) (.cons (.int 0) .nil)))))))) (.cons (.expr (.append (.var 6) (.fz (.call (.cls .Step) (.cons (.str .shr) (.cons (.int 4) (.cons (.lst false (.cons (.tup (.cons (.str .r) (.cons (.int 4) .nil))) (.cons (.tup (.cons (.str .k) (.cons (.int 1) .nil))) .nil))) (.cons (.int 0) .nil)))))))) (.cons (.asgA (.var 5) .end_ (.fz (.call (.cls .Step) (.cons (.str .branch) (.cons (.neg (.int 1)) (.cons (.lst false (.cons (.tup (.cons (.str .r) (.cons (.int 4) .nil))) .nil)) (.cons (.tup (.cons (.int 1) (.cons (.int 5) .nil))) .nil))))))) .nil))) .nil) (.cons (.ite (.cmp .eq (.var 4) (.int 5)) (.cons (.asgA (.var 5) .end_ (.fz (.call (.cls .Step) (.cons (.str .give) (.cons (.neg (.int 1)) (.cons (.lst false (.cons (.tup (.cons (.str .r) (.cons (.sub (.var 7) (.call .draw (.cons (.var 0) (.cons (.call .len (.cons (.var 7) .nil)) .nil)))) .nil))) .nil)) (.cons (.int 0) .nil))))))) .nil) .nil) (.cons (.frz 6) (.cons (.asgA (.var 5) .steps (.var 6)) (.cons (.frz 5) (.cons (.expr (.append (.attr (.var 1) .blocks) (.var 5))) .nil)))))))))))
noncomputable def ahead : List Sp := [⟨.copy, 2, [.r 0], .int 0⟩, ⟨.const, 3, [.k 1], .int 0⟩, ⟨.const, 4, [.k 5], .int 0⟩]
noncomputable def late0 : Sp := ⟨.add, 2, [.r 2, .k 3], .int 0⟩
noncomputable def late1 : Sp := ⟨.shr, 4, [.r 4, .k 1], .int 0⟩
noncomputable def late : List Sp := [late0, late1]
noncomputable def jmp (t : Int) : Sp := ⟨.jump, -1, [], .int t⟩
noncomputable def br4 : Sp := ⟨.branch, -1, [.r 4], .tup [.int 1, .int 5]⟩
noncomputable def giv (x : Int) : Sp := ⟨.give, -1, [.r x], .int 0⟩
section
variable {σ : So} {aw an : Addr} {k : Nat} {D dD Bl : Addr} {las : List Addr} {ls : List (List Int)} {bs : List Blk} {S : Nat} {hb dx A : Addr} {f : Int} {regs : List Int} {ss : List Sp} {o8 : Option V} {Ac C : Ro → So → Prop} {R : V → Ro → So → Prop}
theorem rest0 (L : Lib X) (h : HH σ aw an k D dD Bl las ls bs S hb dx ((0 : Nat) : Int) .none) (a : AP σ aw an Bl las A ss) (hz : bs.length < 10)
    (q : ∀ σ' o5 o6 o7 o8, J σ' aw an k D dD Bl las ls (bs ++ [⟨((0 : Nat) : Int), ahead ++ ss, jmp 1⟩]) S → Ac [some (.ref aw), some (.ref D), some (.lst (las.map .ref)), some (.int f), some (.int ((0 : Nat) : Int)), o5, o6, o7, o8] σ') :
    WSs X (n + 5) restB [some (.ref aw), some (.ref D), some (.lst (las.map .ref)), some (.int f), some (.int ((0 : Nat) : Int)), some (.ref hb), some (.ref A), some (.lst (regs.map .int)), o8] σ (Kn Ac C R) := by
  unfold restB
  walk_at "mine"
  refine step_fz (n := n + 3) L ?_
  walk_at "mine"
  refine step_fz (n := n + 3) L ?_
  walk_at "mine"
  refine step_fz (n := n + 3) L ?_
  walk_at "mine"
  refine och_of rfl (och_of rfl ?_)
  refine o_newF (by simp) ?_
  walk_at "mine"
  refine och_of rfl (och_of (show listV σ (.ref A) = some (ss.map Sp.v) from listV_at a.a) ?_)
  have hl := a.z
  refine o_newF (by simp; lia) ?_
  walk_at "mine"
  refine step_fz (n := n + 3) L ?_
  refine ⟨hb, .Block, dx, _, rfl, h.h, h.x, (by show 3 < 100; lia), ?_⟩
  walk_at "mine"
  refine ws_frz rfl .id ?_
  have h2 := h.putE (jmp 1).v
  exact fin_blk (e := jmp 1) (ss := ahead ++ ss) h2 hz fun σ' o5 o6 j => q σ' o5 o6 _ _ j
theorem rest23 {i : Nat} (hi : i = 2 ∨ i = 3) (L : Lib X) (h : HH σ aw an k D dD Bl las ls bs S hb dx (i : Int) .none) (a : AP σ aw an Bl las A ss) (hz : bs.length < 10)
    (q : ∀ σ' o5 o6 o7 o8, J σ' aw an k D dD Bl las ls (bs ++ [⟨(i : Int), ss, jmp 4⟩]) S → Ac [some (.ref aw), some (.ref D), some (.lst (las.map .ref)), some (.int f), some (.int (i : Int)), o5, o6, o7, o8] σ') :
    WSs X (n + 5) restB [some (.ref aw), some (.ref D), some (.lst (las.map .ref)), some (.int f), some (.int (i : Int)), some (.ref hb), some (.ref A), some (.lst (regs.map .int)), o8] σ (Kn Ac C R) := by
  have h2 := h.putE (jmp 4).v
  have a2 := a.putE h (.ns (blkFs i (.lst []) (jmp 4).v))
  have h3 : HH (drp (upd σ dx (.ns (blkFs i (.lst []) (jmp 4).v))) A) aw an k D dD Bl las ls bs S hb dx i (jmp 4).v := h2.offA a2 fun b hb => drp_ne _ hb
  unfold restB
  rcases hi with rfl | rfl
  all_goals
    walk_at "mine"
    refine step_fz (n := n + 3) L ?_
    refine ⟨hb, .Block, dx, _, rfl, h.h, h.x, (by show 3 < 100; lia), ?_⟩
    walk_at "mine"
    refine ws_frz rfl (.lst a2.a) ?_
    exact fin_blk (e := jmp 4) (ss := ss) h3 hz fun σ' o5 o6 j => q σ' o5 o6 _ _ j
theorem rest4 (L : Lib X) (h : HH σ aw an k D dD Bl las ls bs S hb dx ((4 : Nat) : Int) .none) (a : AP σ aw an Bl las A ss) (hz : bs.length < 10) (hz2 : ss.length < 50)
    (q : ∀ σ' o5 o6 o7 o8, J σ' aw an k D dD Bl las ls (bs ++ [⟨((4 : Nat) : Int), ss ++ late, br4⟩]) S → Ac [some (.ref aw), some (.ref D), some (.lst (las.map .ref)), some (.int f), some (.int ((4 : Nat) : Int)), o5, o6, o7, o8] σ') :
    WSs X (n + 5) restB [some (.ref aw), some (.ref D), some (.lst (las.map .ref)), some (.int f), some (.int ((4 : Nat) : Int)), some (.ref hb), some (.ref A), some (.lst (regs.map .int)), o8] σ (Kn Ac C R) := by
  have h2 := h.putE (jmp 4).v
  have a2 := a.putE h (.ns (blkFs ((4 : Nat) : Int) (.lst []) (jmp 4).v))
  unfold restB
  walk_at "mine"
  refine step_fz (n := n + 3) L ?_
  refine ⟨hb, .Block, dx, _, rfl, h.h, h.x, (by show 3 < 100; lia), ?_⟩
  have e0 : put (blkFs ((4 : Nat) : Int) (.lst []) .none) .end_ (jmp 4).v = blkFs ((4 : Nat) : Int) (.lst []) (jmp 4).v := rfl
  show WSs X (n + 5) _ _ (upd σ dx (.ns (blkFs ((4 : Nat) : Int) (.lst []) (jmp 4).v))) _
  generalize upd σ dx (.ns (blkFs ((4 : Nat) : Int) (.lst []) (jmp 4).v)) = σ1 at h2 a2 ⊢
  walk_at "mine"
  refine ⟨isL a2.a, ?_⟩
  walk_at "mine"
  refine step_fz (n := n + 3) L ?_
  refine ⟨A, _, rfl, a2.a, lt_lid (by rw [List.length_map]; lia), ?_⟩
  have e1 : ss.map Sp.v ++ [.obj .Step (stepFs (.str .add) (.int 2) (.lst [.tup [.str .r, .int 2], .tup [.str .k, .int 3]]) (.int 0))] = (ss ++ [late0]).map Sp.v := by rw [List.map_append]; rfl
  rw [e1]
  have h3 := h2.offA a2 (σ' := upd σ1 A (.lst ((ss ++ [late0]).map Sp.v))) fun b hb => upd_ne _ _ hb
  have a3 := a2.putA (ss' := ss ++ [late0]) (by simp; lia)
  generalize upd σ1 A (.lst ((ss ++ [late0]).map Sp.v)) = σ2 at h3 a3 ⊢
  walk_at "mine"
  refine ⟨isL a3.a, ?_⟩
  walk_at "mine"
  refine step_fz (n := n + 3) L ?_
  refine ⟨A, _, rfl, a3.a, lt_lid (by rw [List.length_map]; simp; lia), ?_⟩
  have e2 : (ss ++ [late0]).map Sp.v ++ [.obj .Step (stepFs (.str .shr) (.int 4) (.lst [.tup [.str .r, .int 4], .tup [.str .k, .int 1]]) (.int 0))] = (ss ++ late).map Sp.v := by
    rw [show ss ++ late = (ss ++ [late0]) ++ [late1] by simp [late]]
    exact (List.map_append (f := Sp.v) (l₁ := ss ++ [late0]) (l₂ := [late1])).symm
  rw [e2]
  have h4 := h3.offA a3 (σ' := upd σ2 A (.lst ((ss ++ late).map Sp.v))) fun b hb => upd_ne _ _ hb
  have a4 := a3.putA (ss' := ss ++ late) (by simp [late]; lia)
  generalize upd σ2 A (.lst ((ss ++ late).map Sp.v)) = σ3 at h4 a4 ⊢
  walk_at "mine"
  refine step_fz (n := n + 3) L ?_
  refine ⟨hb, .Block, dx, _, rfl, h4.h, h4.x, (by show 3 < 100; lia), ?_⟩
  have h5 := h4.putE br4.v
  have a5 := a4.putE h4 (.ns (blkFs ((4 : Nat) : Int) (.lst []) br4.v))
  have h6 : HH (drp (upd σ3 dx (.ns (blkFs ((4 : Nat) : Int) (.lst []) br4.v))) A) aw an k D dD Bl las ls bs S hb dx ((4 : Nat) : Int) br4.v := h5.offA a5 fun b hb => drp_ne _ hb
  walk_at "mine"
  refine ws_frz rfl (.lst a5.a) ?_
  exact fin_blk (e := br4) (ss := ss ++ late) h6 hz fun σ' o5 o6 j => q σ' o5 o6 _ _ j
theorem rest5 (L : Lib X) (h : HH σ aw an (k + 1) D dD Bl las ls bs S hb dx ((5 : Nat) : Int) .none) (a : AP σ aw an Bl las A ss) (hz : bs.length < 10) (hr : 0 < regs.length) (hr2 : regs.length < 1000)
    (q : ∀ x σ' o5 o6 o7 o8, x ∈ regs → J σ' aw an k D dD Bl las ls (bs ++ [⟨((5 : Nat) : Int), ss, giv x⟩]) S → Ac [some (.ref aw), some (.ref D), some (.lst (las.map .ref)), some (.int f), some (.int ((5 : Nat) : Int)), o5, o6, o7, o8] σ') :
    WSs X (n + 5) restB [some (.ref aw), some (.ref D), some (.lst (las.map .ref)), some (.int f), some (.int ((5 : Nat) : Int)), some (.ref hb), some (.ref A), some (.lst (regs.map .int)), o8] σ (Kn Ac C R) := by
  have h2 := h.putE (jmp 4).v
  have a2 := a.putE h (.ns (blkFs ((5 : Nat) : Int) (.lst []) (jmp 4).v))
  unfold restB
  walk_at "mine"
  refine step_fz (n := n + 3) L ?_
  refine ⟨hb, .Block, dx, _, rfl, h.h, h.x, (by show 3 < 100; lia), ?_⟩
  show WSs X (n + 5) _ _ (upd σ dx (.ns (blkFs ((5 : Nat) : Int) (.lst []) (jmp 4).v))) _
  generalize upd σ dx (.ns (blkFs ((5 : Nat) : Int) (.lst []) (jmp 4).v)) = σ1 at h2 a2 ⊢
  walk_at "mine"
  refine call_len L.bi (k := regs.length) lenV_ints (lt_lid (by lia)) ?_
  walk_at "mine"
  refine draw_ok (size := regs.length) (n := n + 4) (k := k) L.co L.bi L.draw h2.j.w (by lia) (by lia) fun r σ2 r0 r1 wa2 s2 => ?_
  obtain ⟨x, hx, e⟩ := idx_ints (σ := σ2) (c := .lst (regs.map .int)) (i := r) rfl (lt_lid (by lia)) r0 (by lia)
  refine och_of e ?_
  have h3 := h2.draw wa2 s2
  have a3 := a2.draw s2
  walk_at "mine"
  refine step_fz (n := n + 3) L ?_
  refine ⟨hb, .Block, dx, _, rfl, h3.h, h3.x, (by show 3 < 100; lia), ?_⟩
  have h5 := h3.putE (giv x).v
  have a5 := a3.putE h3 (.ns (blkFs ((5 : Nat) : Int) (.lst []) (giv x).v))
  have h6 : HH (drp (upd σ2 dx (.ns (blkFs ((5 : Nat) : Int) (.lst []) (giv x).v))) A) aw an k D dD Bl las ls bs S hb dx ((5 : Nat) : Int) (giv x).v := h5.offA a5 fun b hb => drp_ne _ hb
  walk_at "mine"
  refine ws_frz rfl (.lst a5.a) ?_
  exact fin_blk (e := giv x) (ss := ss) h6 hz fun σ' o5 o6 j => q x σ' o5 o6 _ _ hx j
theorem rest1 (L : Lib X) (h : HH σ aw an (k + 4) D dD Bl las ls bs S hb dx ((1 : Nat) : Int) .none) (a : AP σ aw an Bl las A ss) (hz : bs.length < 10) (hr : 0 < regs.length) (hr2 : regs.length < 1000) (hz2 : ss.length < 50)
    (q : ∀ w e σ' o5 o6 o7 o8, WayD regs f w e → J σ' aw an k D dD Bl las ls (bs ++ [⟨((1 : Nat) : Int), ss ++ w, e⟩]) S → Ac [some (.ref aw), some (.ref D), some (.lst (las.map .ref)), some (.int (f + 1)), some (.int ((1 : Nat) : Int)), o5, o6, o7, o8] σ') :
    WSs X (n + 5) restB [some (.ref aw), some (.ref D), some (.lst (las.map .ref)), some (.int f), some (.int ((1 : Nat) : Int)), some (.ref hb), some (.ref A), some (.lst (regs.map .int)), o8] σ (Kn Ac C R) := by
  have h2 := h.putE (jmp 4).v
  have a2 := a.putE h (.ns (blkFs ((1 : Nat) : Int) (.lst []) (jmp 4).v))
  unfold restB
  walk_at "mine"
  refine step_fz (n := n + 3) L ?_
  refine ⟨hb, .Block, dx, _, rfl, h.h, h.x, (by show 3 < 100; lia), ?_⟩
  show WSs X (n + 5) _ _ (upd σ dx (.ns (blkFs ((1 : Nat) : Int) (.lst []) (jmp 4).v))) _
  generalize upd σ dx (.ns (blkFs ((1 : Nat) : Int) (.lst []) (jmp 4).v)) = σ1 at h2 a2 ⊢
  walk_at "mine"
  refine way_ok (n := n + 2) L h2.j.w hr hr2 a2.a a2.n.2.1 a2.n.2.2.1 (by lia) fun w e σ2 hw wa2 hA s2 => ?_
  have hwl : w.length ≤ 1 := by (injection hw) <;> simp
  have dA : A ≠ dx ∧ A ≠ hb ∧ A ≠ D ∧ A ≠ dD := ⟨fun e => (by have := a2.a; rw [e, h2.x] at this; (injection this)), fun e => (by have := a2.a; rw [e, h2.h] at this; (injection this)), fun e => (by have := a2.a; rw [e, h2.j.o] at this; (injection this)), fun e => (by have := a2.a; rw [e, h2.j.d] at this; (injection this))⟩
  obtain ⟨⟨v1, w1⟩, ⟨v2, w2⟩⟩ := h2.j.w.lsts
  have h3 : HH σ2 aw an k D dD Bl las ls bs S hb dx ((1 : Nat) : Int) (jmp 4).v := by
    refine ⟨h2.j.keep wa2 fun b b1 b2 hb' => s2 b b1 b2 ?_, ?_, ?_, h2.nb⟩
    · rintro rfl
      rcases hb' with ⟨_, rfl | hb'⟩ | rfl | rfl
      · exact a2.n.2.2.2 rfl
      · exact a2.n.1 hb'
      · exact dA.2.2.1 rfl
      · exact dA.2.2.2 rfl
    · rw [s2 hb (fun e => by rw [← e, h2.h] at w1; (injection w1)) (fun e => by rw [← e, h2.h] at w2; (injection w2)) (Ne.symm dA.2.1)]; exact h2.h
    · rw [s2 dx (fun e => by rw [← e, h2.x] at w1; (injection w1)) (fun e => by rw [← e, h2.x] at w2; (injection w2)) (Ne.symm dA.1)]; exact h2.x
  have a3 : AP σ2 aw an Bl las A (ss ++ w) := ⟨hA, a2.n, by simp; lia⟩
  walk_at "mine"
  refine ⟨hb, .Block, dx, _, rfl, h3.h, h3.x, (by show 3 < 100; lia), ?_⟩
  have h5 := h3.putE e.v
  have a5 := a3.putE h3 (.ns (blkFs ((1 : Nat) : Int) (.lst []) e.v))
  have h6 : HH (drp (upd σ2 dx (.ns (blkFs ((1 : Nat) : Int) (.lst []) e.v))) A) aw an k D dD Bl las ls bs S hb dx ((1 : Nat) : Int) e.v := h5.offA a5 fun b hb => drp_ne _ hb
  walk_at "mine"
  refine ws_frz rfl (.lst a5.a) ?_
  exact fin_blk (e := e) (ss := ss ++ w) (f := f + 1) h6 hz fun σ' o5 o6 j => q w e σ' o5 o6 _ _ hw j
end
end
section
variable {X : Cx} {n : Nat}
inductive Drawn : List Blk → Prop
  | mk {n0 n1 n2 n3 n4 n5 : List Int} {s0 s1 s2 s3 s4 s5 w : List Sp} {e1 : Sp} {f1 f2 f3 f4 f5 f6 x : Int}
    (a0 : Acts (scopeOf [n0, n1, n2, n3, n4, n5] 0) 5 s0 (scopeOf [n0, n1, n2, n3, n4, n5] 0 ++ n0) f1) (l0 : s0.length = 2)
    (a1 : Acts (scopeOf [n0, n1, n2, n3, n4, n5] 1) f1 s1 (scopeOf [n0, n1, n2, n3, n4, n5] 1 ++ n1) f2) (l1 : s1.length = 3)
    (hw : WayD (scopeOf [n0, n1, n2, n3, n4, n5] 1 ++ n1) f2 w e1)
    (a2 : Acts (scopeOf [n0, n1, n2, n3, n4, n5] 2) (f2 + 1) s2 (scopeOf [n0, n1, n2, n3, n4, n5] 2 ++ n2) f3) (l2 : s2.length = 2)
    (a3 : Acts (scopeOf [n0, n1, n2, n3, n4, n5] 3) f3 s3 (scopeOf [n0, n1, n2, n3, n4, n5] 3 ++ n3) f4) (l3 : s3.length = 2)
    (a4 : Acts (scopeOf [n0, n1, n2, n3, n4, n5] 4) f4 s4 (scopeOf [n0, n1, n2, n3, n4, n5] 4 ++ n4) f5) (l4 : s4.length = 2)
    (a5 : Acts (scopeOf [n0, n1, n2, n3, n4, n5] 5) f5 s5 (scopeOf [n0, n1, n2, n3, n4, n5] 5 ++ n5) f6) (l5 : s5.length = 1)
    (hx : x ∈ scopeOf [n0, n1, n2, n3, n4, n5] 5 ++ n5) :
    Drawn [⟨((0 : Nat) : Int), ahead ++ s0, jmp 1⟩, ⟨((1 : Nat) : Int), s1 ++ w, e1⟩, ⟨((2 : Nat) : Int), s2, jmp 4⟩, ⟨((3 : Nat) : Int), s3, jmp 4⟩, ⟨((4 : Nat) : Int), s4 ++ late, br4⟩, ⟨((5 : Nat) : Int), s5, giv x⟩]
theorem six_new {σ : So} {ρ : Ro} {Q : V → So → Prop} (h : ∀ (las : List Addr) (σ' : So), las.length = 6 → las.Nodup → (∀ a ∈ las, σ a = none ∧ σ' a = some (.lst [])) → (∀ c, c ∉ las → σ' c = σ c) → Q (.lst (las.map .ref)) σ') :
    W X n (.lst false (.cons (.lst true .nil) (.cons (.lst true .nil) (.cons (.lst true .nil) (.cons (.lst true .nil) (.cons (.lst true .nil) (.cons (.lst true .nil) .nil))))))) ρ σ Q := by
  walk_at "mine"
  refine o_newT (by simp) fun A1 h1 => ?_
  walk_at "mine"
  refine o_newT (by simp) fun A2 h2 => ?_
  have d21 : A2 ≠ A1 := fun e => by rw [e, upd_self] at h2; (injection h2)
  rw [upd_ne _ _ d21] at h2
  walk_at "mine"
  refine o_newT (by simp) fun A3 h3 => ?_
  have d32 : A3 ≠ A2 := fun e => by rw [e, upd_self] at h3; (injection h3)
  rw [upd_ne _ _ d32] at h3
  have d31 : A3 ≠ A1 := fun e => by rw [e, upd_self] at h3; (injection h3)
  rw [upd_ne _ _ d31] at h3
  walk_at "mine"
  refine o_newT (by simp) fun A4 h4 => ?_
  have d43 : A4 ≠ A3 := fun e => by rw [e, upd_self] at h4; (injection h4)
  rw [upd_ne _ _ d43] at h4
  have d42 : A4 ≠ A2 := fun e => by rw [e, upd_self] at h4; (injection h4)
  rw [upd_ne _ _ d42] at h4
  have d41 : A4 ≠ A1 := fun e => by rw [e, upd_self] at h4; (injection h4)
  rw [upd_ne _ _ d41] at h4
  walk_at "mine"
  refine o_newT (by simp) fun A5 h5 => ?_
  have d54 : A5 ≠ A4 := fun e => by rw [e, upd_self] at h5; (injection h5)
  rw [upd_ne _ _ d54] at h5
  have d53 : A5 ≠ A3 := fun e => by rw [e, upd_self] at h5; (injection h5)
  rw [upd_ne _ _ d53] at h5
  have d52 : A5 ≠ A2 := fun e => by rw [e, upd_self] at h5; (injection h5)
  rw [upd_ne _ _ d52] at h5
  have d51 : A5 ≠ A1 := fun e => by rw [e, upd_self] at h5; (injection h5)
  rw [upd_ne _ _ d51] at h5
  walk_at "mine"
  refine o_newT (by simp) fun A6 h6 => ?_
  have d65 : A6 ≠ A5 := fun e => by rw [e, upd_self] at h6; (injection h6)
  rw [upd_ne _ _ d65] at h6
  have d64 : A6 ≠ A4 := fun e => by rw [e, upd_self] at h6; (injection h6)
  rw [upd_ne _ _ d64] at h6
  have d63 : A6 ≠ A3 := fun e => by rw [e, upd_self] at h6; (injection h6)
  rw [upd_ne _ _ d63] at h6
  have d62 : A6 ≠ A2 := fun e => by rw [e, upd_self] at h6; (injection h6)
  rw [upd_ne _ _ d62] at h6
  have d61 : A6 ≠ A1 := fun e => by rw [e, upd_self] at h6; (injection h6)
  rw [upd_ne _ _ d61] at h6
  walk_at "mine"
  refine h [A1, A2, A3, A4, A5, A6] _ rfl ?_ (fun a ha => ?_) fun c hc => ?_
  · simp only [List.nodup_cons, List.mem_cons, List.not_mem_nil, or_false, not_or, not_false_eq_true, List.nodup_nil, and_true]
    exact ⟨⟨Ne.symm d21, Ne.symm d31, Ne.symm d41, Ne.symm d51, Ne.symm d61⟩, ⟨Ne.symm d32, Ne.symm d42, Ne.symm d52, Ne.symm d62⟩, ⟨Ne.symm d43, Ne.symm d53, Ne.symm d63⟩, ⟨Ne.symm d54, Ne.symm d64⟩, Ne.symm d65⟩
  · simp only [List.mem_cons, List.not_mem_nil, or_false] at ha
    rcases ha with rfl | rfl | rfl | rfl | rfl | rfl
    · exact ⟨h1, by rw [upd_ne _ _ (Ne.symm d61), upd_ne _ _ (Ne.symm d51), upd_ne _ _ (Ne.symm d41), upd_ne _ _ (Ne.symm d31), upd_ne _ _ (Ne.symm d21), upd_self]⟩
    · exact ⟨h2, by rw [upd_ne _ _ (Ne.symm d62), upd_ne _ _ (Ne.symm d52), upd_ne _ _ (Ne.symm d42), upd_ne _ _ (Ne.symm d32), upd_self]⟩
    · exact ⟨h3, by rw [upd_ne _ _ (Ne.symm d63), upd_ne _ _ (Ne.symm d53), upd_ne _ _ (Ne.symm d43), upd_self]⟩
    · exact ⟨h4, by rw [upd_ne _ _ (Ne.symm d64), upd_ne _ _ (Ne.symm d54), upd_self]⟩
    · exact ⟨h5, by rw [upd_ne _ _ (Ne.symm d65), upd_self]⟩
    · exact ⟨h6, upd_self ..⟩
  · simp only [List.mem_cons, List.not_mem_nil, or_false, not_or] at hc
    obtain ⟨c1, c2, c3, c4, c5, c6⟩ := hc
    rw [upd_ne _ _ c6, upd_ne _ _ c5, upd_ne _ _ c4, upd_ne _ _ c3, upd_ne _ _ c2, upd_ne _ _ c1]
theorem ws_frzF {ρ : Ro} {σ σ' : So} {a c : Ro → So → Prop} {r : V → Ro → So → Prop} {i : Nat} {m : Nm} {l dx : Addr} {C : Cl} {fs : List (Nm × V)} {u u' : V} (e : (ρ[i]?).join = some (.ref l)) (h1 : σ l = some (.obj C dx)) (h2 : σ dx = some (.ns fs)) (h3 : look fs m = some u) (z : Frzs σ u u' σ') (h4 : σ' dx = some (.ns fs)) (h : a ρ (upd σ' dx (.ns (put fs m u')))) : WS X n (.frzF i m) ρ σ (Kn a c r) :=
  och_of e ⟨l, C, dx, fs, u, u', σ', rfl, h1, h2, h3, z, h4, h⟩
theorem func_ok {σ : So} {aw an : Addr} {k : Nat} {Q : V → So → Prop} (L : Lib X) (wa : WellAt σ aw an (k + 101)) (q : ∀ bs rg σ', Drawn bs → WellAt σ' aw an k → Q (drawnV bs rg) σ') : Call X (n + 6) .func [.ref aw] σ Q := by
  refine call_kn L.co L.func rfl ?_
  show WSs X (n + 5) ir_func [some (.ref aw), none, none, none, none, none, none, none, none] σ _
  obtain ⟨⟨v1, w1⟩, ⟨v2, w2⟩⟩ := wa.lsts
  unfold ir_func
  walk_at "mine"
  refine func_new (n := n + 3) L fun D dD Bl σ1 z1 z2 z3 d1 d2 d3 e1 e2 e3 s1 => ?_
  have ed : ∀ x, (σ x).isSome = true → x ≠ D ∧ x ≠ dD ∧ x ≠ Bl := fun x hx => ⟨fun e => (by rw [e, z1] at hx; (injection hx)), fun e => (by rw [e, z2] at hx; (injection hx)), fun e => (by rw [e, z3] at hx; (injection hx))⟩
  have eaw := ed aw (by rw [w1]; rfl)
  have ean := ed an (by rw [w2]; rfl)
  have wa1 : WellAt σ1 aw an (k + 101) := wa.off (s1 _ eaw.1 eaw.2.1 eaw.2.2) (s1 _ ean.1 ean.2.1 ean.2.2)
  walk_at "mine"
  refine ⟨D, .Func, dD, _, rfl, e1, e2, (by show 7 < 100; lia), ?_⟩
  walk_at "mine"
  refine ⟨D, .Func, dD, _, rfl, by rw [upd_ne _ _ d1]; exact e1, upd_self .., (by show 7 < 100; lia), ?_⟩
  rw [upd_same]
  generalize hσ : upd σ1 dD (.ns (put (put (funFs (.ref Bl) (.lst []) 0 false) .params (.lst [.int 0, .int 1])) .hasv (.bool true))) = σ2
  have o2 : σ2 D = some (.obj .Func dD) := by rw [← hσ, upd_ne _ _ d1]; exact e1
  have dd2 : σ2 dD = some (.ns (funFs (.ref Bl) (.lst [.int 0, .int 1]) 0 true)) := by rw [← hσ, upd_self]; rfl
  have b2 : σ2 Bl = some (.lst (([] : List Blk).map Blk.v)) := by rw [← hσ, upd_ne _ _ (Ne.symm d3)]; exact e3
  have wa2 : WellAt σ2 aw an (k + 101) := wa1.off (by rw [← hσ, upd_ne _ _ eaw.2.1]) (by rw [← hσ, upd_ne _ _ ean.2.1])
  walk_at "mine"
  refine six_new fun las σ3 l1 nd hl s3 => ?_
  walk_at "mine"
  refine och_of rfl (och_of rfl ?_)
  have live : ∀ c, (σ2 c).isSome = true → σ3 c = σ2 c ∧ c ∉ las := fun c hc => by
    have : c ∉ las := fun hm => by rw [(hl c hm).1] at hc; (injection hc)
    exact ⟨s3 c this, this⟩
  obtain ⟨⟨u1, y1⟩, ⟨u2, y2⟩⟩ := wa2.lsts
  have j0 : J σ3 aw an (k + 101) D dD Bl las [[], [], [], [], [], []] [] 0 := by
    refine ⟨wa2.off (live _ (by rw [y1]; rfl)).1 (live _ (by rw [y2]; rfl)).1, (live _ (by rw [o2]; rfl)).1.trans o2, (live _ (by rw [dd2]; rfl)).1.trans dd2, (live _ (by rw [b2]; rfl)).1.trans b2, ⟨l1, rfl, fun j a l ha hl' => ?_, fun a ha => ?_, nd, by decide⟩, ⟨(live _ (by rw [b2]; rfl)).2, Ne.symm eaw.2.2, Ne.symm ean.2.2⟩, by decide, by simp⟩
    · have : l = [] := by
        have := List.mem_of_getElem? hl'
        simpa using this
      subst this
      exact (hl a (List.mem_of_getElem? ha)).2
    · refine ⟨fun e => ?_, fun e => ?_⟩
      · have := (hl a ha).1; rw [e, y1] at this; (injection this)
      · have := (hl a ha).1; rw [e, y2] at this; (injection this)
  walk_at "mine"
  refine och_of (a := [.int ((0 : Nat) : Int), .int ((1 : Nat) : Int), .int ((2 : Nat) : Int), .int ((3 : Nat) : Int), .int ((4 : Nat) : Int), .int ((5 : Nat) : Int)]) (by rfl) ?_
  clear hσ
  -- block 0
  refine for_cons (och_of rfl ?_)
  refine start_blk (n := n) (i := 0) (many := 2) (k := k + 85) L (j0) (by lia) rfl (by lia) (by lia) rfl fun hb dx A s0 r0 f1 n0 σ4 a0 l0 e0 z0 z0' h4 p4 => ?_
  refine rest0 L h4 p4 (by simp) fun σ5 o5 o6 o7 o8 j5 => ?_
  -- block 1
  refine for_cons (och_of rfl ?_)
  refine start_blk (n := n) (i := 1) (many := 3) (k := k + 61) L j5 (by lia) rfl (by lia) (by lia) rfl fun hb dx A s1 r1 f2 n1 σ6 a1 l1 e1 z1 z1' h6 p6 => ?_
  refine rest1 (k := k + 57) L h6 p6 (by simp) z1' (by lia) (by lia) fun w e σ7 o5 o6 o7 o8 hw j7 => ?_
  -- block 2
  refine for_cons (och_of rfl ?_)
  refine start_blk (n := n) (i := 2) (many := 2) (k := k + 41) L j7 (by lia) rfl (by lia) (by lia) rfl fun hb dx A s2 r2 f3 n2 σ8 a2 l2 e2 z2 z2' h8 p8 => ?_
  refine rest23 (.inl rfl) L h8 p8 (by simp) fun σ9 o5 o6 o7 o8 j9 => ?_
  -- block 3
  refine for_cons (och_of rfl ?_)
  refine start_blk (n := n) (i := 3) (many := 2) (k := k + 25) L j9 (by lia) rfl (by lia) (by lia) rfl fun hb dx A s3 r3 f4 n3 σ10 a3 l3 e3 z3 z3' h10 p10 => ?_
  refine rest23 (.inr rfl) L h10 p10 (by simp) fun σ11 o5 o6 o7 o8 j11 => ?_
  -- block 4
  refine for_cons (och_of rfl ?_)
  refine start_blk (n := n) (i := 4) (many := 2) (k := k + 9) L j11 (by lia) rfl (by lia) (by lia) rfl fun hb dx A s4 r4 f5 n4 σ12 a4 l4 e4 z4 z4' h12 p12 => ?_
  refine rest4 L h12 p12 (by simp) (by lia) fun σ13 o5 o6 o7 o8 j13 => ?_
  -- block 5
  refine for_cons (och_of rfl ?_)
  refine start_blk (n := n) (i := 5) (many := 1) (k := k + 1) L j13 (by lia) rfl (by lia) (by lia) rfl fun hb dx A s5 r5 f6 n5 σ14 a5 l5 e5 z5 z5' h14 p14 => ?_
  refine rest5 (k := k) L h14 p14 (by simp) z5' (by lia) fun x σ15 o5 o6 o7 o8 hx j15 => ?_
  refine for_nil ?_
  walk_at "mine"
  refine ⟨D, .Func, dD, _, rfl, j15.o, j15.d, (by show 7 < 100; lia), ?_⟩
  have e6 : put (funFs (.ref Bl) (.lst [.int 0, .int 1]) 0 true) .registers (.int f6) = funFs (.ref Bl) (.lst [.int 0, .int 1]) f6 true := rfl
  rw [e6]
  walk_at "mine"
  have dBD : Bl ≠ D ∧ Bl ≠ dD := ⟨fun e => (by have := j15.b; rw [e, j15.o] at this; (injection this)), fun e => (by have := j15.b; rw [e, j15.d] at this; (injection this))⟩
  refine ws_frzF (u := .ref Bl) rfl (by rw [upd_ne _ _ d1]; exact j15.o) (upd_self ..) rfl (.lst (by rw [upd_ne _ _ dBD.2]; exact j15.b)) (by rw [drp_ne _ (Ne.symm dBD.2)]; exact upd_self ..) ?_
  walk_at "mine"
  refine ws_frz rfl (.obj (by rw [upd_ne _ _ d1, drp_ne _ (Ne.symm dBD.1), upd_ne _ _ d1]; exact j15.o) (upd_self ..)) ?_
  walk_at "mine"
  obtain ⟨⟨t1, x1⟩, ⟨t2, x2⟩⟩ := j15.w.lsts
  have fin : ∀ c, c ≠ D → c ≠ dD → c ≠ Bl → ∀ m m' : M, drp (drp (upd (drp (upd σ15 dD m) Bl) dD m') D) dD c = σ15 c := fun c c1 c2 c3 m m' => by
    rw [drp_ne _ c2, drp_ne _ c1, upd_ne _ _ c2, drp_ne _ c3, upd_ne _ _ c2]
  subst e0 e1 e2 e3 e4 e5
  refine q _ f6 _ (.mk (n0 := n0) (n1 := n1) (n2 := n2) (n3 := n3) (n4 := n4) (n5 := n5) a0 l0 a1 l1 hw a2 l2 a3 l3 a4 l4 a5 l5 hx) (j15.w.off (fin _ ?_ ?_ ?_ _ _) (fin _ ?_ ?_ ?_ _ _))
  · intro e; rw [e, j15.o] at x1; (injection x1)
  · intro e; rw [e, j15.d] at x1; (injection x1)
  · exact Ne.symm j15.n.2.1
  · intro e; rw [e, j15.o] at x2; (injection x2)
  · intro e; rw [e, j15.d] at x2; (injection x2)
  · exact Ne.symm j15.n.2.2
end
section
variable {X : Cx} {n : Nat}
noncomputable def rowsN (bs : List Blk) (b1 b4 : Blk) (i : Nat) : List (List Rw) := match bs[i]? with
  | some b => rowAt (lastingF bs) b1 b4 i b
  | none => []
inductive PlainOk (bs : List Blk) : Prop
  | mk (b0 b1 b2 b3 b4 b5 : Blk) (f1 : List Int) (S : Six bs b0 b1 b2 b3 b4 b5 f1) (p1 : ∀ b ∈ bs, ∀ s ∈ b.steps, StepOk s) (p2 : ∀ b ∈ bs, ∀ s ∈ b.steps ++ [b.end_], okV s.more 5 = true ∧ s.args.length < 100) (p3 : stepsN bs < 100)
    (p4 : ∀ (i : Nat) b, bs[i]? = some b → ∀ r ∈ rowAt (lastingF bs) b1 b4 i b, ∀ w ∈ r, NumOk (numOf bs) w) (p5 : ∀ p q, In32 p → In32 q → lapsOk bs (rowsN bs b1 b4) 16 0 [(0, p), (1, q)])
theorem law_ok {σ : So} {ns : List Int} {Q : V → So → Prop} (L : Lib X) (plain : ∀ bs, Drawn bs → PlainOk bs) (hn : ns.length < 100) (q : ∀ σ', Q (.bool true) σ') : Call X (n + 7) .law [.lst (ns.map .int)] σ Q := by
  refine call_kn L.co L.law rfl ?_
  show WSs X (n + 6) ir_law [some (.lst (ns.map .int)), none, none, none, none, none] σ _
  unfold ir_law
  walk_at "mine"
  refine och_of rfl ⟨by rw [List.length_map]; unfold sizeLine; lia, ?_⟩
  refine o_newF (by simp; lia) ?_
  rw [← List.map_take]
  refine och_of rfl ⟨lt_lid (by simp; lia), ?_⟩
  refine comp_map (g := fun i => .int (i % 2147483647)) (fun i hi k hk => ?_) ?_
  · refine och_of (a := [some (.int i)]) rfl ?_
    dsimp only
    walk_at "mine"
    exact hk
  rw [List.nil_append, show (ns.take 24).map (fun i => V.int (i % 2147483647)) = ((ns.take 24).map (· % 2147483647)).map .int by rw [List.map_map]; rfl]
  have hms : ∀ x ∈ (ns.take 24).map (· % 2147483647), 0 ≤ x ∧ x < 2147483647 := fun x hx => by
    obtain ⟨y, _, rfl⟩ := List.mem_map.mp hx
    exact ⟨Int.emod_nonneg _ (by decide), Int.emod_lt_of_pos _ (by decide)⟩
  have hml : ((ns.take 24).map (· % 2147483647)).length ≤ 24 := by simp; lia
  generalize (ns.take 24).map (· % 2147483647) = ms at hms hml ⊢
  refine o_newT (by rw [List.length_map]; lia) fun an h1 => ?_
  walk_at "mine"
  refine o_newT (by simp) fun aw h2 => ?_
  have ne : aw ≠ an := fun e => by rw [e, upd_self] at h2; (injection h2)
  have wa : WellAt (upd (upd σ an (.lst (ms.map .int))) aw (.lst [.ref an, .int 0])) aw an 106 := by
    refine ⟨ms, 0, upd_self .., by rw [upd_ne _ _ (Ne.symm ne), upd_self], by lia, lt_lid (by lia), hms, Ne.symm ne⟩
  generalize upd (upd σ an (.lst (ms.map .int))) aw (.lst [.ref an, .int 0]) = σ1 at wa ⊢
  walk_at "mine"
  refine func_ok (n := n) (k := 5) L wa fun bs rg σ2 hd wa2 => ?_
  obtain ⟨b0, b1, b2, b3, b4, b5, f1, S, p1, p2, p3, p4, p5⟩ := plain bs hd
  have hbl : bs.length = 6 := by rw [S.bs]; rfl
  have hsl : ∀ b ∈ bs, b.steps.length < 1000 := fun b hb => by
    have : b.steps.length ≤ stepsN bs := le_sum (List.mem_map.mpr ⟨b, hb, rfl⟩)
    lia
  have hshown : ∀ {m : Nat} {σ' : So} {Q' : V → So → Prop}, Q' (shownV bs) σ' → Call X (m + 1) .shown [drawnV bs rg] σ' Q' := fun h => shown_ok L (by lia) (fun b hb => ⟨hsl b hb, fun s hs => by have := (p2 b hb s hs).2; lia⟩) h
  walk_at "mine"
  refine hshown ?_
  walk_at "mine"
  refine allSaid_ok (n := n + 1) L S p1 p3 fun σ3 fd r1 r2 r3 s3 => ?_
  obtain ⟨⟨v1, w1⟩, ⟨v2, w2⟩⟩ := wa2.lsts
  have wa3 : WellAt σ3 aw an 5 := wa2.off (s3 _ (by rw [w1]; rfl)) (s3 _ (by rw [w2]; rfl))
  have hf : ∀ (i : Nat) b, bs[i]? = some b → lk fd i = some (rowsN bs b1 b4 i) := fun i b hb => by rw [r2 i b hb]; unfold rowsN; rw [hb]
  walk_at "mine"
  refine hshown ?_
  walk_at "mine"
  refine och_of (ne_self (shown_plain fun b hb s hs => (p2 b hb s hs).1)) ?_
  walk_at "mine"
  refine draw_ok (size := 4) (n := n + 5) (k := 4) L.co L.bi L.draw wa3 (by decide) (by decide) fun x1 σ4 x10 x11 wa4 ι => ?_
  walk_at "mine"
  refine draw_ok (size := 300) (n := n + 5) (k := 3) L.co L.bi L.draw wa4 (by decide) (by decide) fun x2 σ5 x20 x21 wa5 ι => ?_
  walk_at "mine"
  refine draw_ok (size := 2) (n := n + 5) (k := 2) L.co L.bi L.draw wa5 (by decide) (by decide) fun x3 σ6 x30 x31 wa6 ι => ?_
  walk_at "mine"
  refine draw_ok (size := 3) (n := n + 5) (k := 1) L.co L.bi L.draw wa6 (by decide) (by decide) fun x4 σ7 x40 x41 wa7 ι => ?_
  walk_at "mine"
  refine numbersKnown_ok (n := n + 5) L p1 p3 r3 (fun p hp r hr w hw => ?_) fun σ8 ι => ?_
  · obtain ⟨b, c0, c1, c2⟩ := r1 p hp
    refine p4 p.1.toNat b c1 r ?_ w hw
    rw [Int.toNat_of_nonneg c0, ← c2]; exact hr
  walk_at "mine"
  refine och_of rfl ⟨lt_lid (by simp), ?_⟩
  unfold compL
  refine och_of (a := [some (.tup [.int x1, .int x2]), some (.dI (mapD rowsV fd)), some (drawnV bs rg)]) rfl ?_
  dsimp only
  walk_at "mine"
  refine walk_ok (n := n) L (by lia) hf (p5 x1 x2 ⟨by lia, by lia⟩ ⟨by lia, by lia⟩) fun σ9 ι => ?_
  unfold compL
  refine och_of (a := [some (.tup [.int (4294967295 - x3), .int x4]), some (.dI (mapD rowsV fd)), some (drawnV bs rg)]) rfl ?_
  dsimp only
  walk_at "mine"
  refine walk_ok (n := n) L (by lia) hf (p5 (4294967295 - x3) x4 ⟨by lia, by lia⟩ ⟨by lia, by lia⟩) fun σ10 ι => ?_
  refine comp_nil ?_
  refine o_newF (by simp) ?_
  walk_at "mine"
  refine call_all L.bi (bs := [true, true]) rfl ?_
  exact q σ10
end
noncomputable def allS (bs : List Blk) : List Sp := bs.flatMap (·.steps)
theorem fold_blk {α : Type} (g : α → Sp → α) : ∀ (bs : List Blk) (p : α), bs.foldl (fun p b => b.steps.foldl g p) p = (allS bs).foldl g p
  | [], _ => rfl
  | b :: bs, p => by
    rw [List.foldl_cons, fold_blk g bs, allS, allS, List.flatMap_cons, List.foldl_append]
noncomputable def cnt (l : List Sp) (y : Int) : Nat := (l.filter fun s => decide (s.dst = y)).length
theorem cnt_snoc (l : List Sp) (s : Sp) (y : Int) : cnt (l ++ [s]) y = cnt l y + if s.dst = y then 1 else 0 := by
  unfold cnt
  rw [List.filter_append, List.length_append]
  congr 1
  by_cases q : s.dst = y <;> simp [q]
theorem cnt_pos {l : List Sp} {s : Sp} (h : s ∈ l) : 1 ≤ cnt l s.dst := by
  unfold cnt
  exact List.length_pos_of_mem (List.mem_filter.mpr ⟨h, by simp⟩)
set_option tactic.hygienic true in
theorem pt_new {α : Type} : ∀ {l : List (Int × α)} {i : Int} {a : α}, lk l i = none → pt l i a = l ++ [(i, a)]
  | [], _, _, _ => rfl
  | (k, u) :: r, i, a, h => by
    rw [lk] at h
    split at h
    · (injection h)
    · rename_i q
      rw [pt, if_neg q, pt_new h]; rfl
structure FMI (l : List Sp) (p : FM) : Prop where
  i1 : ∀ y s, lk p.1 y = some (some s) → s ∈ l ∧ s.dst = y ∧ 0 ≤ y
  i2 : ∀ t ∈ l, 0 ≤ t.dst → (lk p.1 t.dst).isSome = true
  i3 : ∀ y s t, lk p.1 y = some (some s) → lk p.2 y = none → t ∈ l → t.dst = y → t = s
  i5 : ∀ y, lk p.1 y = some none → y = 0 ∨ y = 1
  i6 : ∀ q ∈ p.1, lk p.1 q.1 = some q.2
  i7 : ∀ y, (lk p.2 y).isSome = true → lk p.1 y = some none ∨ 2 ≤ cnt l y
  i9 : ∀ y, 0 ≤ y → 2 ≤ cnt l y → (lk p.2 y).isSome = true
theorem FMI.init : FMI [] ([(0, none), (1, none)], []) := by
  refine ⟨fun y s h => ?_, fun t h => (nomatch h), fun y s t ι ι h => (nomatch h), fun y h => ?_, fun q hq => ?_, fun y h => (nomatch h), fun y ι h => by simp [cnt] at h⟩
  · have := lk_mem h
    simp at this
  · have := lk_mem h
    simp only [List.mem_cons, Prod.mk.injEq, and_true, List.not_mem_nil, or_false] at this
    exact this
  · simp only [List.mem_cons, List.not_mem_nil, or_false] at hq
    rcases hq with rfl | rfl <;> rfl
set_option tactic.hygienic true in
theorem FMI.step {l : List Sp} {p : FM} (h : FMI l p) (s : Sp) : FMI (l ++ [s]) (fmStep p s) := by
  have mem : ∀ t, t ∈ l ++ [s] → t ∈ l ∨ t = s := fun t ht => (List.mem_append.mp ht).imp id List.mem_singleton.mp
  unfold fmStep
  by_cases q : (lk p.1 s.dst).isSome = true
  · rw [if_pos q]
    refine ⟨fun y u e => ?_, fun t ht h0 => ?_, fun y u t e e2 ht hd => ?_, h.i5, h.i6, fun y e => ?_, fun y y0 e => ?_⟩
    · obtain ⟨a, b, c⟩ := h.i1 y u e
      exact ⟨List.mem_append.mpr (.inl a), b, c⟩
    · rcases mem t ht with ht | rfl
      · exact h.i2 t ht h0
      · exact q
    · dsimp only at e e2
      rw [lk_pt] at e2
      split at e2
      · (injection e2)
      · rename_i ne
        rcases mem t ht with ht | rfl
        · exact h.i3 y u t e e2 ht hd
        · exact absurd hd ne
    · dsimp only at e ⊢
      rw [lk_pt] at e
      rw [cnt_snoc]
      by_cases ye : s.dst = y
      · rw [if_pos ye]
        rw [← ye] at e ⊢
        obtain ⟨os, ho⟩ := Option.isSome_iff_exists.mp q
        cases os with
        | none => exact .inl ho
        | some u =>
          obtain ⟨a, b, _⟩ := h.i1 _ u ho
          have := cnt_pos a
          rw [b] at this
          exact .inr (by lia)
      · rw [if_neg ye] at e ⊢
        exact (h.i7 y e).imp id fun h => by lia
    · dsimp only
      rw [cnt_snoc] at e
      rw [lk_pt]
      split
      · rfl
      · rename_i ye
        rw [if_neg ye] at e
        exact h.i9 y y0 (by lia)
  · rw [if_neg q]
    have qn : lk p.1 s.dst = none := by
      cases e : lk p.1 s.dst with
      | none => rfl
      | some v => rw [e] at q; exact absurd rfl q
    by_cases hd : s.dst ≥ 0
    · rw [if_pos hd]
      refine ⟨fun y u e => ?_, fun t ht h0 => ?_, fun y u t e e2 ht hdy => ?_, fun y e => ?_, fun r hr => ?_, fun y e => ?_, fun y y0 e => ?_⟩
      · dsimp only at e
        rw [lk_pt] at e
        split at e
        · rename_i ye
          (injection e)
          exact ⟨List.mem_append.mpr (.inr (by simp)), ye, by lia⟩
        · obtain ⟨a, b, c⟩ := h.i1 y u e
          exact ⟨List.mem_append.mpr (.inl a), b, c⟩
      · dsimp only
        rw [lk_pt]
        split
        · rfl
        · rename_i ne
          rcases mem t ht with ht | rfl
          · exact h.i2 t ht h0
          · exact absurd rfl ne
      · dsimp only at e e2
        rw [lk_pt] at e
        split at e
        · rename_i ye
          (injection e)
          rcases mem t ht with ht | rfl
          · have := h.i2 t ht (by lia)
            rw [hdy, ← ye, qn] at this; (injection this)
          · rfl
        · rename_i ne
          rcases mem t ht with ht | rfl
          · exact h.i3 y u t e e2 ht hdy
          · exact absurd hdy ne
      · dsimp only at e
        rw [lk_pt] at e
        split at e
        · (injection e)
        · exact h.i5 y e
      · dsimp only at hr ⊢
        rw [lk_pt]
        rw [pt_new qn] at hr
        rcases List.mem_append.mp hr with hr | hr
        · have := h.i6 r hr
          split
          · rename_i ye
            rw [← ye, qn] at this; (injection this)
          · exact this
        · rw [List.mem_singleton.mp hr, if_pos rfl]
      · dsimp only at e ⊢
        rw [lk_pt, cnt_snoc]
        rcases h.i7 y e with h7 | h7
        · split
          · rename_i ye
            rw [← ye, qn] at h7; (injection h7)
          · exact .inl h7
        · exact .inr (by lia)
      · rw [cnt_snoc] at e
        by_cases ye : s.dst = y
        · have : cnt l y = 0 := by
            cases hc : cnt l y with
            | zero => rfl
            | succ k =>
              unfold cnt at hc
              obtain ⟨t, ht⟩ := List.exists_mem_of_length_pos (l := l.filter fun s => decide (s.dst = y)) (by lia)
              obtain ⟨h1, h2⟩ := List.mem_filter.mp ht
              have h2 : t.dst = y := of_decide_eq_true h2
              have := h.i2 t h1 (by lia)
              rw [h2, ← ye, qn] at this; (injection this)
          rw [if_pos ye] at e
          lia
        · rw [if_neg ye] at e
          exact h.i9 y y0 (by lia)
    · rw [if_neg hd]
      refine ⟨fun y u e => ?_, fun t ht h0 => ?_, fun y u t e e2 ht hd' => ?_, h.i5, h.i6, fun y e => ?_, fun y y0 e => ?_⟩
      · obtain ⟨a, b, c⟩ := h.i1 y u e
        exact ⟨List.mem_append.mpr (.inl a), b, c⟩
      · rcases mem t ht with ht | rfl
        · exact h.i2 t ht h0
        · exact absurd h0 hd
      · rcases mem t ht with ht | rfl
        · exact h.i3 y u t e e2 ht hd'
        · have := (h.i1 y u e).2.2; lia
      · rw [cnt_snoc]
        exact (h.i7 y e).imp id fun h => by lia
      · rw [cnt_snoc, if_neg (by lia)] at e
        exact h.i9 y y0 e
theorem FMI.fold : ∀ (xs : List Sp) {l : List Sp} {p : FM}, FMI l p → FMI (l ++ xs) (xs.foldl fmStep p)
  | [], l, p, h => by simpa using h
  | s :: xs, l, p, h => by
    have := FMI.fold xs (h.step s)
    rw [List.append_assoc] at this
    exact this
theorem fmOf_inv (bs : List Blk) : FMI (allS bs) (fmOf bs) := by
  have := FMI.fold (allS bs) FMI.init
  unfold fmOf fmBs
  rw [fold_blk]
  simpa using this
structure Base (p : FM) (y : Int) (s : Sp) : Prop where
  f : lk p.1 y = some (some s)
  m : lk p.2 y = none
  sh : s.op ∈ shaped
  ar : areLF p.1 p.2 s.args = true
theorem Base.arg {p : FM} {y : Int} {s : Sp} (b : Base p y s) {x : Int} (h : Opd.r x ∈ s.args) : lk p.2 x = none := by
  have := List.all_eq_true.mp b.ar _ h
  dsimp only at this
  cases e : lk p.2 x with
  | none => rfl
  | some v => rw [e] at this; simp at this
noncomputable def Tell (p : FM) (y : Int) (o : Opd) : Prop := ∃ s r, Base p y s ∧ s.op ∈ telling ∧ s.args = o :: r
inductive Reach (p : FM) : Int → Opd → Prop
  | base {y : Int} {o : Opd} : Tell p y o → Reach p y o
  | trans {y x : Int} {o : Opd} : Reach p y (.r x) → Reach p x o → Reach p y o
structure OSI (p : FM) (done : List (Int × Option Sp)) (q : OS) : Prop where
  o1 : ∀ y o, lk q.1 y = some o → Tell p y o
  o2 : ∀ y sh, lk q.2 y = some sh → ∃ s, Base p y s ∧ sh = s.shp
  o3 : ∀ y s o r, (y, some s) ∈ done → Base p y s → s.op ∈ telling → s.args = o :: r → o ≠ .r y → lk q.1 y = some o
set_option tactic.hygienic true in
theorem OSI.step {p : FM} {done : List (Int × Option Sp)} {q : OS} (h : OSI p done q) (r : Int × Option Sp) (hr : lk p.1 r.1 = some r.2) : OSI p (done ++ [r]) (lastStep p.1 p.2 q r) := by
  obtain ⟨x, os⟩ := r
  dsimp only at hr
  have mem : ∀ t, t ∈ done ++ [(x, os)] → t ∈ done ∨ t = (x, os) := fun t ht => (List.mem_append.mp ht).imp id List.mem_singleton.mp
  have same : (∀ s o r, os = some s → Base p x s → s.op ∈ telling → s.args = o :: r → o ≠ .r x → False) → OSI p (done ++ [(x, os)]) q := fun no =>
    ⟨h.o1, h.o2, fun y s o r hm hb ht ha hn => by
      rcases mem _ hm with hm | e
      · exact h.o3 y s o r hm hb ht ha hn
      · (injection e); exact (no s o r rfl hb ht ha hn).elim⟩
  unfold lastStep
  cases os with
  | none => exact same fun s o r e => nomatch e
  | some s =>
    dsimp only
    by_cases c1 : (lk p.2 x).isSome = true ∨ s.op ∉ shaped
    · rw [if_pos c1]
      refine same fun s' o r e hb ht ha hn => ?_
      (injection e)
      rcases c1 with c1 | c1
      · rw [hb.m] at c1; (injection c1)
      · exact c1 hb.sh
    · rw [if_neg c1]
      rw [not_or, Classical.not_not] at c1
      have c1m : lk p.2 x = none := by
        cases e : lk p.2 x with
        | none => rfl
        | some v => rw [e] at c1; exact absurd rfl c1.1
      by_cases c2 : areLF p.1 p.2 s.args = true
      · rw [if_pos c2]
        have hb : Base p x s := ⟨hr, c1m, c1.2, c2⟩
        by_cases c3 : s.op ∈ telling
        · rw [if_pos c3]
          cases e : s.args with
          | nil =>
            dsimp only
            refine same fun s' o r e2 hb ht ha hn => ?_
            (injection e2)
            rw [e] at ha; (injection ha)
          | cons o r =>
            dsimp only
            by_cases c4 : o = .r x
            · rw [if_pos c4]
              refine same fun s' o' r e2 hb ht ha hn => ?_
              (injection e2)
              rw [e] at ha; (injection ha)
              exact hn c4
            · rw [if_neg c4]
              refine ⟨fun y o' hy => ?_, h.o2, fun y s' o' r' hm hb' ht ha hn => ?_⟩
              · dsimp only at hy
                rw [lk_pt] at hy
                split at hy
                · rename_i ye; (injection hy); subst ye; exact ⟨s, r, hb, c3, e⟩
                · exact h.o1 y o' hy
              · dsimp only
                rw [lk_pt]
                split
                · rename_i ye
                  subst ye
                  have := hb'.f
                  rw [hr] at this; (injection this)
                  rw [e] at ha; (injection ha); rfl
                · rename_i ye
                  rcases mem _ hm with hm | e2
                  · exact h.o3 y s' o' r' hm hb' ht ha hn
                  · (injection e2); exact absurd rfl ye
        · rw [if_neg c3]
          refine ⟨h.o1, fun y sh hy => ?_, fun y s' o' r' hm hb' ht ha hn => ?_⟩
          · dsimp only at hy
            rw [lk_pt] at hy
            split at hy
            · rename_i ye; (injection hy); subst ye; exact ⟨s, hb, rfl⟩
            · exact h.o2 y sh hy
          · rcases mem _ hm with hm | e2
            · exact h.o3 y s' o' r' hm hb' ht ha hn
            · (injection e2); exact absurd ht c3
      · rw [if_neg c2]
        refine same fun s' o r e hb ht ha hn => ?_
        (injection e)
        exact c2 hb.ar
theorem OSI.fold {p : FM} : ∀ (xs : List (Int × Option Sp)) {done : List (Int × Option Sp)} {q : OS}, (∀ r ∈ xs, lk p.1 r.1 = some r.2) → OSI p done q → OSI p (done ++ xs) (xs.foldl (lastStep p.1 p.2) q)
  | [], done, q, _, h => by simpa using h
  | r :: xs, done, q, hx, h => by
    have := OSI.fold xs (fun t ht => hx t (.tail _ ht)) (h.step r (hx r (.head _)))
    rw [List.append_assoc] at this
    exact this
theorem osOf_inv (bs : List Blk) : OSI (fmOf bs) (fmOf bs).1 (osOf bs) := by
  have h := fmOf_inv bs
  have := OSI.fold (p := fmOf bs) (fmOf bs).1 (done := []) (q := ([], [])) h.i6 ⟨fun ι ι e => (nomatch e), fun ι ι e => (nomatch e), fun ι ι ι ι e => nomatch e⟩
  rw [List.nil_append] at this
  exact this
structure OpI (p : FM) (ops0 ops : List (Int × Opd)) : Prop where
  r : ∀ y o, lk ops y = some o → Reach p y o
  k : ∀ y v, lk ops0 y = some (.k v) → lk ops y = some (.k v)
theorem endF_reach {p : FM} {ops : List (Int × Opd)} (h : ∀ y o, lk ops y = some o → Reach p y o) {y : Int} : ∀ (n : Nat) (o : Opd), Reach p y o → Reach p y (endF ops n o)
  | 0, o, r => r
  | n + 1, .k v, r => r
  | n + 1, .r x, r => by
    rw [endF]
    cases e : lk ops x with
    | none => exact r
    | some o => exact endF_reach h n o (.trans r (h x o e))
set_option tactic.hygienic true in
theorem OpI.step {p : FM} {ops0 ops : List (Int × Opd)} (h : OpI p ops0 ops) (x : Int) : OpI p ops0 (endStep ops x) := by
  unfold endStep
  split
  · rename_i y e
    refine ⟨fun z o hz => ?_, fun z v hz => ?_⟩
    · rw [lk_pt] at hz
      split at hz
      · rename_i ze; (injection hz); subst ze
        exact endF_reach h.r _ _ (h.r _ _ e)
      · exact h.r z o hz
    · rw [lk_pt]
      split
      · rename_i ze; subst ze
        have := h.k _ v hz
        rw [e] at this; (injection this)
      · exact h.k z v hz
  · exact h
theorem OpI.fold {p : FM} {ops0 : List (Int × Opd)} : ∀ (xs : List Int) {ops : List (Int × Opd)}, OpI p ops0 ops → OpI p ops0 (xs.foldl endStep ops)
  | [], _, h => h
  | x :: xs, ops, h => OpI.fold xs (h.step x)
theorem lasting_reach (bs : List Blk) : ∀ y o, lk (lastingF bs).ops y = some o → Reach (fmOf bs) y o :=
  (OpI.fold (List.map (fun q : Int × Opd => q.1) (osOf bs).1) (p := fmOf bs) (ops0 := (osOf bs).1) ⟨fun y o e => .base ((osOf_inv bs).o1 y o e), fun ι ι e => e⟩).r
theorem lasting_k (bs : List Blk) : ∀ y v, lk (osOf bs).1 y = some (.k v) → lk (lastingF bs).ops y = some (.k v) :=
  (OpI.fold (List.map (fun q : Int × Opd => q.1) (osOf bs).1) (p := fmOf bs) (ops0 := (osOf bs).1) ⟨fun y o e => .base ((osOf_inv bs).o1 y o e), fun ι ι e => e⟩).k
theorem lasting_shs (bs : List Blk) : ∀ y sh, lk (lastingF bs).shs y = some sh → ∃ s, Base (fmOf bs) y s ∧ sh = s.shp := (osOf_inv bs).o2
structure NI (l : List Sp) (p : ON) : Prop where
  n1 : ∀ y, lk p.1 y = (if y = 0 ∨ y = 1 then some (1 + (cnt l y : Int)) else if cnt l y = 0 then none else some (cnt l y : Int))
  n2 : ∀ y o, lk p.2 y = some o → ∃ s v r, s ∈ l ∧ s.dst = y ∧ (s.op = .copy ∨ s.op = .const) ∧ o = .k v ∧ s.args = .k v :: r
theorem NI.init : NI [] ([(0, 1), (1, 1)], []) := by
  refine ⟨fun y => ?_, fun y o e => nomatch e⟩
  simp only [lk, cnt, List.filter_nil, List.length_nil]
  by_cases h0 : 0 = y
  · subst h0; rfl
  · by_cases h1 : 1 = y
    · subst h1; rfl
    · rw [if_neg h0, if_neg h1, if_neg (by lia)]; rfl
set_option tactic.hygienic true in
theorem NI.step {l : List Sp} {p : ON} (h : NI l p) (s : Sp) : NI (l ++ [s]) (numStep p s) := by
  refine ⟨fun y => ?_, fun y o e => ?_⟩
  · unfold numStep
    dsimp only
    rw [lk_pt, cnt_snoc, h.n1 s.dst]
    by_cases q : s.dst = y
    · rw [if_pos q, if_pos q, q]
      by_cases c : y = 0 ∨ y = 1
      · rw [if_pos c, if_pos c]
        simp only [Option.getD_some, Option.some.injEq]; lia
      · rw [if_neg c, if_neg c, if_neg (Nat.succ_ne_zero _)]
        by_cases z : cnt l y = 0
        · rw [if_pos z, z]; rfl
        · rw [if_neg z]
          simp only [Option.getD_some, Option.some.injEq]; lia
    · rw [if_neg q, if_neg q, h.n1 y]; rfl
  · have old : lk p.2 y = some o → ∃ u v r, u ∈ l ++ [s] ∧ u.dst = y ∧ (u.op = .copy ∨ u.op = .const) ∧ o = .k v ∧ u.args = .k v :: r := fun e => by
      obtain ⟨u, v, r, a, b⟩ := h.n2 y o e
      exact ⟨u, v, r, List.mem_append.mpr (.inl a), b⟩
    unfold numStep at e
    dsimp only at e
    split at e
    · rename_i v r ea
      split at e
      · rename_i c
        rw [lk_pt] at e
        split at e
        · rename_i ye
          (injection e)
          exact ⟨s, v, r, List.mem_append.mpr (.inr (by simp)), ye, c, rfl, ea⟩
        · exact old e
      · exact old e
    · exact old e
theorem NI.fold : ∀ (xs : List Sp) {l : List Sp} {p : ON}, NI l p → NI (l ++ xs) (xs.foldl numStep p)
  | [], l, p, h => by simpa using h
  | s :: xs, l, p, h => by
    have := NI.fold xs (h.step s)
    rw [List.append_assoc] at this
    exact this
theorem numOf_inv (bs : List Blk) : NI (allS bs) (numOf bs) := by
  have := NI.fold (allS bs) NI.init
  unfold numOf numBs
  rw [fold_blk]
  simpa using this
theorem num_ok' {bs : List Blk} (hd : ∀ s ∈ allS bs, 0 ≤ s.dst → 2 ≤ s.dst) (ht : ∀ s ∈ allS bs, s.op ∈ telling → s.args.length = 1 ∧ 0 ≤ s.dst) (fc : Fct) (x : Int) : NumOk (numOf bs) (rowF (lastingF bs) fc x) := by
  have N := numOf_inv bs
  have F := fmOf_inv bs
  intro o ho
  obtain ⟨s, v, r, h1, h2, h3, rfl, h5⟩ := N.n2 _ _ ho
  have h2 : s.dst = x := h2
  have tl : s.op ∈ telling := by rcases h3 with h3 | h3 <;> rw [h3] <;> simp [telling]
  obtain ⟨t1, t2⟩ := ht s h1 tl
  have x2 : 2 ≤ x := by have := hd s h1 t2; lia
  have hc : 1 ≤ cnt (allS bs) x := by have := cnt_pos h1; rw [h2] at this; exact this
  have e1 : lk (numOf bs).1 x = some (cnt (allS bs) x : Int) := by
    rw [N.n1 x, if_neg (by lia), if_neg (by lia)]
  refine ⟨_, e1, fun one => ?_⟩
  have one : cnt (allS bs) x = 1 := by lia
  have hf : (lk (fmOf bs).1 x).isSome = true := by have := F.i2 s h1 t2; rw [h2] at this; exact this
  obtain ⟨os, hos⟩ := Option.isSome_iff_exists.mp hf
  have hm : lk (fmOf bs).2 x = none := by
    cases e : lk (fmOf bs).2 x with
    | none => rfl
    | some b =>
      rcases F.i7 x (by rw [e]; rfl) with h | h
      · have := F.i5 x h; lia
      · lia
  cases os with
  | none => have := F.i5 x hos; lia
  | some s' =>
    have es : s = s' := F.i3 x s' s hos hm h1 h2
    subst es
    have hr : r = [] := by rw [h5] at t1; simpa using t1
    subst hr
    have hb : Base (fmOf bs) x s := ⟨hos, hm, by rcases h3 with h3 | h3 <;> rw [h3] <;> decide, by rw [h5]; rfl⟩
    have := (osOf_inv bs).o3 x s (.k v) [] (lk_mem hos) hb tl h5 (fun e => nomatch e)
    have k := lasting_k bs x v this
    show bestF (lastingF bs) fc x = .k v
    unfold bestF
    rw [k]
structure Gd (p : FM) (la : Las) (l : List Sp) : Prop where
  F : FMI l p
  g1 : ∀ y s, Base p y s → ∀ x, Opd.r x ∈ s.args → x < y
  tl : ∀ s ∈ l, s.op ∈ telling → s.args.length = 1
  ro : ∀ y o, lk la.ops y = some o → Reach p y o
  rs : ∀ y sh, lk la.shs y = some sh → ∃ s, Base p y s ∧ sh = s.shp
noncomputable def Inv (p : FM) (regs : List Int) (hs : Hs) : Prop := ∀ y ∈ regs, ∃ v, lk hs y = some v ∧ In32 v ∧ ∀ s, Base p y s → ShapeSo hs v (some s.shp)
noncomputable def Closed (p : FM) (regs : List Int) : Prop := ∀ y ∈ regs, ∀ s, Base p y s → ∀ x, Opd.r x ∈ s.args → x ∈ regs
structure FI (fc : Fct) (hs : Hs) : Prop where
  n : 0 ≤ fc.now
  st : ∀ x u, lk fc.setAt x = some u → u ≤ fc.now
  md : ∀ x s t, lk fc.made x = some (s, t) → 0 ≤ t ∧ t ≤ fc.now ∧ (s.op ∈ telling → s.args.length = 1) ∧ (holdsF fc.setAt s.args t = true → ∃ v, lk hs x = some v ∧ ShapeSo hs v (some s))
theorem FI.nil (hs : Hs) : FI f0 hs := ⟨Int.le_refl _, fun ι ι e => (nomatch e), fun ι ι ι e => nomatch e⟩
theorem vals_congr {hs hs' : Hs} : ∀ {args : List Opd}, (∀ x, Opd.r x ∈ args → lk hs' x = lk hs x) → vals hs' args = vals hs args
  | [], _ => rfl
  | o :: r, h => by
    have e : valO hs' o = valO hs o := by
      cases o with
      | k v => rfl
      | r x => exact h x (.head _)
    rw [vals, vals, e, vals_congr fun x hx => h x (.tail _ hx)]
theorem shapeSo_def {hs : Hs} {v : Int} {s : Shp} : ShapeSo hs v (some s) = (if s.op = .load then ∃ wide sg, s.more = .tup [.int wide, .bool sg] ∧ wide ∈ [(1 : Int), 2, 4] ∧ v = loadedF v wide sg
    else s.args.length < 100 ∧ ∃ sides, vals hs s.args = some sides ∧ WorkOk s.op sides s.more ∧ workedF s.op sides s.more = v) := rfl
theorem shape_congr {hs hs' : Hs} {v : Int} {s : Shp} (h : ∀ x, Opd.r x ∈ s.args → lk hs' x = lk hs x) (so : ShapeSo hs v (some s)) : ShapeSo hs' v (some s) := by
  rw [shapeSo_def] at so ⊢
  rw [vals_congr h]
  exact so
theorem emod_self {a : Int} (h : In32 a) : a % 4294967296 = a := Int.emod_eq_of_lt h.1 h.2
theorem tell_val {hs : Hs} {v : Int} {s : Shp} {o : Opd} (ht : s.op ∈ telling) (ha : s.args = [o]) (so : ShapeSo hs v (some s)) : match o with | .k u => u % 4294967296 = v | .r x => lk hs x = some v := by
  have hop : s.op = .const ∨ s.op = .copy := by simpa [telling] using ht
  rw [shapeSo_def] at so
  rw [if_neg (by rcases hop with h | h <;> rw [h] <;> decide)] at so
  obtain ⟨_, sides, h1, h2, h3⟩ := so
  rw [ha] at h1
  cases e : valO hs o with
  | none => simp [vals, e] at h1
  | some a =>
    simp [vals, e] at h1
    subst h1
    have hin := h2.in32 a (by simp)
    have hv : a = v := by
      rw [← h3]
      unfold workedF
      rw [if_neg (by rcases hop with h | h <;> rw [h] <;> decide)]
      have : turnedF s.op a = a := by rcases hop with h | h <;> rw [h] <;> rfl
      show a = turnedF s.op a % 4294967296
      rw [this, emod_self hin]
    subst hv
    cases o with
    | k u => (injection e); exact emod_self hin
    | r x => exact e
theorem one_of {α : Type} {l : List α} {o : α} {r : List α} (h : l.length = 1) (e : l = o :: r) : l = [o] := by
  rw [e] at h ⊢
  simp at h
  rw [h]
set_option tactic.hygienic true in
theorem reach_val {p : FM} {la : Las} {l : List Sp} {regs : List Int} {hs : Hs} (G : Gd p la l) (I : Inv p regs hs) (C : Closed p regs) {y : Int} {o : Opd} (r : Reach p y o) : y ∈ regs → match o with | .k u => lk hs y = some (u % 4294967296) | .r x => x ∈ regs ∧ lk hs x = lk hs y := by
  induction r with
  | base t =>
    rename_i y o
    intro hy
    obtain ⟨s, r, b, ht, ha⟩ := t
    obtain ⟨v, h1, h2, h3⟩ := I y hy
    have hm := (G.F.i1 y s b.f).1
    have ha1 : s.args = [o] := one_of (G.tl s hm ht) ha
    have tv := tell_val (s := s.shp) ht ha1 (h3 s b)
    cases o with
    | k u => dsimp only at tv ⊢; rw [tv]; exact h1
    | r x => dsimp only at tv ⊢; exact ⟨C y hy s b x (by rw [ha1]; exact .head _), tv.trans h1.symm⟩
  | trans r1 r2 ih1 ih2 =>
    rename_i y x o
    intro hy
    obtain ⟨hx, e⟩ := ih1 hy
    have := ih2 hx
    cases o with
    | k u => dsimp only at this ⊢; rw [← e]; exact this
    | r z => dsimp only at this ⊢; exact ⟨this.1, this.2.trans e⟩
theorem row_so {p : FM} {la : Las} {l : List Sp} {regs : List Int} {hs : Hs} {fc : Fct} {x : Int} (G : Gd p la l) (I : Inv p regs hs) (C : Closed p regs) (fi : FI fc hs) (hx : x ∈ regs) : IsSo hs (rowF la fc x) := by
  obtain ⟨v, h1, h2, h3⟩ := I x hx
  refine ⟨v, h1, ?_, ?_⟩
  · have self : (match (Opd.r x) with | .k u => u % 4294967296 = v | .r z => lk hs z = some v) := h1
    show (match bestF la fc x with | .k u => u % 4294967296 = v | .r z => lk hs z = some v)
    unfold bestF
    cases e : lk la.ops x with
    | some o =>
      have := reach_val G I C (G.ro x o e) hx
      cases o with
      | k u => dsimp only at this ⊢; rw [h1] at this; exact (Option.some.inj this).symm
      | r z => dsimp only at this ⊢; rw [this.2]; exact h1
    | none =>
      dsimp only
      cases e2 : lk fc.made x with
      | none => exact self
      | some st =>
        obtain ⟨s, t⟩ := st
        dsimp only
        by_cases c : s.op ∈ telling ∧ holdsF fc.setAt s.args t = true
        · rw [if_pos c]
          obtain ⟨_, _, h6, h7⟩ := fi.md x s t e2
          obtain ⟨v', g1, g2⟩ := h7 c.2
          rw [h1] at g1; (injection g1)
          obtain ⟨o, r, e3⟩ : ∃ o r, s.args = o :: r := by
            cases e3 : s.args with
            | nil => have := h6 c.1; rw [e3] at this; (injection this)
            | cons o r => exact ⟨_, _, rfl⟩
          have e4 := one_of (h6 c.1) e3
          have tv := tell_val c.1 e4 g2
          rw [e4]
          cases o with
          | k u => exact tv
          | r z => exact tv
        · rw [if_neg c]; exact self
  · show ShapeSo hs v (shapeF la fc x)
    unfold shapeF
    cases e : lk la.shs x with
    | some sh =>
      obtain ⟨s, b, rfl⟩ := G.rs x sh e
      exact h3 s b
    | none =>
      dsimp only
      cases e2 : lk fc.made x with
      | none => exact trivial
      | some st =>
        obtain ⟨s, t⟩ := st
        dsimp only
        by_cases c : holdsF fc.setAt s.args t = true
        · rw [if_pos c]
          obtain ⟨_, _, _, h7⟩ := fi.md x s t e2
          obtain ⟨v', g1, g2⟩ := h7 c
          rw [h1] at g1; (injection g1)
          exact g2
        · rw [if_neg c]; exact trivial
structure SG (regs : List Int) (s : Sp) : Prop where
  args : ∀ o ∈ s.args, Opd.In regs o
  len : s.args.length < 100
  store : s.op = .store → s.args.length = 2 ∧ s.dst = -1
  dst : s.op ≠ .store → 0 ≤ s.dst ∧ s.op ∈ shaped
  load : s.op = .load → s.args.length = 1 ∧ ∃ wide sg, s.more = .tup [.int wide, .bool sg] ∧ wide ∈ [(1 : Int), 2, 4]
  name : s.op = .name → ∃ g v, s.more = .tup [g, .int v]
  two : s.op ≠ .store → s.op ≠ .load → s.op ≠ .name → s.args.length = 1 ∨ s.args.length = 2
  tell : s.op ∈ telling → s.args.length = 1
  eqs : s.op = .eq ∨ s.op = .ne → s.args.length = 2
  more : okV s.more 5 = true
theorem vals_in {p : FM} {regs : List Int} {hs : Hs} (I : Inv p regs hs) : ∀ {args : List Opd}, (∀ o ∈ args, Opd.In regs o) → ∃ sides, vals hs args = some sides ∧ ∀ a ∈ sides, In32 a
  | [], _ => ⟨[], rfl, fun ι h => nomatch h⟩
  | o :: r, h => by
    obtain ⟨sides, h1, h2⟩ := vals_in I fun u hu => h u (.tail _ hu)
    have ho := h o (.head _)
    obtain ⟨a, e, ha⟩ : ∃ a, valO hs o = some a ∧ In32 a := by
      cases o with
      | k v => exact ⟨v, rfl, ho⟩
      | r x => obtain ⟨v, g1, g2, _⟩ := I x ho; exact ⟨v, g1, g2⟩
    refine ⟨a :: sides, by rw [vals, e, h1], fun b hb => ?_⟩
    rcases List.mem_cons.mp hb with rfl | hb
    · exact ha
    · exact h2 b hb
theorem SG.work {regs : List Int} {s : Sp} {sides : List Int} (g : SG regs s) (h1 : s.op ≠ .store) (h2 : s.op ≠ .load) (hl : sides.length = s.args.length) (hi : ∀ a ∈ sides, In32 a) : WorkOk s.op sides s.more :=
  ⟨g.name, fun h3 => by rw [hl]; exact g.two h1 h2 h3, hi⟩
set_option tactic.hygienic true in
theorem FI.pass {fc : Fct} {hs hs' : Hs} {s : Sp} {v : Int} (fi : FI fc hs) (hd : ∀ y, y ≠ s.dst → lk hs' y = lk hs y) (hv : lk hs' s.dst = some v) (ht : s.op ∈ telling → s.args.length = 1)
    (so : (∀ x, Opd.r x ∈ s.args → x ≠ s.dst) → ShapeSo hs' v (some s.shp)) : FI (passF fc s) hs' := by
  have n := fi.n
  refine ⟨by show 0 ≤ fc.now + 1; lia, fun x u e => ?_, fun x u t e => ?_⟩
  · show u ≤ fc.now + 1
    simp only [passF, lk_pt] at e
    split at e
    · (injection e); exact Int.le_refl _
    · have := fi.st x u e; lia
  · show 0 ≤ t ∧ t ≤ fc.now + 1 ∧ _
    simp only [passF, lk_pt] at e
    have hold : ∀ {args : List Opd} {t : Int}, 0 ≤ t → t ≤ fc.now + 1 → holdsF (passF fc s).setAt args t = true → ∀ x, Opd.r x ∈ args → x ≠ s.dst ∧ ¬ (lk fc.setAt x).getD (-1) ≥ t := fun {args t} t0 t1 hh x hx => by
      have := List.all_eq_true.mp hh _ hx
      simp only [passF, lk_pt] at this
      by_cases q : s.dst = x
      · rw [if_pos q] at this
        simp only [Option.getD_some, Bool.not_eq_true', decide_eq_false_iff_not] at this
        lia
      · rw [if_neg q] at this
        simp only [Bool.not_eq_true', decide_eq_false_iff_not] at this
        exact ⟨fun e => q e.symm, this⟩
    split at e
    · rename_i q
      (injection e)
      refine ⟨by lia, Int.le_refl _, ht, fun hh => ⟨v, by rw [← q]; exact hv, so fun x hx => (hold (by lia) (Int.le_refl _) hh x hx).1⟩⟩
    · rename_i q
      obtain ⟨h1, h2, h3, h4⟩ := fi.md x u t e
      refine ⟨h1, by lia, h3, fun hh => ?_⟩
      have ho := hold h1 (by lia) hh
      obtain ⟨w, g1, g2⟩ := h4 (List.all_eq_true.mpr fun o hm => by
        cases o with
        | k _ => rfl
        | r z => simp only [Bool.not_eq_true', decide_eq_false_iff_not]; exact (ho z hm).2)
      exact ⟨w, by rw [hd x (fun e => q e.symm)]; exact g1, shape_congr (fun z hz => hd z (ho z hz).1) g2⟩
theorem loaded_low {a b wide : Int} {sg : Bool} (e : a % (256 : Int) ^ wide.toNat = b % (256 : Int) ^ wide.toNat) : loadedF a wide sg = loadedF b wide sg := by
  unfold loadedF; simp only [e]
theorem loaded_again (v wide : Int) (sg : Bool) (hw : wide ∈ [(1 : Int), 2, 4]) : loadedF v wide sg = loadedF (loadedF v wide sg) wide sg := by
  have hd : ((256 : Int) ^ wide.toNat) ∣ 4294967296 := by
    simp only [List.mem_cons, List.not_mem_nil, or_false] at hw
    rcases hw with rfl | rfl | rfl <;> decide
  refine loaded_low (Eq.symm ?_)
  unfold loadedF
  generalize (256 : Int) ^ wide.toNat = w at hd
  show (if _ then v % w - w else v % w) % 4294967296 % w = v % w
  rw [Int.emod_emod_of_dvd _ hd]
  split
  · rw [Int.sub_emod, Int.emod_self, Int.sub_zero, Int.emod_emod, Int.emod_emod]
  · exact Int.emod_emod ..
section
section
variable {p : FM} {la : Las} {l : List Sp}
theorem rowsF_so {regs : List Int} {hs : Hs} {fc : Fct} {args : List Opd} (G : Gd p la l) (I : Inv p regs hs) (C : Closed p regs) (fi : FI fc hs) (ha : ∀ o ∈ args, Opd.In regs o) : ∀ w ∈ rowsF la fc args, IsSo hs w := by
  intro w hw
  obtain ⟨x, hx, rfl⟩ := List.mem_map.mp hw
  obtain ⟨o, ho, e⟩ := List.mem_filterMap.mp hx
  cases o with
  | k v => (injection e)
  | r y => (injection e); exact row_so G I C fi (ha _ ho)
theorem rowsF_len (la : Las) (fc : Fct) (args : List Opd) : (rowsF la fc args).length ≤ args.length := by
  unfold rowsF regsOf; rw [List.length_map]; exact List.length_filterMap_le ..
theorem one_step {regs regs' : List Int} {hs : Hs} {fc : Fct} {s : Sp} {ss : List Sp} {K : Hs → Prop} (G : Gd p la l) (I : Inv p regs hs) (C : Closed p regs) (fi : FI fc hs) (hm : s ∈ l) (sg : SG regs s)
    (nx : s.op ≠ .store → (lk p.2 s.dst).isSome = true ∨ ∀ y ∈ regs, y < s.dst) (sub : ∀ y ∈ regs', y ∈ regs ∨ (s.op ≠ .store ∧ y = s.dst))
    (k : ∀ hs', Inv p regs' hs' → FI (nextF fc s) hs' → (∀ y, y ≠ s.dst → lk hs' y = lk hs y) → (s.op = .store → hs' = hs) → (s.op ≠ .store → s.op ≠ .load → ∀ sides, vals hs s.args = some sides → lk hs' s.dst = some (workedF s.op sides s.more)) → stepsOk ss (rowsB la (nextF fc s) ss) hs' K) :
    stepsOk (s :: ss) (rowsB la fc (s :: ss)) hs K := by
  obtain ⟨sides, v1, v2⟩ := vals_in I sg.args
  have vl := vals_len v1
  refine ⟨rowsF_so G I C fi sg.args, sg.len, Nat.lt_of_le_of_lt (rowsF_len ..) sg.len, sides, v1, ?_⟩
  by_cases c1 : s.op = .store
  · rw [if_pos c1]
    obtain ⟨a1, a2⟩ := sg.store c1
    rw [a1] at vl
    refine ⟨?_, ?_⟩
    · match sides, vl with
      | [a, b], _ => exact ⟨a, b, rfl⟩
    · have e : nextF fc s = fc := by unfold nextF; rw [if_neg (by lia)]
      have := k hs (fun y hy => I y ((sub y hy).elim id fun h => absurd c1 h.1)) (by rw [e]; exact fi) (fun ι ι => rfl) (fun ι => rfl) (fun h => absurd c1 h)
      exact this
  · rw [if_neg c1]
    obtain ⟨d0, dsh⟩ := sg.dst c1
    have en : nextF fc s = passF fc s := by unfold nextF; rw [if_pos (by lia)]
    have nx := nx c1
    -- whatever the value, if it is so
    have go : ∀ v, In32 v → ((∀ x, Opd.r x ∈ s.args → x ≠ s.dst) → ∀ hs', (∀ x, Opd.r x ∈ s.args → lk hs' x = lk hs x) → ShapeSo hs' v (some s.shp)) → (s.op ≠ .load → ∀ sides, vals hs s.args = some sides → v = workedF s.op sides s.more) → stepsOk ss (rowsB la (nextF fc s) ss) (pt hs s.dst v) K := fun v vin so we => by
      have other : ∀ y, y ≠ s.dst → lk (pt hs s.dst v) y = lk hs y := fun y hy => by rw [lk_pt, if_neg (Ne.symm hy)]
      have self : lk (pt hs s.dst v) s.dst = some v := by rw [lk_pt, if_pos rfl]
      refine k _ (fun y hy => ?_) ?_ other (fun h => absurd h c1) (fun ι h2 sides hv => by rw [self, we h2 sides hv])
      · by_cases q : y = s.dst
        · rw [q]
          refine ⟨v, self, vin, fun s1 b => ?_⟩
          have es : s = s1 := G.F.i3 _ s1 s b.f b.m hm rfl
          subst es
          have hne : ∀ x, Opd.r x ∈ s.args → x ≠ s.dst := fun x hx e => by have := G.g1 _ s b x hx; lia
          exact so hne _ fun x hx => other x (hne x hx)
        · have hy' : y ∈ regs := (sub y hy).elim id fun h => absurd h.2 q
          obtain ⟨u, h1, h2, h3⟩ := I y hy'
          refine ⟨u, by rw [other y q]; exact h1, h2, fun s1 b => shape_congr (fun x hx => other x fun e => ?_) (h3 s1 b)⟩
          have hx' : Opd.r x ∈ s1.args := hx
          rcases nx with nx | nx
          · rw [← e, b.arg hx'] at nx; (injection nx)
          · have := G.g1 y s1 b x hx'
            have := nx y hy'
            lia
      · rw [en]
        exact fi.pass other self sg.tell fun hne => so hne _ fun x hx => other x (hne x hx)
    by_cases c2 : s.op = .load
    · rw [if_pos c2]
      obtain ⟨a1, wide, sg', e1, e2⟩ := sg.load c2
      rw [a1] at vl
      match sides, vl with
      | [a], _ =>
        refine ⟨a, wide, sg', rfl, e1, e2, fun v => ?_⟩
        refine go _ (loadedF_in ..) (fun ι hs' ι => ?_) (fun h => absurd c2 h)
        rw [shapeSo_def, if_pos (show s.shp.op = .load from c2)]
        exact ⟨wide, sg', e1, e2, loaded_again v wide sg' e2⟩
    · rw [if_neg c2]
      have wk := sg.work c1 c2 vl v2
      refine ⟨wk, ?_⟩
      refine go _ (workedF_in ..) (fun ι hs' hc => ?_) (fun ι sides' hv => by rw [v1] at hv; (injection hv); rfl)
      rw [shapeSo_def, if_neg (show ¬ s.shp.op = .load from c2)]
      exact ⟨sg.len, sides, (vals_congr (args := s.args) hc).trans v1, wk, rfl⟩
theorem SG.mono {regs regs' : List Int} {s : Sp} (g : SG regs s) (h : ∀ y ∈ regs, y ∈ regs') : SG regs' s :=
  ⟨fun o ho => by
    have := g.args o ho
    cases o with
    | k v => exact this
    | r x => exact h x this, g.len, g.store, g.dst, g.load, g.name, g.two, g.tell, g.eqs, g.more⟩
noncomputable def OpB (m : Nm) (k : Nat) : Prop := m ≠ .store ∧ m ∈ shaped ∧ m ≠ .load ∧ m ≠ .name ∧ (k = 1 ∨ k = 2) ∧ (m ∈ telling → k = 1) ∧ (m = .eq ∨ m = .ne → k = 2)
theorem ops_shift : ∀ m ∈ [Nm.shl, .shr, .sar], OpB m 2 := by unfold OpB; decide +kernel
theorem ops_two : ∀ m ∈ twos, OpB m 2 := by unfold OpB; decide +kernel
theorem ops_one : ∀ m ∈ ones, OpB m 1 := by unfold OpB; decide +kernel
theorem ops_tell : ∀ m ∈ telling, OpB m 1 := by unfold OpB; decide +kernel
theorem sg_of {regs : List Int} {g : Int} {m : Nm} {args : List Opd} (h : OpB m args.length) (a : ∀ o ∈ args, Opd.In regs o) (g0 : 0 ≤ g) : SG regs ⟨m, g, args, .int 0⟩ ∧ g = g ∧ m ≠ .store :=
  ⟨⟨a, h.2.2.2.2.1.elim (fun e => by show args.length < 100; omega) fun e => by show args.length < 100; omega, fun e => absurd e h.1, fun ι => ⟨g0, h.2.1⟩, fun e => absurd e h.2.2.1, fun e => absurd e h.2.2.2.1, fun ι ι ι => h.2.2.2.2.1, h.2.2.2.2.2.1, h.2.2.2.2.2.2, rfl⟩, rfl, h.1⟩
theorem in_one {regs : List Int} {o : Opd} (h : Opd.In regs o) : ∀ u ∈ [o], Opd.In regs u := fun ι hu => List.mem_singleton.mp hu ▸ h
theorem in_two {regs : List Int} {o o' : Opd} (h : Opd.In regs o) (h' : Opd.In regs o') : ∀ u ∈ [o, o'], Opd.In regs u := fun ι hu => (List.mem_cons.mp hu).elim (fun e => e ▸ h) fun e => List.mem_singleton.mp e ▸ h'
theorem Made.sg {regs : List Int} {g : Int} {s : Sp} (h : Made regs g s) (g0 : 0 ≤ g) : SG regs s ∧ s.dst = g ∧ s.op ≠ .store := by
  cases h with
  | shift hm ho v0 v1 => exact sg_of (ops_shift _ hm) (in_two (o' := .k _) ho ⟨v0, by lia⟩) g0
  | two hm _ ho ho' => exact sg_of (ops_two _ hm) (in_two ho ho') g0
  | one hm ho => exact sg_of (ops_one _ hm) (in_one ho) g0
  | copy ho => exact sg_of (ops_tell _ (by decide)) (in_one ho) g0
  | load a0 a1 hw => exact ⟨⟨in_one (o := .k _) ⟨a0, a1⟩, by show _ < 100; simp, fun e => (nomatch e), fun ι => ⟨g0, (by decide : Nm.load ∈ shaped)⟩, fun ι => ⟨rfl, _, _, rfl, hw⟩, fun e => (nomatch e), fun ι e => absurd rfl e, fun ι => rfl, fun e => absurd e (by decide : ¬ (Nm.load = .eq ∨ Nm.load = .ne)), rfl⟩, rfl, fun e => (nomatch e)⟩
  | const v0 v1 => exact sg_of (ops_tell _ (by decide)) (in_one (o := .k _) ⟨v0, by lia⟩) g0
  | name v0 v1 => exact ⟨⟨fun ι h => (nomatch h), by show _ < 100; simp, fun e => (nomatch e), fun ι => ⟨g0, (by decide : Nm.name ∈ shaped)⟩, fun e => (nomatch e), fun ι => ⟨_, _, rfl⟩, fun ι ι e => absurd rfl e, fun e => absurd e (by decide : ¬ Nm.name ∈ telling), fun e => absurd e (by decide : ¬ (Nm.name = .eq ∨ Nm.name = .ne)), rfl⟩, rfl, fun e => (nomatch e)⟩
structure Sc (p : FM) (regs : List Int) (f : Int) : Prop where
  lt : ∀ y ∈ regs, y < f
  five : 5 ≤ f
  c : Closed p regs
theorem Sc.fresh {regs : List Int} {f : Int} {s : Sp} (G : Gd p la l) (c : Sc p regs f) (hm : s ∈ l) (hd : s.dst = f) (sg : SG regs s) : Sc p (regs ++ [f]) (f + 1) := by
  refine ⟨fun y hy => ?_, by have := c.five; lia, fun y hy s1 b x hx => ?_⟩
  · rcases List.mem_append.mp hy with h | h
    · have := c.lt y h; lia
    · rw [List.mem_singleton.mp h]; lia
  · rcases List.mem_append.mp hy with h | h
    · exact List.mem_append.mpr (.inl (c.c y h s1 b x hx))
    · rw [List.mem_singleton.mp h] at b
      have es : s = s1 := G.F.i3 _ s1 s b.f b.m hm hd
      subst es
      exact List.mem_append.mpr (.inl (sg.args _ hx))
theorem sg_store {regs : List Int} {a : Int} {o : Opd} (a0 : 0 ≤ a) (a1 : a < 4294967296) (ho : Opd.In regs o) : SG regs ⟨.store, -1, [.k a, o], .int 2⟩ := by
  refine ⟨fun u hu => ?_, by first | decide | simp, fun ι => ⟨rfl, rfl⟩, fun h => absurd rfl h, fun h => absurd h (show ¬ Nm.store = Nm.load by decide), fun h => absurd h (show ¬ Nm.store = Nm.name by decide), fun h => absurd rfl h, fun h => absurd h (show ¬ Nm.store ∈ telling by decide), fun h => absurd h (show ¬ (Nm.store = .eq ∨ Nm.store = .ne) by decide), rfl⟩
  · simp only [List.mem_cons, List.not_mem_nil, or_false] at hu
    rcases hu with rfl | rfl
    · exact ⟨a0, a1⟩
    · exact ho
set_option tactic.hygienic true in
theorem acts_run {regs regs' : List Int} {f f' : Int} {ss : List Sp} (G : Gd p la l) (a : Acts regs f ss regs' f') : ∀ {hs : Hs} {fc : Fct} {K : Hs → Prop}, (∀ s ∈ ss, s ∈ l) → (∀ s ∈ ss, s.dst = 2 ∨ s.dst = 3 → (lk p.2 s.dst).isSome = true) → (∀ y : Int, 0 ≤ y → y < 5 → y ∈ regs) →
    Sc p regs f → Inv p regs hs → FI fc hs → (∀ hs', Sc p regs' f' → Inv p regs' hs' → FI (runF fc ss) hs' → lk hs' 4 = lk hs 4 → K hs') → stepsOk ss (rowsB la fc ss) hs K := by
  induction a with
  | nil => exact fun ι ι ι sc I fi k => k _ sc I fi rfl
  | store a0 a1 ho _ ih =>
    rename_i regs regs' f f' a o ss _
    intro hs fc K hl hm h5 sc I fi k
    refine one_step G I sc.c fi (hl _ (.head _)) (sg_store a0 a1 ho) (fun h => absurd rfl h) (regs' := regs) (fun y hy => .inl hy) fun hs' I' fi' ot es ι => ?_
    have es := es rfl
    subst es
    exact ih (fun s h => hl s (.tail _ h)) (fun s h => hm s (.tail _ h)) h5 sc I' fi' k
  | old hg md _ ih =>
    rename_i regs regs' f f' g s ss _
    intro hs fc K hl hm h5 sc I fi k
    obtain ⟨sg, hd, hst⟩ := md.sg (by lia)
    refine one_step G I sc.c fi (hl _ (.head _)) sg (fun ι => .inl (hm s (.head _) (by lia))) (regs' := regs) (fun y hy => .inl hy) fun hs' I' fi' ot ι ι => ?_
    exact ih (fun s h => hl s (.tail _ h)) (fun s h => hm s (.tail _ h)) h5 sc I' fi' fun hs'' a b c d => k hs'' a b c (d.trans (ot 4 (by lia)))
  | new md _ ih =>
    rename_i regs regs' f f' s ss _
    intro hs fc K hl hm h5 sc I fi k
    have f5 := sc.five
    obtain ⟨sg, hd, hst⟩ := md.sg (by lia)
    refine one_step G I sc.c fi (hl _ (.head _)) sg (fun ι => .inr (by rw [hd]; exact sc.lt)) (regs' := regs ++ [f]) (fun y hy => ?_) fun hs' I' fi' ot ι ι => ?_
    · rcases List.mem_append.mp hy with h | h
      · exact .inl h
      · exact .inr ⟨hst, by rw [hd]; exact List.mem_singleton.mp h⟩
    · exact ih (fun s h => hl s (.tail _ h)) (fun s h => hm s (.tail _ h)) (fun y a b => List.mem_append.mpr (.inl (h5 y a b))) (sc.fresh G (hl _ (.head _)) hd sg) I' fi' fun hs'' a b c d => k hs'' a b c (d.trans (ot 4 (by lia)))
set_option tactic.hygienic true in
theorem stepsOk_append {K : Hs → Prop} : ∀ {ss tt : List Sp} {fc : Fct} {hs : Hs}, stepsOk ss (rowsB la fc ss) hs (fun hs' => stepsOk tt (rowsB la (runF fc ss) tt) hs' K) → stepsOk (ss ++ tt) (rowsB la fc (ss ++ tt)) hs K
  | [], tt, fc, hs, h => h
  | s :: ss, tt, fc, hs, h => by
    obtain ⟨h1, h2, h3, sides, h4, h5⟩ := h
    refine ⟨h1, h2, h3, sides, h4, ?_⟩
    split
    · rename_i c
      rw [if_pos c] at h5
      exact ⟨h5.1, stepsOk_append h5.2⟩
    · rename_i c
      rw [if_neg c] at h5
      split
      · rename_i c2
        rw [if_pos c2] at h5
        obtain ⟨a, wide, sg, e1, e2, e3, h6⟩ := h5
        exact ⟨a, wide, sg, e1, e2, e3, fun v => stepsOk_append (h6 v)⟩
      · rename_i c2
        rw [if_neg c2] at h5
        exact ⟨h5.1, stepsOk_append h5.2⟩
theorem runF_append (fc : Fct) (ss tt : List Sp) : runF fc (ss ++ tt) = runF (runF fc ss) tt := List.foldl_append
set_option tactic.hygienic true in
theorem FI.learn {fc : Fct} {hs : Hs} {x v : Int} (fi : FI fc hs) (h : lk hs x = some v) (hv : In32 v) : FI (learnF fc x (.k v)) hs := by
  refine ⟨fi.n, fi.st, fun y s t e => ?_⟩
  simp only [learnF, lk_pt] at e
  split at e
  · rename_i q
    (injection e)
    refine ⟨Int.le_refl _, fi.n, fun ι => rfl, fun ι => ⟨v, by rw [← q]; exact h, ?_⟩⟩
    rw [shapeSo_def, if_neg (show ¬ Nm.const = Nm.load by decide)]
    refine ⟨by simp, [v], rfl, ⟨fun h => (nomatch h), fun ι => .inl rfl, fun a ha => by rw [List.mem_singleton.mp ha]; exact hv⟩, ?_⟩
    show turnedF .const v % 4294967296 = v
    exact emod_self hv
  · exact fi.md y s t e
set_option tactic.hygienic true in
theorem branch_fi {regs : List Int} {hs : Hs} {fb : Fct} {c number t o v : Int} (G : Gd p la l) (I : Inv p regs hs) (C : Closed p regs) (fi : FI fb hs) (hc : c ∈ regs) (hv : lk hs c = some v) (hto : t ≠ o) (hn : number = t ∧ v ≠ 0 ∨ number = o ∧ v = 0) : FI (learnBrF la fb f0 c number t o) hs := by
  have h1 : FI (if number = o then learnF f0 c (.k 0) else f0) hs := by
    split
    · rename_i e
      rcases hn with h | h
      · exact absurd (h.1.symm.trans e) hto
      · exact (FI.nil hs).learn (by rw [hv, h.2]) ⟨by decide, by decide⟩
    · exact FI.nil hs
  refine learnBrF_ind (P := fun f => FI f hs) h1 fun x u hw hb => ?_
  obtain ⟨op, r, more, e⟩ := hb
  generalize (if number = o then learnF f0 c (.k 0) else f0) = fc1 at h1 ⊢
  obtain ⟨v', g1, _, g3⟩ := (row_so G I C fi hc).so
  have g1 : lk hs c = some v' := g1
  rw [hv] at g1; (injection g1)
  have g3 : ShapeSo hs v (shapeF la fb c) := g3
  rw [e] at hw g3
  obtain ⟨_, e0, ho, -⟩ := withNum_inv hw
  clear hw
  cases e0
  have hw := ho
  clear ho
  dsimp only at hw
  have hop : op = .eq ∨ op = .ne := by rw [hw]; split; exact .inl rfl; exact .inr rfl
  rw [shapeSo_def, if_neg (show ¬ op = Nm.load by rcases hop with h | h <;> rw [h] <;> decide)] at g3
  obtain ⟨_, sides, k1, k2, k3⟩ := g3
  dsimp only at k1 k2 k3
  have k4 := k2.two (by rcases hop with h | h <;> rw [h] <;> decide)
  have kl := vals_len k1
  cases r with
  | cons _ _ => simp only [List.length_cons] at kl; lia
  | nil =>
    cases ex : lk hs x with
    | none => simp [vals, valO, ex] at k1
    | some a =>
      simp [vals, valO, ex] at k1
      subst k1
      have hu := k2.in32 u (by simp)
      have hau : a = u := by
        rcases hn with ⟨h2, h3⟩ | ⟨h2, h3⟩
        · rw [if_pos h2] at hw
          rw [hw] at k3
          have : workedF .eq [a, u] more = (if a = u then 1 else 0) % 4294967296 := rfl
          rw [this] at k3
          by_cases q : a = u
          · exact q
          · rw [if_neg q] at k3; exact absurd k3.symm h3
        · rw [if_neg (fun e => hto (e.symm.trans h2))] at hw
          rw [hw, h3] at k3
          have : workedF .ne [a, u] more = (if a = u then 0 else 1) % 4294967296 := rfl
          rw [this] at k3
          by_cases q : a = u
          · exact q
          · rw [if_neg q] at k3; exact absurd k3 (by decide)
      exact h1.learn (by rw [ex, hau]) hu
end
end
section
theorem cnt_append (a b : List Sp) (y : Int) : cnt (a ++ b) y = cnt a y + cnt b y := by
  unfold cnt; rw [List.filter_append, List.length_append]
noncomputable def DC (s : Sp) : Prop := s.dst = -1 ∨ s.dst = 2 ∨ s.dst = 3 ∨ s.dst = 4 ∨ (5 ≤ s.dst ∧ ∀ x, Opd.r x ∈ s.args → x < s.dst)
set_option tactic.hygienic true in
theorem acts_fact {regs regs' : List Int} {f f' : Int} {ss : List Sp} (a : Acts regs f ss regs' f') : (∀ y ∈ regs, y < f) → 5 ≤ f → ((∀ y ∈ regs', y < f') ∧ f ≤ f') ∧ ∀ s ∈ ss, (∃ r, SG r s) ∧ DC s := by
  induction a with
  | nil => exact fun h ι => ⟨⟨h, Int.le_refl _⟩, fun ι h => nomatch h⟩
  | store a0 a1 ho _ ih =>
    rename_i regs regs' f f' a o ss _
    intro h h5
    obtain ⟨h1, h2⟩ := ih h h5
    refine ⟨h1, fun s hs => ?_⟩
    rcases List.mem_cons.mp hs with rfl | hs
    · exact ⟨⟨regs, sg_store a0 a1 ho⟩, .inl rfl⟩
    · exact h2 s hs
  | old hg md _ ih =>
    rename_i regs regs' f f' g s ss _
    intro h h5
    obtain ⟨h1, h2⟩ := ih h h5
    obtain ⟨sg, hd, hst⟩ := md.sg (by lia)
    refine ⟨h1, fun u hu => ?_⟩
    rcases List.mem_cons.mp hu with rfl | hu
    · exact ⟨⟨regs, sg⟩, hg.elim (fun h => .inr (.inl (hd.trans h))) fun h => .inr (.inr (.inl (hd.trans h)))⟩
    · exact h2 u hu
  | new md _ ih =>
    rename_i regs regs' f f' s ss _
    intro h h5
    obtain ⟨sg, hd, hst⟩ := md.sg (by lia)
    obtain ⟨h1, h2⟩ := ih (fun y hy => by
      rcases List.mem_append.mp hy with hy | hy
      · have := h y hy; lia
      · rw [List.mem_singleton.mp hy]; lia) (by lia)
    refine ⟨⟨h1.1, by lia⟩, fun u hu => ?_⟩
    rcases List.mem_cons.mp hu with rfl | hu
    · exact ⟨⟨regs, sg⟩, .inr (.inr (.inr (.inr ⟨by lia, fun x hx => by have := h x (sg.args _ hx); lia⟩)))⟩
    · exact h2 u hu
theorem acts_sc {p : FM} {la : Las} {l : List Sp} {regs regs' : List Int} {f f' : Int} {ss : List Sp} (G : Gd p la l) (a : Acts regs f ss regs' f') : (∀ s ∈ ss, s ∈ l) → Sc p regs f → Sc p regs' f' := by
  induction a with
  | nil => exact fun ι h => h
  | store _ _ _ _ ih => exact fun hl h => ih (fun s hs => hl s (.tail _ hs)) h
  | old _ _ _ ih => exact fun hl h => ih (fun s hs => hl s (.tail _ hs)) h
  | new md _ ih =>
    intro hl h
    have := h.five
    obtain ⟨sg, hd, hst⟩ := md.sg (by lia)
    exact ih (fun s hs => hl s (.tail _ hs)) (h.fresh G (hl _ (.head _)) hd sg)
theorem Sc.up {p : FM} {regs : List Int} {f f' : Int} (h : Sc p regs f) (e : f ≤ f') : Sc p regs f' := ⟨fun y hy => by have := h.lt y hy; lia, by have := h.five; lia, h.c⟩
theorem Inv.sub {p : FM} {regs regs' : List Int} {hs : Hs} (I : Inv p regs hs) (h : ∀ y ∈ regs', y ∈ regs) : Inv p regs' hs := fun y hy => I y (h y hy)
theorem ops_rk : ∀ m ∈ [Nm.eq, .ne, .lt, .ltu, .add, .shr], OpB m 2 := by unfold OpB; decide +kernel
theorem sg_const {regs : List Int} {d v : Int} (d0 : 0 ≤ d) (hv : In32 v) : SG regs ⟨.const, d, [.k v], .int 0⟩ := (sg_of (ops_tell _ (by decide)) (in_one (o := .k _) hv) d0).1
theorem sg_copy {regs : List Int} {d x : Int} (d0 : 0 ≤ d) (hx : x ∈ regs) : SG regs ⟨.copy, d, [.r x], .int 0⟩ := (sg_of (ops_tell _ (by decide)) (in_one (o := .r _) hx) d0).1
theorem sg_rk {regs : List Int} {m : Nm} {d x v : Int} (hm : m ∈ [Nm.eq, .ne, .lt, .ltu, .add, .shr]) (d0 : 0 ≤ d) (hx : x ∈ regs) (hv : In32 v) : SG regs ⟨m, d, [.r x, .k v], .int 0⟩ := (sg_of (ops_rk _ hm) (in_two (o := .r _) (o' := .k _) hx hv) d0).1
theorem SG.ok {regs : List Int} {s : Sp} (g : SG regs s) : StepOk s := by
  refine ⟨⟨g.len, fun h => by have := g.tell h; show 1 ≤ s.args.length; lia, fun h => by have := g.eqs h; show 2 ≤ s.args.length; lia⟩, fun h => ?_⟩
  by_cases c : s.op = .store
  · have := (g.store c).2; lia
  · exact (g.dst c).2
theorem rows_are {la : Las} : ∀ {ss : List Sp} {fc : Fct} {r : List Rw}, r ∈ rowsB la fc ss → ∀ w ∈ r, ∃ fc' x, w = rowF la fc' x
  | [], _, _, h, _, _ => nomatch h
  | s :: ss, fc, r, h, w, hw => by
    rcases List.mem_cons.mp h with rfl | h
    · obtain ⟨x, _, rfl⟩ := List.mem_map.mp hw
      exact ⟨fc, x, rfl⟩
    · exact rows_are h w hw
theorem rowsOf_are {la : Las} {ss : List Sp} {e : Sp} {fc : Fct} {r : List Rw} (h : r ∈ rowsOf la fc ss e) : ∀ w ∈ r, ∃ fc' x, w = rowF la fc' x := by
  rcases List.mem_append.mp h with h | h
  · exact rows_are h
  · intro w hw
    rw [List.mem_singleton.mp h] at hw
    obtain ⟨x, _, rfl⟩ := List.mem_map.mp hw
    exact ⟨_, x, rfl⟩
theorem lap_intro {bs : List Blk} {b1 b4 b : Blk} {i k : Nat} {hs : Hs} (hb : bs[i]? = some b) (hl : b.steps.length < 100) (ha : b.end_.args.length < 100)
    (h : stepsOk b.steps (rowsB (lastingF bs) (EN (lastingF bs) b1 b4 i) b.steps) hs fun hs' => (∀ w ∈ rowsF (lastingF bs) (runF (EN (lastingF bs) b1 b4 i) b.steps) b.end_.args, IsSo hs' w) ∧ EndRun (lapsOk bs (rowsN bs b1 b4) k) hs' b.end_) : lapsOk bs (rowsN bs b1 b4) (k + 1) i hs := by
  refine ⟨b, _, _, hb, ?_, rowsB_len .., hl, Nat.lt_of_le_of_lt (rowsF_len ..) ha, h⟩
  unfold rowsN
  rw [hb]; rfl
theorem acts_mem {regs regs' : List Int} {f f' : Int} {ss : List Sp} (a : Acts regs f ss regs' f') : ∀ y ∈ regs, y ∈ regs' := by
  induction a with
  | nil => exact fun ι h => h
  | store _ _ _ _ ih => exact ih
  | old _ _ _ ih => exact ih
  | new _ _ ih => exact fun y h => ih y (List.mem_append.mpr (.inl h))
noncomputable def low5 : List Int := [0, 1, 2, 3, 4]
theorem mem5 {y : Int} (h0 : 0 ≤ y) (h1 : y < 5) : y ∈ low5 := by
  rw [← Int.toNat_of_nonneg h0]
  exact (by decide : ∀ n : Fin 5, ((n.val : Nat) : Int) ∈ low5) ⟨y.toNat, (Int.toNat_lt h0).mpr h1⟩
theorem of5 {y : Int} (h : y ∈ low5) : y < 5 := (by decide : ∀ y ∈ low5, y < 5) y h
structure Ds where
  s0 : List Sp
  s1 : List Sp
  s2 : List Sp
  s3 : List Sp
  s4 : List Sp
  s5 : List Sp
  w : List Sp
  e1 : Sp
  f1 : Int
  f2 : Int
  f3 : Int
  f4 : Int
  f5 : Int
  f6 : Int
  x : Int
  r1 : List Int
  r2 : List Int
  q2 : List Int
  q3 : List Int
  r5 : List Int
  q5 : List Int
section
variable (d : Ds)
noncomputable def Ds.b0 : Blk := ⟨((0 : Nat) : Int), ahead ++ d.s0, jmp 1⟩
noncomputable def Ds.b1 : Blk := ⟨((1 : Nat) : Int), d.s1 ++ d.w, d.e1⟩
noncomputable def Ds.b2 : Blk := ⟨((2 : Nat) : Int), d.s2, jmp 4⟩
noncomputable def Ds.b3 : Blk := ⟨((3 : Nat) : Int), d.s3, jmp 4⟩
noncomputable def Ds.b4 : Blk := ⟨((4 : Nat) : Int), d.s4 ++ late, br4⟩
noncomputable def Ds.b5 : Blk := ⟨((5 : Nat) : Int), d.s5, giv d.x⟩
noncomputable def Ds.tl : List Blk := [d.b1, d.b2, d.b3, d.b4, d.b5]
noncomputable def Ds.bs : List Blk := d.b0 :: d.tl
noncomputable def Ds.rest : List Sp := d.s0 ++ d.tl.flatMap (·.steps)
noncomputable abbrev Ds.p : FM := fmOf d.bs
noncomputable abbrev Ds.la : Las := lastingF d.bs
structure DOk : Prop where
  a0 : Acts low5 5 d.s0 d.r1 d.f1
  l0 : d.s0.length = 2
  a1 : Acts d.r1 d.f1 d.s1 d.r2 d.f2
  l1 : d.s1.length = 3
  hw : WayD d.r2 d.f2 d.w d.e1
  a2 : Acts d.r2 (d.f2 + 1) d.s2 d.q2 d.f3
  l2 : d.s2.length = 2
  a3 : Acts d.r2 d.f3 d.s3 d.q3 d.f4
  l3 : d.s3.length = 2
  a4 : Acts d.r2 d.f4 d.s4 d.r5 d.f5
  l4 : d.s4.length = 2
  a5 : Acts d.r5 d.f5 d.s5 d.q5 d.f6
  l5 : d.s5.length = 1
  hx : d.x ∈ d.q5
structure DNum : Prop where
  h1 : ∀ y ∈ d.r1, y < d.f1
  e1 : 5 ≤ d.f1
  h2 : ∀ y ∈ d.r2, y < d.f2
  e2 : d.f1 ≤ d.f2
  e3 : d.f2 + 1 ≤ d.f3
  e4 : d.f3 ≤ d.f4
  h5 : ∀ y ∈ d.r5, y < d.f5
  e5 : d.f4 ≤ d.f5
  rest : ∀ s ∈ d.rest, (∃ r, SG r s) ∧ DC s
  w : ∀ s ∈ d.w, SG d.r2 s ∧ s.dst = d.f2 ∧ s.op ≠ .store
end
theorem late_sg : ∀ s ∈ late, (∃ r, SG r s) ∧ DC s := fun s h => by
  simp only [late, List.mem_cons, List.not_mem_nil, or_false] at h
  rcases h with rfl | rfl
  · exact ⟨⟨[2], sg_rk (by simp) (by decide) (by simp) ⟨by decide, by decide⟩⟩, .inr (.inl rfl)⟩
  · exact ⟨⟨[4], sg_rk (by simp) (by decide) (by simp) ⟨by decide, by decide⟩⟩, .inr (.inr (.inr (.inl rfl)))⟩
theorem ahead_sg : ∀ s ∈ ahead, (∃ r, SG r s) ∧ DC s := fun s h => by
  simp only [ahead, List.mem_cons, List.not_mem_nil, or_false] at h
  rcases h with rfl | rfl | rfl
  · exact ⟨⟨[0], sg_copy (by decide) (by simp)⟩, .inr (.inl rfl)⟩
  · exact ⟨⟨[], sg_const (by decide) ⟨by decide, by decide⟩⟩, .inr (.inr (.inl rfl))⟩
  · exact ⟨⟨[], sg_const (by decide) ⟨by decide, by decide⟩⟩, .inr (.inr (.inr (.inl rfl)))⟩
set_option tactic.hygienic true in
theorem way_sg {regs : List Int} {f : Int} {w : List Sp} {e : Sp} (hw : WayD regs f w e) (h5 : 5 ≤ f) (lt : ∀ y ∈ regs, y < f) : ∀ s ∈ w, (SG regs s ∧ s.dst = f ∧ s.op ≠ .store) ∧ DC s := by
  intro s hs
  cases hw with
  | cmp hm hx v0 v1 =>
    rename_i m x v
    obtain rfl := List.mem_singleton.mp hs
    have hm' : m ∈ [Nm.eq, .ne, .lt, .ltu, .add, .shr] ∧ m ≠ .store := by
      simp only [List.mem_cons, List.not_mem_nil, or_false] at hm
      rcases hm with rfl | rfl | rfl | rfl <;> decide
    refine ⟨⟨sg_rk hm'.1 (by lia) hx ⟨v0, by lia⟩, rfl, hm'.2⟩, .inr (.inr (.inr (.inr ⟨h5, fun z hz => ?_⟩)))⟩
    have : z = x := by
      rcases List.mem_cons.mp hz with e | e
      · cases e; rfl
      · cases List.mem_singleton.mp e
    rw [this]; exact lt x hx
  | b32 _ => exact nomatch hs
  | table _ _ => exact nomatch hs
section
variable {d : Ds}
theorem DOk.num (o : DOk d) : DNum d := by
  obtain ⟨t0, u0⟩ := acts_fact o.a0 (fun y hy => of5 hy) (Int.le_refl _)
  obtain ⟨t1, u1⟩ := acts_fact o.a1 t0.1 t0.2
  have f2 := Int.le_trans t0.2 t1.2
  obtain ⟨t2, u2⟩ := acts_fact o.a2 (fun y hy => Int.lt_trans (t1.1 y hy) (Int.lt_succ _)) (Int.le_trans f2 (Int.le_of_lt (Int.lt_succ _)))
  have f3 := Int.le_trans (Int.le_of_lt (Int.lt_succ d.f2)) t2.2
  obtain ⟨t3, u3⟩ := acts_fact o.a3 (fun y hy => Int.lt_of_lt_of_le (t1.1 y hy) f3) (Int.le_trans f2 f3)
  have f4 := Int.le_trans f3 t3.2
  obtain ⟨t4, u4⟩ := acts_fact o.a4 (fun y hy => Int.lt_of_lt_of_le (t1.1 y hy) f4) (Int.le_trans f2 f4)
  obtain ⟨_, u5⟩ := acts_fact o.a5 t4.1 (Int.le_trans (Int.le_trans f2 f4) t4.2)
  have uw := way_sg o.hw f2 t1.1
  refine ⟨t0.1, t0.2, t1.1, t1.2, t2.2, t3.2, t4.1, t4.2, fun s hs => ?_, fun s hs => (uw s hs).1⟩
  rcases List.mem_append.mp hs with h | h
  · exact u0 s h
  · obtain ⟨b, hb, h⟩ := List.mem_flatMap.mp h
    simp only [Ds.tl, List.mem_cons, List.not_mem_nil, or_false] at hb
    rcases hb with rfl | rfl | rfl | rfl | rfl
    · exact (List.mem_append.mp h).elim (u1 s) fun h => ⟨⟨_, (uw s h).1.1⟩, (uw s h).2⟩
    · exact u2 s h
    · exact u3 s h
    · exact (List.mem_append.mp h).elim (u4 s) (late_sg s)
    · exact u5 s h
theorem Ds.all : allS d.bs = ahead ++ d.rest := by
  show (d.b0 :: d.tl).flatMap (·.steps) = _
  rw [List.flatMap_cons]; exact List.append_assoc ..
theorem Ds.inR {s : Sp} (h : s ∈ d.rest) : s ∈ allS d.bs := by rw [Ds.all]; exact List.mem_append.mpr (.inr h)
theorem Ds.inT {b : Blk} {s : Sp} (hb : b ∈ d.tl) (h : s ∈ b.steps) : s ∈ d.rest := List.mem_append.mpr (.inr (List.mem_flatMap.mpr ⟨b, hb, h⟩))
theorem m1 : d.b1 ∈ d.tl := .head _
theorem m2 : d.b2 ∈ d.tl := .tail _ (.head _)
theorem m3 : d.b3 ∈ d.tl := .tail _ (.tail _ (.head _))
theorem m4 : d.b4 ∈ d.tl := .tail _ (.tail _ (.tail _ (.head _)))
theorem m5 : d.b5 ∈ d.tl := .tail _ (.tail _ (.tail _ (.tail _ (.head _))))
theorem DC.mid {s : Sp} (h : DC s) {y : Int} (e : s.dst = y) (h0 : 0 ≤ y) (h5 : y < 5) : y = 2 ∨ y = 3 ∨ y = 4 := by
  subst e
  rcases h with h | h | h | h | h
  · rw [h] at h0; exact absurd h0 (by decide)
  · exact .inl h
  · exact .inr (.inl h)
  · exact .inr (.inr h)
  · exact absurd h5 (Int.not_lt.mpr h.1)
structure Big (d : Ds) : Prop where
  n : DNum d
  cs : ∀ s ∈ allS d.bs, (∃ r, SG r s) ∧ DC s
  many : ∀ s ∈ d.rest, s.dst = 2 ∨ s.dst = 3 ∨ s.dst = 4 → (lk d.p.2 s.dst).isSome = true
  G : Gd d.p d.la (allS d.bs)
  c5 : ∀ regs : List Int, (∀ y ∈ regs, y < 5) → Closed d.p regs
theorem Big.two (B : Big d) : (lk d.p.2 2).isSome = true := B.many late0 (Ds.inT m4 (List.mem_append.mpr (.inr (.head _)))) (.inl rfl)
theorem Big.four (B : Big d) : (lk d.p.2 4).isSome = true := B.many late1 (Ds.inT m4 (List.mem_append.mpr (.inr (.tail _ (.head _))))) (.inr (.inr rfl))
theorem DOk.big (o : DOk d) : Big d := by
  have n := o.num
  have F := fmOf_inv d.bs
  have cs : ∀ s ∈ allS d.bs, (∃ r, SG r s) ∧ DC s := fun s hs => by
    rw [Ds.all] at hs
    exact (List.mem_append.mp hs).elim (ahead_sg s) (n.rest s)
  have many : ∀ s ∈ d.rest, s.dst = 2 ∨ s.dst = 3 ∨ s.dst = 4 → (lk d.p.2 s.dst).isSome = true := fun s hs hd => by
    refine F.i9 _ (by lia) ?_
    rw [Ds.all, cnt_append]
    have h1 := cnt_pos hs
    have h2 : cnt ahead s.dst = 1 := by rcases hd with h | h | h <;> rw [h] <;> rfl
    lia
  have two : (lk d.p.2 2).isSome = true := many late0 (Ds.inT m4 (List.mem_append.mpr (.inr (.head _)))) (.inl rfl)
  have four : (lk d.p.2 4).isSome = true := many late1 (Ds.inT m4 (List.mem_append.mpr (.inr (.tail _ (.head _))))) (.inr (.inr rfl))
  have small : ∀ y s, Base d.p y s → y < 5 → ∀ z, Opd.r z ∈ s.args → False := fun y s b hy z hz => by
    obtain ⟨h1, h2, h3⟩ := F.i1 y s b.f
    have hy := (cs s h1).2.mid h2 h3 hy
    rcases hy with rfl | rfl | rfl
    · rw [b.m] at two; exact nD two
    · have := F.i3 3 s ⟨.const, 3, [.k 1], .int 0⟩ b.f b.m (by rw [Ds.all]; exact .tail _ (.head _)) rfl
      rw [← this] at hz
      exact nomatch (List.mem_singleton.mp hz)
    · rw [b.m] at four; exact nD four
  refine ⟨n, cs, many, ⟨F, fun y s b z hz => ?_, fun s hs ht => ?_, lasting_reach d.bs, lasting_shs d.bs⟩, fun regs h y hy s b z hz => (small y s b (h y hy) z hz).elim⟩
  · obtain ⟨h1, h2, h3⟩ := F.i1 y s b.f
    by_cases hy : y < 5
    · exact (small y s b hy z hz).elim
    · rcases (cs s h1).2 with h | h | h | h | h
      · lia
      · lia
      · lia
      · lia
      · exact h2 ▸ h.2 z hz
  · obtain ⟨⟨r, sg⟩, _⟩ := cs s hs
    exact sg.tell ht
theorem Big.S1 (B : Big d) (o : DOk d) : Sc d.p d.r1 d.f1 := acts_sc B.G o.a0 (fun s h => Ds.inR (List.mem_append.mpr (.inl h))) ⟨fun y hy => of5 hy, Int.le_refl _, B.c5 _ fun y hy => of5 hy⟩
theorem Big.S2 (B : Big d) (o : DOk d) : Sc d.p d.r2 d.f2 := acts_sc B.G o.a1 (fun s h => Ds.inR (Ds.inT m1 (List.mem_append.mpr (.inl h)))) (B.S1 o)
theorem Big.f24 (B : Big d) : d.f2 ≤ d.f4 := by have := B.n.e3; have := B.n.e4; lia
theorem Big.S5 (B : Big d) (o : DOk d) : Sc d.p d.r5 d.f5 := acts_sc B.G o.a4 (fun s h => Ds.inR (Ds.inT m4 (List.mem_append.mpr (.inl h)))) ((B.S2 o).up B.f24)
theorem DOk.in1 (o : DOk d) : ∀ y : Int, 0 ≤ y → y < 5 → y ∈ d.r1 := fun y h0 h1 => acts_mem o.a0 y (mem5 h0 h1)
theorem DOk.in2 (o : DOk d) : ∀ y : Int, 0 ≤ y → y < 5 → y ∈ d.r2 := fun y h0 h1 => acts_mem o.a1 y (o.in1 y h0 h1)
theorem DOk.in5 (o : DOk d) : ∀ y : Int, 0 ≤ y → y < 5 → y ∈ d.r5 := fun y h0 h1 => acts_mem o.a4 y (o.in2 y h0 h1)
theorem Big.run (B : Big d) {regs regs' : List Int} {f f' : Int} {ss : List Sp} {hs : Hs} {fc : Fct} {K : Hs → Prop} (a : Acts regs f ss regs' f') (hl : ∀ s ∈ ss, s ∈ d.rest) (h5 : ∀ y : Int, 0 ≤ y → y < 5 → y ∈ regs) (sc : Sc d.p regs f) (I : Inv d.p regs hs) (fi : FI fc hs)
    (k : ∀ hs', Sc d.p regs' f' → Inv d.p regs' hs' → FI (runF fc ss) hs' → lk hs' 4 = lk hs 4 → K hs') : stepsOk ss (rowsB d.la fc ss) hs K :=
  acts_run B.G a (fun s h => Ds.inR (hl s h)) (fun s h hd => B.many s (hl s h) (hd.imp id .inl)) h5 sc I fi k
noncomputable abbrev Ds.laps (d : Ds) : Nat → Nat → Hs → Prop := lapsOk d.bs (rowsN d.bs d.b1 d.b4)
noncomputable abbrev Ds.en (d : Ds) : Int → Fct := EN d.la d.b1 d.b4
theorem args1 {regs : List Int} {y : Int} (h : y ∈ regs) : ∀ o ∈ [Opd.r y], Opd.In regs o := fun o ho => by rw [List.mem_singleton.mp ho]; exact h
theorem lap5 (o : DOk d) (B : Big d) (k : Nat) (hs : Hs) (I : Inv d.p d.r5 hs) (fi : FI (d.en 5) hs) : d.laps (k + 1) 5 hs := by
  refine lap_intro (b := d.b5) rfl (by show d.s5.length < 100; rw [o.l5]; decide) (by decide : 1 < 100) ?_
  refine B.run o.a5 (fun s h => Ds.inT m5 h) o.in5 (B.S5 o) I fi fun hs' S' I' fi' ι => ⟨?_, .give⟩
  exact rowsF_so B.G I' S'.c fi' (args1 o.hx)
theorem lap4 (o : DOk d) (B : Big d) (k : Nat) (hs : Hs) (v : Int) (I : Inv d.p d.r2 hs) (hv : lk hs 4 = some v)
    (h : ∀ hs', Inv d.p d.r1 hs' → lk hs' 4 = some (workedF .shr [v, 1] (.int 0)) → workedF .shr [v, 1] (.int 0) ≠ 0 → d.laps (k + 1) 1 hs') : d.laps (k + 2) 4 hs := by
  refine lap_intro (b := d.b4) rfl (by show (d.s4 ++ late).length < 100; rw [List.length_append, o.l4]; decide) (by decide : 1 < 100) ?_
  show stepsOk (d.s4 ++ late) (rowsB d.la f0 (d.s4 ++ late)) hs _
  refine stepsOk_append ?_
  refine B.run o.a4 (fun s h => Ds.inT m4 (List.mem_append.mpr (.inl h))) o.in2 ((B.S2 o).up B.f24) I (FI.nil hs) fun hs1 S' I1 fi1 e1 => ?_
  rw [hv] at e1
  have i0 : late0 ∈ d.rest := Ds.inT m4 (List.mem_append.mpr (.inr (.head _)))
  have i1 : late1 ∈ d.rest := Ds.inT m4 (List.mem_append.mpr (.inr (.tail _ (.head _))))
  have h2 := o.in5 2 (by decide) (by decide)
  have h4 := o.in5 4 (by decide) (by decide)
  refine one_step (regs' := d.r5) B.G I1 S'.c fi1 (Ds.inR i0) (sg_rk (by simp) (by decide) h2 ⟨by decide, by decide⟩) (fun ι => .inl B.two) (fun y hy => .inl hy) fun hs2 I2 fi2 o2 ι ι => ?_
  have e2 : lk hs2 4 = some v := (o2 4 (by decide)).trans e1
  refine one_step (regs' := d.r5) B.G I2 S'.c fi2 (Ds.inR i1) (sg_rk (by simp) (by decide) h4 ⟨by decide, by decide⟩) (fun ι => .inl B.four) (fun y hy => .inl hy) fun hs3 I3 fi3 o3 ι w3 => ?_
  have e3 : lk hs3 4 = some (workedF .shr [v, 1] (.int 0)) := w3 (fun e => nomatch e) (fun e => nomatch e) [v, 1] (show vals hs2 [.r 4, .k 1] = some [v, 1] by simp [vals, valO, e2])
  have fi4 : FI (runF f0 (d.s4 ++ late)) hs3 := by rw [runF_append]; exact fi3
  exact ⟨rowsF_so B.G I3 S'.c fi4 (args1 h4), EndRun.branch (t := 1) (o := 5) e3 (fun q => h hs3 (I3.sub fun y hy => acts_mem o.a4 y (acts_mem o.a1 y hy)) e3 q)
    fun q => lap5 o B k hs3 I3 (branch_fi (c := 4) (t := 1) (o := 5) B.G I3 S'.c fi4 h4 e3 (by decide) (.inr ⟨rfl, q⟩))⟩
theorem lap2 (o : DOk d) (B : Big d) (k : Nat) (hs : Hs) (v : Int) (I : Inv d.p d.r2 hs) (fi : FI (d.en 2) hs) (hv : lk hs 4 = some v) (h : ∀ hs', Inv d.p d.r2 hs' → lk hs' 4 = some v → d.laps k 4 hs') : d.laps (k + 1) 2 hs := by
  refine lap_intro (b := d.b2) rfl (by show d.s2.length < 100; rw [o.l2]; decide) (by decide : 0 < 100) ?_
  exact B.run o.a2 (fun s h => Ds.inT m2 h) o.in2 ((B.S2 o).up (Int.le_of_lt (Int.lt_succ _))) I fi fun hs1 S' I1 fi1 e1 => ⟨fun w hw => (nomatch hw), EndRun.jump (t := 4) (h hs1 (I1.sub (acts_mem o.a2)) (e1.trans hv))⟩
theorem lap3 (o : DOk d) (B : Big d) (k : Nat) (hs : Hs) (v : Int) (I : Inv d.p d.r2 hs) (fi : FI (d.en 3) hs) (hv : lk hs 4 = some v) (h : ∀ hs', Inv d.p d.r2 hs' → lk hs' 4 = some v → d.laps k 4 hs') : d.laps (k + 1) 3 hs := by
  refine lap_intro (b := d.b3) rfl (by show d.s3.length < 100; rw [o.l3]; decide) (by decide : 0 < 100) ?_
  exact B.run o.a3 (fun s h => Ds.inT m3 h) o.in2 ((B.S2 o).up (by have := B.n.e3; lia)) I fi fun hs1 S' I1 fi1 e1 => ⟨fun w hw => (nomatch hw), EndRun.jump (t := 4) (h hs1 (I1.sub (acts_mem o.a3)) (e1.trans hv))⟩
theorem way_len {regs : List Int} {f : Int} {w : List Sp} {e : Sp} (hw : WayD regs f w e) : w.length ≤ 1 ∧ e.args.length < 100 ∧ okV e.more 5 = true ∧ ∃ fs, Way e fs := by
  cases hw with
  | cmp => exact ⟨Nat.le_refl _, (by decide : 1 < 100), rfl, _, .b23⟩
  | b32 => exact ⟨Nat.zero_le _, (by decide : 1 < 100), rfl, _, .b32⟩
  | table _ h => exact ⟨Nat.zero_le _, (by decide : 1 < 100), rfl, _, .table h⟩
set_option tactic.hygienic true in
theorem lap1 (o : DOk d) (B : Big d) (k : Nat) (hs : Hs) (v : Int) (I : Inv d.p d.r1 hs) (hv : lk hs 4 = some v) (h : ∀ hs', Inv d.p d.r2 hs' → lk hs' 4 = some v → d.laps k 4 hs') : d.laps (k + 2) 1 hs := by
  have wl := way_len o.hw
  refine lap_intro (b := d.b1) rfl (by show (d.s1 ++ d.w).length < 100; rw [List.length_append, o.l1]; omega) wl.2.1 ?_
  have two : ∀ hs', Inv d.p d.r2 hs' → FI (entryF d.la (runF f0 (d.s1 ++ d.w)) d.e1 2) hs' → lk hs' 4 = some v → d.laps (k + 1) 2 hs' := fun hs' I' fi' e' => lap2 o B k hs' v I' fi' e' h
  have three : ∀ hs', Inv d.p d.r2 hs' → FI (entryF d.la (runF f0 (d.s1 ++ d.w)) d.e1 3) hs' → lk hs' 4 = some v → d.laps (k + 1) 3 hs' := fun hs' I' fi' e' => lap3 o B k hs' v I' fi' e' h
  show stepsOk (d.s1 ++ d.w) (rowsB d.la f0 (d.s1 ++ d.w)) hs fun hs' => (∀ w ∈ rowsF d.la (runF f0 (d.s1 ++ d.w)) d.e1.args, IsSo hs' w) ∧ EndRun (d.laps (k + 1)) hs' d.e1
  refine stepsOk_append ?_
  refine B.run o.a1 (fun s h => Ds.inT m1 (List.mem_append.mpr (.inl h))) o.in1 (B.S1 o) I (FI.nil hs) fun hs1 S' I1 fi1 e1' => ?_
  rw [hv] at e1'
  have hw := o.hw
  have uw := B.n.w
  have mw : ∀ s ∈ d.w, s ∈ allS d.bs := fun s h => Ds.inR (Ds.inT m1 (List.mem_append.mpr (.inr h)))
  generalize d.w = w at hw uw mw two three ⊢
  generalize d.e1 = e at hw two three ⊢
  cases hw with
  | cmp hm hx v0 v1 =>
    rename_i m x u
    obtain ⟨sg, hd, hns⟩ := uw _ (.head _)
    refine one_step (regs' := d.r2 ++ [d.f2]) B.G I1 S'.c fi1 (mw _ (.head _)) sg (fun ι => .inr S'.lt) (fun y hy => (List.mem_append.mp hy).imp id fun h => ⟨hns, List.mem_singleton.mp h⟩) fun hs2 I2 fi2 o2 ι ι => ?_
    have S2' := S'.fresh B.G (mw _ (.head _)) hd sg
    have fi3 : FI (runF f0 (d.s1 ++ [⟨m, d.f2, [.r x, .k u], .int 0⟩])) hs2 := by rw [runF_append]; exact fi2
    have hf : d.f2 ∈ d.r2 ++ [d.f2] := List.mem_append.mpr (.inr (.head _))
    obtain ⟨c, hc, _, _⟩ := I2 d.f2 hf
    have e2 : lk hs2 4 = some v := (o2 4 (by have := S'.five; show (4 : Int) ≠ d.f2; omega)).trans e1'
    have I3 : Inv d.p d.r2 hs2 := I2.sub fun y hy => List.mem_append.mpr (.inl hy)
    exact ⟨rowsF_so B.G I2 S2'.c fi3 (args1 hf), EndRun.branch (t := 2) (o := 3) hc (fun q => two hs2 I3 (branch_fi (c := d.f2) (t := 2) (o := 3) B.G I2 S2'.c fi3 hf hc (by decide) (.inl ⟨rfl, q⟩)) e2)
      fun q => three hs2 I3 (branch_fi (c := d.f2) (t := 2) (o := 3) B.G I2 S2'.c fi3 hf hc (by decide) (.inr ⟨rfl, q⟩)) e2⟩
  | b32 hx =>
    rename_i x
    have fi3 : FI (runF f0 (d.s1 ++ [])) hs1 := by rw [runF_append]; exact fi1
    obtain ⟨c, hc, _, _⟩ := I1 x hx
    exact ⟨rowsF_so B.G I1 S'.c fi3 (args1 hx), EndRun.branch (t := 3) (o := 2) hc (fun q => three hs1 I1 (branch_fi (c := x) (t := 3) (o := 2) B.G I1 S'.c fi3 hx hc (by decide) (.inl ⟨rfl, q⟩)) e1')
      fun q => two hs1 I1 (branch_fi (c := x) (t := 3) (o := 2) B.G I1 S'.c fi3 hx hc (by decide) (.inr ⟨rfl, q⟩)) e1'⟩
  | table hx hlow =>
    rename_i x low
    have fi3 : FI (runF f0 (d.s1 ++ [])) hs1 := by rw [runF_append]; exact fi1
    obtain ⟨c, hc, _, _⟩ := I1 x hx
    exact ⟨rowsF_so B.G I1 S'.c fi3 (args1 hx), EndRun.table hc (fun q => two hs1 I1 ((FI.nil hs1).learn (by rw [hc, q]) (by rcases hlow with rfl | rfl <;> exact ⟨by decide, by decide⟩)) e1') fun q => three hs1 I1 (FI.nil hs1) e1'⟩
theorem lap0 (o : DOk d) (B : Big d) (p q : Int) (k : Nat) (hp : In32 p) (hq : In32 q) (h : ∀ hs', Inv d.p d.r1 hs' → lk hs' 4 = some 5 → d.laps k 1 hs') : d.laps (k + 1) 0 [(0, p), (1, q)] := by
  refine lap_intro (b := d.b0) rfl (by show (ahead ++ d.s0).length < 100; rw [List.length_append, o.l0]; decide) (by decide : 0 < 100) ?_
  show stepsOk (ahead ++ d.s0) (rowsB d.la f0 (ahead ++ d.s0)) _ _
  have nob : ∀ y s, y = 0 ∨ y = 1 → ¬ Base d.p y s := fun y s hy b => by
    obtain ⟨h1, h2, h3⟩ := B.G.F.i1 y s b.f
    rcases hy with rfl | rfl <;> rcases (B.cs s h1).2.mid h2 (by decide) (by decide) with h | h | h <;> exact absurd h (by decide)
  have I0 : Inv d.p [0, 1] [(0, p), (1, q)] := fun y hy => by
    simp only [List.mem_cons, List.not_mem_nil, or_false] at hy
    rcases hy with rfl | rfl
    · exact ⟨p, rfl, hp, fun s b => (nob 0 s (.inl rfl) b).elim⟩
    · exact ⟨q, rfl, hq, fun s b => (nob 1 s (.inr rfl) b).elim⟩
  have ma : ∀ s ∈ ahead, s ∈ allS d.bs := fun s hs => by rw [Ds.all]; exact List.mem_append.mpr (.inl hs)
  have sub : ∀ (l : List Int) (s : Sp) (y : Int), s.op ≠ .store → y ∈ l ++ [s.dst] → y ∈ l ∨ (s.op ≠ .store ∧ y = s.dst) := fun l s y hs hy => (List.mem_append.mp hy).imp id fun h => ⟨hs, List.mem_singleton.mp h⟩
  refine stepsOk_append ?_
  refine one_step (regs' := [0, 1, 2]) B.G I0 (B.c5 _ (by decide)) (FI.nil _) (ma _ (.head _)) (sg_copy (by decide) (.head _)) (fun ι => .inl B.two) (fun y hy => sub [0, 1] _ y (by decide) hy) fun hs1 I1 fi1 o1 ι ι => ?_
  refine one_step (regs' := [0, 1, 2, 3]) B.G I1 (B.c5 _ (by decide)) fi1 (ma _ (.tail _ (.head _))) (sg_const (by decide) ⟨by decide, by decide⟩) (fun ι => .inr (by decide)) (fun y hy => sub [0, 1, 2] _ y (by decide) hy) fun hs2 I2 fi2 o2 ι ι => ?_
  refine one_step (regs' := low5) B.G I2 (B.c5 _ (by decide)) fi2 (ma _ (.tail _ (.tail _ (.head _)))) (sg_const (by decide) ⟨by decide, by decide⟩) (fun ι => .inl B.four) (fun y hy => sub [0, 1, 2, 3] _ y (by decide) hy) fun hs3 I3 fi3 o3 ι w3 => ?_
  have e3 : lk hs3 4 = some 5 := w3 (by decide) (by decide) [5] rfl
  show stepsOk d.s0 (rowsB d.la (runF f0 ahead) d.s0) hs3 _
  exact B.run o.a0 (fun s h => List.mem_append.mpr (.inl h)) (fun y h0 h1 => mem5 h0 h1) ⟨fun y hy => of5 hy, Int.le_refl _, B.c5 _ fun y hy => of5 hy⟩ I3 fi3 fun hs4 S' I4 fi4 e4 => ⟨fun w hw => (nomatch hw), EndRun.jump (t := 1) (h hs4 I4 (e4.trans e3))⟩
theorem DOk.plain (o : DOk d) : PlainOk d.bs := by
  have B := o.big
  obtain ⟨wl, a1, a2, f1', hway⟩ := way_len o.hw
  have inS : ∀ b ∈ d.bs, ∀ s ∈ b.steps, s ∈ allS d.bs := fun b hb s hs => List.mem_flatMap.mpr ⟨b, hb, hs⟩
  refine ⟨d.b0, d.b1, d.b2, d.b3, d.b4, d.b5, f1', ⟨rfl, rfl, rfl, rfl, rfl, rfl, rfl, rfl, hway, rfl, rfl, rfl, ⟨d.x, rfl⟩⟩, fun b hb s hs => ?_, fun b hb s hs => ?_, ?_, fun i b hb r hr w' hw' => ?_, fun p q hp hq => ?_⟩
  · obtain ⟨⟨r, sg⟩, _⟩ := B.cs s (inS b hb s hs)
    exact sg.ok
  · rcases List.mem_append.mp hs with hs | hs
    · obtain ⟨⟨r, sg⟩, _⟩ := B.cs s (inS b hb s hs)
      exact ⟨sg.more, sg.len⟩
    · obtain rfl := List.mem_singleton.mp hs
      simp only [Ds.bs, Ds.tl, List.mem_cons, List.not_mem_nil, or_false] at hb
      rcases hb with rfl | rfl | rfl | rfl | rfl | rfl
      · exact ⟨rfl, (by decide : 0 < 100)⟩
      · exact ⟨a2, a1⟩
      · exact ⟨rfl, (by decide : 0 < 100)⟩
      · exact ⟨rfl, (by decide : 0 < 100)⟩
      · exact ⟨rfl, (by decide : 1 < 100)⟩
      · exact ⟨rfl, (by decide : 1 < 100)⟩
  · show (ahead ++ d.s0).length + ((d.s1 ++ d.w).length + (d.s2.length + (d.s3.length + ((d.s4 ++ late).length + (d.s5.length + 0))))) < 100
    rw [List.length_append, List.length_append, List.length_append, o.l0, o.l1, o.l2, o.l3, o.l4, o.l5]
    show 3 + 2 + (3 + d.w.length + (2 + (2 + (2 + 2 + (1 + 0))))) < 100
    lia
  · obtain ⟨fc, z, rfl⟩ := rowsOf_are hr w' hw'
    refine num_ok' (fun s hs h0 => ?_) (fun s hs ht => ?_) fc z
    · by_cases h5 : s.dst < 5
      · rcases (B.cs s hs).2.mid rfl h0 h5 with h | h | h <;> rw [h] <;> decide
      · lia
    · obtain ⟨⟨r, sg⟩, _⟩ := B.cs s hs
      exact ⟨sg.tell ht, (sg.dst (fun e => by rw [e] at ht; exact absurd ht (by decide))).1⟩
  · exact lap0 o B p q 15 hp hq fun h1 I1 v1 => lap1 o B 13 h1 5 I1 v1 fun h2 I2 v2 => lap4 o B 11 h2 5 I2 v2 fun h3 I3 v3 ι => lap1 o B 10 h3 2 I3 v3 fun h4 I4 v4 => lap4 o B 8 h4 2 I4 v4 fun h5 I5 v5 ι =>
      lap1 o B 7 h5 1 I5 v5 fun h6 I6 v6 => lap4 o B 5 h6 1 I6 v6 fun h7 I7 v7 q => absurd rfl q
end
set_option tactic.hygienic true in
theorem plain_law (bs : List Blk) (d : Drawn bs) : PlainOk bs := by
  cases d with
  | mk a0 l0 a1 l1 hw a2 l2 a3 l3 a4 l4 a5 l5 hx =>
  rename_i n0 n1 n2 n3 n4 n5 s0 s1 s2 s3 s4 s5 w e1 f1 f2 f3 f4 f5 f6 x
  have sc1 : scopeOf [n0, n1, n2, n3, n4, n5] 1 = scopeOf [n0, n1, n2, n3, n4, n5] 0 ++ n0 := by simp [scopeOf, seen]
  have sc2 : scopeOf [n0, n1, n2, n3, n4, n5] 2 = scopeOf [n0, n1, n2, n3, n4, n5] 1 ++ n1 := by simp [scopeOf, seen]
  have sc5 : scopeOf [n0, n1, n2, n3, n4, n5] 5 = scopeOf [n0, n1, n2, n3, n4, n5] 4 ++ n4 := by simp [scopeOf, seen]
  exact DOk.plain (d := ⟨s0, s1, s2, s3, s4, s5, w, e1, f1, f2, f3, f4, f5, f6, x, scopeOf [n0, n1, n2, n3, n4, n5] 1, scopeOf [n0, n1, n2, n3, n4, n5] 2, _, _, scopeOf [n0, n1, n2, n3, n4, n5] 5, _⟩) ⟨sc1 ▸ a0, l0, sc2 ▸ a1, l1, sc2 ▸ hw, a2, l2, a3, l3, sc5 ▸ a4, l4, a5, l5, hx⟩
end
noncomputable abbrev P : Program := PySem.Challenge.pw_nm0019_01
noncomputable def defsIn (l : List Stmt) : List (Arguments × List Stmt × Scope) := l.filterMap fun
  | .FunctionDef _ a b _ _ _ s _ _ _ => some (a, b, s)
  | _ => none
noncomputable def defsOf (l : List Stmt) : List (Arguments × List Stmt × Scope) := l.flatMap fun
  | .FunctionDef _ a b _ _ _ s _ _ _ => [(a, b, s)]
  | .ClassDef _ _ _ body _ _ _ _ _ _ _ => defsIn body
  | _ => []
noncomputable def DV (i : Nat) : Option (Arguments × List Stmt × Scope) := (defsOf P.main.body)[i]?
noncomputable def scOk (s : Scope) (nm ps : List Str) : Bool := s.kind == .function && !s.isCoroutine && !s.isGenerator && fdOk s.names nm ps
noncomputable def AllV : Nat → (List Value → Prop) → Prop
  | 0, f => f []
  | n + 1, f => ∀ v, AllV n fun l => f (v :: l)
theorem allV {n : Nat} : ∀ {f : List Value → Prop}, AllV n f → ∀ cs, cs.length = n → f cs := by
  induction n with
  | zero => intro f h cs e; rw [List.length_eq_zero_iff.mp e]; exact h
  | succ n ih =>
    intro f h cs e
    cases cs with
    | nil => exact nomatch e
    | cons c cs => exact ih (h c) cs (Nat.succ.inj e)
noncomputable def Bnd (a : Arguments) (ps : List Str) : Prop := AllV ps.length fun cs => ∀ (nm qn : Str) (body : FuncBody) (scope : Scope) (gl : Addr) (cl : List (Str × Addr)) (kV doc pm : Value) (an : Option Addr) (cd ct : Value) (bi : Addr),
  bindArgs ⟨nm, qn, a, body, scope, gl, cl, .none, kV, doc, pm, an, cd, ct, bi⟩ ⟨cs, []⟩ = pure (ps.zip cs)
structure Fit (i : Nat) (ps nm : List Str) (ir : Ss) : Prop where
  ex : ∃ a b s, DV i = some (a, b, s) ∧ Bnd a ps ∧ scOk s nm ps = true ∧ SSs s.names nm ir b
noncomputable def caA : Cl → Addr | .Step => 45 | .Block => 66 | .Func => 87 | .Lasting => 118 | .Facts => 195
noncomputable def faA : Fn → Value
  | .withNumber => .ref 21 | .num => .ref 28 | .stepInit => .ref 42 | .blockInit => .ref 63 | .funcInit => .ref 84 | .followers => .ref 98 | .areLasting => .ref 129 | .endOf => .ref 136 | .lastingOf => .ref 143
  | .lastingInit => .ref 115 | .factsInit => .ref 157 | .holds => .ref 164 | .best => .ref 171 | .shape => .ref 178 | .learn => .ref 185 | .passStep => .ref 192 | .learnBranch => .ref 206 | .learnTable => .ref 213 | .factsAt => .ref 220
  | .preds => .ref 225 | .postorder => .ref 232 | .order => .ref 239 | .draw => .ref 255 | .operand => .ref 262 | .made => .ref 269 | .acts => .ref 276 | .way => .ref 283 | .func => .ref 290 | .said => .ref 295 | .allSaid => .ref 302
  | .signed => .ref 309 | .word => .ref 316 | .turned => .ref 323 | .worked => .ref 330 | .loaded => .ref 337 | .read => .ref 344 | .isSo => .ref 349 | .walk => .ref 354 | .shown => .ref 359 | .numbersKnown => .ref 366 | .law => .ref 371
  | .cls c => .ref (caA c) | .len => .builtin "len" | .all => .builtin "all" | .sorted => .builtin "sorted" | .int => .type "int" | .list => .type "list"
noncomputable def fdefs : List Fn := [.withNumber, .num, .stepInit, .blockInit, .funcInit, .followers, .lastingInit, .areLasting, .endOf, .lastingOf, .factsInit, .holds, .best, .shape, .learn, .passStep,
  .learnBranch, .learnTable, .factsAt, .preds, .postorder, .order, .draw, .operand, .made, .acts, .way, .func, .said, .allSaid, .signed, .word, .turned, .worked, .loaded, .read, .isSo, .walk, .shown, .numbersKnown, .law]
noncomputable def fnAll : List Fn := fdefs ++ [.cls .Step, .cls .Block, .cls .Func, .cls .Lasting, .cls .Facts, .len, .all, .sorted, .int, .list]
theorem fn_at (f : Fn) : ∃ i : Nat, fnAll[i]? = some f := by
  cases f with
  | withNumber => exact ⟨0, rfl⟩
  | num => exact ⟨1, rfl⟩
  | stepInit => exact ⟨2, rfl⟩
  | blockInit => exact ⟨3, rfl⟩
  | funcInit => exact ⟨4, rfl⟩
  | followers => exact ⟨5, rfl⟩
  | lastingInit => exact ⟨6, rfl⟩
  | areLasting => exact ⟨7, rfl⟩
  | endOf => exact ⟨8, rfl⟩
  | lastingOf => exact ⟨9, rfl⟩
  | factsInit => exact ⟨10, rfl⟩
  | holds => exact ⟨11, rfl⟩
  | best => exact ⟨12, rfl⟩
  | shape => exact ⟨13, rfl⟩
  | learn => exact ⟨14, rfl⟩
  | passStep => exact ⟨15, rfl⟩
  | learnBranch => exact ⟨16, rfl⟩
  | learnTable => exact ⟨17, rfl⟩
  | factsAt => exact ⟨18, rfl⟩
  | preds => exact ⟨19, rfl⟩
  | postorder => exact ⟨20, rfl⟩
  | order => exact ⟨21, rfl⟩
  | draw => exact ⟨22, rfl⟩
  | operand => exact ⟨23, rfl⟩
  | made => exact ⟨24, rfl⟩
  | acts => exact ⟨25, rfl⟩
  | way => exact ⟨26, rfl⟩
  | func => exact ⟨27, rfl⟩
  | said => exact ⟨28, rfl⟩
  | allSaid => exact ⟨29, rfl⟩
  | signed => exact ⟨30, rfl⟩
  | word => exact ⟨31, rfl⟩
  | turned => exact ⟨32, rfl⟩
  | worked => exact ⟨33, rfl⟩
  | loaded => exact ⟨34, rfl⟩
  | read => exact ⟨35, rfl⟩
  | isSo => exact ⟨36, rfl⟩
  | walk => exact ⟨37, rfl⟩
  | shown => exact ⟨38, rfl⟩
  | numbersKnown => exact ⟨39, rfl⟩
  | law => exact ⟨40, rfl⟩
  | len => exact ⟨46, rfl⟩
  | all => exact ⟨47, rfl⟩
  | sorted => exact ⟨48, rfl⟩
  | int => exact ⟨49, rfl⟩
  | list => exact ⟨50, rfl⟩
  | cls c => cases c with
    | Step => exact ⟨41, rfl⟩
    | Block => exact ⟨42, rfl⟩
    | Func => exact ⟨43, rfl⟩
    | Lasting => exact ⟨44, rfl⟩
    | Facts => exact ⟨45, rfl⟩
theorem fnAll_mem (f : Fn) : f ∈ fnAll := let ⟨_, h⟩ := fn_at f; List.mem_of_getElem? h
noncomputable def pickL (l : List Obj) : List Addr → Frag
  | [] => []
  | a :: as => match l[a]? with
    | some ⟨_, _, .freed, _⟩ => pickL l as
    | some o => (a, o) :: pickL l as
    | none => pickL l as
noncomputable def needs : List Addr := [45, 66, 87, 118, 195, 44, 65, 86, 117, 194, 21, 28, 42, 63, 84, 98, 115, 129, 136, 143, 157, 164, 171, 178, 185, 192, 206, 213, 220, 225, 232, 239, 255, 262, 269, 276, 283, 290, 295, 302, 309, 316, 323, 330, 337, 344, 349, 354, 359, 366, 371, 20, 27, 41, 62, 83, 97, 114, 128, 135, 142, 156, 163, 170, 177, 184, 191, 205, 212, 219, 224, 231, 238, 254, 261, 268, 275, 282, 289, 294, 301, 308, 315, 322, 329, 336, 343, 348, 353, 358, 365, 370]
noncomputable def fragH (h : Heap) : Frag := pickL h.objs.toList needs
noncomputable def look0 (K : Frag) : Bool :=
  (clN.all fun C => clsLook K (caA C)) &&
  (methN.all fun p => match faA p.1 with | .ref f => findIn K (.ref (caA .Facts)) p.2.str == some (some (.ref f)) && isFn K (.ref f) && fnIn K f | _ => false) &&
  (initN.all fun p => match faA p.2 with | .ref f => findIn K (.ref (caA p.1)) "__init__" == some (some (.ref f)) && isFn K (.ref f) | _ => false)
noncomputable def nmOk (h : Heap) : Bool := fnAll.all fun f => match f.at_ with
  | some false => h.nsMap mainGlobals f.str == some (faA f)
  | some true => h.nsMap mainGlobals f.str == none && h.nsMap builtinsNs f.str == some (faA f)
  | none => true
noncomputable def rgOk (h : Heap) : Bool := h.nsMap mainGlobals "range" == none && h.nsMap builtinsNs "range" == some (.type "range") && h.nsMap mainGlobals "enumerate" == none && h.nsMap builtinsNs "enumerate" == some (.type "enumerate")
noncomputable def limOk (h : Heap) : Bool := h.isNs mainGlobals && h.isNs builtinsNs && h.isNs cStatics && h.nsMap cStatics "sys.recursionlimit" == none && (h.get? sysModules).isSome
noncomputable def fdPlain (K : Frag) (fd : FuncData) : Bool := codeIn K fd.code fd.qualname && kdsCode K fd.code && fd.closure.isEmpty && fd.globals == mainGlobals && fd.builtins == builtinsNs && fd.defaults == .none
noncomputable def fview (K : Frag) (f : Fn) : Option (Arguments × List Stmt × Scope) := match faA f with
  | .ref a => match K.lookup a with
    | some ⟨_, _, .func fd, _⟩ => match fd.body with
      | .stmts b => match fdPlain K fd with | true => some (fd.params, b, fd.scope) | false => none
      | _ => none
    | _ => none
  | _ => none
noncomputable def leafB (c : Value) : V → Bool
  | .int i => Value.isInt i c
  | .str n => Value.isStrOf n.str c
  | _ => false
noncomputable def all2 (f : Value → V → Bool) : List Value → List V → Bool
  | [], [] => true
  | c :: cs, v :: vs => f c v && all2 f cs vs
  | _, _ => false
noncomputable def seqAt (t : String) (o : Option Obj) : Option (List Value) := match o with
  | some ⟨.type u, none, .seq cs _, sl⟩ => match u == t && sl.isEmpty with | true => some cs.toList | false => none
  | _ => none
noncomputable def tupB (h : Heap) (f : Value → V → Bool) (c : Value) (v : V) : Bool := match v with
  | .tup vs => match c with
    | .ref a => match seqAt "tuple" (h.get? a) with | some cs => all2 f cs vs | none => false
    | _ => false
  | _ => false
noncomputable def relB (h : Heap) (c : Value) (v : V) : Bool := leafB c v || tupB h leafB c v || tupB h (tupB h leafB) c v
noncomputable def gData : List Gn := [.MASK, .NEVER, .SIZE, .PLACE, .TWO, .ONE, .SEEN]
noncomputable def gOk (h : Heap) : Bool := gData.all fun g => match h.nsMap mainGlobals g.str with | some c => relB h c g.val | none => false
noncomputable def ents : List DictEntry → List Nm → Bool
  | [], [] => true
  | e :: es, n :: ns => Value.isStrOf n.str e.key && Value.isInt 1 e.val && ents es ns
  | _, _ => false
noncomputable def dview (h : Heap) (g : Gn) (ns : List Nm) : Option (List Int) := match h.nsMap mainGlobals g.str with
  | some (.ref a) => match h.get? a with
    | some ⟨.type u, none, .dict es _, sl⟩ => match u == "dict" && sl.isEmpty && !(a == sysModules) && ents es.toList ns with | true => some (es.toList.map (·.hash)) | false => none
    | _ => none
  | _ => none
noncomputable def dwant (w : World) (ns : List Nm) : Option (List Int) := some (ns.map fun n => hashStr w n.str)
noncomputable def tellN : List Nm := [.const, .copy]
noncomputable def Kb (s : Shared) : Bool := look0 (fragH s.heap) && fnAll.all (fun f => keptV (fragH s.heap) (faA f)) && nmOk s.heap && rgOk s.heap && limOk s.heap && gOk s.heap && (s.heap.nsMap mainGlobals "law" == some (faA .law))
noncomputable abbrev Yt := Bool × List (Option (Arguments × List Stmt × Scope)) × Option (List Int) × Option (List Int)
noncomputable def Yf (s : Shared) : Yt := (Kb s, fdefs.map (fview (fragH s.heap)), dview s.heap .TELLING tellN, dview s.heap .SHAPED shaped)
noncomputable def Ya (w : World) : Yt := (true, (defsOf P.main.body).map some, dwant w tellN, dwant w shaped)
noncomputable abbrev R : OpenRow := PySem.Challenge.rw_nm0019_01.row
noncomputable def qv : Program := view P [49]
noncomputable def lo : List Str := P.boundNames.filter fun n => !(n == "law")
noncomputable def Xt (s : Shared) : Bool := xlAt qv [] s && recOk (RowW.records R.toRowW) s
noncomputable def topT (p : Program) (w : World) (n₀ : Nat) (ann : Option Value) : Nat → SharedT → Thread → Option SharedT
  | 0, _, _ => none
  | n + 1, s, t => match through t with
    | true => some s
    | false => match Fast.tw6613529449190102663 n₀ ann t with
      | false => none
      | true => match Fast.tw10156331382660048174 (Fast.tw11892475500146522536 Fast.tw14364793385576792824) p w s t with
        | some r => topT p w n₀ ann n r.1 r.2
        | none => none
theorem topT_of {p : Program} {w : World} {n₀ : Nat} {ann : Option Value} : ∀ {n : Nat} {s r : SharedT} {t : Thread}, topT p w n₀ ann n s t = some r → topRun treeTable p w n₀ ann n s.abs t = some r.abs
  | 0, _, _, _, h => nomatch h
  | n + 1, s, r, t, h => by
    unfold topT at h
    rw [← Fast.te6613529449190102663, ← Fast.te10156331382660048174, ← Fast.te11892475500146522536, ← Fast.te14364793385576792824] at h
    unfold topRun
    cases h1 : through t with
    | true => rw [h1] at h; rw [Option.some.inj h]
    | false =>
      rw [h1] at h
      cases h2 : stepOk n₀ ann t with
      | false => rw [h2] at h; cases h
      | true =>
        rw [h2] at h
        cases h3 : stepT (denote treeTable) p w s t with
        | none => rw [h3] at h; cases h
        | some x => rw [h3] at h; rw [stepT_spec h3]; exact topT_of h
noncomputable def treeOfL (l : List Obj) : BT := (l.foldl (fun (p : BT × Nat) o => (p.1.ins p.2 o, p.2 + 1)) (.nil, 0)).1
noncomputable def bootT (w : World) (os : OsState) : SharedT := ⟨treeOfL (boot_heap w.params).objs.toList, (boot_heap w.params).objs.size, (boot_heap w.params).life, #[], boot_drawn, boot_toks, os⟩
noncomputable abbrev mods : List Str := importedModules P.main.body
noncomputable def endOk (w : World) (s : Shared) : Bool := staticsOk mods (boot_heap w.params) s.heap && namesBound P s.heap && gensDone s && laidKept (boot_heap w.params) s.heap
noncomputable def looksT (w : World) (r : SharedT) := (endOk w r.abs, openSeen qv lo mods Xt true r.abs, Yf r.abs)
theorem run_f (w : World) (os : OsState) : (topT P (w.withFollow "special-get-raises" false) 11 (some (.ref 6)) 3000 (bootT w os) (topStub P)).map (looksT w) = some (true, openGood qv lo, Ya w) := by kernel_rfl
theorem run_t (w : World) (os : OsState) : (topT P (w.withFollow "special-get-raises" true) 11 (some (.ref 6)) 3000 (bootT w os) (topStub P)).map (looksT w) = some (true, openGood qv lo, Ya w) := by kernel_rfl
theorem run_any (w : World) (os : OsState) : (topT P w 11 (some (.ref 6)) 3000 (bootT w os) (topStub P)).map (looksT w) = some (true, openGood qv lo, Ya w) := by
  have e := World.withFollow_self w "special-get-raises"
  cases hb : w.params.followText "special-get-raises" with
  | false => have := run_f w os; rw [hb] at e; rw [e] at this; exact this
  | true => have := run_t w os; rw [hb] at e; rw [e] at this; exact this
theorem bootT_abs (w : World) (os : OsState) : (bootT w os).abs = ⟨boot_heap w.params, Array.mk [], boot_drawn, boot_toks, os⟩ := by kernel_rfl
theorem boot_size (w : World) : ((boot_heap w.params).isNs mainGlobals && (Array.mk [] : Array GenState).size == 0, (boot_heap w.params).objs.size, (boot_heap w.params).nsMap mainGlobals "__annotations__") = (true, 11, some (.ref 6)) := by kernel_rfl
theorem boot_at (w : World) : (fencedOpening treeTable P w 5970).map (fun s => (s.heap, s.gens, s.drawn, s.toks)) = some (boot_heap w.params, Array.mk [], boot_drawn, boot_toks) := boot_open (by kernel_rfl) rfl (fun _ => by kernel_rfl) w
theorem topFrom_of {tb : String → Option Builtin} {p : Program} {w : World} {N n : Nat} {a : Option Value} {s₀ s₁ : Shared} (z1 : (s₀.heap.isNs mainGlobals && s₀.gens.size == 0) = true) (z2 : s₀.heap.objs.size = n) (z3 : s₀.heap.nsMap mainGlobals "__annotations__" = a)
    (h : topRun tb p w n a N s₀ (topStub p) = some s₁) (l : (staticsOk (importedModules p.main.body) s₀.heap s₁.heap && namesBound p s₁.heap && gensDone s₁ && laidKept s₀.heap s₁.heap) = true) : topFrom tb p w N s₀ = some s₁ := by
  subst z2; subst z3
  unfold topFrom
  rw [z1]
  dsimp only
  rw [h, Option.bind_some, l]
theorem ends_of {tb : String → Option Builtin} {p : Program} {w : World} {N : Nat} {α : Type} {f : Shared → α} {s₀ s₁ : Shared} {y : α} (e : fencedOpening tb p w N = some s₀) (t : topFrom tb p w N s₀ = some s₁) (q : f s₁ = y) : (openEnds tb p w N).map f = some y := by
  unfold openEnds
  rw [e, Option.bind_some, t, Option.map_some, q]
theorem left : LeftO P qv lo Xt Yf Ya 5970 := fun w => by
  obtain ⟨⟨h, gs, d, k, os⟩, e, e'⟩ := Option.map_eq_some_iff.mp (boot_at w)
  obtain ⟨rfl, rfl, rfl, rfl⟩ : h = boot_heap w.params ∧ gs = Array.mk [] ∧ d = boot_drawn ∧ k = boot_toks := by simpa using e'
  obtain ⟨r, hr, hl⟩ := Option.map_eq_some_iff.mp (run_any w os)
  have h1 := topT_of hr
  rw [bootT_abs] at h1
  have z := boot_size w
  exact ends_of e (topFrom_of (congrArg (·.1) z) (congrArg (·.2.1) z) (congrArg (·.2.2) z) (topRun_mono 2970 _ _ _ _ h1) (congrArg (·.1) hl)) (congrArg (·.2) hl)
section
section
variable {K : Frag} {X : Cx} {F : Fz} {h : Heap}
set_option tactic.hygienic true in
set_option backward.match.sparseCases true in
set_option tactic.hygienic true in
theorem pickL_in {l : List Obj} {as : List Addr} {a : Addr} {o : Obj} (e : (pickL l as).lookup a = some o) : ∃ l1, l1 = l[a]? ∧ (match l1 with | some ⟨_, _, .freed, _⟩ => none | o => o) = some o := by
  refine ⟨_, rfl, ?_⟩
  induction as with
  | nil => exact nomatch e
  | cons b as ih =>
    unfold pickL at e
    split at e
    · exact ih e
    · rename_i x hx hb
      rw [List.lookup_cons] at e
      split at e
      · rename_i q
        rw [← Option.some.inj e, beq_iff_eq.mp q, hb]
        obtain ⟨c, d, dt, sl⟩ := x
        cases dt <;> first | rfl | exact absurd rfl (hx _ _ _)
      · exact ih e
    · exact ih e
theorem fragH_in (h : Heap) : (fragH h).In h := fun a o e => by
  obtain ⟨l1, rfl, q⟩ := pickL_in e
  unfold Heap.get?
  rw [← Array.getElem?_toList]; exact q
set_option tactic.hygienic true in
theorem fview_ok {f : Fn} {a : Arguments} {b : List Stmt} {s : Scope} (e : fview K f = some (a, b, s)) : ∃ ad o fd, faA f = .ref ad ∧ K.lookup ad = some o ∧ o.data = .func fd ∧ fd.body = .stmts b ∧ fdPlain K fd = true ∧ fd.params = a ∧ fd.scope = s := by
  unfold fview at e
  split at e
  · rename_i ad h1
    split at e
    · rename_i fd _ h2
      split at e
      · rename_i b' h3
        split at e
        · rename_i h4
          obtain ⟨rfl, rfl, rfl⟩ : fd.params = a ∧ b' = b ∧ fd.scope = s := by simpa using Option.some.inj e
          exact ⟨ad, _, fd, h1, h2, rfl, h3, h4, rfl, rfl⟩
        · exact nA e
      · exact nA e
    · exact nA e
  · exact nA e
theorem fd_of (fa : X.fa = faA) (hv : fdefs.map (fview X.K) = (defsOf P.main.body).map some) {f : Fn} {i : Nat} {ps nm : List Str} {ir : Ss} (hi : fdefs[i]? = some f) (D : Fit i ps nm ir) : Fd X f ps nm ir := by
  obtain ⟨a, b, s, e, hb, hs, hf⟩ := D.ex
  have q := congrArg (·[i]?) hv
  simp only [List.getElem?_map, hi, Option.map_some] at q
  rw [show (defsOf P.main.body)[i]? = some (a, b, s) from e] at q
  obtain ⟨ad, o, fd, h1, h2, h3, h4, h5, rfl, rfl⟩ := fview_ok (Option.some.inj q)
  simp only [fdPlain, Bool.and_eq_true, List.isEmpty_iff, beq_iff_eq] at h5
  obtain ⟨⟨⟨⟨⟨k1, k2⟩, k3⟩, k4⟩, k5⟩, k6⟩ := h5
  simp only [scOk, Bool.and_eq_true, beq_iff_eq, Bool.not_eq_true'] at hs
  obtain ⟨⟨⟨s1, s2⟩, s3⟩, s4⟩ := hs
  refine ⟨ad, o, fd, b, by rw [fa]; exact h1, h2, h3, k1, h4, k3, fun cs hl => ?_, k4, k5, s1, s2, s3, k2, s4, hf⟩
  have z := allV hb cs hl
  obtain ⟨nm', qn, pr, body, scope, gl, cl, dV, kV, doc, pm, an, cd, ct, bi⟩ := fd
  obtain rfl : dV = .none := k6
  exact z ..
theorem leafB_ok {c : Value} {v : V} (e : leafB c v = true) : RelV X F c v := by
  unfold leafB at e
  split at e
  · obtain ⟨t, rfl⟩ := Value.isInt_shape e; exact .int _ t
  · obtain ⟨t, rfl⟩ := Value.isStrOf_shape e; exact .str _ t
  · exact nD e
theorem all2_ok {f : Value → V → Bool} (hf : ∀ {c v}, f c v = true → RelV X F c v) {cs : List Value} : ∀ {vs : List V}, all2 f cs vs = true → RelVs X F cs vs := by
  induction cs with
  | nil => intro vs e; cases vs with | nil => exact .nil | cons _ _ => exact nD e
  | cons c cs ih =>
    intro vs e
    cases vs with
    | nil => exact nD e
    | cons v vs => have e := Bool.and_eq_true_iff.mp e; exact .cons (hf e.1) (ih e.2)
set_option tactic.hygienic true in
theorem seqAt_ok {t : String} {o : Option Obj} {cs : List Value} (e : seqAt t o = some cs) : ∃ n, o = some (seqObj t cs n) := by
  unfold seqAt at e
  split at e
  · rename_i u cs' n sl
    split at e
    · rename_i q
      rw [Bool.and_eq_true, beq_iff_eq] at q
      obtain ⟨rfl, q⟩ := q
      obtain rfl := Array.isEmpty_iff.mp q
      obtain rfl := Option.some.inj e
      exact ⟨n, rfl⟩
    · exact nA e
  · exact nA e
set_option tactic.hygienic true in
theorem tupB_ok {f : Value → V → Bool} (hf : ∀ {c v}, f c v = true → RelV X h.get? c v) {c : Value} {v : V} (e : tupB h f c v = true) : RelV X h.get? c v := by
  unfold tupB at e
  split at e
  · split at e
    · split at e
      · rename_i q
        obtain ⟨n, ho⟩ := seqAt_ok q
        exact .tup ho (all2_ok hf e)
      · exact nD e
    · exact nD e
  · exact nD e
theorem relB_ok {c : Value} {v : V} (e : relB h c v = true) : RelV X h.get? c v := by
  rw [relB, Bool.or_eq_true, Bool.or_eq_true] at e
  rcases e with (e | e) | e
  · exact leafB_ok e
  · exact tupB_ok leafB_ok e
  · exact tupB_ok (tupB_ok leafB_ok) e
theorem ents_ok {es : List DictEntry} : ∀ {ns : List Nm}, ents es ns = true → es.map (·.hash) = ns.map (fun n => hashStr X.w n.str) →
    ∃ kvs, Pairs (strKind X.prog X.w) es kvs ∧ RelS X F kvs (ns.map fun n => (n, .int 1)) ∧ kvs.map (·.1) = ns.map Nm.str ∧ ∀ e ∈ es, ∃ k, (strKind X.prog X.w).is k e.key = true ∧ e.hash = (strKind X.prog X.w).hash k := by
  induction es with
  | nil => intro ns e _; cases ns with | nil => exact ⟨[], .nil, .nil, rfl, fun ι q => nomatch q⟩ | cons _ _ => exact nD e
  | cons d es ih =>
    intro ns e q
    cases ns with
    | nil => exact nD e
    | cons n ns =>
      have e := Bool.and_eq_true_iff.mp e
      have e1 := Bool.and_eq_true_iff.mp e.1
      obtain ⟨q1, q2⟩ := List.cons.inj q
      obtain ⟨kvs, a1, a2, a3, a4⟩ := ih e.2 q2
      obtain ⟨u, hu⟩ := Value.isInt_shape e1.2
      exact ⟨(n.str, d.val) :: kvs, .cons e1.1 rfl a1, .cons (by rw [hu]; exact .int 1 u) a2, congrArg (n.str :: ·) a3, fun x hx => by
        rcases List.mem_cons.mp hx with rfl | hx
        · exact ⟨n.str, e1.1, q1⟩
        · exact a4 x hx⟩
set_option tactic.hygienic true in
theorem dview_ok {g : Gn} {ns : List Nm} (nd : (ns.map Nm.str).Nodup) (e : dview h g ns = dwant X.w ns) : ∃ c, h.nsMap mainGlobals g.str = some c ∧ RelV X h.get? c (.dS (ns.map fun n => (n, .int 1))) := by
  unfold dview dwant at e
  split at e
  · rename_i a ha
    split at e
    · rename_i u es k sl ho
      split at e
      · rename_i q
        rw [Bool.and_eq_true, Bool.and_eq_true, Bool.and_eq_true, beq_iff_eq, Bool.not_eq_true'] at q
        obtain ⟨⟨⟨rfl, q2⟩, q3⟩, q4⟩ := q
        obtain rfl := Array.isEmpty_iff.mp q2
        obtain ⟨kvs, b1, b2, b3, b4⟩ := ents_ok (F := h.get?) q4 (Option.some.inj e)
        exact ⟨_, ha, .dS ho q3 ⟨es, k, ⟨rfl, rfl, rfl⟩, rfl, fun x hx => b4 x (Array.mem_toList_iff.mpr hx), b1, by rw [b3]; exact nd⟩ b2⟩
      · exact nA e
    · exact nA e
  · exact nA e
end
noncomputable def XX (w : World) (s : Shared) : Cx := ⟨P, w, fragH s.heap, caA, faA⟩
section
variable {w : World} {s : Shared}
theorem kb_of (y : Yf s = Ya w) : Kb s = true := congrArg (·.1) y
theorem co_of (y : Yf s = Ya w) : CxOk (XX w s) := by
  have k := kb_of y
  simp only [Kb, Bool.and_eq_true] at k
  exact ⟨fun f ι => List.all_eq_true.mp k.1.1.1.1.1.2 f (fnAll_mem f), k.1.1.1.1.1.1, fun ι => rfl⟩
theorem law_at (y : Yf s = Ya w) : s.heap.nsMap mainGlobals "law" = some (.ref 371) := beq_iff_eq.mp (Bool.and_eq_true_iff.mp (kb_of y)).2
theorem isNs_of (y : Yf s = Ya w) : s.heap.isNs mainGlobals = true := by
  have k := kb_of y
  simp only [Kb, limOk, Bool.and_eq_true] at k
  exact k.1.1.2.1.1.1.1
set_option tactic.hygienic true in
theorem gb_of (y : Yf s = Ya w) : GB (XX w s) s.heap := by
  have k := kb_of y
  simp only [Kb, Bool.and_eq_true] at k
  obtain ⟨⟨⟨⟨⟨-, k1⟩, k2⟩, k3⟩, k4⟩, -⟩ := k
  simp only [limOk, rgOk, Bool.and_eq_true, beq_iff_eq] at k2 k3
  obtain ⟨⟨⟨⟨m1, m2⟩, m3⟩, m4⟩, m5⟩ := k3
  have gd : ∀ g ∈ gData, ∃ c, s.heap.nsMap mainGlobals g.str = some c ∧ RelV (XX w s) s.heap.get? c g.val := fun g hg => by
    have := List.all_eq_true.mp k4 g hg
    split at this
    · rename_i c hc; exact ⟨c, hc, relB_ok this⟩
    · exact nD this
  have fn := fun f => List.all_eq_true.mp k1 f (fnAll_mem f)
  refine ⟨fragH_in _, ⟨_, _, .of_isNs m1, .of_isNs m2, fun g => ?_, fun f hf => ?_, fun f hf => ?_, k2.1.1.1, k2.1.1.2, k2.1.2, k2.2⟩, ⟨_, .of_isNs m3, m4⟩, m5⟩
  · cases g with
    | TELLING => exact dview_ok (X := XX w s) (ns := tellN) (by decide +kernel) (congrArg (·.2.2.1) y)
    | SHAPED => exact dview_ok (X := XX w s) (ns := shaped) (by decide +kernel) (congrArg (·.2.2.2) y)
    | _ => exact gd _ (List.contains_iff_mem.mp rfl)
  · have := fn f
    rw [hf] at this
    exact beq_iff_eq.mp this
  · have := fn f
    rw [hf] at this
    have := Bool.and_eq_true_iff.mp this
    exact ⟨beq_iff_eq.mp this.1, beq_iff_eq.mp this.2⟩
end
end
set_option maxHeartbeats 4000000 in
theorem lib {X : Cx} (fa : X.fa = faA) (hv : fdefs.map (fview X.K) = (defsOf P.main.body).map some) (co : CxOk X) (bi : BiOk X) : Lib X := by
  refine { co := co, bi := bi,
           withNumber := fd_of fa hv (i := 0) rfl ⟨_, _, _, rfl, (fun ι ι ι ι ι ι ι ι ι ι ι ι ι ι ι => rfl), rfl, ?_⟩,
           num := fd_of fa hv (i := 1) rfl ⟨_, _, _, rfl, (fun ι ι ι ι ι ι ι ι ι ι ι ι ι ι => rfl), rfl, ?_⟩,
           stepInit := fd_of fa hv (i := 2) rfl ⟨_, _, _, rfl, (fun ι ι ι ι ι ι ι ι ι ι ι ι ι ι ι ι ι ι => rfl), rfl, ?_⟩,
           blockInit := fd_of fa hv (i := 3) rfl ⟨_, _, _, rfl, (fun ι ι ι ι ι ι ι ι ι ι ι ι ι ι ι => rfl), rfl, ?_⟩,
           funcInit := fd_of fa hv (i := 4) rfl ⟨_, _, _, rfl, (fun ι ι ι ι ι ι ι ι ι ι ι ι ι ι ι => rfl), rfl, ?_⟩,
           followers := fd_of fa hv (i := 5) rfl ⟨_, _, _, rfl, (fun ι ι ι ι ι ι ι ι ι ι ι ι ι ι => rfl), rfl, ?_⟩,
           lastingInit := fd_of fa hv (i := 6) rfl ⟨_, _, _, rfl, (fun ι ι ι ι ι ι ι ι ι ι ι ι ι ι ι ι => rfl), rfl, ?_⟩,
           areLasting := fd_of fa hv (i := 7) rfl ⟨_, _, _, rfl, (fun ι ι ι ι ι ι ι ι ι ι ι ι ι ι ι ι => rfl), rfl, ?_⟩,
           endOf := fd_of fa hv (i := 8) rfl ⟨_, _, _, rfl, (fun ι ι ι ι ι ι ι ι ι ι ι ι ι ι ι => rfl), rfl, ?_⟩,
           lastingOf := fd_of fa hv (i := 9) rfl ⟨_, _, _, rfl, (fun ι ι ι ι ι ι ι ι ι ι ι ι ι ι => rfl), rfl, ?_⟩,
           factsInit := fd_of fa hv (i := 10) rfl ⟨_, _, _, rfl, (fun ι ι ι ι ι ι ι ι ι ι ι ι ι ι ι => rfl), rfl, ?_⟩,
           holds := fd_of fa hv (i := 11) rfl ⟨_, _, _, rfl, (fun ι ι ι ι ι ι ι ι ι ι ι ι ι ι ι ι => rfl), rfl, ?_⟩,
           best := fd_of fa hv (i := 12) rfl ⟨_, _, _, rfl, (fun ι ι ι ι ι ι ι ι ι ι ι ι ι ι ι => rfl), rfl, ?_⟩,
           shape := fd_of fa hv (i := 13) rfl ⟨_, _, _, rfl, (fun ι ι ι ι ι ι ι ι ι ι ι ι ι ι ι => rfl), rfl, ?_⟩,
           learn := fd_of fa hv (i := 14) rfl ⟨_, _, _, rfl, (fun ι ι ι ι ι ι ι ι ι ι ι ι ι ι ι ι => rfl), rfl, ?_⟩,
           passStep := fd_of fa hv (i := 15) rfl ⟨_, _, _, rfl, (fun ι ι ι ι ι ι ι ι ι ι ι ι ι ι ι => rfl), rfl, ?_⟩,
           learnBranch := fd_of fa hv (i := 16) rfl ⟨_, _, _, rfl, (fun ι ι ι ι ι ι ι ι ι ι ι ι ι ι ι ι ι => rfl), rfl, ?_⟩,
           learnTable := fd_of fa hv (i := 17) rfl ⟨_, _, _, rfl, (fun ι ι ι ι ι ι ι ι ι ι ι ι ι ι ι ι => rfl), rfl, ?_⟩,
           factsAt := fd_of fa hv (i := 18) rfl ⟨_, _, _, rfl, (fun ι ι ι ι ι ι ι ι ι ι ι ι ι ι ι ι ι ι => rfl), rfl, ?_⟩,
           preds := fd_of fa hv (i := 19) rfl ⟨_, _, _, rfl, (fun ι ι ι ι ι ι ι ι ι ι ι ι ι ι => rfl), rfl, ?_⟩,
           postorder := fd_of fa hv (i := 20) rfl ⟨_, _, _, rfl, (fun ι ι ι ι ι ι ι ι ι ι ι ι ι ι => rfl), rfl, ?_⟩,
           order := fd_of fa hv (i := 21) rfl ⟨_, _, _, rfl, (fun ι ι ι ι ι ι ι ι ι ι ι ι ι ι => rfl), rfl, ?_⟩,
           draw := fd_of fa hv (i := 22) rfl ⟨_, _, _, rfl, (fun ι ι ι ι ι ι ι ι ι ι ι ι ι ι ι => rfl), rfl, ?_⟩,
           operand := fd_of fa hv (i := 23) rfl ⟨_, _, _, rfl, (fun ι ι ι ι ι ι ι ι ι ι ι ι ι ι ι => rfl), rfl, ?_⟩,
           made := fd_of fa hv (i := 24) rfl ⟨_, _, _, rfl, (fun ι ι ι ι ι ι ι ι ι ι ι ι ι ι ι ι => rfl), rfl, ?_⟩,
           acts := fd_of fa hv (i := 25) rfl ⟨_, _, _, rfl, (fun ι ι ι ι ι ι ι ι ι ι ι ι ι ι ι ι ι ι => rfl), rfl, ?_⟩,
           way := fd_of fa hv (i := 26) rfl ⟨_, _, _, rfl, (fun ι ι ι ι ι ι ι ι ι ι ι ι ι ι ι ι ι => rfl), rfl, ?_⟩,
           func := fd_of fa hv (i := 27) rfl ⟨_, _, _, rfl, (fun ι ι ι ι ι ι ι ι ι ι ι ι ι ι => rfl), rfl, ?_⟩,
           said := fd_of fa hv (i := 28) rfl ⟨_, _, _, rfl, (fun ι ι ι ι ι ι ι ι ι ι ι ι ι ι ι => rfl), rfl, ?_⟩,
           allSaid := fd_of fa hv (i := 29) rfl ⟨_, _, _, rfl, (fun ι ι ι ι ι ι ι ι ι ι ι ι ι ι => rfl), rfl, ?_⟩,
           signed := fd_of fa hv (i := 30) rfl ⟨_, _, _, rfl, (fun ι ι ι ι ι ι ι ι ι ι ι ι ι ι => rfl), rfl, ?_⟩,
           word := fd_of fa hv (i := 31) rfl ⟨_, _, _, rfl, (fun ι ι ι ι ι ι ι ι ι ι ι ι ι ι ι ι => rfl), rfl, ?_⟩,
           turned := fd_of fa hv (i := 32) rfl ⟨_, _, _, rfl, (fun ι ι ι ι ι ι ι ι ι ι ι ι ι ι ι => rfl), rfl, ?_⟩,
           worked := fd_of fa hv (i := 33) rfl ⟨_, _, _, rfl, (fun ι ι ι ι ι ι ι ι ι ι ι ι ι ι ι ι => rfl), rfl, ?_⟩,
           loaded := fd_of fa hv (i := 34) rfl ⟨_, _, _, rfl, (fun ι ι ι ι ι ι ι ι ι ι ι ι ι ι ι => rfl), rfl, ?_⟩,
           read := fd_of fa hv (i := 35) rfl ⟨_, _, _, rfl, (fun ι ι ι ι ι ι ι ι ι ι ι ι ι ι ι => rfl), rfl, ?_⟩,
           isSo := fd_of fa hv (i := 36) rfl ⟨_, _, _, rfl, (fun ι ι ι ι ι ι ι ι ι ι ι ι ι ι ι => rfl), rfl, ?_⟩,
           walk := fd_of fa hv (i := 37) rfl ⟨_, _, _, rfl, (fun ι ι ι ι ι ι ι ι ι ι ι ι ι ι ι ι => rfl), rfl, ?_⟩,
           shown := fd_of fa hv (i := 38) rfl ⟨_, _, _, rfl, (fun ι ι ι ι ι ι ι ι ι ι ι ι ι ι => rfl), rfl, ?_⟩,
           numbersKnown := fd_of fa hv (i := 39) rfl ⟨_, _, _, rfl, (fun ι ι ι ι ι ι ι ι ι ι ι ι ι ι ι => rfl), rfl, ?_⟩,
           law := fd_of fa hv (i := 40) rfl ⟨_, _, _, rfl, (fun ι ι ι ι ι ι ι ι ι ι ι ι ι ι => rfl), rfl, ?_⟩ }
  all_goals
    repeat' first
      | with_unfolding_all exact Eq.refl true
      | exact sss_nil
      | refine sss_frz ?_
      | refine sss_frzF ?_
      | refine sss_cons ?_ ?_
      | exact ses_nil
      | refine ses_cons ?_ ?_
      | exact se_none | exact se_bool | exact se_int
      | refine se_str ?_
      | refine se_var ?_
      | refine se_glob ?_
      | refine se_tup ?_
      | refine se_lst ?_
      | exact se_dict0
      | refine se_dict ?_ ?_
      | refine se_set1 ?_
      | refine se_neNil ?_
      | refine se_cmp (by exact rfl) (by exact rfl) ?_ ?_
      | refine se_bin (by exact rfl) ?_ ?_
      | refine se_cat ?_ ?_
      | refine se_neg ?_
      | refine se_not ?_
      | refine se_and ?_
      | refine se_or ?_
      | refine se_ite ?_ ?_ ?_
      | refine se_attr ?_ ?_
      | refine se_sub (by exact rfl) ?_ ?_
      | refine se_take ?_ ?_
      | refine se_rev ?_ ?_
      | refine se_call ?_ ?_
      | refine se_meth ?_ ?_ ?_
      | refine se_append ?_ ?_ ?_
      | refine se_pop ?_ ?_
      | refine se_dpop ?_ ?_ ?_
      | refine se_dget ?_ ?_ ?_ ?_
      | refine se_count ?_ ?_ ?_
      | refine se_index ?_ ?_ ?_
      | refine se_sadd ?_ ?_ ?_
      | refine se_fz ?_
      | refine se_comp0 ?_ ?_ ?_ ?_
      | refine se_comp1 ?_ ?_ ?_ ?_ ?_
      | refine ss_expr (by exact rfl) ?_
      | refine ss_asgC0 ?_ ?_ ?_ ?_ ?_
      | refine ss_asg ?_ ?_
      | refine ss_asgA ?_ ?_ ?_
      | refine ss_asgS (by exact rfl) ?_ ?_ ?_
      | refine ss_augA ?_ ?_ ?_
      | refine ss_augS (by exact rfl) ?_ ?_ ?_
      | refine ss_ite ?_ ?_ ?_
      | refine ss_while ?_ ?_
      | refine ss_ret ?_
      | exact ss_retN | exact ss_cont
      | refine ss_forSeq ?_ (by exact rfl) ?_ ?_
      | refine ss_forRange ?_ ?_ ?_ ?_
      | refine ss_forEnum ?_ ?_ ?_ ?_
      | refine ss_forItems ?_ ?_ ?_ ?_
      | refine FitTg.v ?_
      | refine FitTg.t ?_
      | exact FitNs.nil
      | refine FitNs.cons ?_ ?_
      | refine ss_asgT0 (by exact rfl) ?_ (by exact rfl) ?_
      | refine ss_asgT1 _ (by exact rfl) ?_ (by exact rfl) ?_ ?_
noncomputable def YP (w : World) (h : Heap) : Prop := ∃ s : Shared, Yf s = Ya w ∧ ∀ b o, s.heap.get? b = some o → h.get? b = some o
theorem ints_rel {X : Cx} {F : Fz} {Pp : Params} {h : Heap} {xs : List WData} : ∀ {vs : List Value}, WShape.hasItems [] xs .int = true → WellAll Pp h vs xs → ∃ ns : List Int, ns.length = xs.length ∧ RelVs X F vs (ns.map V.int) := by
  induction xs with
  | nil => intro vs _ L; cases L; exact ⟨[], rfl, .nil⟩
  | cons x xs ih =>
    intro vs hx L
    have hx : (WShape.has [] x .int && WShape.hasItems [] xs .int) = true := by simpa only [WShape.hasItems] using hx
    have hx := Bool.and_eq_true_iff.mp hx
    obtain ⟨i, rfl⟩ := hasW_int hx.1
    cases L with
    | cons a L =>
      obtain ⟨ns, e, r⟩ := ih hx.2 L
      cases a with
      | int i t => exact ⟨i :: ns, congrArg (· + 1) e, .cons (.int i t) r⟩
theorem pre_len {xs : List WData} (h : R.pre.holds [] { args := [.list xs] } = true) : xs.length ≤ 63 := by
  by_cases q : (63 : Int) < xs.length
  · have e : WTm.value [] R.pre { args := [.list xs] } = some (.bool false) := by
      show WTm.value [] (.and (.not (.lt (.lit (.int 63)) (.len (.arg 0)))) (.lit (.bool true))) { args := [.list xs] } = _
      simp [WTm.value, W.less?, Num.less?, q]
    rw [WTm.holds, e] at h
    exact nD h
  · lia
theorem walk : ∀ {d : DefRec} {kwd : List (Str × Expr)}, d.name = "law" → WalkO qv lo (XL qv []) YP R.toRowW d kwd fun f vs => PySem.call f vs := by
  intro d kwd hd w s₀ s₁ mg mb G y a o pm cd doc dV kV ho hdd hcd hD hmg hg args vals as hpre hlay hrd hwl hlo
  obtain ⟨s, ys, keep⟩ := y
  obtain ⟨hsh, hc⟩ := pre_splitW hpre
  obtain ⟨x, r, rfl, hx, hr⟩ := hasAllW_cons hsh
  obtain rfl := hasAllW_nil hr
  obtain ⟨xs, rfl, hx2⟩ := hasW_list hx
  have hlen := pre_len hc
  have gb := gb_of ys
  -- the list
  cases hwl with
  | cons hl hwl =>
  cases hwl
  cases hl with
  | @list ad vs xs hl hvs =>
  obtain ⟨ns, hn, hrel⟩ := ints_rel (X := XX w s) (F := s₁.heap.get?) hx2 hvs
  -- the law's address
  have hlaw : a = 371 := by
    obtain ⟨mg', mb', n1, n2, n3, n4, n5, n6⟩ := gb.names
    have e := G.T.g.agree (n1.keeps keep) "law"
    rw [n1.agree (.of_isNs (isNs_of ys)) "law", law_at ys, ← hd, hmg] at e
    exact Value.ref.inj (Option.some.inj e)
  subst hlaw
  have St0 : St (XX w s) s₁.heap.get? (fun ι => none) s₁.heap := ⟨.refl _, fun ι ι e => nA e⟩
  have Gd : Grd (XX w s) s₁.heap.get? := ⟨s.heap, gb, keep⟩
  have L := lib (X := XX w s) rfl (congrArg (·.2.1) ys) (co_of ys) ⟨rfl, rfl, rfl, rfl, rfl⟩
  have RR : Room (0 + 7) callerA := ⟨rfl, by decide +kernel, by decide +kernel⟩
  refine law_ok (n := 0) (σ := fun ι => none) (ns := ns) (Q := fun v ι => v = .bool true) L plain_law (by lia) (fun ι => rfl) callerA s₁.heap.get? s₁ [.ref ad] _ _ RR Gd St0 (.cons (.lst (n := 0) hl hrel) .nil) fun c v F' σ' s' rv q S' p sh => ?_
  subst q
  obtain rfl := iVb rv
  obtain ⟨h', tk, rfl⟩ := sh
  exact GoodW.toG ⟨.inl ⟨_, .bool true, [], rfl, fun ι => rfl, .bool true, by wrow_post, fun ι => ⟨.nil, fun ι q => nomatch q⟩⟩, fun b o e => p.keep b o e rfl id, rfl, hg⟩
noncomputable abbrev lw : OpenLaw := PySem.Challenge.rw_nm0019_01
theorem sd_names : namesResolve P = true := by kernel_rfl
theorem sd_road : noRoadLSs { strict := !(importedModules P.main.body).all cThrough.contains, foot := none, bare := (["vars", "dir", "locals"] : List Str).filter (readsOut P P.main.body) } P.main.body = true := by kernel_rfl
theorem sd_meet : (namesMeet P P.main.body fun _ n => attrL n) = true := by kernel_rfl
theorem sd_looks : looksOpen P = true := by
  refine look_both (look_both (look_both (look_both (look_both ?_ ?_) sd_names) ?_) sd_road) sd_meet <;> kernel_rfl
theorem sd_part : lw.row.partSaid = true := by
  refine look_both (look_both (look_both (look_both (look_both (look_both (look_both (look_both (look_both (look_both (look_both (look_both (look_both sd_looks ?_) ?_) ?_) ?_) ?_) ?_) ?_) ?_) ?_) ?_) ?_) ?_) ?_ <;> kernel_rfl
theorem sd_row : lw.row.wellSaid = true := by
  refine look_both (look_both sd_part ?_) ?_ <;> kernel_rfl
theorem sd_meet1 : namesMeet P lw.footing (fun sc n => (!(["type", "isinstance", "issubclass", "getattr", "hasattr"] : List Str).contains n || sc.names.lookup n == some .globalImplicit) &&
    (lw.may != some n || sc.kind == .module || sc.names.lookup n == some .globalImplicit)) = true := by kernel_rfl
theorem sd_meet2 : (namesMeet P lw.above (fun _ n => !lw.own.contains n)) = true := by kernel_rfl
theorem sd_meet3 : (namesMeet P lw.footing fun sc n => sc.kind == .module || sc.names.lookup n != some .globalExplicit) = true := by kernel_rfl
theorem sd_road2 : noRoadLSs { strict := true, foot := some lw.bound', writes := lw.writes, may := lw.may } lw.footing = true := by kernel_rfl
theorem sd_cls : noClassBlock P lw.footing = true := by kernel_rfl
theorem said : PySem.Challenge.rw_nm0019_01.wellSaid = true := by
  refine look_both (look_both (look_both (look_both (look_both (look_both (look_both (look_both (look_both (look_both (look_both (look_both (look_both (look_both (look_both (look_both (look_both (look_both sd_row ?_) ?_) sd_cls) ?_) ?_) sd_road2) ?_) ?_) ?_) ?_) ?_) ?_) sd_meet1) ?_) ?_) ?_) sd_meet2) sd_meet3 <;> kernel_rfl
theorem all_holds : PySem.Challenge.rw_nm0019_01.Holds := holds_law said fun k =>
  PySem.W.holds_open (q := qv) (loose := lo) (Xt := Xt) (XP := XL qv []) (Yf := Yf) (Ya := Ya) (YP := YP) (N := 5970) left (fun w s e => ⟨s, e, fun ι ι h => h⟩) (fun w h h' ⟨s, e, k⟩ k' => ⟨s, e, fun b o q => k' b o (k b o q)⟩)
    (fun s e => xl_of s (Bool.and_eq_true_iff.mp e).1) XL.keeps (by rfl) (by rfl) (by rfl) (fun s e => recFacts_of (Bool.and_eq_true_iff.mp e).2) (by rfl) k (by decide +kernel) ⟨rfl, rfl, rfl, rfl, rfl, by decide +kernel⟩ ⟨[.list []], by decide +kernel, by decide +kernel⟩ (walk rfl)
end Mine
theorem PySem.Challenge.cw_nm0019_01_holds : PySem.Challenge.rw_nm0019_01.Holds :=
  Mine.all_holds
